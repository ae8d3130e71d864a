/- Contracts and lemmas that the law's row leans on, joined by program (pack.py) out of the session's texts; no condition of its own. -/
import Derived.Test.YteigbokklclmbaaGreatDoorProg
import Derived.Below
import Derived.Deep.Draws
import Derived.Deep.AppendLies
import Derived.Maps.AppendAt
import Derived.OwnWalk
import Derived.Laws.BytesArg
import Derived.Laws.MakeOwn
import Derived.Laws.OwnMore
import Derived.Deep.OwnRows
import Derived.Tactics
import Derived.Lib.ConvBytes
import Derived.Laws.Slices
import Derived.WalkKit
import Derived.KernelRfl
import Derived.RowKit3
import Derived.Deep.LoopGhost
import Derived.Deep.QuietTactic
import Derived.BigQuiet
import Derived.WideLaws
import Derived.Deep.DeepCutAuto
import Derived.Deep.CutBlock
import Derived.Deep.RegionHeld3
import Derived.Laws.Rows
import Derived.Lib.AppendStr
import Derived.ArgAppend
import Derived.Laws.IdiomCopy
import Derived.OrdersHeld
import Derived.Laws.BitsLemmas
import Derived.RowKit
import Derived.Test.YteigbokklclmbaaGreatDoorRna
import Derived.Test.YteigbokklclmbaaGreatDoorRnb
import Derived.Test.YteigbokklclmbaaGreatDoorRnc
import Derived.Test.YteigbokklclmbaaGreatDoorRnd
section
namespace Go.Proofs.YteigbokklclmbaaGreatDoor.Z
open Go Go.RowKit Go.Proofs.YteigbokklclmbaaGreatDoor.Given Go.Proofs.YteigbokklclmbaaGreatDoorW.PrintWords Go.Proofs.YteigbokklclmbaaGreatDoorW.PrintLast Go.Proofs.YteigbokklclmbaaGreatDoorW.PrintMore
set_option linter.unusedVariables false
set_option linter.unusedSimpArgs false
def dotS : ByteArray := { data := #[46] }
def eS : ByteArray := { data := #[101] }
theorem nil_C (w : World) : Kd.C (Kd.int .u32) w none ([] : List Int).length [] := Kd.C_of_reads (enc := Value.int .u32) (d := (0 : Int)) (h1 := fun _ => rfl) ⟨rfl, by simp, fun h => absurd h (by simp)⟩
theorem parse1_n (k : Nat) (neg : Bool) (l : List Int) (A : Option Addr) (c : Nat) (exp behind m x r1 r2 : Int) (hd : real_decimal.f k l (wrap64 (exp - behind)) = some (m, x)) (hs : real_signed.f neg m x = some (r1, r2)) (b0 b1 b2 b3 : Nat) (w : World)
    (h0 : w.heap[b0]? = some (.cells #[.bool neg] 4 (0, 0))) (h1 : w.heap[b1]? = some (.cells #[.slice A l.length c] 87 (0, 0))) (h2 : w.heap[b2]? = some (.cells #[.int .i64 exp] 3 (0, 0))) (h3 : w.heap[b3]? = some (.cells #[.int .i64 behind] 3 (0, 0)))
    (hN : Nat32 w (.slice A l.length c) l) :
    Calls Tryz.prog 79 #[.pointer (some ⟨b0, 0, none⟩), .pointer (some ⟨b1, 0, none⟩), .pointer (some ⟨b2, 0, none⟩), .pointer (some ⟨b3, 0, none⟩)] w fun e w' => e = ending r1 r2 ∧ Below w.heap.size w w' := by
  obtain ⟨A', c', heq, hc, hC⟩ := hN
  cases heq
  exact parse1_c k neg l A c exp behind m x r1 r2 hd hs b0 b1 b2 b3 w h0 h1 h2 h3 hC hc
set_option maxRecDepth 100000 in
set_option maxHeartbeats 8000000 in
theorem parse_E1 (k : Nat) (s : ByteArray) (w : World) (hsz : (s.size : Int) > 60) :
    Calls Tryz.prog 25 #[.string s] w fun e w' => e = .returned (.tuple #[.agg #[.int .i64 0, .int .i64 0], .int .i64 7]) ∧ Below w.heap.size w w' := by
  have HB := Lib.hid (Below.refl w.heap.size w)
  go_enter Tryz.func25, Tryz.ntmps25
  go_wp2
  refine bodyPost_ret (results_ct rfl _ _ (w.heap.size) 23 #[.int .i64 0, .int .i64 0] (0, 0) _ rfl (new_at _ _ _ rfl) Tryz.underlying23 rfl (by kernel_rfl)) rfl ?_
  exact ⟨rfl, (HB.out).alloc oz _⟩
set_option maxRecDepth 100000 in
set_option maxHeartbeats 8000000 in
theorem parse_E2 (k : Nat) (s : ByteArray) (w : World) (hsz : ¬ (s.size : Int) > 60) (rest : ByteArray) (neg : Bool) (hc1 : strings_CutPrefix.f s minusS = some (rest, neg)) (n : List Int) (rest2 : ByteArray) (hn1 : real_number.f k rest [] = some (n, 0, rest2)) :
    Calls Tryz.prog 25 #[.string s] w fun e w' => e = .returned (.tuple #[.agg #[.int .i64 0, .int .i64 0], .int .i64 7]) ∧ Below w.heap.size w w' := by
  have HB := Lib.hid (Below.refl w.heap.size w)
  go_enter Tryz.func25, Tryz.ntmps25
  go_wp2_with fail
  refine (strings_CutPrefix.calls s minusS rest neg _ hc1).mono ?_
  rintro e w1 ⟨rfl, hd⟩
  have hb := hd.below
  have nZ := Lib.hid (blk_below (new_at _ _ (w.heap.size) oz) hb)
  have nB := Lib.hid (((HB.out).alloc oz _).trans (hb.mono oz))
  have hs1 := hb.size
  try simp only [World.size_alloc, World.size_setCell] at hs1
  clear HB
  have HZ := nZ
  have HB := nB
  clear nB nZ
  clear hb hd
  have cZ0 : w1.cell? ⟨w.heap.size, 0, none⟩ = some (Value.int .i64 0) := (blk_cell HZ.out 0).trans rfl
  have fZ0 := blk_frozen HZ.out 0
  have cZ1 : w1.cell? ⟨w.heap.size, 1, none⟩ = some (Value.int .i64 0) := (blk_cell HZ.out 1).trans rfl
  have fZ1 := blk_frozen HZ.out 1
  have lZ1 := blk_lt HZ.out
  go_wp2_with fail
  refine (number_c k rest none 0 [] n 0 rest2 _ (nil_C _) (Nat.zero_le _) hn1).mono ?_
  rintro e w2 ⟨⟨v, hv, rfl⟩, hb⟩
  have nZ := Lib.hid (blk_below (blk_alloc (HZ.out) _) hb)
  have nG := Lib.hid (blk_below (new_at _ _ (w1.heap.size) oz) hb)
  have nB := Lib.hid (((HB.out).alloc oz _).trans (hb.mono oz))
  have hs2 := hb.size
  try simp only [World.size_alloc, World.size_setCell] at hs2
  clear HB HZ
  try clear cZ0 fZ0 cZ1 fZ1
  have HZ := nZ
  have HG := nG
  have HB := nB
  clear nB nZ nG
  clear hb
  have cZ0 : w2.cell? ⟨w.heap.size, 0, none⟩ = some (Value.int .i64 0) := (blk_cell HZ.out 0).trans rfl
  have fZ0 := blk_frozen HZ.out 0
  have cZ1 : w2.cell? ⟨w.heap.size, 1, none⟩ = some (Value.int .i64 0) := (blk_cell HZ.out 1).trans rfl
  have fZ1 := blk_frozen HZ.out 1
  have lZ2 := blk_lt HZ.out
  have cG0 : w2.cell? ⟨w1.heap.size, 0, none⟩ = some (.bool neg) := (blk_cell HG.out 0).trans rfl
  have fG0 := blk_frozen HG.out 0
  have lG2 := blk_lt HG.out
  obtain ⟨A, c, rfl, hc, hC⟩ := hv
  have HN := Lib.hid (show Nat32 w2 (.slice A n.length c) n from ⟨A, c, rfl, hc, hC⟩)
  clear hC
  go_wp2
  have fz : (((w2.setCell ⟨w.heap.size, 0, none⟩ (.int .i64 0)).setCell ⟨w.heap.size, 1, none⟩ (.int .i64 0)).alloc (.cells #[.slice A n.length c] 87)).heap[w.heap.size]? = some (.cells #[Value.int .i64 0, Value.int .i64 0] 23 (0, 0)) := blk_alloc (heap_setCell_same _ _ 1 _ _ _ (heap_setCell_same _ _ 0 _ _ _ (HZ.out))) _
  refine bodyPost_ret (results_ct rfl _ _ (w.heap.size) 23 #[.int .i64 0, .int .i64 0] (0, 0) _ rfl fz Tryz.underlying23 rfl (by kernel_rfl)) rfl ?_
  exact ⟨rfl, (((HB.out).setCell (p := ⟨w.heap.size, 0, none⟩) (by simp only; omega) _).setCell (p := ⟨w.heap.size, 1, none⟩) (by simp only; omega) _).alloc oz _⟩
set_option maxRecDepth 100000 in
set_option maxHeartbeats 8000000 in
theorem parse_Z (k : Nat) (s : ByteArray) (w : World) (hsz : ¬ (s.size : Int) > 60) (rest : ByteArray) (neg : Bool) (hc1 : strings_CutPrefix.f s minusS = some (rest, neg)) (n : List Int) (many : Int) (rest2 : ByteArray) (hn1 : real_number.f k rest [] = some (n, many, rest2)) (hmany : ¬ many = 0) (after : ByteArray) (hc2 : strings_CutPrefix.f rest2 dotS = some (after, false)) (hrest : rest2.toList = []) (m y r1 r2 t0 t1 t2 : Int) (hd1 : real_decimal.f k n (wrap64 (0 - 0)) = some (m, y)) (hsg : real_signed.f neg m y = some (r1, r2)) (ht : caughtS r1 r2 = (t0, t1, t2)) :
    Calls Tryz.prog 25 #[.string s] w fun e w' => e = .returned (.tuple #[.agg #[.int .i64 t0, .int .i64 t1], .int .i64 t2]) ∧ Below w.heap.size w w' := by
  have HB := Lib.hid (Below.refl w.heap.size w)
  go_enter Tryz.func25, Tryz.ntmps25
  go_wp2_with fail
  refine (strings_CutPrefix.calls s minusS rest neg _ hc1).mono ?_
  rintro e w1 ⟨rfl, hd⟩
  have hb := hd.below
  have nZ := Lib.hid (blk_below (new_at _ _ (w.heap.size) oz) hb)
  have nB := Lib.hid (((HB.out).alloc oz _).trans (hb.mono oz))
  have hs1 := hb.size
  try simp only [World.size_alloc, World.size_setCell] at hs1
  clear HB
  have HZ := nZ
  have HB := nB
  clear nB nZ
  clear hb hd
  have cZ0 : w1.cell? ⟨w.heap.size, 0, none⟩ = some (Value.int .i64 0) := (blk_cell HZ.out 0).trans rfl
  have fZ0 := blk_frozen HZ.out 0
  have cZ1 : w1.cell? ⟨w.heap.size, 1, none⟩ = some (Value.int .i64 0) := (blk_cell HZ.out 1).trans rfl
  have fZ1 := blk_frozen HZ.out 1
  have lZ1 := blk_lt HZ.out
  go_wp2_with fail
  refine (number_c k rest none 0 [] n many rest2 _ (nil_C _) (Nat.zero_le _) hn1).mono ?_
  rintro e w2 ⟨⟨v, hv, rfl⟩, hb⟩
  have nZ := Lib.hid (blk_below (blk_alloc (HZ.out) _) hb)
  have nG := Lib.hid (blk_below (new_at _ _ (w1.heap.size) oz) hb)
  have nB := Lib.hid (((HB.out).alloc oz _).trans (hb.mono oz))
  have hs2 := hb.size
  try simp only [World.size_alloc, World.size_setCell] at hs2
  clear HB HZ
  try clear cZ0 fZ0 cZ1 fZ1
  have HZ := nZ
  have HG := nG
  have HB := nB
  clear nB nZ nG
  clear hb
  have cZ0 : w2.cell? ⟨w.heap.size, 0, none⟩ = some (Value.int .i64 0) := (blk_cell HZ.out 0).trans rfl
  have fZ0 := blk_frozen HZ.out 0
  have cZ1 : w2.cell? ⟨w.heap.size, 1, none⟩ = some (Value.int .i64 0) := (blk_cell HZ.out 1).trans rfl
  have fZ1 := blk_frozen HZ.out 1
  have lZ2 := blk_lt HZ.out
  have cG0 : w2.cell? ⟨w1.heap.size, 0, none⟩ = some (.bool neg) := (blk_cell HG.out 0).trans rfl
  have fG0 := blk_frozen HG.out 0
  have lG2 := blk_lt HG.out
  obtain ⟨A, c, rfl, hc, hC⟩ := hv
  have HN := Lib.hid (show Nat32 w2 (.slice A n.length c) n from ⟨A, c, rfl, hc, hC⟩)
  clear hC
  go_wp2_with fail
  refine (strings_CutPrefix.calls rest2 dotS after false _ hc2).mono ?_
  rintro e w3 ⟨rfl, hd⟩
  have hb := hd.below
  have nZ := Lib.hid (blk_below (blk_alloc (blk_alloc (HZ.out) _) _) hb)
  have nG := Lib.hid (blk_below (blk_alloc (blk_alloc (HG.out) _) _) hb)
  have nQ := Lib.hid (blk_below (blk_alloc (new_at _ _ (w2.heap.size) oz) _) hb)
  have nE := Lib.hid (blk_below (new_at _ _ (w2.heap.size + 1) oz) hb)
  have nN := Lib.hid ((((HN.out).below ((Below.refl _ _).alloc (Nat.le_refl _) _)).below ((Below.refl _ _).alloc (Nat.le_refl _) _)).below hb)
  have nB := Lib.hid ((((HB.out).alloc oz _).alloc oz _).trans (hb.mono oz))
  have hs3 := hb.size
  try simp only [World.size_alloc, World.size_setCell] at hs3
  clear HB HZ HG HN
  try clear cZ0 fZ0 cZ1 fZ1 cG0 fG0
  have HZ := nZ
  have HG := nG
  have HQ := nQ
  have HE := nE
  have HN := nN
  have HB := nB
  clear nB nZ nG nQ nE nN
  clear hb hd
  have cZ0 : w3.cell? ⟨w.heap.size, 0, none⟩ = some (Value.int .i64 0) := (blk_cell HZ.out 0).trans rfl
  have fZ0 := blk_frozen HZ.out 0
  have cZ1 : w3.cell? ⟨w.heap.size, 1, none⟩ = some (Value.int .i64 0) := (blk_cell HZ.out 1).trans rfl
  have fZ1 := blk_frozen HZ.out 1
  have lZ3 := blk_lt HZ.out
  have cG0 : w3.cell? ⟨w1.heap.size, 0, none⟩ = some (.bool neg) := (blk_cell HG.out 0).trans rfl
  have fG0 := blk_frozen HG.out 0
  have lG3 := blk_lt HG.out
  have cQ0 : w3.cell? ⟨w2.heap.size, 0, none⟩ = some (.slice A n.length c) := (blk_cell HQ.out 0).trans rfl
  have fQ0 := blk_frozen HQ.out 0
  have lQ3 := blk_lt HQ.out
  have cE0 : w3.cell? ⟨w2.heap.size + 1, 0, none⟩ = some (.int .i64 0) := (blk_cell HE.out 0).trans rfl
  have fE0 := blk_frozen HE.out 0
  have lE3 := blk_lt HE.out
  have hre : (rest2.toList == []) = true := by simp [hrest]
  have hri : rest2.toList.isEmpty = true := by simp [hrest]
  have hmf : ∀ (fn : Fn) (first cap : Array Value) (w : World), (Instr.makeFunc fn first cap).run Tryz.prog w = .ok (.func fn first cap) w := fun _ _ _ _ => rfl
  have HD1 := Lib.hid hd1
  have HS1 := Lib.hid hsg
  have HT1 := Lib.hid ht
  clear hd1 hsg ht
  skip
  go_wp2_with fail
  refine (caught_t 79 _ r1 r2 t0 t1 t2 HT1.out _ (fun args w => enters_ Tryz.func79 (by kernel_rfl) rfl args w) (fun w' h' => parse1_n k neg n A c 0 0 m y r1 r2 HD1.out HS1.out _ _ _ _ w' (blk_below (blk_alloc (HG.out) _) h') (blk_below (blk_alloc (HQ.out) _) h') (blk_below (new_at _ _ (w3.heap.size) oz) h') (blk_below (blk_alloc (HE.out) _) h') (((HN.out).below ((Below.refl _ _).alloc (Nat.le_refl _) _)).below h'))).mono ?_
  rintro e w4 ⟨rfl, hb⟩
  have nZ := Lib.hid (blk_below (blk_alloc (HZ.out) _) hb)
  have nG := Lib.hid (blk_below (blk_alloc (HG.out) _) hb)
  have nQ := Lib.hid (blk_below (blk_alloc (HQ.out) _) hb)
  have nE := Lib.hid (blk_below (blk_alloc (HE.out) _) hb)
  have nX := Lib.hid (blk_below (new_at _ _ (w3.heap.size) oz) hb)
  have nN := Lib.hid (((HN.out).below ((Below.refl _ _).alloc (Nat.le_refl _) _)).below hb)
  have nB := Lib.hid (((HB.out).alloc oz _).trans (hb.mono oz))
  have hs4 := hb.size
  try simp only [World.size_alloc, World.size_setCell] at hs4
  clear HB HZ HG HQ HE HN
  try clear cZ0 fZ0 cZ1 fZ1 cG0 fG0 cQ0 fQ0 cE0 fE0
  have HZ := nZ
  have HG := nG
  have HQ := nQ
  have HE := nE
  have HX := nX
  have HN := nN
  have HB := nB
  clear nB nZ nG nQ nE nX nN
  clear hb
  have cZ0 : w4.cell? ⟨w.heap.size, 0, none⟩ = some (Value.int .i64 0) := (blk_cell HZ.out 0).trans rfl
  have fZ0 := blk_frozen HZ.out 0
  have cZ1 : w4.cell? ⟨w.heap.size, 1, none⟩ = some (Value.int .i64 0) := (blk_cell HZ.out 1).trans rfl
  have fZ1 := blk_frozen HZ.out 1
  have lZ4 := blk_lt HZ.out
  have cG0 : w4.cell? ⟨w1.heap.size, 0, none⟩ = some (.bool neg) := (blk_cell HG.out 0).trans rfl
  have fG0 := blk_frozen HG.out 0
  have lG4 := blk_lt HG.out
  have cQ0 : w4.cell? ⟨w2.heap.size, 0, none⟩ = some (.slice A n.length c) := (blk_cell HQ.out 0).trans rfl
  have fQ0 := blk_frozen HQ.out 0
  have lQ4 := blk_lt HQ.out
  have cE0 : w4.cell? ⟨w2.heap.size + 1, 0, none⟩ = some (.int .i64 0) := (blk_cell HE.out 0).trans rfl
  have fE0 := blk_frozen HE.out 0
  have lE4 := blk_lt HE.out
  have cX0 : w4.cell? ⟨w3.heap.size, 0, none⟩ = some (.int .i64 0) := (blk_cell HX.out 0).trans rfl
  have fX0 := blk_frozen HX.out 0
  have lX4 := blk_lt HX.out
  go_wp2
  have fz : ((w4.setCell ⟨w.heap.size, 0, none⟩ (.int .i64 t0)).setCell ⟨w.heap.size, 1, none⟩ (.int .i64 t1)).heap[w.heap.size]? = some (.cells #[Value.int .i64 t0, Value.int .i64 t1] 23 (0, 0)) := heap_setCell_same _ _ 1 _ _ _ (heap_setCell_same _ _ 0 _ _ _ (HZ.out))
  refine bodyPost_ret (results_ct rfl _ _ (w.heap.size) 23 #[.int .i64 t0, .int .i64 t1] (0, 0) _ rfl fz Tryz.underlying23 rfl (by kernel_rfl)) rfl ?_
  exact ⟨rfl, ((HB.out).setCell (p := ⟨w.heap.size, 0, none⟩) (by simp only; omega) _).setCell (p := ⟨w.heap.size, 1, none⟩) (by simp only; omega) _⟩
set_option maxRecDepth 100000 in
set_option maxHeartbeats 8000000 in
theorem parse_B (k : Nat) (s : ByteArray) (w : World) (hsz : ¬ (s.size : Int) > 60) (rest : ByteArray) (neg : Bool) (hc1 : strings_CutPrefix.f s minusS = some (rest, neg)) (n : List Int) (many : Int) (rest2 : ByteArray) (hn1 : real_number.f k rest [] = some (n, many, rest2)) (hmany : ¬ many = 0) (after : ByteArray) (hc2 : strings_CutPrefix.f rest2 dotS = some (after, false)) (hrest : rest2.toList ≠ []) (aft : ByteArray) (x : Int) (ok : Bool) (hc3 : strings_CutPrefix.f rest2 eS = some (aft, false)) (hx : real_exponent.f aft = some (x, ok)) :
    Calls Tryz.prog 25 #[.string s] w fun e w' => e = .returned (.tuple #[.agg #[.int .i64 0, .int .i64 0], .int .i64 7]) ∧ Below w.heap.size w w' := by
  have HB := Lib.hid (Below.refl w.heap.size w)
  go_enter Tryz.func25, Tryz.ntmps25
  go_wp2_with fail
  refine (strings_CutPrefix.calls s minusS rest neg _ hc1).mono ?_
  rintro e w1 ⟨rfl, hd⟩
  have hb := hd.below
  have nZ := Lib.hid (blk_below (new_at _ _ (w.heap.size) oz) hb)
  have nB := Lib.hid (((HB.out).alloc oz _).trans (hb.mono oz))
  have hs1 := hb.size
  try simp only [World.size_alloc, World.size_setCell] at hs1
  clear HB
  have HZ := nZ
  have HB := nB
  clear nB nZ
  clear hb hd
  have cZ0 : w1.cell? ⟨w.heap.size, 0, none⟩ = some (Value.int .i64 0) := (blk_cell HZ.out 0).trans rfl
  have fZ0 := blk_frozen HZ.out 0
  have cZ1 : w1.cell? ⟨w.heap.size, 1, none⟩ = some (Value.int .i64 0) := (blk_cell HZ.out 1).trans rfl
  have fZ1 := blk_frozen HZ.out 1
  have lZ1 := blk_lt HZ.out
  go_wp2_with fail
  refine (number_c k rest none 0 [] n many rest2 _ (nil_C _) (Nat.zero_le _) hn1).mono ?_
  rintro e w2 ⟨⟨v, hv, rfl⟩, hb⟩
  have nZ := Lib.hid (blk_below (blk_alloc (HZ.out) _) hb)
  have nG := Lib.hid (blk_below (new_at _ _ (w1.heap.size) oz) hb)
  have nB := Lib.hid (((HB.out).alloc oz _).trans (hb.mono oz))
  have hs2 := hb.size
  try simp only [World.size_alloc, World.size_setCell] at hs2
  clear HB HZ
  try clear cZ0 fZ0 cZ1 fZ1
  have HZ := nZ
  have HG := nG
  have HB := nB
  clear nB nZ nG
  clear hb
  have cZ0 : w2.cell? ⟨w.heap.size, 0, none⟩ = some (Value.int .i64 0) := (blk_cell HZ.out 0).trans rfl
  have fZ0 := blk_frozen HZ.out 0
  have cZ1 : w2.cell? ⟨w.heap.size, 1, none⟩ = some (Value.int .i64 0) := (blk_cell HZ.out 1).trans rfl
  have fZ1 := blk_frozen HZ.out 1
  have lZ2 := blk_lt HZ.out
  have cG0 : w2.cell? ⟨w1.heap.size, 0, none⟩ = some (.bool neg) := (blk_cell HG.out 0).trans rfl
  have fG0 := blk_frozen HG.out 0
  have lG2 := blk_lt HG.out
  obtain ⟨A, c, rfl, hc, hC⟩ := hv
  have HN := Lib.hid (show Nat32 w2 (.slice A n.length c) n from ⟨A, c, rfl, hc, hC⟩)
  clear hC
  go_wp2_with fail
  refine (strings_CutPrefix.calls rest2 dotS after false _ hc2).mono ?_
  rintro e w3 ⟨rfl, hd⟩
  have hb := hd.below
  have nZ := Lib.hid (blk_below (blk_alloc (blk_alloc (HZ.out) _) _) hb)
  have nG := Lib.hid (blk_below (blk_alloc (blk_alloc (HG.out) _) _) hb)
  have nQ := Lib.hid (blk_below (blk_alloc (new_at _ _ (w2.heap.size) oz) _) hb)
  have nE := Lib.hid (blk_below (new_at _ _ (w2.heap.size + 1) oz) hb)
  have nN := Lib.hid ((((HN.out).below ((Below.refl _ _).alloc (Nat.le_refl _) _)).below ((Below.refl _ _).alloc (Nat.le_refl _) _)).below hb)
  have nB := Lib.hid ((((HB.out).alloc oz _).alloc oz _).trans (hb.mono oz))
  have hs3 := hb.size
  try simp only [World.size_alloc, World.size_setCell] at hs3
  clear HB HZ HG HN
  try clear cZ0 fZ0 cZ1 fZ1 cG0 fG0
  have HZ := nZ
  have HG := nG
  have HQ := nQ
  have HE := nE
  have HN := nN
  have HB := nB
  clear nB nZ nG nQ nE nN
  clear hb hd
  have cZ0 : w3.cell? ⟨w.heap.size, 0, none⟩ = some (Value.int .i64 0) := (blk_cell HZ.out 0).trans rfl
  have fZ0 := blk_frozen HZ.out 0
  have cZ1 : w3.cell? ⟨w.heap.size, 1, none⟩ = some (Value.int .i64 0) := (blk_cell HZ.out 1).trans rfl
  have fZ1 := blk_frozen HZ.out 1
  have lZ3 := blk_lt HZ.out
  have cG0 : w3.cell? ⟨w1.heap.size, 0, none⟩ = some (.bool neg) := (blk_cell HG.out 0).trans rfl
  have fG0 := blk_frozen HG.out 0
  have lG3 := blk_lt HG.out
  have cQ0 : w3.cell? ⟨w2.heap.size, 0, none⟩ = some (.slice A n.length c) := (blk_cell HQ.out 0).trans rfl
  have fQ0 := blk_frozen HQ.out 0
  have lQ3 := blk_lt HQ.out
  have cE0 : w3.cell? ⟨w2.heap.size + 1, 0, none⟩ = some (.int .i64 0) := (blk_cell HE.out 0).trans rfl
  have fE0 := blk_frozen HE.out 0
  have lE3 := blk_lt HE.out
  have hre : (rest2.toList == []) = false := by simpa using hrest
  have hri : rest2.toList.isEmpty = false := by simpa using hrest
  go_wp2_with fail
  refine (strings_CutPrefix.calls rest2 eS aft false _ hc3).mono ?_
  rintro e w4 ⟨rfl, hd⟩
  have hb := hd.below
  have nZ := Lib.hid (blk_below (blk_alloc (HZ.out) _) hb)
  have nG := Lib.hid (blk_below (blk_alloc (HG.out) _) hb)
  have nQ := Lib.hid (blk_below (blk_alloc (HQ.out) _) hb)
  have nE := Lib.hid (blk_below (blk_alloc (HE.out) _) hb)
  have nX := Lib.hid (blk_below (new_at _ _ (w3.heap.size) oz) hb)
  have nN := Lib.hid (((HN.out).below ((Below.refl _ _).alloc (Nat.le_refl _) _)).below hb)
  have nB := Lib.hid (((HB.out).alloc oz _).trans (hb.mono oz))
  have hs4 := hb.size
  try simp only [World.size_alloc, World.size_setCell] at hs4
  clear HB HZ HG HQ HE HN
  try clear cZ0 fZ0 cZ1 fZ1 cG0 fG0 cQ0 fQ0 cE0 fE0
  have HZ := nZ
  have HG := nG
  have HQ := nQ
  have HE := nE
  have HX := nX
  have HN := nN
  have HB := nB
  clear nB nZ nG nQ nE nX nN
  clear hb hd
  have cZ0 : w4.cell? ⟨w.heap.size, 0, none⟩ = some (Value.int .i64 0) := (blk_cell HZ.out 0).trans rfl
  have fZ0 := blk_frozen HZ.out 0
  have cZ1 : w4.cell? ⟨w.heap.size, 1, none⟩ = some (Value.int .i64 0) := (blk_cell HZ.out 1).trans rfl
  have fZ1 := blk_frozen HZ.out 1
  have lZ4 := blk_lt HZ.out
  have cG0 : w4.cell? ⟨w1.heap.size, 0, none⟩ = some (.bool neg) := (blk_cell HG.out 0).trans rfl
  have fG0 := blk_frozen HG.out 0
  have lG4 := blk_lt HG.out
  have cQ0 : w4.cell? ⟨w2.heap.size, 0, none⟩ = some (.slice A n.length c) := (blk_cell HQ.out 0).trans rfl
  have fQ0 := blk_frozen HQ.out 0
  have lQ4 := blk_lt HQ.out
  have cE0 : w4.cell? ⟨w2.heap.size + 1, 0, none⟩ = some (.int .i64 0) := (blk_cell HE.out 0).trans rfl
  have fE0 := blk_frozen HE.out 0
  have lE4 := blk_lt HE.out
  have cX0 : w4.cell? ⟨w3.heap.size, 0, none⟩ = some (.int .i64 0) := (blk_cell HX.out 0).trans rfl
  have fX0 := blk_frozen HX.out 0
  have lX4 := blk_lt HX.out
  go_wp2_with fail
  refine (real_exponent.calls aft x ok _ hx).mono ?_
  rintro e w5 ⟨rfl, hb⟩
  have nZ := Lib.hid (blk_below (HZ.out) hb)
  have nG := Lib.hid (blk_below (HG.out) hb)
  have nQ := Lib.hid (blk_below (HQ.out) hb)
  have nE := Lib.hid (blk_below (HE.out) hb)
  have nX := Lib.hid (blk_below (HX.out) hb)
  have nN := Lib.hid ((HN.out).below hb)
  have nB := Lib.hid ((HB.out).trans (hb.mono oz))
  have hs5 := hb.size
  try simp only [World.size_alloc, World.size_setCell] at hs5
  clear HB HZ HG HQ HE HX HN
  try clear cZ0 fZ0 cZ1 fZ1 cG0 fG0 cQ0 fQ0 cE0 fE0 cX0 fX0
  have HZ := nZ
  have HG := nG
  have HQ := nQ
  have HE := nE
  have HX := nX
  have HN := nN
  have HB := nB
  clear nB nZ nG nQ nE nX nN
  clear hb
  have cZ0 : w5.cell? ⟨w.heap.size, 0, none⟩ = some (Value.int .i64 0) := (blk_cell HZ.out 0).trans rfl
  have fZ0 := blk_frozen HZ.out 0
  have cZ1 : w5.cell? ⟨w.heap.size, 1, none⟩ = some (Value.int .i64 0) := (blk_cell HZ.out 1).trans rfl
  have fZ1 := blk_frozen HZ.out 1
  have lZ5 := blk_lt HZ.out
  have cG0 : w5.cell? ⟨w1.heap.size, 0, none⟩ = some (.bool neg) := (blk_cell HG.out 0).trans rfl
  have fG0 := blk_frozen HG.out 0
  have lG5 := blk_lt HG.out
  have cQ0 : w5.cell? ⟨w2.heap.size, 0, none⟩ = some (.slice A n.length c) := (blk_cell HQ.out 0).trans rfl
  have fQ0 := blk_frozen HQ.out 0
  have lQ5 := blk_lt HQ.out
  have cE0 : w5.cell? ⟨w2.heap.size + 1, 0, none⟩ = some (.int .i64 0) := (blk_cell HE.out 0).trans rfl
  have fE0 := blk_frozen HE.out 0
  have lE5 := blk_lt HE.out
  have cX0 : w5.cell? ⟨w3.heap.size, 0, none⟩ = some (.int .i64 0) := (blk_cell HX.out 0).trans rfl
  have fX0 := blk_frozen HX.out 0
  have lX5 := blk_lt HX.out
  go_wp2
  have fz : ((w5.setCell ⟨w.heap.size, 0, none⟩ (.int .i64 0)).setCell ⟨w.heap.size, 1, none⟩ (.int .i64 0)).heap[w.heap.size]? = some (.cells #[Value.int .i64 0, Value.int .i64 0] 23 (0, 0)) := heap_setCell_same _ _ 1 _ _ _ (heap_setCell_same _ _ 0 _ _ _ (HZ.out))
  refine bodyPost_ret (results_ct rfl _ _ (w.heap.size) 23 #[.int .i64 0, .int .i64 0] (0, 0) _ rfl fz Tryz.underlying23 rfl (by kernel_rfl)) rfl ?_
  exact ⟨rfl, ((HB.out).setCell (p := ⟨w.heap.size, 0, none⟩) (by simp only; omega) _).setCell (p := ⟨w.heap.size, 1, none⟩) (by simp only; omega) _⟩
set_option maxRecDepth 100000 in
set_option maxHeartbeats 8000000 in
theorem parse_C (k : Nat) (s : ByteArray) (w : World) (hsz : ¬ (s.size : Int) > 60) (rest : ByteArray) (neg : Bool) (hc1 : strings_CutPrefix.f s minusS = some (rest, neg)) (n : List Int) (many : Int) (rest2 : ByteArray) (hn1 : real_number.f k rest [] = some (n, many, rest2)) (hmany : ¬ many = 0) (after : ByteArray) (hc2 : strings_CutPrefix.f rest2 dotS = some (after, false)) (hrest : rest2.toList ≠ []) (aft : ByteArray) (x : Int) (hc3 : strings_CutPrefix.f rest2 eS = some (aft, true)) (hx : real_exponent.f aft = some (x, false)) :
    Calls Tryz.prog 25 #[.string s] w fun e w' => e = .returned (.tuple #[.agg #[.int .i64 0, .int .i64 0], .int .i64 7]) ∧ Below w.heap.size w w' := by
  have HB := Lib.hid (Below.refl w.heap.size w)
  go_enter Tryz.func25, Tryz.ntmps25
  go_wp2_with fail
  refine (strings_CutPrefix.calls s minusS rest neg _ hc1).mono ?_
  rintro e w1 ⟨rfl, hd⟩
  have hb := hd.below
  have nZ := Lib.hid (blk_below (new_at _ _ (w.heap.size) oz) hb)
  have nB := Lib.hid (((HB.out).alloc oz _).trans (hb.mono oz))
  have hs1 := hb.size
  try simp only [World.size_alloc, World.size_setCell] at hs1
  clear HB
  have HZ := nZ
  have HB := nB
  clear nB nZ
  clear hb hd
  have cZ0 : w1.cell? ⟨w.heap.size, 0, none⟩ = some (Value.int .i64 0) := (blk_cell HZ.out 0).trans rfl
  have fZ0 := blk_frozen HZ.out 0
  have cZ1 : w1.cell? ⟨w.heap.size, 1, none⟩ = some (Value.int .i64 0) := (blk_cell HZ.out 1).trans rfl
  have fZ1 := blk_frozen HZ.out 1
  have lZ1 := blk_lt HZ.out
  go_wp2_with fail
  refine (number_c k rest none 0 [] n many rest2 _ (nil_C _) (Nat.zero_le _) hn1).mono ?_
  rintro e w2 ⟨⟨v, hv, rfl⟩, hb⟩
  have nZ := Lib.hid (blk_below (blk_alloc (HZ.out) _) hb)
  have nG := Lib.hid (blk_below (new_at _ _ (w1.heap.size) oz) hb)
  have nB := Lib.hid (((HB.out).alloc oz _).trans (hb.mono oz))
  have hs2 := hb.size
  try simp only [World.size_alloc, World.size_setCell] at hs2
  clear HB HZ
  try clear cZ0 fZ0 cZ1 fZ1
  have HZ := nZ
  have HG := nG
  have HB := nB
  clear nB nZ nG
  clear hb
  have cZ0 : w2.cell? ⟨w.heap.size, 0, none⟩ = some (Value.int .i64 0) := (blk_cell HZ.out 0).trans rfl
  have fZ0 := blk_frozen HZ.out 0
  have cZ1 : w2.cell? ⟨w.heap.size, 1, none⟩ = some (Value.int .i64 0) := (blk_cell HZ.out 1).trans rfl
  have fZ1 := blk_frozen HZ.out 1
  have lZ2 := blk_lt HZ.out
  have cG0 : w2.cell? ⟨w1.heap.size, 0, none⟩ = some (.bool neg) := (blk_cell HG.out 0).trans rfl
  have fG0 := blk_frozen HG.out 0
  have lG2 := blk_lt HG.out
  obtain ⟨A, c, rfl, hc, hC⟩ := hv
  have HN := Lib.hid (show Nat32 w2 (.slice A n.length c) n from ⟨A, c, rfl, hc, hC⟩)
  clear hC
  go_wp2_with fail
  refine (strings_CutPrefix.calls rest2 dotS after false _ hc2).mono ?_
  rintro e w3 ⟨rfl, hd⟩
  have hb := hd.below
  have nZ := Lib.hid (blk_below (blk_alloc (blk_alloc (HZ.out) _) _) hb)
  have nG := Lib.hid (blk_below (blk_alloc (blk_alloc (HG.out) _) _) hb)
  have nQ := Lib.hid (blk_below (blk_alloc (new_at _ _ (w2.heap.size) oz) _) hb)
  have nE := Lib.hid (blk_below (new_at _ _ (w2.heap.size + 1) oz) hb)
  have nN := Lib.hid ((((HN.out).below ((Below.refl _ _).alloc (Nat.le_refl _) _)).below ((Below.refl _ _).alloc (Nat.le_refl _) _)).below hb)
  have nB := Lib.hid ((((HB.out).alloc oz _).alloc oz _).trans (hb.mono oz))
  have hs3 := hb.size
  try simp only [World.size_alloc, World.size_setCell] at hs3
  clear HB HZ HG HN
  try clear cZ0 fZ0 cZ1 fZ1 cG0 fG0
  have HZ := nZ
  have HG := nG
  have HQ := nQ
  have HE := nE
  have HN := nN
  have HB := nB
  clear nB nZ nG nQ nE nN
  clear hb hd
  have cZ0 : w3.cell? ⟨w.heap.size, 0, none⟩ = some (Value.int .i64 0) := (blk_cell HZ.out 0).trans rfl
  have fZ0 := blk_frozen HZ.out 0
  have cZ1 : w3.cell? ⟨w.heap.size, 1, none⟩ = some (Value.int .i64 0) := (blk_cell HZ.out 1).trans rfl
  have fZ1 := blk_frozen HZ.out 1
  have lZ3 := blk_lt HZ.out
  have cG0 : w3.cell? ⟨w1.heap.size, 0, none⟩ = some (.bool neg) := (blk_cell HG.out 0).trans rfl
  have fG0 := blk_frozen HG.out 0
  have lG3 := blk_lt HG.out
  have cQ0 : w3.cell? ⟨w2.heap.size, 0, none⟩ = some (.slice A n.length c) := (blk_cell HQ.out 0).trans rfl
  have fQ0 := blk_frozen HQ.out 0
  have lQ3 := blk_lt HQ.out
  have cE0 : w3.cell? ⟨w2.heap.size + 1, 0, none⟩ = some (.int .i64 0) := (blk_cell HE.out 0).trans rfl
  have fE0 := blk_frozen HE.out 0
  have lE3 := blk_lt HE.out
  have hre : (rest2.toList == []) = false := by simpa using hrest
  have hri : rest2.toList.isEmpty = false := by simpa using hrest
  go_wp2_with fail
  refine (strings_CutPrefix.calls rest2 eS aft true _ hc3).mono ?_
  rintro e w4 ⟨rfl, hd⟩
  have hb := hd.below
  have nZ := Lib.hid (blk_below (blk_alloc (HZ.out) _) hb)
  have nG := Lib.hid (blk_below (blk_alloc (HG.out) _) hb)
  have nQ := Lib.hid (blk_below (blk_alloc (HQ.out) _) hb)
  have nE := Lib.hid (blk_below (blk_alloc (HE.out) _) hb)
  have nX := Lib.hid (blk_below (new_at _ _ (w3.heap.size) oz) hb)
  have nN := Lib.hid (((HN.out).below ((Below.refl _ _).alloc (Nat.le_refl _) _)).below hb)
  have nB := Lib.hid (((HB.out).alloc oz _).trans (hb.mono oz))
  have hs4 := hb.size
  try simp only [World.size_alloc, World.size_setCell] at hs4
  clear HB HZ HG HQ HE HN
  try clear cZ0 fZ0 cZ1 fZ1 cG0 fG0 cQ0 fQ0 cE0 fE0
  have HZ := nZ
  have HG := nG
  have HQ := nQ
  have HE := nE
  have HX := nX
  have HN := nN
  have HB := nB
  clear nB nZ nG nQ nE nX nN
  clear hb hd
  have cZ0 : w4.cell? ⟨w.heap.size, 0, none⟩ = some (Value.int .i64 0) := (blk_cell HZ.out 0).trans rfl
  have fZ0 := blk_frozen HZ.out 0
  have cZ1 : w4.cell? ⟨w.heap.size, 1, none⟩ = some (Value.int .i64 0) := (blk_cell HZ.out 1).trans rfl
  have fZ1 := blk_frozen HZ.out 1
  have lZ4 := blk_lt HZ.out
  have cG0 : w4.cell? ⟨w1.heap.size, 0, none⟩ = some (.bool neg) := (blk_cell HG.out 0).trans rfl
  have fG0 := blk_frozen HG.out 0
  have lG4 := blk_lt HG.out
  have cQ0 : w4.cell? ⟨w2.heap.size, 0, none⟩ = some (.slice A n.length c) := (blk_cell HQ.out 0).trans rfl
  have fQ0 := blk_frozen HQ.out 0
  have lQ4 := blk_lt HQ.out
  have cE0 : w4.cell? ⟨w2.heap.size + 1, 0, none⟩ = some (.int .i64 0) := (blk_cell HE.out 0).trans rfl
  have fE0 := blk_frozen HE.out 0
  have lE4 := blk_lt HE.out
  have cX0 : w4.cell? ⟨w3.heap.size, 0, none⟩ = some (.int .i64 0) := (blk_cell HX.out 0).trans rfl
  have fX0 := blk_frozen HX.out 0
  have lX4 := blk_lt HX.out
  go_wp2_with fail
  refine (real_exponent.calls aft x false _ hx).mono ?_
  rintro e w5 ⟨rfl, hb⟩
  have nZ := Lib.hid (blk_below (HZ.out) hb)
  have nG := Lib.hid (blk_below (HG.out) hb)
  have nQ := Lib.hid (blk_below (HQ.out) hb)
  have nE := Lib.hid (blk_below (HE.out) hb)
  have nX := Lib.hid (blk_below (HX.out) hb)
  have nN := Lib.hid ((HN.out).below hb)
  have nB := Lib.hid ((HB.out).trans (hb.mono oz))
  have hs5 := hb.size
  try simp only [World.size_alloc, World.size_setCell] at hs5
  clear HB HZ HG HQ HE HX HN
  try clear cZ0 fZ0 cZ1 fZ1 cG0 fG0 cQ0 fQ0 cE0 fE0 cX0 fX0
  have HZ := nZ
  have HG := nG
  have HQ := nQ
  have HE := nE
  have HX := nX
  have HN := nN
  have HB := nB
  clear nB nZ nG nQ nE nX nN
  clear hb
  have cZ0 : w5.cell? ⟨w.heap.size, 0, none⟩ = some (Value.int .i64 0) := (blk_cell HZ.out 0).trans rfl
  have fZ0 := blk_frozen HZ.out 0
  have cZ1 : w5.cell? ⟨w.heap.size, 1, none⟩ = some (Value.int .i64 0) := (blk_cell HZ.out 1).trans rfl
  have fZ1 := blk_frozen HZ.out 1
  have lZ5 := blk_lt HZ.out
  have cG0 : w5.cell? ⟨w1.heap.size, 0, none⟩ = some (.bool neg) := (blk_cell HG.out 0).trans rfl
  have fG0 := blk_frozen HG.out 0
  have lG5 := blk_lt HG.out
  have cQ0 : w5.cell? ⟨w2.heap.size, 0, none⟩ = some (.slice A n.length c) := (blk_cell HQ.out 0).trans rfl
  have fQ0 := blk_frozen HQ.out 0
  have lQ5 := blk_lt HQ.out
  have cE0 : w5.cell? ⟨w2.heap.size + 1, 0, none⟩ = some (.int .i64 0) := (blk_cell HE.out 0).trans rfl
  have fE0 := blk_frozen HE.out 0
  have lE5 := blk_lt HE.out
  have cX0 : w5.cell? ⟨w3.heap.size, 0, none⟩ = some (.int .i64 0) := (blk_cell HX.out 0).trans rfl
  have fX0 := blk_frozen HX.out 0
  have lX5 := blk_lt HX.out
  go_wp2
  have fz : ((w5.setCell ⟨w.heap.size, 0, none⟩ (.int .i64 0)).setCell ⟨w.heap.size, 1, none⟩ (.int .i64 0)).heap[w.heap.size]? = some (.cells #[Value.int .i64 0, Value.int .i64 0] 23 (0, 0)) := heap_setCell_same _ _ 1 _ _ _ (heap_setCell_same _ _ 0 _ _ _ (HZ.out))
  refine bodyPost_ret (results_ct rfl _ _ (w.heap.size) 23 #[.int .i64 0, .int .i64 0] (0, 0) _ rfl fz Tryz.underlying23 rfl (by kernel_rfl)) rfl ?_
  exact ⟨rfl, ((HB.out).setCell (p := ⟨w.heap.size, 0, none⟩) (by simp only; omega) _).setCell (p := ⟨w.heap.size, 1, none⟩) (by simp only; omega) _⟩
set_option maxRecDepth 100000 in
set_option maxHeartbeats 8000000 in
theorem parse_F (k : Nat) (s : ByteArray) (w : World) (hsz : ¬ (s.size : Int) > 60) (rest : ByteArray) (neg : Bool) (hc1 : strings_CutPrefix.f s minusS = some (rest, neg)) (n : List Int) (many : Int) (rest2 : ByteArray) (hn1 : real_number.f k rest [] = some (n, many, rest2)) (hmany : ¬ many = 0) (after : ByteArray) (hc2 : strings_CutPrefix.f rest2 dotS = some (after, false)) (hrest : rest2.toList ≠ []) (aft : ByteArray) (x : Int) (hc3 : strings_CutPrefix.f rest2 eS = some (aft, true)) (hx : real_exponent.f aft = some (x, true)) (m y r1 r2 t0 t1 t2 : Int) (hd1 : real_decimal.f k n (wrap64 (x - 0)) = some (m, y)) (hsg : real_signed.f neg m y = some (r1, r2)) (ht : caughtS r1 r2 = (t0, t1, t2)) :
    Calls Tryz.prog 25 #[.string s] w fun e w' => e = .returned (.tuple #[.agg #[.int .i64 t0, .int .i64 t1], .int .i64 t2]) ∧ Below w.heap.size w w' := by
  have HB := Lib.hid (Below.refl w.heap.size w)
  go_enter Tryz.func25, Tryz.ntmps25
  go_wp2_with fail
  refine (strings_CutPrefix.calls s minusS rest neg _ hc1).mono ?_
  rintro e w1 ⟨rfl, hd⟩
  have hb := hd.below
  have nZ := Lib.hid (blk_below (new_at _ _ (w.heap.size) oz) hb)
  have nB := Lib.hid (((HB.out).alloc oz _).trans (hb.mono oz))
  have hs1 := hb.size
  try simp only [World.size_alloc, World.size_setCell] at hs1
  clear HB
  have HZ := nZ
  have HB := nB
  clear nB nZ
  clear hb hd
  have cZ0 : w1.cell? ⟨w.heap.size, 0, none⟩ = some (Value.int .i64 0) := (blk_cell HZ.out 0).trans rfl
  have fZ0 := blk_frozen HZ.out 0
  have cZ1 : w1.cell? ⟨w.heap.size, 1, none⟩ = some (Value.int .i64 0) := (blk_cell HZ.out 1).trans rfl
  have fZ1 := blk_frozen HZ.out 1
  have lZ1 := blk_lt HZ.out
  go_wp2_with fail
  refine (number_c k rest none 0 [] n many rest2 _ (nil_C _) (Nat.zero_le _) hn1).mono ?_
  rintro e w2 ⟨⟨v, hv, rfl⟩, hb⟩
  have nZ := Lib.hid (blk_below (blk_alloc (HZ.out) _) hb)
  have nG := Lib.hid (blk_below (new_at _ _ (w1.heap.size) oz) hb)
  have nB := Lib.hid (((HB.out).alloc oz _).trans (hb.mono oz))
  have hs2 := hb.size
  try simp only [World.size_alloc, World.size_setCell] at hs2
  clear HB HZ
  try clear cZ0 fZ0 cZ1 fZ1
  have HZ := nZ
  have HG := nG
  have HB := nB
  clear nB nZ nG
  clear hb
  have cZ0 : w2.cell? ⟨w.heap.size, 0, none⟩ = some (Value.int .i64 0) := (blk_cell HZ.out 0).trans rfl
  have fZ0 := blk_frozen HZ.out 0
  have cZ1 : w2.cell? ⟨w.heap.size, 1, none⟩ = some (Value.int .i64 0) := (blk_cell HZ.out 1).trans rfl
  have fZ1 := blk_frozen HZ.out 1
  have lZ2 := blk_lt HZ.out
  have cG0 : w2.cell? ⟨w1.heap.size, 0, none⟩ = some (.bool neg) := (blk_cell HG.out 0).trans rfl
  have fG0 := blk_frozen HG.out 0
  have lG2 := blk_lt HG.out
  obtain ⟨A, c, rfl, hc, hC⟩ := hv
  have HN := Lib.hid (show Nat32 w2 (.slice A n.length c) n from ⟨A, c, rfl, hc, hC⟩)
  clear hC
  go_wp2_with fail
  refine (strings_CutPrefix.calls rest2 dotS after false _ hc2).mono ?_
  rintro e w3 ⟨rfl, hd⟩
  have hb := hd.below
  have nZ := Lib.hid (blk_below (blk_alloc (blk_alloc (HZ.out) _) _) hb)
  have nG := Lib.hid (blk_below (blk_alloc (blk_alloc (HG.out) _) _) hb)
  have nQ := Lib.hid (blk_below (blk_alloc (new_at _ _ (w2.heap.size) oz) _) hb)
  have nE := Lib.hid (blk_below (new_at _ _ (w2.heap.size + 1) oz) hb)
  have nN := Lib.hid ((((HN.out).below ((Below.refl _ _).alloc (Nat.le_refl _) _)).below ((Below.refl _ _).alloc (Nat.le_refl _) _)).below hb)
  have nB := Lib.hid ((((HB.out).alloc oz _).alloc oz _).trans (hb.mono oz))
  have hs3 := hb.size
  try simp only [World.size_alloc, World.size_setCell] at hs3
  clear HB HZ HG HN
  try clear cZ0 fZ0 cZ1 fZ1 cG0 fG0
  have HZ := nZ
  have HG := nG
  have HQ := nQ
  have HE := nE
  have HN := nN
  have HB := nB
  clear nB nZ nG nQ nE nN
  clear hb hd
  have cZ0 : w3.cell? ⟨w.heap.size, 0, none⟩ = some (Value.int .i64 0) := (blk_cell HZ.out 0).trans rfl
  have fZ0 := blk_frozen HZ.out 0
  have cZ1 : w3.cell? ⟨w.heap.size, 1, none⟩ = some (Value.int .i64 0) := (blk_cell HZ.out 1).trans rfl
  have fZ1 := blk_frozen HZ.out 1
  have lZ3 := blk_lt HZ.out
  have cG0 : w3.cell? ⟨w1.heap.size, 0, none⟩ = some (.bool neg) := (blk_cell HG.out 0).trans rfl
  have fG0 := blk_frozen HG.out 0
  have lG3 := blk_lt HG.out
  have cQ0 : w3.cell? ⟨w2.heap.size, 0, none⟩ = some (.slice A n.length c) := (blk_cell HQ.out 0).trans rfl
  have fQ0 := blk_frozen HQ.out 0
  have lQ3 := blk_lt HQ.out
  have cE0 : w3.cell? ⟨w2.heap.size + 1, 0, none⟩ = some (.int .i64 0) := (blk_cell HE.out 0).trans rfl
  have fE0 := blk_frozen HE.out 0
  have lE3 := blk_lt HE.out
  have hre : (rest2.toList == []) = false := by simpa using hrest
  have hri : rest2.toList.isEmpty = false := by simpa using hrest
  go_wp2_with fail
  refine (strings_CutPrefix.calls rest2 eS aft true _ hc3).mono ?_
  rintro e w4 ⟨rfl, hd⟩
  have hb := hd.below
  have nZ := Lib.hid (blk_below (blk_alloc (HZ.out) _) hb)
  have nG := Lib.hid (blk_below (blk_alloc (HG.out) _) hb)
  have nQ := Lib.hid (blk_below (blk_alloc (HQ.out) _) hb)
  have nE := Lib.hid (blk_below (blk_alloc (HE.out) _) hb)
  have nX := Lib.hid (blk_below (new_at _ _ (w3.heap.size) oz) hb)
  have nN := Lib.hid (((HN.out).below ((Below.refl _ _).alloc (Nat.le_refl _) _)).below hb)
  have nB := Lib.hid (((HB.out).alloc oz _).trans (hb.mono oz))
  have hs4 := hb.size
  try simp only [World.size_alloc, World.size_setCell] at hs4
  clear HB HZ HG HQ HE HN
  try clear cZ0 fZ0 cZ1 fZ1 cG0 fG0 cQ0 fQ0 cE0 fE0
  have HZ := nZ
  have HG := nG
  have HQ := nQ
  have HE := nE
  have HX := nX
  have HN := nN
  have HB := nB
  clear nB nZ nG nQ nE nX nN
  clear hb hd
  have cZ0 : w4.cell? ⟨w.heap.size, 0, none⟩ = some (Value.int .i64 0) := (blk_cell HZ.out 0).trans rfl
  have fZ0 := blk_frozen HZ.out 0
  have cZ1 : w4.cell? ⟨w.heap.size, 1, none⟩ = some (Value.int .i64 0) := (blk_cell HZ.out 1).trans rfl
  have fZ1 := blk_frozen HZ.out 1
  have lZ4 := blk_lt HZ.out
  have cG0 : w4.cell? ⟨w1.heap.size, 0, none⟩ = some (.bool neg) := (blk_cell HG.out 0).trans rfl
  have fG0 := blk_frozen HG.out 0
  have lG4 := blk_lt HG.out
  have cQ0 : w4.cell? ⟨w2.heap.size, 0, none⟩ = some (.slice A n.length c) := (blk_cell HQ.out 0).trans rfl
  have fQ0 := blk_frozen HQ.out 0
  have lQ4 := blk_lt HQ.out
  have cE0 : w4.cell? ⟨w2.heap.size + 1, 0, none⟩ = some (.int .i64 0) := (blk_cell HE.out 0).trans rfl
  have fE0 := blk_frozen HE.out 0
  have lE4 := blk_lt HE.out
  have cX0 : w4.cell? ⟨w3.heap.size, 0, none⟩ = some (.int .i64 0) := (blk_cell HX.out 0).trans rfl
  have fX0 := blk_frozen HX.out 0
  have lX4 := blk_lt HX.out
  go_wp2_with fail
  refine (real_exponent.calls aft x true _ hx).mono ?_
  rintro e w5 ⟨rfl, hb⟩
  have nZ := Lib.hid (blk_below (HZ.out) hb)
  have nG := Lib.hid (blk_below (HG.out) hb)
  have nQ := Lib.hid (blk_below (HQ.out) hb)
  have nE := Lib.hid (blk_below (HE.out) hb)
  have nX := Lib.hid (blk_below (HX.out) hb)
  have nN := Lib.hid ((HN.out).below hb)
  have nB := Lib.hid ((HB.out).trans (hb.mono oz))
  have hs5 := hb.size
  try simp only [World.size_alloc, World.size_setCell] at hs5
  clear HB HZ HG HQ HE HX HN
  try clear cZ0 fZ0 cZ1 fZ1 cG0 fG0 cQ0 fQ0 cE0 fE0 cX0 fX0
  have HZ := nZ
  have HG := nG
  have HQ := nQ
  have HE := nE
  have HX := nX
  have HN := nN
  have HB := nB
  clear nB nZ nG nQ nE nX nN
  clear hb
  have cZ0 : w5.cell? ⟨w.heap.size, 0, none⟩ = some (Value.int .i64 0) := (blk_cell HZ.out 0).trans rfl
  have fZ0 := blk_frozen HZ.out 0
  have cZ1 : w5.cell? ⟨w.heap.size, 1, none⟩ = some (Value.int .i64 0) := (blk_cell HZ.out 1).trans rfl
  have fZ1 := blk_frozen HZ.out 1
  have lZ5 := blk_lt HZ.out
  have cG0 : w5.cell? ⟨w1.heap.size, 0, none⟩ = some (.bool neg) := (blk_cell HG.out 0).trans rfl
  have fG0 := blk_frozen HG.out 0
  have lG5 := blk_lt HG.out
  have cQ0 : w5.cell? ⟨w2.heap.size, 0, none⟩ = some (.slice A n.length c) := (blk_cell HQ.out 0).trans rfl
  have fQ0 := blk_frozen HQ.out 0
  have lQ5 := blk_lt HQ.out
  have cE0 : w5.cell? ⟨w2.heap.size + 1, 0, none⟩ = some (.int .i64 0) := (blk_cell HE.out 0).trans rfl
  have fE0 := blk_frozen HE.out 0
  have lE5 := blk_lt HE.out
  have cX0 : w5.cell? ⟨w3.heap.size, 0, none⟩ = some (.int .i64 0) := (blk_cell HX.out 0).trans rfl
  have fX0 := blk_frozen HX.out 0
  have lX5 := blk_lt HX.out
  have hmf : ∀ (fn : Fn) (first cap : Array Value) (w : World), (Instr.makeFunc fn first cap).run Tryz.prog w = .ok (.func fn first cap) w := fun _ _ _ _ => rfl
  have HD1 := Lib.hid hd1
  have HS1 := Lib.hid hsg
  have HT1 := Lib.hid ht
  clear hd1 hsg ht
  skip
  go_wp2_with fail
  refine (caught_t 79 _ r1 r2 t0 t1 t2 HT1.out _ (fun args w => enters_ Tryz.func79 (by kernel_rfl) rfl args w) (fun w' h' => parse1_n k neg n A c x 0 m y r1 r2 HD1.out HS1.out _ _ _ _ w' (blk_below ((heap_setCell_other _ _ _ _ (by simp only; omega)).trans (HG.out)) h') (blk_below ((heap_setCell_other _ _ _ _ (by simp only; omega)).trans (HQ.out)) h') (blk_below (heap_setCell_same _ _ 0 _ _ _ (HX.out)) h') (blk_below ((heap_setCell_other _ _ _ _ (by simp only; omega)).trans (HE.out)) h') ((nat32_set (HN.out) (HX.out) (fun _ h => by cases h)).below h'))).mono ?_
  rintro e w6 ⟨rfl, hb⟩
  have nZ := Lib.hid (blk_below ((heap_setCell_other _ _ _ _ (by simp only; omega)).trans (HZ.out)) hb)
  have nG := Lib.hid (blk_below ((heap_setCell_other _ _ _ _ (by simp only; omega)).trans (HG.out)) hb)
  have nQ := Lib.hid (blk_below ((heap_setCell_other _ _ _ _ (by simp only; omega)).trans (HQ.out)) hb)
  have nE := Lib.hid (blk_below ((heap_setCell_other _ _ _ _ (by simp only; omega)).trans (HE.out)) hb)
  have nX := Lib.hid (blk_below (heap_setCell_same _ _ 0 _ _ _ (HX.out)) hb)
  have nN := Lib.hid ((nat32_set (HN.out) (HX.out) (fun _ h => by cases h)).below hb)
  have nB := Lib.hid (((HB.out).setCell (p := ⟨w3.heap.size, 0, none⟩) (by simp only; omega) _).trans (hb.mono oz))
  have hs6 := hb.size
  try simp only [World.size_alloc, World.size_setCell] at hs6
  clear HB HZ HG HQ HE HX HN
  try clear cZ0 fZ0 cZ1 fZ1 cG0 fG0 cQ0 fQ0 cE0 fE0 cX0 fX0
  have HZ := nZ
  have HG := nG
  have HQ := nQ
  have HE := nE
  have HX := nX
  have HN := nN
  have HB := nB
  clear nB nZ nG nQ nE nX nN
  clear hb
  have cZ0 : w6.cell? ⟨w.heap.size, 0, none⟩ = some (Value.int .i64 0) := (blk_cell HZ.out 0).trans rfl
  have fZ0 := blk_frozen HZ.out 0
  have cZ1 : w6.cell? ⟨w.heap.size, 1, none⟩ = some (Value.int .i64 0) := (blk_cell HZ.out 1).trans rfl
  have fZ1 := blk_frozen HZ.out 1
  have lZ6 := blk_lt HZ.out
  have cG0 : w6.cell? ⟨w1.heap.size, 0, none⟩ = some (.bool neg) := (blk_cell HG.out 0).trans rfl
  have fG0 := blk_frozen HG.out 0
  have lG6 := blk_lt HG.out
  have cQ0 : w6.cell? ⟨w2.heap.size, 0, none⟩ = some (.slice A n.length c) := (blk_cell HQ.out 0).trans rfl
  have fQ0 := blk_frozen HQ.out 0
  have lQ6 := blk_lt HQ.out
  have cE0 : w6.cell? ⟨w2.heap.size + 1, 0, none⟩ = some (.int .i64 0) := (blk_cell HE.out 0).trans rfl
  have fE0 := blk_frozen HE.out 0
  have lE6 := blk_lt HE.out
  have cX0 : w6.cell? ⟨w3.heap.size, 0, none⟩ = some (.int .i64 x) := (blk_cell HX.out 0).trans rfl
  have fX0 := blk_frozen HX.out 0
  have lX6 := blk_lt HX.out
  go_wp2
  have fz : ((w6.setCell ⟨w.heap.size, 0, none⟩ (.int .i64 t0)).setCell ⟨w.heap.size, 1, none⟩ (.int .i64 t1)).heap[w.heap.size]? = some (.cells #[Value.int .i64 t0, Value.int .i64 t1] 23 (0, 0)) := heap_setCell_same _ _ 1 _ _ _ (heap_setCell_same _ _ 0 _ _ _ (HZ.out))
  refine bodyPost_ret (results_ct rfl _ _ (w.heap.size) 23 #[.int .i64 t0, .int .i64 t1] (0, 0) _ rfl fz Tryz.underlying23 rfl (by kernel_rfl)) rfl ?_
  exact ⟨rfl, ((HB.out).setCell (p := ⟨w.heap.size, 0, none⟩) (by simp only; omega) _).setCell (p := ⟨w.heap.size, 1, none⟩) (by simp only; omega) _⟩
set_option maxRecDepth 100000 in
set_option maxHeartbeats 8000000 in
theorem parse_PE3 (k : Nat) (s : ByteArray) (w : World) (hsz : ¬ (s.size : Int) > 60) (rest : ByteArray) (neg : Bool) (hc1 : strings_CutPrefix.f s minusS = some (rest, neg)) (n : List Int) (many : Int) (rest2 : ByteArray) (hn1 : real_number.f k rest [] = some (n, many, rest2)) (hmany : ¬ many = 0) (after : ByteArray) (hc2 : strings_CutPrefix.f rest2 dotS = some (after, true)) (n2 : List Int) (rest3 : ByteArray) (hn2 : real_number.f k after n = some (n2, 0, rest3)) :
    Calls Tryz.prog 25 #[.string s] w fun e w' => e = .returned (.tuple #[.agg #[.int .i64 0, .int .i64 0], .int .i64 7]) ∧ Below w.heap.size w w' := by
  have HB := Lib.hid (Below.refl w.heap.size w)
  go_enter Tryz.func25, Tryz.ntmps25
  go_wp2_with fail
  refine (strings_CutPrefix.calls s minusS rest neg _ hc1).mono ?_
  rintro e w1 ⟨rfl, hd⟩
  have hb := hd.below
  have nZ := Lib.hid (blk_below (new_at _ _ (w.heap.size) oz) hb)
  have nB := Lib.hid (((HB.out).alloc oz _).trans (hb.mono oz))
  have hs1 := hb.size
  try simp only [World.size_alloc, World.size_setCell] at hs1
  clear HB
  have HZ := nZ
  have HB := nB
  clear nB nZ
  clear hb hd
  have cZ0 : w1.cell? ⟨w.heap.size, 0, none⟩ = some (Value.int .i64 0) := (blk_cell HZ.out 0).trans rfl
  have fZ0 := blk_frozen HZ.out 0
  have cZ1 : w1.cell? ⟨w.heap.size, 1, none⟩ = some (Value.int .i64 0) := (blk_cell HZ.out 1).trans rfl
  have fZ1 := blk_frozen HZ.out 1
  have lZ1 := blk_lt HZ.out
  go_wp2_with fail
  refine (number_c k rest none 0 [] n many rest2 _ (nil_C _) (Nat.zero_le _) hn1).mono ?_
  rintro e w2 ⟨⟨v, hv, rfl⟩, hb⟩
  have nZ := Lib.hid (blk_below (blk_alloc (HZ.out) _) hb)
  have nG := Lib.hid (blk_below (new_at _ _ (w1.heap.size) oz) hb)
  have nB := Lib.hid (((HB.out).alloc oz _).trans (hb.mono oz))
  have hs2 := hb.size
  try simp only [World.size_alloc, World.size_setCell] at hs2
  clear HB HZ
  try clear cZ0 fZ0 cZ1 fZ1
  have HZ := nZ
  have HG := nG
  have HB := nB
  clear nB nZ nG
  clear hb
  have cZ0 : w2.cell? ⟨w.heap.size, 0, none⟩ = some (Value.int .i64 0) := (blk_cell HZ.out 0).trans rfl
  have fZ0 := blk_frozen HZ.out 0
  have cZ1 : w2.cell? ⟨w.heap.size, 1, none⟩ = some (Value.int .i64 0) := (blk_cell HZ.out 1).trans rfl
  have fZ1 := blk_frozen HZ.out 1
  have lZ2 := blk_lt HZ.out
  have cG0 : w2.cell? ⟨w1.heap.size, 0, none⟩ = some (.bool neg) := (blk_cell HG.out 0).trans rfl
  have fG0 := blk_frozen HG.out 0
  have lG2 := blk_lt HG.out
  obtain ⟨A, c, rfl, hc, hC⟩ := hv
  have HN := Lib.hid (show Nat32 w2 (.slice A n.length c) n from ⟨A, c, rfl, hc, hC⟩)
  clear hC
  go_wp2_with fail
  refine (strings_CutPrefix.calls rest2 dotS after true _ hc2).mono ?_
  rintro e w3 ⟨rfl, hd⟩
  have hb := hd.below
  have nZ := Lib.hid (blk_below (blk_alloc (blk_alloc (HZ.out) _) _) hb)
  have nG := Lib.hid (blk_below (blk_alloc (blk_alloc (HG.out) _) _) hb)
  have nQ := Lib.hid (blk_below (blk_alloc (new_at _ _ (w2.heap.size) oz) _) hb)
  have nE := Lib.hid (blk_below (new_at _ _ (w2.heap.size + 1) oz) hb)
  have nN := Lib.hid ((((HN.out).below ((Below.refl _ _).alloc (Nat.le_refl _) _)).below ((Below.refl _ _).alloc (Nat.le_refl _) _)).below hb)
  have nB := Lib.hid ((((HB.out).alloc oz _).alloc oz _).trans (hb.mono oz))
  have hs3 := hb.size
  try simp only [World.size_alloc, World.size_setCell] at hs3
  clear HB HZ HG HN
  try clear cZ0 fZ0 cZ1 fZ1 cG0 fG0
  have HZ := nZ
  have HG := nG
  have HQ := nQ
  have HE := nE
  have HN := nN
  have HB := nB
  clear nB nZ nG nQ nE nN
  clear hb hd
  have cZ0 : w3.cell? ⟨w.heap.size, 0, none⟩ = some (Value.int .i64 0) := (blk_cell HZ.out 0).trans rfl
  have fZ0 := blk_frozen HZ.out 0
  have cZ1 : w3.cell? ⟨w.heap.size, 1, none⟩ = some (Value.int .i64 0) := (blk_cell HZ.out 1).trans rfl
  have fZ1 := blk_frozen HZ.out 1
  have lZ3 := blk_lt HZ.out
  have cG0 : w3.cell? ⟨w1.heap.size, 0, none⟩ = some (.bool neg) := (blk_cell HG.out 0).trans rfl
  have fG0 := blk_frozen HG.out 0
  have lG3 := blk_lt HG.out
  have cQ0 : w3.cell? ⟨w2.heap.size, 0, none⟩ = some (.slice A n.length c) := (blk_cell HQ.out 0).trans rfl
  have fQ0 := blk_frozen HQ.out 0
  have lQ3 := blk_lt HQ.out
  have cE0 : w3.cell? ⟨w2.heap.size + 1, 0, none⟩ = some (.int .i64 0) := (blk_cell HE.out 0).trans rfl
  have fE0 := blk_frozen HE.out 0
  have lE3 := blk_lt HE.out
  have HN32 := HN.out
  obtain ⟨A', c', heq, hcc, hCC⟩ := HN32
  cases heq
  go_wp2_with fail
  refine (number_c k after A c n n2 0 rest3 _ hCC hcc hn2).mono ?_
  rintro e w4 ⟨⟨v, hv, rfl⟩, hb⟩
  have nZ := Lib.hid (blk_below (HZ.out) hb)
  have nG := Lib.hid (blk_below (HG.out) hb)
  have nQ := Lib.hid (blk_below (HQ.out) hb)
  have nE := Lib.hid (blk_below (HE.out) hb)
  have nN := Lib.hid ((HN.out).below hb)
  have nB := Lib.hid ((HB.out).trans (hb.mono oz))
  have hs4 := hb.size
  try simp only [World.size_alloc, World.size_setCell] at hs4
  clear HB HZ HG HQ HE HN
  try clear cZ0 fZ0 cZ1 fZ1 cG0 fG0 cQ0 fQ0 cE0 fE0
  have HZ := nZ
  have HG := nG
  have HQ := nQ
  have HE := nE
  have HN := nN
  have HB := nB
  clear nB nZ nG nQ nE nN
  clear hb
  have cZ0 : w4.cell? ⟨w.heap.size, 0, none⟩ = some (Value.int .i64 0) := (blk_cell HZ.out 0).trans rfl
  have fZ0 := blk_frozen HZ.out 0
  have cZ1 : w4.cell? ⟨w.heap.size, 1, none⟩ = some (Value.int .i64 0) := (blk_cell HZ.out 1).trans rfl
  have fZ1 := blk_frozen HZ.out 1
  have lZ4 := blk_lt HZ.out
  have cG0 : w4.cell? ⟨w1.heap.size, 0, none⟩ = some (.bool neg) := (blk_cell HG.out 0).trans rfl
  have fG0 := blk_frozen HG.out 0
  have lG4 := blk_lt HG.out
  have cQ0 : w4.cell? ⟨w2.heap.size, 0, none⟩ = some (.slice A n.length c) := (blk_cell HQ.out 0).trans rfl
  have fQ0 := blk_frozen HQ.out 0
  have lQ4 := blk_lt HQ.out
  have cE0 : w4.cell? ⟨w2.heap.size + 1, 0, none⟩ = some (.int .i64 0) := (blk_cell HE.out 0).trans rfl
  have fE0 := blk_frozen HE.out 0
  have lE4 := blk_lt HE.out
  clear HN hCC
  obtain ⟨A2, c2, rfl, hc2', hC2⟩ := hv
  have HN := Lib.hid (show Nat32 w4 (.slice A2 n2.length c2) n2 from ⟨A2, c2, rfl, hc2', hC2⟩)
  clear hC2
  go_wp2
  have fz : ((((w4.setCell ⟨w2.heap.size, 0, none⟩ (.slice A2 n2.length c2)).setCell ⟨w2.heap.size + 1, 0, none⟩ (.int .i64 0)).setCell ⟨w.heap.size, 0, none⟩ (.int .i64 0)).setCell ⟨w.heap.size, 1, none⟩ (.int .i64 0)).heap[w.heap.size]? = some (.cells #[Value.int .i64 0, Value.int .i64 0] 23 (0, 0)) := heap_setCell_same _ _ 1 _ _ _ (heap_setCell_same _ _ 0 _ _ _ ((heap_setCell_other _ _ _ _ (by simp only; omega)).trans ((heap_setCell_other _ _ _ _ (by simp only; omega)).trans (HZ.out))))
  refine bodyPost_ret (results_ct rfl _ _ (w.heap.size) 23 #[.int .i64 0, .int .i64 0] (0, 0) _ rfl fz Tryz.underlying23 rfl (by kernel_rfl)) rfl ?_
  exact ⟨rfl, ((((HB.out).setCell (p := ⟨w2.heap.size, 0, none⟩) (by simp only; omega) _).setCell (p := ⟨w2.heap.size + 1, 0, none⟩) (by simp only; omega) _).setCell (p := ⟨w.heap.size, 0, none⟩) (by simp only; omega) _).setCell (p := ⟨w.heap.size, 1, none⟩) (by simp only; omega) _⟩
set_option maxRecDepth 100000 in
set_option maxHeartbeats 8000000 in
theorem parse_PZ (k : Nat) (s : ByteArray) (w : World) (hsz : ¬ (s.size : Int) > 60) (rest : ByteArray) (neg : Bool) (hc1 : strings_CutPrefix.f s minusS = some (rest, neg)) (n : List Int) (many : Int) (rest2 : ByteArray) (hn1 : real_number.f k rest [] = some (n, many, rest2)) (hmany : ¬ many = 0) (after : ByteArray) (hc2 : strings_CutPrefix.f rest2 dotS = some (after, true)) (n2 : List Int) (behind : Int) (rest3 : ByteArray) (hn2 : real_number.f k after n = some (n2, behind, rest3)) (hbeh : ¬ behind = 0) (hrest : rest3.toList = []) (m y r1 r2 t0 t1 t2 : Int) (hd1 : real_decimal.f k n2 (wrap64 (0 - behind)) = some (m, y)) (hsg : real_signed.f neg m y = some (r1, r2)) (ht : caughtS r1 r2 = (t0, t1, t2)) :
    Calls Tryz.prog 25 #[.string s] w fun e w' => e = .returned (.tuple #[.agg #[.int .i64 t0, .int .i64 t1], .int .i64 t2]) ∧ Below w.heap.size w w' := by
  have HB := Lib.hid (Below.refl w.heap.size w)
  go_enter Tryz.func25, Tryz.ntmps25
  go_wp2_with fail
  refine (strings_CutPrefix.calls s minusS rest neg _ hc1).mono ?_
  rintro e w1 ⟨rfl, hd⟩
  have hb := hd.below
  have nZ := Lib.hid (blk_below (new_at _ _ (w.heap.size) oz) hb)
  have nB := Lib.hid (((HB.out).alloc oz _).trans (hb.mono oz))
  have hs1 := hb.size
  try simp only [World.size_alloc, World.size_setCell] at hs1
  clear HB
  have HZ := nZ
  have HB := nB
  clear nB nZ
  clear hb hd
  have cZ0 : w1.cell? ⟨w.heap.size, 0, none⟩ = some (Value.int .i64 0) := (blk_cell HZ.out 0).trans rfl
  have fZ0 := blk_frozen HZ.out 0
  have cZ1 : w1.cell? ⟨w.heap.size, 1, none⟩ = some (Value.int .i64 0) := (blk_cell HZ.out 1).trans rfl
  have fZ1 := blk_frozen HZ.out 1
  have lZ1 := blk_lt HZ.out
  go_wp2_with fail
  refine (number_c k rest none 0 [] n many rest2 _ (nil_C _) (Nat.zero_le _) hn1).mono ?_
  rintro e w2 ⟨⟨v, hv, rfl⟩, hb⟩
  have nZ := Lib.hid (blk_below (blk_alloc (HZ.out) _) hb)
  have nG := Lib.hid (blk_below (new_at _ _ (w1.heap.size) oz) hb)
  have nB := Lib.hid (((HB.out).alloc oz _).trans (hb.mono oz))
  have hs2 := hb.size
  try simp only [World.size_alloc, World.size_setCell] at hs2
  clear HB HZ
  try clear cZ0 fZ0 cZ1 fZ1
  have HZ := nZ
  have HG := nG
  have HB := nB
  clear nB nZ nG
  clear hb
  have cZ0 : w2.cell? ⟨w.heap.size, 0, none⟩ = some (Value.int .i64 0) := (blk_cell HZ.out 0).trans rfl
  have fZ0 := blk_frozen HZ.out 0
  have cZ1 : w2.cell? ⟨w.heap.size, 1, none⟩ = some (Value.int .i64 0) := (blk_cell HZ.out 1).trans rfl
  have fZ1 := blk_frozen HZ.out 1
  have lZ2 := blk_lt HZ.out
  have cG0 : w2.cell? ⟨w1.heap.size, 0, none⟩ = some (.bool neg) := (blk_cell HG.out 0).trans rfl
  have fG0 := blk_frozen HG.out 0
  have lG2 := blk_lt HG.out
  obtain ⟨A, c, rfl, hc, hC⟩ := hv
  have HN := Lib.hid (show Nat32 w2 (.slice A n.length c) n from ⟨A, c, rfl, hc, hC⟩)
  clear hC
  go_wp2_with fail
  refine (strings_CutPrefix.calls rest2 dotS after true _ hc2).mono ?_
  rintro e w3 ⟨rfl, hd⟩
  have hb := hd.below
  have nZ := Lib.hid (blk_below (blk_alloc (blk_alloc (HZ.out) _) _) hb)
  have nG := Lib.hid (blk_below (blk_alloc (blk_alloc (HG.out) _) _) hb)
  have nQ := Lib.hid (blk_below (blk_alloc (new_at _ _ (w2.heap.size) oz) _) hb)
  have nE := Lib.hid (blk_below (new_at _ _ (w2.heap.size + 1) oz) hb)
  have nN := Lib.hid ((((HN.out).below ((Below.refl _ _).alloc (Nat.le_refl _) _)).below ((Below.refl _ _).alloc (Nat.le_refl _) _)).below hb)
  have nB := Lib.hid ((((HB.out).alloc oz _).alloc oz _).trans (hb.mono oz))
  have hs3 := hb.size
  try simp only [World.size_alloc, World.size_setCell] at hs3
  clear HB HZ HG HN
  try clear cZ0 fZ0 cZ1 fZ1 cG0 fG0
  have HZ := nZ
  have HG := nG
  have HQ := nQ
  have HE := nE
  have HN := nN
  have HB := nB
  clear nB nZ nG nQ nE nN
  clear hb hd
  have cZ0 : w3.cell? ⟨w.heap.size, 0, none⟩ = some (Value.int .i64 0) := (blk_cell HZ.out 0).trans rfl
  have fZ0 := blk_frozen HZ.out 0
  have cZ1 : w3.cell? ⟨w.heap.size, 1, none⟩ = some (Value.int .i64 0) := (blk_cell HZ.out 1).trans rfl
  have fZ1 := blk_frozen HZ.out 1
  have lZ3 := blk_lt HZ.out
  have cG0 : w3.cell? ⟨w1.heap.size, 0, none⟩ = some (.bool neg) := (blk_cell HG.out 0).trans rfl
  have fG0 := blk_frozen HG.out 0
  have lG3 := blk_lt HG.out
  have cQ0 : w3.cell? ⟨w2.heap.size, 0, none⟩ = some (.slice A n.length c) := (blk_cell HQ.out 0).trans rfl
  have fQ0 := blk_frozen HQ.out 0
  have lQ3 := blk_lt HQ.out
  have cE0 : w3.cell? ⟨w2.heap.size + 1, 0, none⟩ = some (.int .i64 0) := (blk_cell HE.out 0).trans rfl
  have fE0 := blk_frozen HE.out 0
  have lE3 := blk_lt HE.out
  have HN32 := HN.out
  obtain ⟨A', c', heq, hcc, hCC⟩ := HN32
  cases heq
  go_wp2_with fail
  refine (number_c k after A c n n2 behind rest3 _ hCC hcc hn2).mono ?_
  rintro e w4 ⟨⟨v, hv, rfl⟩, hb⟩
  have nZ := Lib.hid (blk_below (HZ.out) hb)
  have nG := Lib.hid (blk_below (HG.out) hb)
  have nQ := Lib.hid (blk_below (HQ.out) hb)
  have nE := Lib.hid (blk_below (HE.out) hb)
  have nN := Lib.hid ((HN.out).below hb)
  have nB := Lib.hid ((HB.out).trans (hb.mono oz))
  have hs4 := hb.size
  try simp only [World.size_alloc, World.size_setCell] at hs4
  clear HB HZ HG HQ HE HN
  try clear cZ0 fZ0 cZ1 fZ1 cG0 fG0 cQ0 fQ0 cE0 fE0
  have HZ := nZ
  have HG := nG
  have HQ := nQ
  have HE := nE
  have HN := nN
  have HB := nB
  clear nB nZ nG nQ nE nN
  clear hb
  have cZ0 : w4.cell? ⟨w.heap.size, 0, none⟩ = some (Value.int .i64 0) := (blk_cell HZ.out 0).trans rfl
  have fZ0 := blk_frozen HZ.out 0
  have cZ1 : w4.cell? ⟨w.heap.size, 1, none⟩ = some (Value.int .i64 0) := (blk_cell HZ.out 1).trans rfl
  have fZ1 := blk_frozen HZ.out 1
  have lZ4 := blk_lt HZ.out
  have cG0 : w4.cell? ⟨w1.heap.size, 0, none⟩ = some (.bool neg) := (blk_cell HG.out 0).trans rfl
  have fG0 := blk_frozen HG.out 0
  have lG4 := blk_lt HG.out
  have cQ0 : w4.cell? ⟨w2.heap.size, 0, none⟩ = some (.slice A n.length c) := (blk_cell HQ.out 0).trans rfl
  have fQ0 := blk_frozen HQ.out 0
  have lQ4 := blk_lt HQ.out
  have cE0 : w4.cell? ⟨w2.heap.size + 1, 0, none⟩ = some (.int .i64 0) := (blk_cell HE.out 0).trans rfl
  have fE0 := blk_frozen HE.out 0
  have lE4 := blk_lt HE.out
  clear HN hCC
  obtain ⟨A2, c2, rfl, hc2', hC2⟩ := hv
  have HN := Lib.hid (show Nat32 w4 (.slice A2 n2.length c2) n2 from ⟨A2, c2, rfl, hc2', hC2⟩)
  clear hC2
  have hre : (rest3.toList == []) = true := by simp [hrest]
  have hri : rest3.toList.isEmpty = true := by simp [hrest]
  have hmf : ∀ (fn : Fn) (first cap : Array Value) (w : World), (Instr.makeFunc fn first cap).run Tryz.prog w = .ok (.func fn first cap) w := fun _ _ _ _ => rfl
  have HD1 := Lib.hid hd1
  have HS1 := Lib.hid hsg
  have HT1 := Lib.hid ht
  clear hd1 hsg ht
  skip
  go_wp2_with fail
  refine (caught_t 79 _ r1 r2 t0 t1 t2 HT1.out _ (fun args w => enters_ Tryz.func79 (by kernel_rfl) rfl args w) (fun w' h' => parse1_n k neg n2 A2 c2 0 behind m y r1 r2 HD1.out HS1.out _ _ _ _ w' (blk_below (blk_alloc ((heap_setCell_other _ _ _ _ (by simp only; omega)).trans ((heap_setCell_other _ _ _ _ (by simp only; omega)).trans (HG.out))) _) h') (blk_below (blk_alloc ((heap_setCell_other _ _ _ _ (by simp only; omega)).trans (heap_setCell_same _ _ 0 _ _ _ (HQ.out))) _) h') (blk_below (new_at _ _ (w4.heap.size) oz) h') (blk_below (blk_alloc (heap_setCell_same _ _ 0 _ _ _ ((heap_setCell_other _ _ _ _ (by simp only; omega)).trans (HE.out))) _) h') (((nat32_set (nat32_set (HN.out) (HQ.out) (fun _ h => by cases h)) ((heap_setCell_other _ _ _ _ (by simp only; omega)).trans (HE.out)) (fun _ h => by cases h)).below ((Below.refl _ _).alloc (Nat.le_refl _) _)).below h'))).mono ?_
  rintro e w5 ⟨rfl, hb⟩
  have nZ := Lib.hid (blk_below (blk_alloc ((heap_setCell_other _ _ _ _ (by simp only; omega)).trans ((heap_setCell_other _ _ _ _ (by simp only; omega)).trans (HZ.out))) _) hb)
  have nG := Lib.hid (blk_below (blk_alloc ((heap_setCell_other _ _ _ _ (by simp only; omega)).trans ((heap_setCell_other _ _ _ _ (by simp only; omega)).trans (HG.out))) _) hb)
  have nQ := Lib.hid (blk_below (blk_alloc ((heap_setCell_other _ _ _ _ (by simp only; omega)).trans (heap_setCell_same _ _ 0 _ _ _ (HQ.out))) _) hb)
  have nE := Lib.hid (blk_below (blk_alloc (heap_setCell_same _ _ 0 _ _ _ ((heap_setCell_other _ _ _ _ (by simp only; omega)).trans (HE.out))) _) hb)
  have nX := Lib.hid (blk_below (new_at _ _ (w4.heap.size) oz) hb)
  have nN := Lib.hid (((nat32_set (nat32_set (HN.out) (HQ.out) (fun _ h => by cases h)) ((heap_setCell_other _ _ _ _ (by simp only; omega)).trans (HE.out)) (fun _ h => by cases h)).below ((Below.refl _ _).alloc (Nat.le_refl _) _)).below hb)
  have nB := Lib.hid (((((HB.out).setCell (p := ⟨w2.heap.size, 0, none⟩) (by simp only; omega) _).setCell (p := ⟨w2.heap.size + 1, 0, none⟩) (by simp only; omega) _).alloc oz _).trans (hb.mono oz))
  have hs5 := hb.size
  try simp only [World.size_alloc, World.size_setCell] at hs5
  clear HB HZ HG HQ HE HN
  try clear cZ0 fZ0 cZ1 fZ1 cG0 fG0 cQ0 fQ0 cE0 fE0
  have HZ := nZ
  have HG := nG
  have HQ := nQ
  have HE := nE
  have HX := nX
  have HN := nN
  have HB := nB
  clear nB nZ nG nQ nE nX nN
  clear hb
  have cZ0 : w5.cell? ⟨w.heap.size, 0, none⟩ = some (Value.int .i64 0) := (blk_cell HZ.out 0).trans rfl
  have fZ0 := blk_frozen HZ.out 0
  have cZ1 : w5.cell? ⟨w.heap.size, 1, none⟩ = some (Value.int .i64 0) := (blk_cell HZ.out 1).trans rfl
  have fZ1 := blk_frozen HZ.out 1
  have lZ5 := blk_lt HZ.out
  have cG0 : w5.cell? ⟨w1.heap.size, 0, none⟩ = some (.bool neg) := (blk_cell HG.out 0).trans rfl
  have fG0 := blk_frozen HG.out 0
  have lG5 := blk_lt HG.out
  have cQ0 : w5.cell? ⟨w2.heap.size, 0, none⟩ = some (.slice A2 n2.length c2) := (blk_cell HQ.out 0).trans rfl
  have fQ0 := blk_frozen HQ.out 0
  have lQ5 := blk_lt HQ.out
  have cE0 : w5.cell? ⟨w2.heap.size + 1, 0, none⟩ = some (.int .i64 behind) := (blk_cell HE.out 0).trans rfl
  have fE0 := blk_frozen HE.out 0
  have lE5 := blk_lt HE.out
  have cX0 : w5.cell? ⟨w4.heap.size, 0, none⟩ = some (.int .i64 0) := (blk_cell HX.out 0).trans rfl
  have fX0 := blk_frozen HX.out 0
  have lX5 := blk_lt HX.out
  go_wp2
  have fz : ((w5.setCell ⟨w.heap.size, 0, none⟩ (.int .i64 t0)).setCell ⟨w.heap.size, 1, none⟩ (.int .i64 t1)).heap[w.heap.size]? = some (.cells #[Value.int .i64 t0, Value.int .i64 t1] 23 (0, 0)) := heap_setCell_same _ _ 1 _ _ _ (heap_setCell_same _ _ 0 _ _ _ (HZ.out))
  refine bodyPost_ret (results_ct rfl _ _ (w.heap.size) 23 #[.int .i64 t0, .int .i64 t1] (0, 0) _ rfl fz Tryz.underlying23 rfl (by kernel_rfl)) rfl ?_
  exact ⟨rfl, ((HB.out).setCell (p := ⟨w.heap.size, 0, none⟩) (by simp only; omega) _).setCell (p := ⟨w.heap.size, 1, none⟩) (by simp only; omega) _⟩
set_option maxRecDepth 100000 in
set_option maxHeartbeats 8000000 in
theorem parse_PB (k : Nat) (s : ByteArray) (w : World) (hsz : ¬ (s.size : Int) > 60) (rest : ByteArray) (neg : Bool) (hc1 : strings_CutPrefix.f s minusS = some (rest, neg)) (n : List Int) (many : Int) (rest2 : ByteArray) (hn1 : real_number.f k rest [] = some (n, many, rest2)) (hmany : ¬ many = 0) (after : ByteArray) (hc2 : strings_CutPrefix.f rest2 dotS = some (after, true)) (n2 : List Int) (behind : Int) (rest3 : ByteArray) (hn2 : real_number.f k after n = some (n2, behind, rest3)) (hbeh : ¬ behind = 0) (hrest : rest3.toList ≠ []) (aft : ByteArray) (x : Int) (ok : Bool) (hc3 : strings_CutPrefix.f rest3 eS = some (aft, false)) (hx : real_exponent.f aft = some (x, ok)) :
    Calls Tryz.prog 25 #[.string s] w fun e w' => e = .returned (.tuple #[.agg #[.int .i64 0, .int .i64 0], .int .i64 7]) ∧ Below w.heap.size w w' := by
  have HB := Lib.hid (Below.refl w.heap.size w)
  go_enter Tryz.func25, Tryz.ntmps25
  go_wp2_with fail
  refine (strings_CutPrefix.calls s minusS rest neg _ hc1).mono ?_
  rintro e w1 ⟨rfl, hd⟩
  have hb := hd.below
  have nZ := Lib.hid (blk_below (new_at _ _ (w.heap.size) oz) hb)
  have nB := Lib.hid (((HB.out).alloc oz _).trans (hb.mono oz))
  have hs1 := hb.size
  try simp only [World.size_alloc, World.size_setCell] at hs1
  clear HB
  have HZ := nZ
  have HB := nB
  clear nB nZ
  clear hb hd
  have cZ0 : w1.cell? ⟨w.heap.size, 0, none⟩ = some (Value.int .i64 0) := (blk_cell HZ.out 0).trans rfl
  have fZ0 := blk_frozen HZ.out 0
  have cZ1 : w1.cell? ⟨w.heap.size, 1, none⟩ = some (Value.int .i64 0) := (blk_cell HZ.out 1).trans rfl
  have fZ1 := blk_frozen HZ.out 1
  have lZ1 := blk_lt HZ.out
  go_wp2_with fail
  refine (number_c k rest none 0 [] n many rest2 _ (nil_C _) (Nat.zero_le _) hn1).mono ?_
  rintro e w2 ⟨⟨v, hv, rfl⟩, hb⟩
  have nZ := Lib.hid (blk_below (blk_alloc (HZ.out) _) hb)
  have nG := Lib.hid (blk_below (new_at _ _ (w1.heap.size) oz) hb)
  have nB := Lib.hid (((HB.out).alloc oz _).trans (hb.mono oz))
  have hs2 := hb.size
  try simp only [World.size_alloc, World.size_setCell] at hs2
  clear HB HZ
  try clear cZ0 fZ0 cZ1 fZ1
  have HZ := nZ
  have HG := nG
  have HB := nB
  clear nB nZ nG
  clear hb
  have cZ0 : w2.cell? ⟨w.heap.size, 0, none⟩ = some (Value.int .i64 0) := (blk_cell HZ.out 0).trans rfl
  have fZ0 := blk_frozen HZ.out 0
  have cZ1 : w2.cell? ⟨w.heap.size, 1, none⟩ = some (Value.int .i64 0) := (blk_cell HZ.out 1).trans rfl
  have fZ1 := blk_frozen HZ.out 1
  have lZ2 := blk_lt HZ.out
  have cG0 : w2.cell? ⟨w1.heap.size, 0, none⟩ = some (.bool neg) := (blk_cell HG.out 0).trans rfl
  have fG0 := blk_frozen HG.out 0
  have lG2 := blk_lt HG.out
  obtain ⟨A, c, rfl, hc, hC⟩ := hv
  have HN := Lib.hid (show Nat32 w2 (.slice A n.length c) n from ⟨A, c, rfl, hc, hC⟩)
  clear hC
  go_wp2_with fail
  refine (strings_CutPrefix.calls rest2 dotS after true _ hc2).mono ?_
  rintro e w3 ⟨rfl, hd⟩
  have hb := hd.below
  have nZ := Lib.hid (blk_below (blk_alloc (blk_alloc (HZ.out) _) _) hb)
  have nG := Lib.hid (blk_below (blk_alloc (blk_alloc (HG.out) _) _) hb)
  have nQ := Lib.hid (blk_below (blk_alloc (new_at _ _ (w2.heap.size) oz) _) hb)
  have nE := Lib.hid (blk_below (new_at _ _ (w2.heap.size + 1) oz) hb)
  have nN := Lib.hid ((((HN.out).below ((Below.refl _ _).alloc (Nat.le_refl _) _)).below ((Below.refl _ _).alloc (Nat.le_refl _) _)).below hb)
  have nB := Lib.hid ((((HB.out).alloc oz _).alloc oz _).trans (hb.mono oz))
  have hs3 := hb.size
  try simp only [World.size_alloc, World.size_setCell] at hs3
  clear HB HZ HG HN
  try clear cZ0 fZ0 cZ1 fZ1 cG0 fG0
  have HZ := nZ
  have HG := nG
  have HQ := nQ
  have HE := nE
  have HN := nN
  have HB := nB
  clear nB nZ nG nQ nE nN
  clear hb hd
  have cZ0 : w3.cell? ⟨w.heap.size, 0, none⟩ = some (Value.int .i64 0) := (blk_cell HZ.out 0).trans rfl
  have fZ0 := blk_frozen HZ.out 0
  have cZ1 : w3.cell? ⟨w.heap.size, 1, none⟩ = some (Value.int .i64 0) := (blk_cell HZ.out 1).trans rfl
  have fZ1 := blk_frozen HZ.out 1
  have lZ3 := blk_lt HZ.out
  have cG0 : w3.cell? ⟨w1.heap.size, 0, none⟩ = some (.bool neg) := (blk_cell HG.out 0).trans rfl
  have fG0 := blk_frozen HG.out 0
  have lG3 := blk_lt HG.out
  have cQ0 : w3.cell? ⟨w2.heap.size, 0, none⟩ = some (.slice A n.length c) := (blk_cell HQ.out 0).trans rfl
  have fQ0 := blk_frozen HQ.out 0
  have lQ3 := blk_lt HQ.out
  have cE0 : w3.cell? ⟨w2.heap.size + 1, 0, none⟩ = some (.int .i64 0) := (blk_cell HE.out 0).trans rfl
  have fE0 := blk_frozen HE.out 0
  have lE3 := blk_lt HE.out
  have HN32 := HN.out
  obtain ⟨A', c', heq, hcc, hCC⟩ := HN32
  cases heq
  go_wp2_with fail
  refine (number_c k after A c n n2 behind rest3 _ hCC hcc hn2).mono ?_
  rintro e w4 ⟨⟨v, hv, rfl⟩, hb⟩
  have nZ := Lib.hid (blk_below (HZ.out) hb)
  have nG := Lib.hid (blk_below (HG.out) hb)
  have nQ := Lib.hid (blk_below (HQ.out) hb)
  have nE := Lib.hid (blk_below (HE.out) hb)
  have nN := Lib.hid ((HN.out).below hb)
  have nB := Lib.hid ((HB.out).trans (hb.mono oz))
  have hs4 := hb.size
  try simp only [World.size_alloc, World.size_setCell] at hs4
  clear HB HZ HG HQ HE HN
  try clear cZ0 fZ0 cZ1 fZ1 cG0 fG0 cQ0 fQ0 cE0 fE0
  have HZ := nZ
  have HG := nG
  have HQ := nQ
  have HE := nE
  have HN := nN
  have HB := nB
  clear nB nZ nG nQ nE nN
  clear hb
  have cZ0 : w4.cell? ⟨w.heap.size, 0, none⟩ = some (Value.int .i64 0) := (blk_cell HZ.out 0).trans rfl
  have fZ0 := blk_frozen HZ.out 0
  have cZ1 : w4.cell? ⟨w.heap.size, 1, none⟩ = some (Value.int .i64 0) := (blk_cell HZ.out 1).trans rfl
  have fZ1 := blk_frozen HZ.out 1
  have lZ4 := blk_lt HZ.out
  have cG0 : w4.cell? ⟨w1.heap.size, 0, none⟩ = some (.bool neg) := (blk_cell HG.out 0).trans rfl
  have fG0 := blk_frozen HG.out 0
  have lG4 := blk_lt HG.out
  have cQ0 : w4.cell? ⟨w2.heap.size, 0, none⟩ = some (.slice A n.length c) := (blk_cell HQ.out 0).trans rfl
  have fQ0 := blk_frozen HQ.out 0
  have lQ4 := blk_lt HQ.out
  have cE0 : w4.cell? ⟨w2.heap.size + 1, 0, none⟩ = some (.int .i64 0) := (blk_cell HE.out 0).trans rfl
  have fE0 := blk_frozen HE.out 0
  have lE4 := blk_lt HE.out
  clear HN hCC
  obtain ⟨A2, c2, rfl, hc2', hC2⟩ := hv
  have HN := Lib.hid (show Nat32 w4 (.slice A2 n2.length c2) n2 from ⟨A2, c2, rfl, hc2', hC2⟩)
  clear hC2
  have hre : (rest3.toList == []) = false := by simpa using hrest
  have hri : rest3.toList.isEmpty = false := by simpa using hrest
  go_wp2_with fail
  refine (strings_CutPrefix.calls rest3 eS aft false _ hc3).mono ?_
  rintro e w5 ⟨rfl, hd⟩
  have hb := hd.below
  have nZ := Lib.hid (blk_below (blk_alloc ((heap_setCell_other _ _ _ _ (by simp only; omega)).trans ((heap_setCell_other _ _ _ _ (by simp only; omega)).trans (HZ.out))) _) hb)
  have nG := Lib.hid (blk_below (blk_alloc ((heap_setCell_other _ _ _ _ (by simp only; omega)).trans ((heap_setCell_other _ _ _ _ (by simp only; omega)).trans (HG.out))) _) hb)
  have nQ := Lib.hid (blk_below (blk_alloc ((heap_setCell_other _ _ _ _ (by simp only; omega)).trans (heap_setCell_same _ _ 0 _ _ _ (HQ.out))) _) hb)
  have nE := Lib.hid (blk_below (blk_alloc (heap_setCell_same _ _ 0 _ _ _ ((heap_setCell_other _ _ _ _ (by simp only; omega)).trans (HE.out))) _) hb)
  have nX := Lib.hid (blk_below (new_at _ _ (w4.heap.size) oz) hb)
  have nN := Lib.hid (((nat32_set (nat32_set (HN.out) (HQ.out) (fun _ h => by cases h)) ((heap_setCell_other _ _ _ _ (by simp only; omega)).trans (HE.out)) (fun _ h => by cases h)).below ((Below.refl _ _).alloc (Nat.le_refl _) _)).below hb)
  have nB := Lib.hid (((((HB.out).setCell (p := ⟨w2.heap.size, 0, none⟩) (by simp only; omega) _).setCell (p := ⟨w2.heap.size + 1, 0, none⟩) (by simp only; omega) _).alloc oz _).trans (hb.mono oz))
  have hs5 := hb.size
  try simp only [World.size_alloc, World.size_setCell] at hs5
  clear HB HZ HG HQ HE HN
  try clear cZ0 fZ0 cZ1 fZ1 cG0 fG0 cQ0 fQ0 cE0 fE0
  have HZ := nZ
  have HG := nG
  have HQ := nQ
  have HE := nE
  have HX := nX
  have HN := nN
  have HB := nB
  clear nB nZ nG nQ nE nX nN
  clear hb hd
  have cZ0 : w5.cell? ⟨w.heap.size, 0, none⟩ = some (Value.int .i64 0) := (blk_cell HZ.out 0).trans rfl
  have fZ0 := blk_frozen HZ.out 0
  have cZ1 : w5.cell? ⟨w.heap.size, 1, none⟩ = some (Value.int .i64 0) := (blk_cell HZ.out 1).trans rfl
  have fZ1 := blk_frozen HZ.out 1
  have lZ5 := blk_lt HZ.out
  have cG0 : w5.cell? ⟨w1.heap.size, 0, none⟩ = some (.bool neg) := (blk_cell HG.out 0).trans rfl
  have fG0 := blk_frozen HG.out 0
  have lG5 := blk_lt HG.out
  have cQ0 : w5.cell? ⟨w2.heap.size, 0, none⟩ = some (.slice A2 n2.length c2) := (blk_cell HQ.out 0).trans rfl
  have fQ0 := blk_frozen HQ.out 0
  have lQ5 := blk_lt HQ.out
  have cE0 : w5.cell? ⟨w2.heap.size + 1, 0, none⟩ = some (.int .i64 behind) := (blk_cell HE.out 0).trans rfl
  have fE0 := blk_frozen HE.out 0
  have lE5 := blk_lt HE.out
  have cX0 : w5.cell? ⟨w4.heap.size, 0, none⟩ = some (.int .i64 0) := (blk_cell HX.out 0).trans rfl
  have fX0 := blk_frozen HX.out 0
  have lX5 := blk_lt HX.out
  go_wp2_with fail
  refine (real_exponent.calls aft x ok _ hx).mono ?_
  rintro e w6 ⟨rfl, hb⟩
  have nZ := Lib.hid (blk_below (HZ.out) hb)
  have nG := Lib.hid (blk_below (HG.out) hb)
  have nQ := Lib.hid (blk_below (HQ.out) hb)
  have nE := Lib.hid (blk_below (HE.out) hb)
  have nX := Lib.hid (blk_below (HX.out) hb)
  have nN := Lib.hid ((HN.out).below hb)
  have nB := Lib.hid ((HB.out).trans (hb.mono oz))
  have hs6 := hb.size
  try simp only [World.size_alloc, World.size_setCell] at hs6
  clear HB HZ HG HQ HE HX HN
  try clear cZ0 fZ0 cZ1 fZ1 cG0 fG0 cQ0 fQ0 cE0 fE0 cX0 fX0
  have HZ := nZ
  have HG := nG
  have HQ := nQ
  have HE := nE
  have HX := nX
  have HN := nN
  have HB := nB
  clear nB nZ nG nQ nE nX nN
  clear hb
  have cZ0 : w6.cell? ⟨w.heap.size, 0, none⟩ = some (Value.int .i64 0) := (blk_cell HZ.out 0).trans rfl
  have fZ0 := blk_frozen HZ.out 0
  have cZ1 : w6.cell? ⟨w.heap.size, 1, none⟩ = some (Value.int .i64 0) := (blk_cell HZ.out 1).trans rfl
  have fZ1 := blk_frozen HZ.out 1
  have lZ6 := blk_lt HZ.out
  have cG0 : w6.cell? ⟨w1.heap.size, 0, none⟩ = some (.bool neg) := (blk_cell HG.out 0).trans rfl
  have fG0 := blk_frozen HG.out 0
  have lG6 := blk_lt HG.out
  have cQ0 : w6.cell? ⟨w2.heap.size, 0, none⟩ = some (.slice A2 n2.length c2) := (blk_cell HQ.out 0).trans rfl
  have fQ0 := blk_frozen HQ.out 0
  have lQ6 := blk_lt HQ.out
  have cE0 : w6.cell? ⟨w2.heap.size + 1, 0, none⟩ = some (.int .i64 behind) := (blk_cell HE.out 0).trans rfl
  have fE0 := blk_frozen HE.out 0
  have lE6 := blk_lt HE.out
  have cX0 : w6.cell? ⟨w4.heap.size, 0, none⟩ = some (.int .i64 0) := (blk_cell HX.out 0).trans rfl
  have fX0 := blk_frozen HX.out 0
  have lX6 := blk_lt HX.out
  go_wp2
  have fz : ((w6.setCell ⟨w.heap.size, 0, none⟩ (.int .i64 0)).setCell ⟨w.heap.size, 1, none⟩ (.int .i64 0)).heap[w.heap.size]? = some (.cells #[Value.int .i64 0, Value.int .i64 0] 23 (0, 0)) := heap_setCell_same _ _ 1 _ _ _ (heap_setCell_same _ _ 0 _ _ _ (HZ.out))
  refine bodyPost_ret (results_ct rfl _ _ (w.heap.size) 23 #[.int .i64 0, .int .i64 0] (0, 0) _ rfl fz Tryz.underlying23 rfl (by kernel_rfl)) rfl ?_
  exact ⟨rfl, ((HB.out).setCell (p := ⟨w.heap.size, 0, none⟩) (by simp only; omega) _).setCell (p := ⟨w.heap.size, 1, none⟩) (by simp only; omega) _⟩
set_option maxRecDepth 100000 in
set_option maxHeartbeats 8000000 in
theorem parse_PC (k : Nat) (s : ByteArray) (w : World) (hsz : ¬ (s.size : Int) > 60) (rest : ByteArray) (neg : Bool) (hc1 : strings_CutPrefix.f s minusS = some (rest, neg)) (n : List Int) (many : Int) (rest2 : ByteArray) (hn1 : real_number.f k rest [] = some (n, many, rest2)) (hmany : ¬ many = 0) (after : ByteArray) (hc2 : strings_CutPrefix.f rest2 dotS = some (after, true)) (n2 : List Int) (behind : Int) (rest3 : ByteArray) (hn2 : real_number.f k after n = some (n2, behind, rest3)) (hbeh : ¬ behind = 0) (hrest : rest3.toList ≠ []) (aft : ByteArray) (x : Int) (hc3 : strings_CutPrefix.f rest3 eS = some (aft, true)) (hx : real_exponent.f aft = some (x, false)) :
    Calls Tryz.prog 25 #[.string s] w fun e w' => e = .returned (.tuple #[.agg #[.int .i64 0, .int .i64 0], .int .i64 7]) ∧ Below w.heap.size w w' := by
  have HB := Lib.hid (Below.refl w.heap.size w)
  go_enter Tryz.func25, Tryz.ntmps25
  go_wp2_with fail
  refine (strings_CutPrefix.calls s minusS rest neg _ hc1).mono ?_
  rintro e w1 ⟨rfl, hd⟩
  have hb := hd.below
  have nZ := Lib.hid (blk_below (new_at _ _ (w.heap.size) oz) hb)
  have nB := Lib.hid (((HB.out).alloc oz _).trans (hb.mono oz))
  have hs1 := hb.size
  try simp only [World.size_alloc, World.size_setCell] at hs1
  clear HB
  have HZ := nZ
  have HB := nB
  clear nB nZ
  clear hb hd
  have cZ0 : w1.cell? ⟨w.heap.size, 0, none⟩ = some (Value.int .i64 0) := (blk_cell HZ.out 0).trans rfl
  have fZ0 := blk_frozen HZ.out 0
  have cZ1 : w1.cell? ⟨w.heap.size, 1, none⟩ = some (Value.int .i64 0) := (blk_cell HZ.out 1).trans rfl
  have fZ1 := blk_frozen HZ.out 1
  have lZ1 := blk_lt HZ.out
  go_wp2_with fail
  refine (number_c k rest none 0 [] n many rest2 _ (nil_C _) (Nat.zero_le _) hn1).mono ?_
  rintro e w2 ⟨⟨v, hv, rfl⟩, hb⟩
  have nZ := Lib.hid (blk_below (blk_alloc (HZ.out) _) hb)
  have nG := Lib.hid (blk_below (new_at _ _ (w1.heap.size) oz) hb)
  have nB := Lib.hid (((HB.out).alloc oz _).trans (hb.mono oz))
  have hs2 := hb.size
  try simp only [World.size_alloc, World.size_setCell] at hs2
  clear HB HZ
  try clear cZ0 fZ0 cZ1 fZ1
  have HZ := nZ
  have HG := nG
  have HB := nB
  clear nB nZ nG
  clear hb
  have cZ0 : w2.cell? ⟨w.heap.size, 0, none⟩ = some (Value.int .i64 0) := (blk_cell HZ.out 0).trans rfl
  have fZ0 := blk_frozen HZ.out 0
  have cZ1 : w2.cell? ⟨w.heap.size, 1, none⟩ = some (Value.int .i64 0) := (blk_cell HZ.out 1).trans rfl
  have fZ1 := blk_frozen HZ.out 1
  have lZ2 := blk_lt HZ.out
  have cG0 : w2.cell? ⟨w1.heap.size, 0, none⟩ = some (.bool neg) := (blk_cell HG.out 0).trans rfl
  have fG0 := blk_frozen HG.out 0
  have lG2 := blk_lt HG.out
  obtain ⟨A, c, rfl, hc, hC⟩ := hv
  have HN := Lib.hid (show Nat32 w2 (.slice A n.length c) n from ⟨A, c, rfl, hc, hC⟩)
  clear hC
  go_wp2_with fail
  refine (strings_CutPrefix.calls rest2 dotS after true _ hc2).mono ?_
  rintro e w3 ⟨rfl, hd⟩
  have hb := hd.below
  have nZ := Lib.hid (blk_below (blk_alloc (blk_alloc (HZ.out) _) _) hb)
  have nG := Lib.hid (blk_below (blk_alloc (blk_alloc (HG.out) _) _) hb)
  have nQ := Lib.hid (blk_below (blk_alloc (new_at _ _ (w2.heap.size) oz) _) hb)
  have nE := Lib.hid (blk_below (new_at _ _ (w2.heap.size + 1) oz) hb)
  have nN := Lib.hid ((((HN.out).below ((Below.refl _ _).alloc (Nat.le_refl _) _)).below ((Below.refl _ _).alloc (Nat.le_refl _) _)).below hb)
  have nB := Lib.hid ((((HB.out).alloc oz _).alloc oz _).trans (hb.mono oz))
  have hs3 := hb.size
  try simp only [World.size_alloc, World.size_setCell] at hs3
  clear HB HZ HG HN
  try clear cZ0 fZ0 cZ1 fZ1 cG0 fG0
  have HZ := nZ
  have HG := nG
  have HQ := nQ
  have HE := nE
  have HN := nN
  have HB := nB
  clear nB nZ nG nQ nE nN
  clear hb hd
  have cZ0 : w3.cell? ⟨w.heap.size, 0, none⟩ = some (Value.int .i64 0) := (blk_cell HZ.out 0).trans rfl
  have fZ0 := blk_frozen HZ.out 0
  have cZ1 : w3.cell? ⟨w.heap.size, 1, none⟩ = some (Value.int .i64 0) := (blk_cell HZ.out 1).trans rfl
  have fZ1 := blk_frozen HZ.out 1
  have lZ3 := blk_lt HZ.out
  have cG0 : w3.cell? ⟨w1.heap.size, 0, none⟩ = some (.bool neg) := (blk_cell HG.out 0).trans rfl
  have fG0 := blk_frozen HG.out 0
  have lG3 := blk_lt HG.out
  have cQ0 : w3.cell? ⟨w2.heap.size, 0, none⟩ = some (.slice A n.length c) := (blk_cell HQ.out 0).trans rfl
  have fQ0 := blk_frozen HQ.out 0
  have lQ3 := blk_lt HQ.out
  have cE0 : w3.cell? ⟨w2.heap.size + 1, 0, none⟩ = some (.int .i64 0) := (blk_cell HE.out 0).trans rfl
  have fE0 := blk_frozen HE.out 0
  have lE3 := blk_lt HE.out
  have HN32 := HN.out
  obtain ⟨A', c', heq, hcc, hCC⟩ := HN32
  cases heq
  go_wp2_with fail
  refine (number_c k after A c n n2 behind rest3 _ hCC hcc hn2).mono ?_
  rintro e w4 ⟨⟨v, hv, rfl⟩, hb⟩
  have nZ := Lib.hid (blk_below (HZ.out) hb)
  have nG := Lib.hid (blk_below (HG.out) hb)
  have nQ := Lib.hid (blk_below (HQ.out) hb)
  have nE := Lib.hid (blk_below (HE.out) hb)
  have nN := Lib.hid ((HN.out).below hb)
  have nB := Lib.hid ((HB.out).trans (hb.mono oz))
  have hs4 := hb.size
  try simp only [World.size_alloc, World.size_setCell] at hs4
  clear HB HZ HG HQ HE HN
  try clear cZ0 fZ0 cZ1 fZ1 cG0 fG0 cQ0 fQ0 cE0 fE0
  have HZ := nZ
  have HG := nG
  have HQ := nQ
  have HE := nE
  have HN := nN
  have HB := nB
  clear nB nZ nG nQ nE nN
  clear hb
  have cZ0 : w4.cell? ⟨w.heap.size, 0, none⟩ = some (Value.int .i64 0) := (blk_cell HZ.out 0).trans rfl
  have fZ0 := blk_frozen HZ.out 0
  have cZ1 : w4.cell? ⟨w.heap.size, 1, none⟩ = some (Value.int .i64 0) := (blk_cell HZ.out 1).trans rfl
  have fZ1 := blk_frozen HZ.out 1
  have lZ4 := blk_lt HZ.out
  have cG0 : w4.cell? ⟨w1.heap.size, 0, none⟩ = some (.bool neg) := (blk_cell HG.out 0).trans rfl
  have fG0 := blk_frozen HG.out 0
  have lG4 := blk_lt HG.out
  have cQ0 : w4.cell? ⟨w2.heap.size, 0, none⟩ = some (.slice A n.length c) := (blk_cell HQ.out 0).trans rfl
  have fQ0 := blk_frozen HQ.out 0
  have lQ4 := blk_lt HQ.out
  have cE0 : w4.cell? ⟨w2.heap.size + 1, 0, none⟩ = some (.int .i64 0) := (blk_cell HE.out 0).trans rfl
  have fE0 := blk_frozen HE.out 0
  have lE4 := blk_lt HE.out
  clear HN hCC
  obtain ⟨A2, c2, rfl, hc2', hC2⟩ := hv
  have HN := Lib.hid (show Nat32 w4 (.slice A2 n2.length c2) n2 from ⟨A2, c2, rfl, hc2', hC2⟩)
  clear hC2
  have hre : (rest3.toList == []) = false := by simpa using hrest
  have hri : rest3.toList.isEmpty = false := by simpa using hrest
  go_wp2_with fail
  refine (strings_CutPrefix.calls rest3 eS aft true _ hc3).mono ?_
  rintro e w5 ⟨rfl, hd⟩
  have hb := hd.below
  have nZ := Lib.hid (blk_below (blk_alloc ((heap_setCell_other _ _ _ _ (by simp only; omega)).trans ((heap_setCell_other _ _ _ _ (by simp only; omega)).trans (HZ.out))) _) hb)
  have nG := Lib.hid (blk_below (blk_alloc ((heap_setCell_other _ _ _ _ (by simp only; omega)).trans ((heap_setCell_other _ _ _ _ (by simp only; omega)).trans (HG.out))) _) hb)
  have nQ := Lib.hid (blk_below (blk_alloc ((heap_setCell_other _ _ _ _ (by simp only; omega)).trans (heap_setCell_same _ _ 0 _ _ _ (HQ.out))) _) hb)
  have nE := Lib.hid (blk_below (blk_alloc (heap_setCell_same _ _ 0 _ _ _ ((heap_setCell_other _ _ _ _ (by simp only; omega)).trans (HE.out))) _) hb)
  have nX := Lib.hid (blk_below (new_at _ _ (w4.heap.size) oz) hb)
  have nN := Lib.hid (((nat32_set (nat32_set (HN.out) (HQ.out) (fun _ h => by cases h)) ((heap_setCell_other _ _ _ _ (by simp only; omega)).trans (HE.out)) (fun _ h => by cases h)).below ((Below.refl _ _).alloc (Nat.le_refl _) _)).below hb)
  have nB := Lib.hid (((((HB.out).setCell (p := ⟨w2.heap.size, 0, none⟩) (by simp only; omega) _).setCell (p := ⟨w2.heap.size + 1, 0, none⟩) (by simp only; omega) _).alloc oz _).trans (hb.mono oz))
  have hs5 := hb.size
  try simp only [World.size_alloc, World.size_setCell] at hs5
  clear HB HZ HG HQ HE HN
  try clear cZ0 fZ0 cZ1 fZ1 cG0 fG0 cQ0 fQ0 cE0 fE0
  have HZ := nZ
  have HG := nG
  have HQ := nQ
  have HE := nE
  have HX := nX
  have HN := nN
  have HB := nB
  clear nB nZ nG nQ nE nX nN
  clear hb hd
  have cZ0 : w5.cell? ⟨w.heap.size, 0, none⟩ = some (Value.int .i64 0) := (blk_cell HZ.out 0).trans rfl
  have fZ0 := blk_frozen HZ.out 0
  have cZ1 : w5.cell? ⟨w.heap.size, 1, none⟩ = some (Value.int .i64 0) := (blk_cell HZ.out 1).trans rfl
  have fZ1 := blk_frozen HZ.out 1
  have lZ5 := blk_lt HZ.out
  have cG0 : w5.cell? ⟨w1.heap.size, 0, none⟩ = some (.bool neg) := (blk_cell HG.out 0).trans rfl
  have fG0 := blk_frozen HG.out 0
  have lG5 := blk_lt HG.out
  have cQ0 : w5.cell? ⟨w2.heap.size, 0, none⟩ = some (.slice A2 n2.length c2) := (blk_cell HQ.out 0).trans rfl
  have fQ0 := blk_frozen HQ.out 0
  have lQ5 := blk_lt HQ.out
  have cE0 : w5.cell? ⟨w2.heap.size + 1, 0, none⟩ = some (.int .i64 behind) := (blk_cell HE.out 0).trans rfl
  have fE0 := blk_frozen HE.out 0
  have lE5 := blk_lt HE.out
  have cX0 : w5.cell? ⟨w4.heap.size, 0, none⟩ = some (.int .i64 0) := (blk_cell HX.out 0).trans rfl
  have fX0 := blk_frozen HX.out 0
  have lX5 := blk_lt HX.out
  go_wp2_with fail
  refine (real_exponent.calls aft x false _ hx).mono ?_
  rintro e w6 ⟨rfl, hb⟩
  have nZ := Lib.hid (blk_below (HZ.out) hb)
  have nG := Lib.hid (blk_below (HG.out) hb)
  have nQ := Lib.hid (blk_below (HQ.out) hb)
  have nE := Lib.hid (blk_below (HE.out) hb)
  have nX := Lib.hid (blk_below (HX.out) hb)
  have nN := Lib.hid ((HN.out).below hb)
  have nB := Lib.hid ((HB.out).trans (hb.mono oz))
  have hs6 := hb.size
  try simp only [World.size_alloc, World.size_setCell] at hs6
  clear HB HZ HG HQ HE HX HN
  try clear cZ0 fZ0 cZ1 fZ1 cG0 fG0 cQ0 fQ0 cE0 fE0 cX0 fX0
  have HZ := nZ
  have HG := nG
  have HQ := nQ
  have HE := nE
  have HX := nX
  have HN := nN
  have HB := nB
  clear nB nZ nG nQ nE nX nN
  clear hb
  have cZ0 : w6.cell? ⟨w.heap.size, 0, none⟩ = some (Value.int .i64 0) := (blk_cell HZ.out 0).trans rfl
  have fZ0 := blk_frozen HZ.out 0
  have cZ1 : w6.cell? ⟨w.heap.size, 1, none⟩ = some (Value.int .i64 0) := (blk_cell HZ.out 1).trans rfl
  have fZ1 := blk_frozen HZ.out 1
  have lZ6 := blk_lt HZ.out
  have cG0 : w6.cell? ⟨w1.heap.size, 0, none⟩ = some (.bool neg) := (blk_cell HG.out 0).trans rfl
  have fG0 := blk_frozen HG.out 0
  have lG6 := blk_lt HG.out
  have cQ0 : w6.cell? ⟨w2.heap.size, 0, none⟩ = some (.slice A2 n2.length c2) := (blk_cell HQ.out 0).trans rfl
  have fQ0 := blk_frozen HQ.out 0
  have lQ6 := blk_lt HQ.out
  have cE0 : w6.cell? ⟨w2.heap.size + 1, 0, none⟩ = some (.int .i64 behind) := (blk_cell HE.out 0).trans rfl
  have fE0 := blk_frozen HE.out 0
  have lE6 := blk_lt HE.out
  have cX0 : w6.cell? ⟨w4.heap.size, 0, none⟩ = some (.int .i64 0) := (blk_cell HX.out 0).trans rfl
  have fX0 := blk_frozen HX.out 0
  have lX6 := blk_lt HX.out
  go_wp2
  have fz : ((w6.setCell ⟨w.heap.size, 0, none⟩ (.int .i64 0)).setCell ⟨w.heap.size, 1, none⟩ (.int .i64 0)).heap[w.heap.size]? = some (.cells #[Value.int .i64 0, Value.int .i64 0] 23 (0, 0)) := heap_setCell_same _ _ 1 _ _ _ (heap_setCell_same _ _ 0 _ _ _ (HZ.out))
  refine bodyPost_ret (results_ct rfl _ _ (w.heap.size) 23 #[.int .i64 0, .int .i64 0] (0, 0) _ rfl fz Tryz.underlying23 rfl (by kernel_rfl)) rfl ?_
  exact ⟨rfl, ((HB.out).setCell (p := ⟨w.heap.size, 0, none⟩) (by simp only; omega) _).setCell (p := ⟨w.heap.size, 1, none⟩) (by simp only; omega) _⟩
set_option maxRecDepth 100000 in
set_option maxHeartbeats 8000000 in
theorem parse_PF (k : Nat) (s : ByteArray) (w : World) (hsz : ¬ (s.size : Int) > 60) (rest : ByteArray) (neg : Bool) (hc1 : strings_CutPrefix.f s minusS = some (rest, neg)) (n : List Int) (many : Int) (rest2 : ByteArray) (hn1 : real_number.f k rest [] = some (n, many, rest2)) (hmany : ¬ many = 0) (after : ByteArray) (hc2 : strings_CutPrefix.f rest2 dotS = some (after, true)) (n2 : List Int) (behind : Int) (rest3 : ByteArray) (hn2 : real_number.f k after n = some (n2, behind, rest3)) (hbeh : ¬ behind = 0) (hrest : rest3.toList ≠ []) (aft : ByteArray) (x : Int) (hc3 : strings_CutPrefix.f rest3 eS = some (aft, true)) (hx : real_exponent.f aft = some (x, true)) (m y r1 r2 t0 t1 t2 : Int) (hd1 : real_decimal.f k n2 (wrap64 (x - behind)) = some (m, y)) (hsg : real_signed.f neg m y = some (r1, r2)) (ht : caughtS r1 r2 = (t0, t1, t2)) :
    Calls Tryz.prog 25 #[.string s] w fun e w' => e = .returned (.tuple #[.agg #[.int .i64 t0, .int .i64 t1], .int .i64 t2]) ∧ Below w.heap.size w w' := by
  have HB := Lib.hid (Below.refl w.heap.size w)
  go_enter Tryz.func25, Tryz.ntmps25
  go_wp2_with fail
  refine (strings_CutPrefix.calls s minusS rest neg _ hc1).mono ?_
  rintro e w1 ⟨rfl, hd⟩
  have hb := hd.below
  have nZ := Lib.hid (blk_below (new_at _ _ (w.heap.size) oz) hb)
  have nB := Lib.hid (((HB.out).alloc oz _).trans (hb.mono oz))
  have hs1 := hb.size
  try simp only [World.size_alloc, World.size_setCell] at hs1
  clear HB
  have HZ := nZ
  have HB := nB
  clear nB nZ
  clear hb hd
  have cZ0 : w1.cell? ⟨w.heap.size, 0, none⟩ = some (Value.int .i64 0) := (blk_cell HZ.out 0).trans rfl
  have fZ0 := blk_frozen HZ.out 0
  have cZ1 : w1.cell? ⟨w.heap.size, 1, none⟩ = some (Value.int .i64 0) := (blk_cell HZ.out 1).trans rfl
  have fZ1 := blk_frozen HZ.out 1
  have lZ1 := blk_lt HZ.out
  go_wp2_with fail
  refine (number_c k rest none 0 [] n many rest2 _ (nil_C _) (Nat.zero_le _) hn1).mono ?_
  rintro e w2 ⟨⟨v, hv, rfl⟩, hb⟩
  have nZ := Lib.hid (blk_below (blk_alloc (HZ.out) _) hb)
  have nG := Lib.hid (blk_below (new_at _ _ (w1.heap.size) oz) hb)
  have nB := Lib.hid (((HB.out).alloc oz _).trans (hb.mono oz))
  have hs2 := hb.size
  try simp only [World.size_alloc, World.size_setCell] at hs2
  clear HB HZ
  try clear cZ0 fZ0 cZ1 fZ1
  have HZ := nZ
  have HG := nG
  have HB := nB
  clear nB nZ nG
  clear hb
  have cZ0 : w2.cell? ⟨w.heap.size, 0, none⟩ = some (Value.int .i64 0) := (blk_cell HZ.out 0).trans rfl
  have fZ0 := blk_frozen HZ.out 0
  have cZ1 : w2.cell? ⟨w.heap.size, 1, none⟩ = some (Value.int .i64 0) := (blk_cell HZ.out 1).trans rfl
  have fZ1 := blk_frozen HZ.out 1
  have lZ2 := blk_lt HZ.out
  have cG0 : w2.cell? ⟨w1.heap.size, 0, none⟩ = some (.bool neg) := (blk_cell HG.out 0).trans rfl
  have fG0 := blk_frozen HG.out 0
  have lG2 := blk_lt HG.out
  obtain ⟨A, c, rfl, hc, hC⟩ := hv
  have HN := Lib.hid (show Nat32 w2 (.slice A n.length c) n from ⟨A, c, rfl, hc, hC⟩)
  clear hC
  go_wp2_with fail
  refine (strings_CutPrefix.calls rest2 dotS after true _ hc2).mono ?_
  rintro e w3 ⟨rfl, hd⟩
  have hb := hd.below
  have nZ := Lib.hid (blk_below (blk_alloc (blk_alloc (HZ.out) _) _) hb)
  have nG := Lib.hid (blk_below (blk_alloc (blk_alloc (HG.out) _) _) hb)
  have nQ := Lib.hid (blk_below (blk_alloc (new_at _ _ (w2.heap.size) oz) _) hb)
  have nE := Lib.hid (blk_below (new_at _ _ (w2.heap.size + 1) oz) hb)
  have nN := Lib.hid ((((HN.out).below ((Below.refl _ _).alloc (Nat.le_refl _) _)).below ((Below.refl _ _).alloc (Nat.le_refl _) _)).below hb)
  have nB := Lib.hid ((((HB.out).alloc oz _).alloc oz _).trans (hb.mono oz))
  have hs3 := hb.size
  try simp only [World.size_alloc, World.size_setCell] at hs3
  clear HB HZ HG HN
  try clear cZ0 fZ0 cZ1 fZ1 cG0 fG0
  have HZ := nZ
  have HG := nG
  have HQ := nQ
  have HE := nE
  have HN := nN
  have HB := nB
  clear nB nZ nG nQ nE nN
  clear hb hd
  have cZ0 : w3.cell? ⟨w.heap.size, 0, none⟩ = some (Value.int .i64 0) := (blk_cell HZ.out 0).trans rfl
  have fZ0 := blk_frozen HZ.out 0
  have cZ1 : w3.cell? ⟨w.heap.size, 1, none⟩ = some (Value.int .i64 0) := (blk_cell HZ.out 1).trans rfl
  have fZ1 := blk_frozen HZ.out 1
  have lZ3 := blk_lt HZ.out
  have cG0 : w3.cell? ⟨w1.heap.size, 0, none⟩ = some (.bool neg) := (blk_cell HG.out 0).trans rfl
  have fG0 := blk_frozen HG.out 0
  have lG3 := blk_lt HG.out
  have cQ0 : w3.cell? ⟨w2.heap.size, 0, none⟩ = some (.slice A n.length c) := (blk_cell HQ.out 0).trans rfl
  have fQ0 := blk_frozen HQ.out 0
  have lQ3 := blk_lt HQ.out
  have cE0 : w3.cell? ⟨w2.heap.size + 1, 0, none⟩ = some (.int .i64 0) := (blk_cell HE.out 0).trans rfl
  have fE0 := blk_frozen HE.out 0
  have lE3 := blk_lt HE.out
  have HN32 := HN.out
  obtain ⟨A', c', heq, hcc, hCC⟩ := HN32
  cases heq
  go_wp2_with fail
  refine (number_c k after A c n n2 behind rest3 _ hCC hcc hn2).mono ?_
  rintro e w4 ⟨⟨v, hv, rfl⟩, hb⟩
  have nZ := Lib.hid (blk_below (HZ.out) hb)
  have nG := Lib.hid (blk_below (HG.out) hb)
  have nQ := Lib.hid (blk_below (HQ.out) hb)
  have nE := Lib.hid (blk_below (HE.out) hb)
  have nN := Lib.hid ((HN.out).below hb)
  have nB := Lib.hid ((HB.out).trans (hb.mono oz))
  have hs4 := hb.size
  try simp only [World.size_alloc, World.size_setCell] at hs4
  clear HB HZ HG HQ HE HN
  try clear cZ0 fZ0 cZ1 fZ1 cG0 fG0 cQ0 fQ0 cE0 fE0
  have HZ := nZ
  have HG := nG
  have HQ := nQ
  have HE := nE
  have HN := nN
  have HB := nB
  clear nB nZ nG nQ nE nN
  clear hb
  have cZ0 : w4.cell? ⟨w.heap.size, 0, none⟩ = some (Value.int .i64 0) := (blk_cell HZ.out 0).trans rfl
  have fZ0 := blk_frozen HZ.out 0
  have cZ1 : w4.cell? ⟨w.heap.size, 1, none⟩ = some (Value.int .i64 0) := (blk_cell HZ.out 1).trans rfl
  have fZ1 := blk_frozen HZ.out 1
  have lZ4 := blk_lt HZ.out
  have cG0 : w4.cell? ⟨w1.heap.size, 0, none⟩ = some (.bool neg) := (blk_cell HG.out 0).trans rfl
  have fG0 := blk_frozen HG.out 0
  have lG4 := blk_lt HG.out
  have cQ0 : w4.cell? ⟨w2.heap.size, 0, none⟩ = some (.slice A n.length c) := (blk_cell HQ.out 0).trans rfl
  have fQ0 := blk_frozen HQ.out 0
  have lQ4 := blk_lt HQ.out
  have cE0 : w4.cell? ⟨w2.heap.size + 1, 0, none⟩ = some (.int .i64 0) := (blk_cell HE.out 0).trans rfl
  have fE0 := blk_frozen HE.out 0
  have lE4 := blk_lt HE.out
  clear HN hCC
  obtain ⟨A2, c2, rfl, hc2', hC2⟩ := hv
  have HN := Lib.hid (show Nat32 w4 (.slice A2 n2.length c2) n2 from ⟨A2, c2, rfl, hc2', hC2⟩)
  clear hC2
  have hre : (rest3.toList == []) = false := by simpa using hrest
  have hri : rest3.toList.isEmpty = false := by simpa using hrest
  go_wp2_with fail
  refine (strings_CutPrefix.calls rest3 eS aft true _ hc3).mono ?_
  rintro e w5 ⟨rfl, hd⟩
  have hb := hd.below
  have nZ := Lib.hid (blk_below (blk_alloc ((heap_setCell_other _ _ _ _ (by simp only; omega)).trans ((heap_setCell_other _ _ _ _ (by simp only; omega)).trans (HZ.out))) _) hb)
  have nG := Lib.hid (blk_below (blk_alloc ((heap_setCell_other _ _ _ _ (by simp only; omega)).trans ((heap_setCell_other _ _ _ _ (by simp only; omega)).trans (HG.out))) _) hb)
  have nQ := Lib.hid (blk_below (blk_alloc ((heap_setCell_other _ _ _ _ (by simp only; omega)).trans (heap_setCell_same _ _ 0 _ _ _ (HQ.out))) _) hb)
  have nE := Lib.hid (blk_below (blk_alloc (heap_setCell_same _ _ 0 _ _ _ ((heap_setCell_other _ _ _ _ (by simp only; omega)).trans (HE.out))) _) hb)
  have nX := Lib.hid (blk_below (new_at _ _ (w4.heap.size) oz) hb)
  have nN := Lib.hid (((nat32_set (nat32_set (HN.out) (HQ.out) (fun _ h => by cases h)) ((heap_setCell_other _ _ _ _ (by simp only; omega)).trans (HE.out)) (fun _ h => by cases h)).below ((Below.refl _ _).alloc (Nat.le_refl _) _)).below hb)
  have nB := Lib.hid (((((HB.out).setCell (p := ⟨w2.heap.size, 0, none⟩) (by simp only; omega) _).setCell (p := ⟨w2.heap.size + 1, 0, none⟩) (by simp only; omega) _).alloc oz _).trans (hb.mono oz))
  have hs5 := hb.size
  try simp only [World.size_alloc, World.size_setCell] at hs5
  clear HB HZ HG HQ HE HN
  try clear cZ0 fZ0 cZ1 fZ1 cG0 fG0 cQ0 fQ0 cE0 fE0
  have HZ := nZ
  have HG := nG
  have HQ := nQ
  have HE := nE
  have HX := nX
  have HN := nN
  have HB := nB
  clear nB nZ nG nQ nE nX nN
  clear hb hd
  have cZ0 : w5.cell? ⟨w.heap.size, 0, none⟩ = some (Value.int .i64 0) := (blk_cell HZ.out 0).trans rfl
  have fZ0 := blk_frozen HZ.out 0
  have cZ1 : w5.cell? ⟨w.heap.size, 1, none⟩ = some (Value.int .i64 0) := (blk_cell HZ.out 1).trans rfl
  have fZ1 := blk_frozen HZ.out 1
  have lZ5 := blk_lt HZ.out
  have cG0 : w5.cell? ⟨w1.heap.size, 0, none⟩ = some (.bool neg) := (blk_cell HG.out 0).trans rfl
  have fG0 := blk_frozen HG.out 0
  have lG5 := blk_lt HG.out
  have cQ0 : w5.cell? ⟨w2.heap.size, 0, none⟩ = some (.slice A2 n2.length c2) := (blk_cell HQ.out 0).trans rfl
  have fQ0 := blk_frozen HQ.out 0
  have lQ5 := blk_lt HQ.out
  have cE0 : w5.cell? ⟨w2.heap.size + 1, 0, none⟩ = some (.int .i64 behind) := (blk_cell HE.out 0).trans rfl
  have fE0 := blk_frozen HE.out 0
  have lE5 := blk_lt HE.out
  have cX0 : w5.cell? ⟨w4.heap.size, 0, none⟩ = some (.int .i64 0) := (blk_cell HX.out 0).trans rfl
  have fX0 := blk_frozen HX.out 0
  have lX5 := blk_lt HX.out
  go_wp2_with fail
  refine (real_exponent.calls aft x true _ hx).mono ?_
  rintro e w6 ⟨rfl, hb⟩
  have nZ := Lib.hid (blk_below (HZ.out) hb)
  have nG := Lib.hid (blk_below (HG.out) hb)
  have nQ := Lib.hid (blk_below (HQ.out) hb)
  have nE := Lib.hid (blk_below (HE.out) hb)
  have nX := Lib.hid (blk_below (HX.out) hb)
  have nN := Lib.hid ((HN.out).below hb)
  have nB := Lib.hid ((HB.out).trans (hb.mono oz))
  have hs6 := hb.size
  try simp only [World.size_alloc, World.size_setCell] at hs6
  clear HB HZ HG HQ HE HX HN
  try clear cZ0 fZ0 cZ1 fZ1 cG0 fG0 cQ0 fQ0 cE0 fE0 cX0 fX0
  have HZ := nZ
  have HG := nG
  have HQ := nQ
  have HE := nE
  have HX := nX
  have HN := nN
  have HB := nB
  clear nB nZ nG nQ nE nX nN
  clear hb
  have cZ0 : w6.cell? ⟨w.heap.size, 0, none⟩ = some (Value.int .i64 0) := (blk_cell HZ.out 0).trans rfl
  have fZ0 := blk_frozen HZ.out 0
  have cZ1 : w6.cell? ⟨w.heap.size, 1, none⟩ = some (Value.int .i64 0) := (blk_cell HZ.out 1).trans rfl
  have fZ1 := blk_frozen HZ.out 1
  have lZ6 := blk_lt HZ.out
  have cG0 : w6.cell? ⟨w1.heap.size, 0, none⟩ = some (.bool neg) := (blk_cell HG.out 0).trans rfl
  have fG0 := blk_frozen HG.out 0
  have lG6 := blk_lt HG.out
  have cQ0 : w6.cell? ⟨w2.heap.size, 0, none⟩ = some (.slice A2 n2.length c2) := (blk_cell HQ.out 0).trans rfl
  have fQ0 := blk_frozen HQ.out 0
  have lQ6 := blk_lt HQ.out
  have cE0 : w6.cell? ⟨w2.heap.size + 1, 0, none⟩ = some (.int .i64 behind) := (blk_cell HE.out 0).trans rfl
  have fE0 := blk_frozen HE.out 0
  have lE6 := blk_lt HE.out
  have cX0 : w6.cell? ⟨w4.heap.size, 0, none⟩ = some (.int .i64 0) := (blk_cell HX.out 0).trans rfl
  have fX0 := blk_frozen HX.out 0
  have lX6 := blk_lt HX.out
  have hmf : ∀ (fn : Fn) (first cap : Array Value) (w : World), (Instr.makeFunc fn first cap).run Tryz.prog w = .ok (.func fn first cap) w := fun _ _ _ _ => rfl
  have HD1 := Lib.hid hd1
  have HS1 := Lib.hid hsg
  have HT1 := Lib.hid ht
  clear hd1 hsg ht
  skip
  go_wp2_with fail
  refine (caught_t 79 _ r1 r2 t0 t1 t2 HT1.out _ (fun args w => enters_ Tryz.func79 (by kernel_rfl) rfl args w) (fun w' h' => parse1_n k neg n2 A2 c2 x behind m y r1 r2 HD1.out HS1.out _ _ _ _ w' (blk_below ((heap_setCell_other _ _ _ _ (by simp only; omega)).trans (HG.out)) h') (blk_below ((heap_setCell_other _ _ _ _ (by simp only; omega)).trans (HQ.out)) h') (blk_below (heap_setCell_same _ _ 0 _ _ _ (HX.out)) h') (blk_below ((heap_setCell_other _ _ _ _ (by simp only; omega)).trans (HE.out)) h') ((nat32_set (HN.out) (HX.out) (fun _ h => by cases h)).below h'))).mono ?_
  rintro e w7 ⟨rfl, hb⟩
  have nZ := Lib.hid (blk_below ((heap_setCell_other _ _ _ _ (by simp only; omega)).trans (HZ.out)) hb)
  have nG := Lib.hid (blk_below ((heap_setCell_other _ _ _ _ (by simp only; omega)).trans (HG.out)) hb)
  have nQ := Lib.hid (blk_below ((heap_setCell_other _ _ _ _ (by simp only; omega)).trans (HQ.out)) hb)
  have nE := Lib.hid (blk_below ((heap_setCell_other _ _ _ _ (by simp only; omega)).trans (HE.out)) hb)
  have nX := Lib.hid (blk_below (heap_setCell_same _ _ 0 _ _ _ (HX.out)) hb)
  have nN := Lib.hid ((nat32_set (HN.out) (HX.out) (fun _ h => by cases h)).below hb)
  have nB := Lib.hid (((HB.out).setCell (p := ⟨w4.heap.size, 0, none⟩) (by simp only; omega) _).trans (hb.mono oz))
  have hs7 := hb.size
  try simp only [World.size_alloc, World.size_setCell] at hs7
  clear HB HZ HG HQ HE HX HN
  try clear cZ0 fZ0 cZ1 fZ1 cG0 fG0 cQ0 fQ0 cE0 fE0 cX0 fX0
  have HZ := nZ
  have HG := nG
  have HQ := nQ
  have HE := nE
  have HX := nX
  have HN := nN
  have HB := nB
  clear nB nZ nG nQ nE nX nN
  clear hb
  have cZ0 : w7.cell? ⟨w.heap.size, 0, none⟩ = some (Value.int .i64 0) := (blk_cell HZ.out 0).trans rfl
  have fZ0 := blk_frozen HZ.out 0
  have cZ1 : w7.cell? ⟨w.heap.size, 1, none⟩ = some (Value.int .i64 0) := (blk_cell HZ.out 1).trans rfl
  have fZ1 := blk_frozen HZ.out 1
  have lZ7 := blk_lt HZ.out
  have cG0 : w7.cell? ⟨w1.heap.size, 0, none⟩ = some (.bool neg) := (blk_cell HG.out 0).trans rfl
  have fG0 := blk_frozen HG.out 0
  have lG7 := blk_lt HG.out
  have cQ0 : w7.cell? ⟨w2.heap.size, 0, none⟩ = some (.slice A2 n2.length c2) := (blk_cell HQ.out 0).trans rfl
  have fQ0 := blk_frozen HQ.out 0
  have lQ7 := blk_lt HQ.out
  have cE0 : w7.cell? ⟨w2.heap.size + 1, 0, none⟩ = some (.int .i64 behind) := (blk_cell HE.out 0).trans rfl
  have fE0 := blk_frozen HE.out 0
  have lE7 := blk_lt HE.out
  have cX0 : w7.cell? ⟨w4.heap.size, 0, none⟩ = some (.int .i64 x) := (blk_cell HX.out 0).trans rfl
  have fX0 := blk_frozen HX.out 0
  have lX7 := blk_lt HX.out
  go_wp2
  have fz : ((w7.setCell ⟨w.heap.size, 0, none⟩ (.int .i64 t0)).setCell ⟨w.heap.size, 1, none⟩ (.int .i64 t1)).heap[w.heap.size]? = some (.cells #[Value.int .i64 t0, Value.int .i64 t1] 23 (0, 0)) := heap_setCell_same _ _ 1 _ _ _ (heap_setCell_same _ _ 0 _ _ _ (HZ.out))
  refine bodyPost_ret (results_ct rfl _ _ (w.heap.size) 23 #[.int .i64 t0, .int .i64 t1] (0, 0) _ rfl fz Tryz.underlying23 rfl (by kernel_rfl)) rfl ?_
  exact ⟨rfl, ((HB.out).setCell (p := ⟨w.heap.size, 0, none⟩) (by simp only; omega) _).setCell (p := ⟨w.heap.size, 1, none⟩) (by simp only; omega) _⟩
end Go.Proofs.YteigbokklclmbaaGreatDoor.Z
end
section
namespace Go.Proofs.YteigbokklclmbaaGreatDoor.Z
open Go Go.RowKit Go.Proofs.YteigbokklclmbaaGreatDoor.Given Go.Proofs.YteigbokklclmbaaGreatDoorW.PrintWords Go.Proofs.YteigbokklclmbaaGreatDoorW.PrintLast Go.Proofs.YteigbokklclmbaaGreatDoorW.PrintMore
set_option linter.unusedVariables false
set_option linter.unusedSimpArgs false
def parseFin (k : Nat) (neg : Bool) (n : List Int) (exp behind : Int) : Option (Int × Int × Int) :=
  (real_decimal.f k n (wrap64 (exp - behind))).bind fun d => (real_signed.f neg d.1 d.2).bind fun r => some (caughtS r.1 r.2)
def parseExp (k : Nat) (neg : Bool) (n : List Int) (behind : Int) (rest : ByteArray) : Option (Int × Int × Int) :=
  if rest.toList = [] then parseFin k neg n 0 behind else (strings_CutPrefix.f rest eS).bind fun a => (real_exponent.f a.1).bind fun x => if a.2 = true then (if x.2 = true then parseFin k neg n x.1 behind else some (0, 0, 7)) else some (0, 0, 7)
def real_Parse.f (k : Nat) (s : ByteArray) : Option (Int × Int × Int) :=
  if (s.size : Int) > 60 then some (0, 0, 7) else (strings_CutPrefix.f s minusS).bind fun a => (real_number.f k a.1 []).bind fun n => if n.2.1 = 0 then some (0, 0, 7) else
    (strings_CutPrefix.f n.2.2 dotS).bind fun b => if b.2 = true then ((real_number.f k b.1 n.1).bind fun m => if m.2.1 = 0 then some (0, 0, 7) else parseExp k a.2 m.1 m.2.1 m.2.2) else parseExp k a.2 n.1 0 n.2.2
theorem real_number.mono (s : ByteArray) (n : List Int) (k : Nat) : LeO (real_number.f k s n) (real_number.f (k + 1) s n) := LeO.ite (LeO.bind (numL_mono _ _ _) (fun _ => LeO.refl _)) (LeO.refl _)
theorem parseFin_mono (neg : Bool) (n : List Int) (exp behind : Int) (k : Nat) : LeO (parseFin k neg n exp behind) (parseFin (k + 1) neg n exp behind) := LeO.bind (real_decimal.mono _ _ _) (fun _ => LeO.refl _)
theorem parseExp_mono (neg : Bool) (n : List Int) (behind : Int) (rest : ByteArray) (k : Nat) : LeO (parseExp k neg n behind rest) (parseExp (k + 1) neg n behind rest) :=
  LeO.ite (parseFin_mono _ _ _ _ _) (LeO.bind (LeO.refl _) (fun _ => LeO.bind (LeO.refl _) (fun _ => LeO.ite (LeO.ite (parseFin_mono _ _ _ _ _) (LeO.refl _)) (LeO.refl _))))
theorem real_Parse.mono (s : ByteArray) (k : Nat) : LeO (real_Parse.f k s) (real_Parse.f (k + 1) s) :=
  LeO.ite (LeO.refl _) (LeO.bind (LeO.refl _) (fun _ => LeO.bind (real_number.mono _ _ _) (fun _ => LeO.ite (LeO.refl _) (LeO.bind (LeO.refl _) (fun _ => LeO.ite (LeO.bind (real_number.mono _ _ _) (fun _ => LeO.ite (LeO.refl _) (parseExp_mono _ _ _ _ _))) (parseExp_mono _ _ _ _ _))))))
theorem real_Parse.calls (k : Nat) (s : ByteArray) (r1 r2 r3 : Int) (w : World) (h : real_Parse.f k s = some (r1, r2, r3)) :
    Calls Tryz.prog 25 #[.string s] w fun e w' => e = .returned (.tuple #[.agg #[.int .i64 r1, .int .i64 r2], .int .i64 r3]) ∧ Below w.heap.size w w' := by
  unfold real_Parse.f at h
  by_cases hsz : (s.size : Int) > 60
  · rw [if_pos hsz] at h; cases h
    exact parse_E1 k s w hsz
  rw [if_neg hsz] at h
  obtain ⟨⟨rest, neg⟩, hc1, h⟩ := Option.bind_eq_some_iff.mp h
  obtain ⟨⟨n, many, rest2⟩, hn1, h⟩ := Option.bind_eq_some_iff.mp h
  simp only at hn1 h
  by_cases hm : many = 0
  · subst hm
    rw [if_pos rfl] at h; cases h
    exact parse_E2 k s w hsz rest neg hc1 n rest2 hn1
  rw [if_neg hm] at h
  obtain ⟨⟨after, point⟩, hc2, h⟩ := Option.bind_eq_some_iff.mp h
  simp only at hc2 h
  cases point with
  | true =>
    rw [if_pos rfl] at h
    obtain ⟨⟨n2, behind, rest3⟩, hn2, h⟩ := Option.bind_eq_some_iff.mp h
    simp only at hn2 h
    by_cases hb : behind = 0
    · subst hb
      rw [if_pos rfl] at h; cases h
      exact parse_PE3 k s w hsz rest neg hc1 n many rest2 hn1 hm after hc2 n2 rest3 hn2
    rw [if_neg hb] at h
    unfold parseExp at h
    by_cases hr : rest3.toList = []
    · rw [if_pos hr] at h
      obtain ⟨⟨m, y⟩, hd, h⟩ := Option.bind_eq_some_iff.mp h
      obtain ⟨⟨a, b⟩, hg, h⟩ := Option.bind_eq_some_iff.mp h
      exact parse_PZ k s w hsz rest neg hc1 n many rest2 hn1 hm after hc2 n2 behind rest3 hn2 hb hr m y a b r1 r2 r3 hd hg (Option.some.inj h)
    rw [if_neg hr] at h
    obtain ⟨⟨aft, is⟩, hc3, h⟩ := Option.bind_eq_some_iff.mp h
    obtain ⟨⟨x, ok⟩, hx, h⟩ := Option.bind_eq_some_iff.mp h
    simp only at hx h
    cases is with
    | false =>
      rw [if_neg (by decide)] at h; cases h
      exact parse_PB k s w hsz rest neg hc1 n many rest2 hn1 hm after hc2 n2 behind rest3 hn2 hb hr aft x ok hc3 hx
    | true =>
      rw [if_pos rfl] at h
      cases ok with
      | false =>
        rw [if_neg (by decide)] at h; cases h
        exact parse_PC k s w hsz rest neg hc1 n many rest2 hn1 hm after hc2 n2 behind rest3 hn2 hb hr aft x hc3 hx
      | true =>
        rw [if_pos rfl] at h
        obtain ⟨⟨m, y⟩, hd, h⟩ := Option.bind_eq_some_iff.mp h
        obtain ⟨⟨a, b⟩, hg, h⟩ := Option.bind_eq_some_iff.mp h
        exact parse_PF k s w hsz rest neg hc1 n many rest2 hn1 hm after hc2 n2 behind rest3 hn2 hb hr aft x hc3 hx m y a b r1 r2 r3 hd hg (Option.some.inj h)
  | false =>
    rw [if_neg (by decide)] at h
    unfold parseExp at h
    by_cases hr : rest2.toList = []
    · rw [if_pos hr] at h
      obtain ⟨⟨m, y⟩, hd, h⟩ := Option.bind_eq_some_iff.mp h
      obtain ⟨⟨a, b⟩, hg, h⟩ := Option.bind_eq_some_iff.mp h
      exact parse_Z k s w hsz rest neg hc1 n many rest2 hn1 hm after hc2 hr m y a b r1 r2 r3 hd hg (Option.some.inj h)
    rw [if_neg hr] at h
    obtain ⟨⟨aft, is⟩, hc3, h⟩ := Option.bind_eq_some_iff.mp h
    obtain ⟨⟨x, ok⟩, hx, h⟩ := Option.bind_eq_some_iff.mp h
    simp only at hx h
    cases is with
    | false =>
      rw [if_neg (by decide)] at h; cases h
      exact parse_B k s w hsz rest neg hc1 n many rest2 hn1 hm after hc2 hr aft x ok hc3 hx
    | true =>
      rw [if_pos rfl] at h
      cases ok with
      | false =>
        rw [if_neg (by decide)] at h; cases h
        exact parse_C k s w hsz rest neg hc1 n many rest2 hn1 hm after hc2 hr aft x hc3 hx
      | true =>
        rw [if_pos rfl] at h
        obtain ⟨⟨m, y⟩, hd, h⟩ := Option.bind_eq_some_iff.mp h
        obtain ⟨⟨a, b⟩, hg, h⟩ := Option.bind_eq_some_iff.mp h
        exact parse_F k s w hsz rest neg hc1 n many rest2 hn1 hm after hc2 hr aft x hc3 hx m y a b r1 r2 r3 hd hg (Option.some.inj h)
end Go.Proofs.YteigbokklclmbaaGreatDoor.Z
end
section
namespace Go.Proofs.YteigbokklclmbaaGreatDoor.Z
open Go Go.RowKit Go.Proofs.YteigbokklclmbaaGreatDoor.Given Go.Proofs.YteigbokklclmbaaGreatDoorW.PrintWords Go.Proofs.YteigbokklclmbaaGreatDoorW.PrintLast Go.Proofs.YteigbokklclmbaaGreatDoorW.PrintMore
set_option linter.unusedVariables false
set_option linter.unusedSimpArgs false
set_option maxRecDepth 100000
set_option maxHeartbeats 8000000
def real_FromIntN.f (k : Nat) (a0 : Int) : Option (Int × Int) := (real_FromInt.f k a0).bind fun r => if r.2 = 1000 then none else some r
theorem real_FromIntN.mono (a0 : Int) (k : Nat) : LeO (real_FromIntN.f k a0) (real_FromIntN.f (k + 1) a0) := LeO.bind (real_FromInt.mono _ _) (fun _ => LeO.refl _)
theorem real_FromIntN.calls (k : Nat) (a0 : Int) (r1 r2 : Int) (w : World) (h : real_FromIntN.f k a0 = some (r1, r2)) :
    Calls Tryz.prog 31 #[.int .i64 a0] w fun e w' => e = .returned (.agg #[.int .i64 r1, .int .i64 r2]) ∧ Below w.heap.size w w' := by
  obtain ⟨⟨m, x⟩, h1, h2⟩ := Option.bind_eq_some_iff.mp h
  by_cases hx : x = 1000
  · rw [if_pos hx] at h2; cases h2
  · rw [if_neg hx] at h2
    cases h2
    refine (real_FromInt.calls k a0 r1 r2 w h1).mono ?_
    rintro e w' ⟨rfl, hb⟩
    exact ⟨ending_at hx, hb⟩
theorem real_Add.mono (a0 a1 a2 a3 : Int) (k : Nat) : LeO (real_Add.f k a0 a1 a2 a3) (real_Add.f (k + 1) a0 a1 a2 a3) := LeO.bind (LeO.refl _) (fun _ => LeO.bind (LeO.refl _) (fun _ => LeO.ite (LeO.bind (real_sum.mono _ _ _ _ _) (fun _ => LeO.refl _)) (LeO.refl _)))
theorem real_Div.mono (a0 a1 a2 a3 : Int) (k : Nat) : LeO (real_Div.f k a0 a1 a2 a3) (real_Div.f (k + 1) a0 a1 a2 a3) := LeO.bind (LeO.refl _) (fun _ => LeO.bind (LeO.refl _) (fun _ => LeO.ite (LeO.ite (LeO.refl _) (LeO.bind (real_quotient.mono _ _ _ _ _) (fun _ => LeO.refl _))) (LeO.refl _)))
/-- Pow of 0 with an exponent below 0; whatever else it does is not told here. -/
def real_PowZ.f (a0_0 a0_1 a1 : Int) : Option (Int × Int × Int) := if a0_0 = 0 ∧ a0_1 = 0 ∧ a1 < 0 then some (0, 0, 5) else none
theorem real_PowZ.calls (a0_0 a0_1 a1 r1 r2 r3 : Int) (w : World) (h : real_PowZ.f a0_0 a0_1 a1 = some (r1, r2, r3)) :
    Calls Tryz.prog 17 #[.agg #[.int .i64 a0_0, .int .i64 a0_1], .int .i64 a1] w fun e w' => e = .returned (.tuple #[.agg #[.int .i64 r1, .int .i64 r2], .int .i64 r3]) ∧ Below w.heap.size w w' := by
  unfold real_PowZ.f at h
  by_cases hc : a0_0 = 0 ∧ a0_1 = 0 ∧ a1 < 0
  · rw [if_pos hc] at h
    cases h
    obtain ⟨rfl, rfl, hn⟩ := hc
    go_enter Tryz.func17, Tryz.ntmps17
    go_wp2_with fail
    refine (real_Valid.calls 0 0 true _ (by rfl)).mono ?_
    rintro e w1 ⟨rfl, hb⟩
    have hz : w1.heap[w.heap.size + 1 + 1]? = some (.cells #[.int .i64 0, .int .i64 0] 23 (0, 0)) := blk_below (new_at _ _ _ (by simp only [World.size_alloc])) hb
    have kx : w1.heap[w.heap.size]? = some (.cells #[.int .i64 0, .int .i64 0] 23 (0, 0)) := blk_below (blk_alloc (blk_alloc (new_at _ _ _ rfl) _) _) hb
    have kn : w1.heap[w.heap.size + 1]? = some (.cells #[.int .i64 a1] 3 (0, 0)) := blk_below (blk_alloc (new_at _ _ _ (by simp only [World.size_alloc])) _) hb
    have hB : Below w.heap.size w w1 := ((((Below.refl _ w).alloc (Nat.le_refl _) _).alloc (by simp only [World.size_alloc]; omega) _).alloc (by simp only [World.size_alloc]; omega) _).trans (hb.mono (by simp only [World.size_alloc]; omega))
    have x0 : w1.cell? ⟨w.heap.size, 0, none⟩ = some (.int .i64 0) := (blk_cell kx 0).trans rfl
    have n0 : w1.cell? ⟨w.heap.size + 1, 0, none⟩ = some (.int .i64 a1) := (blk_cell kn 0).trans rfl
    have z0 : w1.cell? ⟨w.heap.size + 1 + 1, 0, none⟩ = some (.int .i64 0) := (blk_cell hz 0).trans rfl
    have z1 : w1.cell? ⟨w.heap.size + 1 + 1, 1, none⟩ = some (.int .i64 0) := (blk_cell hz 1).trans rfl
    have f0 := blk_frozen hz 0
    have f1 := blk_frozen hz 1
    have lz := blk_lt hz
    have lx := blk_lt kx
    have ln := blk_lt kn
    clear hb
    go_wp2
    have fz := heap_setCell_same (w1.setCell ⟨w.heap.size + 1 + 1, 0, none⟩ (.int .i64 0)) (w.heap.size + 1 + 1) 1 _ _ (.int .i64 0) (heap_setCell_same w1 (w.heap.size + 1 + 1) 0 _ _ (.int .i64 0) hz)
    refine bodyPost_ret (results_ct rfl _ _ (w.heap.size + 1 + 1) 23 #[.int .i64 0, .int .i64 0] (0, 0) _ rfl fz Tryz.underlying23 rfl (by kernel_rfl)) rfl ?_
    exact ⟨rfl, (hB.setCell (by simp only; omega) _).setCell (by simp only; omega) _⟩
  · rw [if_neg hc] at h; cases h
end Go.Proofs.YteigbokklclmbaaGreatDoor.Z
end
section
namespace Go.Proofs.YteigbokklclmbaaGreatDoor.Z.Y
open Go.RowKit Go.Proofs.YteigbokklclmbaaGreatDoor.Given Go.Proofs.YteigbokklclmbaaGreatDoorW.PrintWords Go.Proofs.YteigbokklclmbaaGreatDoorW.PrintLast Go.Proofs.YteigbokklclmbaaGreatDoorW.PrintMore
attribute [local go_sem] max2_int min2_int max_two min_two max_three min_three max_four min_four   -- for this text's walks alone
set_option linter.unusedVariables false
set_option linter.unusedSimpArgs false



def errW : Option Int → Value
 | none => .nilIface
 | some c => .iface 0 (.int .i64 c)
theorem errW_none : errW none = .nilIface := rfl
theorem errW_some (c : Int) : errW (some c) = .iface 0 (.int .i64 c) := rfl

-- the values' own types

end Go.Proofs.YteigbokklclmbaaGreatDoor.Z.Y
end
section
namespace Go.Proofs.YteigbokklclmbaaGreatDoor.Z.Y
open Go.RowKit Go.Proofs.YteigbokklclmbaaGreatDoor.Given Go.Proofs.YteigbokklclmbaaGreatDoorW.PrintWords Go.Proofs.YteigbokklclmbaaGreatDoorW.PrintLast Go.Proofs.YteigbokklclmbaaGreatDoorW.PrintMore
attribute [local go_sem] max2_int min2_int max_two min_two max_three min_three max_four min_four   -- for this text's walks alone
set_option linter.unusedVariables false
set_option linter.unusedSimpArgs false

theorem eqA23 (d : Nat) (w : World) (x0 y0 : Int) (x1 y1 : Int) :
  (Op.equalIn (d + 2) 23 (.agg #[.int .i64 x0, .int .i64 x1]) (.agg #[.int .i64 y0, .int .i64 y1])).run Tryz.prog w = .ok (x0 == y0 && (x1 == y1)) w := by
 refine eqA_of Tryz.underlying23 (by kernel_rfl) ?_
 refine eqf_cons (by rfl) (by go_simp; rfl) (by go_simp; rfl) (by go_simp) ?_
 exact eqf_last (by rfl) (by go_simp; rfl) (by go_simp; rfl) (by go_simp)
end Go.Proofs.YteigbokklclmbaaGreatDoor.Z.Y
end
section
namespace Go.Proofs.YteigbokklclmbaaGreatDoor.Z.Y
open Go.RowKit Go.Proofs.YteigbokklclmbaaGreatDoor.Given Go.Proofs.YteigbokklclmbaaGreatDoorW.PrintWords Go.Proofs.YteigbokklclmbaaGreatDoorW.PrintLast Go.Proofs.YteigbokklclmbaaGreatDoorW.PrintMore
attribute [local go_sem] max2_int min2_int max_two min_two max_three min_three max_four min_four   -- for this text's walks alone
set_option linter.unusedVariables false
set_option linter.unusedSimpArgs false

def real_at.f (a0 : Int) : Option (Int × Int) := if (mx a0 (wrap64 (-a0))) < 16777216 then (if (mx a0 (wrap64 (-a0))) = 0 then (some (0, 0)) else ((real_signed.f (decide (a0 < 0)) (mx a0 (wrap64 (-a0))) (-150)).bind fun bt175 => (some (bt175.1, bt175.2)))) else ((real_signed.f (decide (a0 < 0)) (wrap64 ((Int.tmod (mx a0 (wrap64 (-a0))) 8388608) + 8388608)) (wrap64 ((wrap64 ((wrap64 (Int.tdiv (mx a0 (wrap64 (-a0))) 8388608)) - 1)) + (-150)))).bind fun bt177 => (some (bt177.1, bt177.2)))
set_option maxHeartbeats 8000000 in
set_option maxRecDepth 100000 in
theorem real_at.calls (a0 : Int) (r1 : Int) (r2 : Int) (w : World) (h : real_at.f a0 = some (r1, r2)) :
  Calls Tryz.prog 111 #[.int .i64 a0] w fun e w' => e = .returned (.agg #[.int .i64 r1, .int .i64 r2]) ∧ Below w.heap.size w w' := by
 have hu23 := Tryz.underlying23
 have HB := Aside0.mk (Below.refl w.heap.size w)
 have H : (if (mx a0 (wrap64 (-a0))) < 16777216 then (if (mx a0 (wrap64 (-a0))) = 0 then (some (0, 0)) else ((real_signed.f (decide (a0 < 0)) (mx a0 (wrap64 (-a0))) (-150)).bind fun bt175 => (some (bt175.1, bt175.2)))) else ((real_signed.f (decide (a0 < 0)) (wrap64 ((Int.tmod (mx a0 (wrap64 (-a0))) 8388608) + 8388608)) (wrap64 ((wrap64 ((wrap64 (Int.tdiv (mx a0 (wrap64 (-a0))) 8388608)) - 1)) + (-150)))).bind fun bt177 => (some (bt177.1, bt177.2)))) = some (r1, r2) := h
 clear h
 obtain ⟨ji2, hji2⟩ : ∃ j_ : Int, (mx a0 (wrap64 (-a0))) = j_ := ⟨_, rfl⟩
 replace H : (if (ji2) < 16777216 then (if (ji2) = 0 then (some (0, 0)) else ((real_signed.f (decide (a0 < 0)) (ji2) (-150)).bind fun bt175 => (some (bt175.1, bt175.2)))) else ((real_signed.f (decide (a0 < 0)) (wrap64 ((Int.tmod (ji2) 8388608) + 8388608)) (wrap64 ((wrap64 ((wrap64 (Int.tdiv (ji2) 8388608)) - 1)) + (-150)))).bind fun bt177 => (some (bt177.1, bt177.2)))) = some (r1, r2) := by first | (rw [hji2] at H; exact H) | (simp only [hji2] at H ⊢; exact H)
 have hji2_ : (if a0 < (wrap64 (-a0)) then (wrap64 (-a0)) else a0) = ji2 := hji2
 by_cases c3 : (ji2) < 16777216
 ·rw [if_pos c3] at H
  have c3b0 : decide ((ji2) < 16777216) = true := decide_eq_true c3
  clear c3
  by_cases c4 : (ji2) = 0
  ·rw [if_pos c4] at H
   have c4b0 : ((ji2) == 0) = true := beq_iff_eq.mpr c4
   have c4b1 : ((ji2) != 0) = false := bne_eq_false_iff_eq.mpr c4
   clear c4
   simp only [Option.some.injEq, Prod.mk.injEq] at H
   obtain ⟨rfl, rfl⟩ := H
   go_enter Tryz.func111, Tryz.ntmps111
   go_wp2_with (first | ((with_reducible refine gate_dst (N := 2) rfl ?_); refine box_event ?hg (N := 2) ?hd (cs := #[.int .i64 0, .int .i64 0]) (t := 23) ?hr ?_; (case hd => rfl); (case hg => rfl); (case hr => first | (go_simp; done) | (go_simp; rfl)); intro gb174 hg w5 hbox hb; have BK174 := Aside0.mk hbox; have GW174 := ge hg; have GE174 := ge hg; replace HB := bs hb; clear hb hbox hg; have hcz6_0 := c20 BK174; have hcz6_1 := c21 BK174; have hfz6_0 := blk_frozen BK174.out 0; have hfz6_1 := blk_frozen BK174.out 1))
   refine bodyPost_ret (results_cell_row rfl _ _ gb174 23 #[.int .i64 0, .int .i64 0] (0, 0) _ rfl (by (with_reducible repeat (first | refine blk_drewN ?_ _ | refine blk_drew ?_ | refine blk_alloc ?_ _)); refine blk_put (cs := #[.int .i64 0, .int .i64 0]) ?_ 1 _ rfl; (with_reducible repeat (first | refine blk_drewN ?_ _ | refine blk_drew ?_ | refine blk_alloc ?_ _)); refine blk_put (cs := #[.int .i64 0, .int .i64 0]) ?_ 0 _ rfl; (with_reducible repeat (first | refine blk_drewN ?_ _ | refine blk_drew ?_ | refine blk_alloc ?_ _)); exact BK174.out) Tryz.underlying23 rfl (by kernel_rfl)) rfl ?_
   exact ⟨by first | rfl | (simp [errW_none, errW_some] <;> rfl) | (simp only [← hji2]; first | rfl | (simp [errW_none, errW_some] <;> rfl)) | (simp [*, errW_none, errW_some] <;> rfl), bz⟩
  ·rw [if_neg c4] at H
   have c4b0 : ((ji2) == 0) = false := beq_eq_false_iff_ne.mpr c4
   have c4b1 : ((ji2) != 0) = true := bne_iff_ne.mpr c4
   replace H := Option.bind_eq_some_iff.mp H
   obtain ⟨⟨t175, t176⟩, A70, H⟩ := H
   replace H : (some (t175, t176)) = some (r1, r2) := H
   have A7 := Aside0.mk A70
   clear A70
   simp only [Option.some.injEq, Prod.mk.injEq] at H
   obtain ⟨rfl, rfl⟩ := H
   go_enter Tryz.func111, Tryz.ntmps111
   go_wp2_with (first | ((with_reducible refine gate_dst (N := 2) rfl ?_); refine box_event ?hg (N := 2) ?hd (cs := #[.int .i64 0, .int .i64 0]) (t := 23) ?hr ?_; (case hd => rfl); (case hg => rfl); (case hr => first | (go_simp; done) | (go_simp; rfl)); intro gb174 hg w8 hbox hb; have BK174 := Aside0.mk hbox; have GW174 := ge hg; have GE174 := ge hg; replace HB := bs hb; clear hb hbox hg) | ((with_reducible refine gate_callee (f := 80) rfl ?_); refine goesL_ (some 17) rfl rfl Tryz.func80 (by kernel_rfl) rfl #[.bool (decide (a0 < 0)), .agg #[.int .i64 ji2, .int .i64 (-150)]] rfl (by (try simp only [List.map_toArray, List.map_cons, List.map_nil]); first | done | (simp only [hji2]; rfl) | rfl | (simp only [List.length_drop, List.length_take]; rfl)) ?_; (with_reducible refine (real_signed.calls (decide (a0 < 0)) ji2 (-150) t175 t176 _ A7.out).mono ?_); rintro e w9 ⟨rfl, hb⟩; refine ⟨_, rfl, ?_⟩; replace BK174 := kb BK174 hb; replace HB := bs hb; (try clear hb); have hcz10_0 := c20 BK174; have hcz10_1 := c21 BK174; have hfz10_0 := blk_frozen BK174.out 0; have hfz10_1 := blk_frozen BK174.out 1))
   refine bodyPost_ret (results_cell_row rfl _ _ gb174 23 #[.int .i64 t175, .int .i64 t176] (0, 0) _ rfl (by (with_reducible repeat (first | refine blk_drewN ?_ _ | refine blk_drew ?_ | refine blk_alloc ?_ _)); refine blk_put (cs := #[.int .i64 t175, .int .i64 0]) ?_ 1 _ rfl; (with_reducible repeat (first | refine blk_drewN ?_ _ | refine blk_drew ?_ | refine blk_alloc ?_ _)); refine blk_put (cs := #[.int .i64 0, .int .i64 0]) ?_ 0 _ rfl; (with_reducible repeat (first | refine blk_drewN ?_ _ | refine blk_drew ?_ | refine blk_alloc ?_ _)); exact BK174.out) Tryz.underlying23 rfl (by kernel_rfl)) rfl ?_
   exact ⟨by first | rfl | (simp [errW_none, errW_some] <;> rfl) | (simp only [← hji2]; first | rfl | (simp [errW_none, errW_some] <;> rfl)) | (simp [*, errW_none, errW_some] <;> rfl), bz⟩
 ·rw [if_neg c3] at H
  have c3b0 : decide ((ji2) < 16777216) = false := decide_eq_false c3
  clear c3
  replace H := Option.bind_eq_some_iff.mp H
  obtain ⟨⟨t177, t178⟩, A110, H⟩ := H
  replace H : (some (t177, t178)) = some (r1, r2) := H
  have A11 := Aside0.mk A110
  clear A110
  simp only [Option.some.injEq, Prod.mk.injEq] at H
  obtain ⟨rfl, rfl⟩ := H
  go_enter Tryz.func111, Tryz.ntmps111
  go_wp2_with (first | ((with_reducible refine gate_dst (N := 2) rfl ?_); refine box_event ?hg (N := 2) ?hd (cs := #[.int .i64 0, .int .i64 0]) (t := 23) ?hr ?_; (case hd => rfl); (case hg => rfl); (case hr => first | (go_simp; done) | (go_simp; rfl)); intro gb174 hg w12 hbox hb; have BK174 := Aside0.mk hbox; have GW174 := ge hg; have GE174 := ge hg; replace HB := bs hb; clear hb hbox hg) | ((with_reducible refine gate_callee (f := 80) rfl ?_); refine goesL_ (some 28) rfl rfl Tryz.func80 (by kernel_rfl) rfl #[.bool (decide (a0 < 0)), .agg #[.int .i64 (wrap64 ((Int.tmod (ji2) 8388608) + 8388608)), .int .i64 (wrap64 ((wrap64 ((wrap64 (Int.tdiv (ji2) 8388608)) - 1)) + (-150)))]] rfl (by (try simp only [List.map_toArray, List.map_cons, List.map_nil]); first | done | (simp only [hji2]; rfl) | rfl | (simp only [List.length_drop, List.length_take]; rfl)) ?_; (with_reducible refine (real_signed.calls (decide (a0 < 0)) (wrap64 ((Int.tmod (ji2) 8388608) + 8388608)) (wrap64 ((wrap64 ((wrap64 (Int.tdiv (ji2) 8388608)) - 1)) + (-150))) t177 t178 _ A11.out).mono ?_); rintro e w13 ⟨rfl, hb⟩; refine ⟨_, rfl, ?_⟩; replace BK174 := kb BK174 hb; replace HB := bs hb; (try clear hb); have hcz14_0 := c20 BK174; have hcz14_1 := c21 BK174; have hfz14_0 := blk_frozen BK174.out 0; have hfz14_1 := blk_frozen BK174.out 1))
  refine bodyPost_ret (results_cell_row rfl _ _ gb174 23 #[.int .i64 t177, .int .i64 t178] (0, 0) _ rfl (by (with_reducible repeat (first | refine blk_drewN ?_ _ | refine blk_drew ?_ | refine blk_alloc ?_ _)); refine blk_put (cs := #[.int .i64 t177, .int .i64 0]) ?_ 1 _ rfl; (with_reducible repeat (first | refine blk_drewN ?_ _ | refine blk_drew ?_ | refine blk_alloc ?_ _)); refine blk_put (cs := #[.int .i64 0, .int .i64 0]) ?_ 0 _ rfl; (with_reducible repeat (first | refine blk_drewN ?_ _ | refine blk_drew ?_ | refine blk_alloc ?_ _)); exact BK174.out) Tryz.underlying23 rfl (by kernel_rfl)) rfl ?_
  exact ⟨by first | rfl | (simp [errW_none, errW_some] <;> rfl) | (simp only [← hji2]; first | rfl | (simp [errW_none, errW_some] <;> rfl)) | (simp [*, errW_none, errW_some] <;> rfl), bz⟩

def real_At.f (a0 : Int) : Option (Int × Int × Int) := if a0 < (-2533359615) then (some (0, 0, 1)) else (if a0 > 2533359615 then (some (0, 0, 1)) else ((real_at.f a0).bind fun bt180 => (some (bt180.1, bt180.2, 0))))
set_option maxHeartbeats 8000000 in
set_option maxRecDepth 100000 in
theorem real_At.calls (a0 : Int) (r1 : Int) (r2 : Int) (r3 : Int) (w : World) (h : real_At.f a0 = some (r1, r2, r3)) :
  Calls Tryz.prog 55 #[.int .i64 a0] w fun e w' => e = .returned (.tuple #[.agg #[.int .i64 r1, .int .i64 r2], .int .i64 r3]) ∧ Below w.heap.size w w' := by
 have hu23 := Tryz.underlying23
 have HB := Aside0.mk (Below.refl w.heap.size w)
 have H : (if a0 < (-2533359615) then (some (0, 0, 1)) else (if a0 > 2533359615 then (some (0, 0, 1)) else ((real_at.f a0).bind fun bt180 => (some (bt180.1, bt180.2, 0))))) = some (r1, r2, r3) := h
 clear h
 by_cases c2 : a0 < (-2533359615)
 ·rw [if_pos c2] at H
  have c2b0 : decide (a0 < (-2533359615)) = true := decide_eq_true c2
  clear c2
  simp only [Option.some.injEq, Prod.mk.injEq] at H
  obtain ⟨rfl, rfl, rfl⟩ := H
  go_enter Tryz.func55, Tryz.ntmps55
  go_wp2_with (first | ((with_reducible refine gate_dst (N := 2) rfl ?_); refine box_event ?hg (N := 2) ?hd (cs := #[.int .i64 0, .int .i64 0]) (t := 23) ?hr ?_; (case hd => rfl); (case hg => rfl); (case hr => first | (go_simp; done) | (go_simp; rfl)); intro gb179 hg w3 hbox hb; have BK179 := Aside0.mk hbox; have GW179 := ge hg; have GE179 := ge hg; replace HB := bs hb; clear hb hbox hg; have hcz4_0 := c20 BK179; have hcz4_1 := c21 BK179; have hfz4_0 := blk_frozen BK179.out 0; have hfz4_1 := blk_frozen BK179.out 1))
  refine bodyPost_ret (results_ct rfl _ _ gb179 23 #[.int .i64 0, .int .i64 0] (0, 0) _ rfl (by (with_reducible repeat (first | refine blk_drewN ?_ _ | refine blk_drew ?_ | refine blk_alloc ?_ _)); refine blk_put (cs := #[.int .i64 0, .int .i64 0]) ?_ 1 _ rfl; (with_reducible repeat (first | refine blk_drewN ?_ _ | refine blk_drew ?_ | refine blk_alloc ?_ _)); refine blk_put (cs := #[.int .i64 0, .int .i64 0]) ?_ 0 _ rfl; (with_reducible repeat (first | refine blk_drewN ?_ _ | refine blk_drew ?_ | refine blk_alloc ?_ _)); exact BK179.out) Tryz.underlying23 rfl (by kernel_rfl)) rfl ?_
  exact ⟨by first | rfl | (simp [errW_none, errW_some] <;> rfl) | (simp [*, errW_none, errW_some] <;> rfl), bz⟩
 ·rw [if_neg c2] at H
  have c2b0 : decide (a0 < (-2533359615)) = false := decide_eq_false c2
  clear c2
  by_cases c5 : a0 > 2533359615
  ·rw [if_pos c5] at H
   have c5b0 : decide (2533359615 < a0) = true := decide_eq_true c5
   clear c5
   simp only [Option.some.injEq, Prod.mk.injEq] at H
   obtain ⟨rfl, rfl, rfl⟩ := H
   go_enter Tryz.func55, Tryz.ntmps55
   go_wp2_with (first | ((with_reducible refine gate_dst (N := 2) rfl ?_); refine box_event ?hg (N := 2) ?hd (cs := #[.int .i64 0, .int .i64 0]) (t := 23) ?hr ?_; (case hd => rfl); (case hg => rfl); (case hr => first | (go_simp; done) | (go_simp; rfl)); intro gb179 hg w6 hbox hb; have BK179 := Aside0.mk hbox; have GW179 := ge hg; have GE179 := ge hg; replace HB := bs hb; clear hb hbox hg; have hcz7_0 := c20 BK179; have hcz7_1 := c21 BK179; have hfz7_0 := blk_frozen BK179.out 0; have hfz7_1 := blk_frozen BK179.out 1))
   refine bodyPost_ret (results_ct rfl _ _ gb179 23 #[.int .i64 0, .int .i64 0] (0, 0) _ rfl (by (with_reducible repeat (first | refine blk_drewN ?_ _ | refine blk_drew ?_ | refine blk_alloc ?_ _)); refine blk_put (cs := #[.int .i64 0, .int .i64 0]) ?_ 1 _ rfl; (with_reducible repeat (first | refine blk_drewN ?_ _ | refine blk_drew ?_ | refine blk_alloc ?_ _)); refine blk_put (cs := #[.int .i64 0, .int .i64 0]) ?_ 0 _ rfl; (with_reducible repeat (first | refine blk_drewN ?_ _ | refine blk_drew ?_ | refine blk_alloc ?_ _)); exact BK179.out) Tryz.underlying23 rfl (by kernel_rfl)) rfl ?_
   exact ⟨by first | rfl | (simp [errW_none, errW_some] <;> rfl) | (simp [*, errW_none, errW_some] <;> rfl), bz⟩
  ·rw [if_neg c5] at H
   have c5b0 : decide (2533359615 < a0) = false := decide_eq_false c5
   clear c5
   replace H := Option.bind_eq_some_iff.mp H
   obtain ⟨⟨t180, t181⟩, A80, H⟩ := H
   replace H : (some (t180, t181, 0)) = some (r1, r2, r3) := H
   have A8 := Aside0.mk A80
   clear A80
   simp only [Option.some.injEq, Prod.mk.injEq] at H
   obtain ⟨rfl, rfl, rfl⟩ := H
   go_enter Tryz.func55, Tryz.ntmps55
   go_wp2_with (first | ((with_reducible refine gate_dst (N := 2) rfl ?_); refine box_event ?hg (N := 2) ?hd (cs := #[.int .i64 0, .int .i64 0]) (t := 23) ?hr ?_; (case hd => rfl); (case hg => rfl); (case hr => first | (go_simp; done) | (go_simp; rfl)); intro gb179 hg w9 hbox hb; have BK179 := Aside0.mk hbox; have GW179 := ge hg; have GE179 := ge hg; replace HB := bs hb; clear hb hbox hg) | ((with_reducible refine gate_callee (f := 111) rfl ?_); refine goesL_ (some 12) rfl rfl Tryz.func111 (by kernel_rfl) rfl #[.int .i64 a0] rfl az ?_; (with_reducible refine (real_at.calls a0 t180 t181 _ A8.out).mono ?_); rintro e w10 ⟨rfl, hb⟩; refine ⟨_, rfl, ?_⟩; replace BK179 := kb BK179 hb; replace HB := bs hb; (try clear hb); have hcz11_0 := c20 BK179; have hcz11_1 := c21 BK179; have hfz11_0 := blk_frozen BK179.out 0; have hfz11_1 := blk_frozen BK179.out 1))
   refine bodyPost_ret (results_ct rfl _ _ gb179 23 #[.int .i64 t180, .int .i64 t181] (0, 0) _ rfl (by (with_reducible repeat (first | refine blk_drewN ?_ _ | refine blk_drew ?_ | refine blk_alloc ?_ _)); refine blk_put (cs := #[.int .i64 t180, .int .i64 0]) ?_ 1 _ rfl; (with_reducible repeat (first | refine blk_drewN ?_ _ | refine blk_drew ?_ | refine blk_alloc ?_ _)); refine blk_put (cs := #[.int .i64 0, .int .i64 0]) ?_ 0 _ rfl; (with_reducible repeat (first | refine blk_drewN ?_ _ | refine blk_drew ?_ | refine blk_alloc ?_ _)); exact BK179.out) Tryz.underlying23 rfl (by kernel_rfl)) rfl ?_
   exact ⟨by first | rfl | (simp [errW_none, errW_some] <;> rfl) | (simp [*, errW_none, errW_some] <;> rfl), bz⟩

def manorboylaw02_at.f (a0 : Int) : Option (Int × Int) := (real_At.f (Int.tmod a0 2533359616)).bind fun bt183 => (some (bt183.1, bt183.2.1))
set_option maxHeartbeats 8000000 in
set_option maxRecDepth 100000 in
theorem manorboylaw02_at.calls (a0 : Int) (r1 : Int) (r2 : Int) (w : World) (h : manorboylaw02_at.f a0 = some (r1, r2)) :
  Calls Tryz.prog 38 #[.int .i64 a0] w fun e w' => e = .returned (.agg #[.int .i64 r1, .int .i64 r2]) ∧ Below w.heap.size w w' := by
 have hu23 := Tryz.underlying23
 have HB := Aside0.mk (Below.refl w.heap.size w)
 have H : ((real_At.f (Int.tmod a0 2533359616)).bind fun bt183 => (some (bt183.1, bt183.2.1))) = some (r1, r2) := h
 clear h
 replace H := Option.bind_eq_some_iff.mp H
 obtain ⟨⟨t183, t184, t185⟩, A20, H⟩ := H
 replace H : (some (t183, t184)) = some (r1, r2) := H
 have A2 := Aside0.mk A20
 clear A20
 simp only [Option.some.injEq, Prod.mk.injEq] at H
 obtain ⟨rfl, rfl⟩ := H
 go_enter Tryz.func38, Tryz.ntmps38
 go_wp2_with (first | ((with_reducible refine gate_dst (N := 2) rfl ?_); refine box_event ?hg (N := 2) ?hd (cs := #[.int .i64 0, .int .i64 0]) (t := 23) ?hr ?_; (case hd => rfl); (case hg => rfl); (case hr => first | (go_simp; done) | (go_simp; rfl)); intro gb182 hg w3 hbox hb; have BK182 := Aside0.mk hbox; have GW182 := ge hg; have GE182 := ge hg; replace HB := bs hb; clear hb hbox hg) | ((with_reducible refine gate_callee (f := 55) rfl ?_); refine goesL_ (some 8) rfl rfl Tryz.func55 (by kernel_rfl) rfl #[.int .i64 (Int.tmod a0 2533359616)] rfl az ?_; (with_reducible refine (real_At.calls (Int.tmod a0 2533359616) t183 t184 t185 _ A2.out).mono ?_); rintro e w4 ⟨rfl, hb⟩; refine ⟨_, rfl, ?_⟩; replace BK182 := kb BK182 hb; replace HB := bs hb; (try clear hb)) | ((with_reducible refine gate_dst (N := 3) rfl ?_); refine box_event ?hg (N := 3) ?hd (cs := #[.int .i64 0, .int .i64 0]) (t := 23) ?hr ?_; (case hd => rfl); (case hg => rfl); (case hr => first | (go_simp; done) | (go_simp; rfl)); intro gb186 hg w5 hbox hb; have BK186 := Aside0.mk hbox; have GW186 := ge hg; have GE186 := ge hg; have NB182_186 := nl BK182 hg; have NB186_182 := nr BK182 hg; replace BK182 := kb BK182 hb; replace HB := bs hb; clear hb hbox hg; have hnb6 := NB186_182.out; have hnc6 := NB182_186.out; have hcz7_0 := c20 BK186; have hcz7_1 := c21 BK186; have hfz7_0 := blk_frozen BK186.out 0; have hfz7_1 := blk_frozen BK186.out 1; have hcz8_0 := c20 BK182; have hcz8_1 := c21 BK182; have hfz8_0 := blk_frozen BK182.out 0; have hfz8_1 := blk_frozen BK182.out 1))
 refine bodyPost_ret (results_cell_row rfl _ _ gb182 23 #[.int .i64 t183, .int .i64 t184] (0, 0) _ rfl (by (with_reducible repeat (first | refine blk_drewN ?_ _ | refine blk_drew ?_ | refine blk_alloc ?_ _)); refine blk_put (cs := #[.int .i64 t183, .int .i64 0]) ?_ 1 _ rfl; (with_reducible repeat (first | refine blk_drewN ?_ _ | refine blk_drew ?_ | refine blk_alloc ?_ _)); refine blk_put (cs := #[.int .i64 0, .int .i64 0]) ?_ 0 _ rfl; (with_reducible repeat (first | refine blk_drewN ?_ _ | refine blk_drew ?_ | refine blk_alloc ?_ _)); refine blk_far ?_ NB182_186.out _; (with_reducible repeat (first | refine blk_drewN ?_ _ | refine blk_drew ?_ | refine blk_alloc ?_ _)); refine blk_far ?_ NB182_186.out _; (with_reducible repeat (first | refine blk_drewN ?_ _ | refine blk_drew ?_ | refine blk_alloc ?_ _)); exact BK182.out) Tryz.underlying23 rfl (by kernel_rfl)) rfl ?_
 exact ⟨by first | rfl | (simp [errW_none, errW_some] <;> rfl) | (simp [*, errW_none, errW_some] <;> rfl), bz⟩

-- NOT PRINTED: function 163 (api_Real_163)

-- NOT PRINTED: function 143 (api_Real_143)

-- NOT PRINTED: function 99 (real_all)

-- NOT PRINTED: function 48 (real_Cmp)

-- NOT PRINTED: function 13 (manorboylaw02_RealOrder)

end Go.Proofs.YteigbokklclmbaaGreatDoor.Z.Y
end
section
namespace Go.Proofs.YteigbokklclmbaaGreatDoor.Z.Y
open Go.RowKit Go.Proofs.YteigbokklclmbaaGreatDoor.Given Go.Proofs.YteigbokklclmbaaGreatDoorW.PrintWords Go.Proofs.YteigbokklclmbaaGreatDoorW.PrintLast Go.Proofs.YteigbokklclmbaaGreatDoorW.PrintMore
attribute [local go_sem] max2_int min2_int max_two min_two max_three min_three max_four min_four   -- for this text's walks alone
set_option linter.unusedVariables false
set_option linter.unusedSimpArgs false

attribute [local go_sem high] eqA23
def manorboylaw02_sanity.j0 : Nat → Bool → Option (Bool)
 | 0, _ => none
 | k + 1, x60 => if x60 = true then (some false) else ((real_Entier.f (-12582912) (-23)).bind fun bt127 => ((real_Round.f 10485760 (-22)).bind fun bt129 => ((real_Parse.f k (⟨#[49, 101, 54, 48]⟩ : ByteArray)).bind fun bt131 => ((real_PowZ.f 0 0 (-1)).bind fun bt134 => ((real_Print.f k 1 (-150)).bind fun bt137 => (if bt127.2 = 0 then (if bt129.2 = 0 then (if bt127.1 = (-2) then (if bt129.1 = 3 then (if bt131.2.2 = 3 then (if bt134.2.2 = 5 then (if bt137.2 = 0 then (if bt137.1.toList = ([55, 46, 48, 101, 45, 52, 54] : List UInt8) then ((real_FromIntN.f k 16777217).bind fun bt139 => ((manorboylaw02_two.f 24).bind fun bt141 => (some (bt139.1 == bt141.1 && (bt139.2 == bt141.2))))) else (some false)) else (some false)) else (some false)) else (some false)) else (some false)) else (some false)) else (some false)) else (some false)))))))
def manorboylaw02_sanity.f (k : Nat)  : Option (Bool) := (manorboylaw02_two.f 0).bind fun bt102 => ((manorboylaw02_two.f (-24)).bind fun bt104 => ((real_Add.f k bt102.1 bt102.2 bt104.1 bt104.2).bind fun bt106 => ((manorboylaw02_two.f 0).bind fun bt110 => ((real_Div.f k bt110.1 bt110.2 12582912 (-22)).bind fun bt112 => ((real_Parse.f k (⟨#[48, 46, 49]⟩ : ByteArray)).bind fun bt116 => ((real_Print.f k bt112.1 bt112.2.1).bind fun bt120 => ((manorboylaw02_two.f 0).bind fun bt122 => ((manorboylaw02_is.f bt106.1 bt106.2.1 bt106.2.2 bt122.1 bt122.2).bind fun t124 => (if t124 = true then ((manorboylaw02_is.f bt112.1 bt112.2.1 bt112.2.2 11184811 (-25)).bind fun t125 => (if t125 = true then ((manorboylaw02_is.f bt116.1 bt116.2.1 bt116.2.2 13421773 (-27)).bind fun t126 => (if t126 = true then (if bt120.2 = 0 then (manorboylaw02_sanity.j0 k (bt120.1.toList != ([48, 46, 51, 51, 51, 51, 51, 51, 51, 52] : List UInt8))) else (manorboylaw02_sanity.j0 k true)) else (manorboylaw02_sanity.j0 k true))) else (manorboylaw02_sanity.j0 k true))) else (manorboylaw02_sanity.j0 k true))))))))))
theorem manorboylaw02_sanity.mono_l : ∀ k, (∀ y0, LeO (manorboylaw02_sanity.j0 k y0) (manorboylaw02_sanity.j0 (k + 1) y0))
 | 0 => fun _ r h => by simp [manorboylaw02_sanity.j0] at h
 | k + 1 => by
  have ih0 := manorboylaw02_sanity.mono_l k
  ·intro y0
   unfold manorboylaw02_sanity.j0
   repeat' first
   | (with_reducible exact ih0 _)
   | (with_reducible exact real_Add.mono _ _ _ _ _)
   | (with_reducible exact real_Div.mono _ _ _ _ _)
   | (with_reducible exact real_FromIntN.mono _ _)
   | (with_reducible exact real_Parse.mono _ _)
   | (with_reducible exact real_Print.mono _ _ _)
   | (with_reducible exact LeO.refl _)
   | (with_reducible exact LeO.none _)
   | (with_reducible refine LeO.ite ?_ ?_)
   | (with_reducible refine LeO.bind ?_ (fun _ => ?_))
   | exact ih0 _
   | exact real_Add.mono _ _ _ _ _
   | exact real_Div.mono _ _ _ _ _
   | exact real_FromIntN.mono _ _
   | exact real_Parse.mono _ _
   | exact real_Print.mono _ _ _
   | exact LeO.none _
   | refine LeO.ite ?_ ?_
   | refine LeO.bind ?_ (fun _ => ?_)
theorem manorboylaw02_sanity.mono : ∀ k, LeO (manorboylaw02_sanity.f k ) (manorboylaw02_sanity.f (k + 1) ) := by
 intro  k
 have ih0 := manorboylaw02_sanity.mono_l k
 unfold manorboylaw02_sanity.f
 repeat' first
   | (with_reducible exact ih0 _)
   | (with_reducible exact real_Add.mono _ _ _ _ _)
   | (with_reducible exact real_Div.mono _ _ _ _ _)
   | (with_reducible exact real_FromIntN.mono _ _)
   | (with_reducible exact real_Parse.mono _ _)
   | (with_reducible exact real_Print.mono _ _ _)
   | (with_reducible exact LeO.refl _)
   | (with_reducible exact LeO.none _)
   | (with_reducible refine LeO.ite ?_ ?_)
   | (with_reducible refine LeO.bind ?_ (fun _ => ?_))
   | exact ih0 _
   | exact real_Add.mono _ _ _ _ _
   | exact real_Div.mono _ _ _ _ _
   | exact real_FromIntN.mono _ _
   | exact real_Parse.mono _ _
   | exact real_Print.mono _ _ _
   | exact LeO.none _
   | refine LeO.ite ?_ ?_
   | refine LeO.bind ?_ (fun _ => ?_)
def manorboylaw02_sanity.T5 : Bool × List (List Nat × List Nat) := (true, [([], []), ([], []), ([], []), ([0, 1, 2, 2], [0, 1, 2]), ([3], [3]), ([4, 3], [4]), ([5], [5]), ([5], [5]), ([5], [5]), ([6, 7, 8, 5, 5], [5, 6, 7, 8]), ([9, 5], [5, 9]), ([5, 10], [5, 10]), ([11, 9], [11]), ([12], [12]), ([12], [12]), ([12], [12]), ([13, 14, 15, 12, 12], [12, 13, 14, 15]), ([16, 12], [12, 16]), ([12, 17], [12, 17]), ([18, 16], [18]), ([19], [19]), ([20, 19], [19, 20]), ([19, 21], [19, 21]), ([22, 19], [22]), ([23], [23]), ([24, 23], [23, 24]), ([23, 25], [23, 25])])
def manorboylaw02_sanity.B5 : List Nat := [0, 0, 0, 7, 15, 31, 63, 63, 63, 511, 1023, 2047, 4095, 8191, 8191, 8191, 65535, 131071, 262143, 524287, 1048575, 2097151, 4194303, 8388607, 16777215, 33554431, 67108863]
theorem manorboylaw02_sanity.tab5 : rtab .any (opsOf Tryz.f19 5) = manorboylaw02_sanity.T5 := by kernel_rfl
theorem manorboylaw02_sanity.bits5 : waitsOk manorboylaw02_sanity.T5.2 manorboylaw02_sanity.B5 = true := by kernel_rfl
theorem manorboylaw02_sanity.no : ∀ k, manorboylaw02_sanity.j0 k true ≠ some true
 | 0, h => by simp [manorboylaw02_sanity.j0] at h
 | k + 1, h => by simp [manorboylaw02_sanity.j0] at h
set_option maxHeartbeats 8000000 in
set_option maxRecDepth 100000 in
theorem manorboylaw02_sanity.calls (k : Nat)  (r : Bool) (w : World) (h : manorboylaw02_sanity.f k  = some r) (hr : r = true) (ht : Table w) :
  Calls Tryz.prog 19 #[] w fun e w' => e = .returned (.bool r) ∧ Below w.heap.size w w' := by
 have hu23 := Tryz.underlying23
 have HB := Aside0.mk (Below.refl w.heap.size w)
 have HT := Aside0.mk (Lib.tabBelow_of_tabIs ht)
 clear ht
 have H : ((manorboylaw02_two.f 0).bind fun bt102 => ((manorboylaw02_two.f (-24)).bind fun bt104 => ((real_Add.f k bt102.1 bt102.2 bt104.1 bt104.2).bind fun bt106 => ((manorboylaw02_two.f 0).bind fun bt110 => ((real_Div.f k bt110.1 bt110.2 12582912 (-22)).bind fun bt112 => ((real_Parse.f k (⟨#[48, 46, 49]⟩ : ByteArray)).bind fun bt116 => ((real_Print.f k bt112.1 bt112.2.1).bind fun bt120 => ((manorboylaw02_two.f 0).bind fun bt122 => ((manorboylaw02_is.f bt106.1 bt106.2.1 bt106.2.2 bt122.1 bt122.2).bind fun t124 => (if t124 = true then ((manorboylaw02_is.f bt112.1 bt112.2.1 bt112.2.2 11184811 (-25)).bind fun t125 => (if t125 = true then ((manorboylaw02_is.f bt116.1 bt116.2.1 bt116.2.2 13421773 (-27)).bind fun t126 => (if t126 = true then (if bt120.2 = 0 then (manorboylaw02_sanity.j0 k (bt120.1.toList != ([48, 46, 51, 51, 51, 51, 51, 51, 51, 52] : List UInt8))) else (manorboylaw02_sanity.j0 k true)) else (manorboylaw02_sanity.j0 k true))) else (manorboylaw02_sanity.j0 k true))) else (manorboylaw02_sanity.j0 k true))))))))))) = some r := h
 clear h
 replace H := Option.bind_eq_some_iff.mp H
 obtain ⟨⟨t102, t103⟩, A10, H⟩ := H
 try dsimp only at H
 have A1 := Aside0.mk A10
 clear A10
 replace H := Option.bind_eq_some_iff.mp H
 obtain ⟨⟨t104, t105⟩, A20, H⟩ := H
 try dsimp only at H
 have A2 := Aside0.mk A20
 clear A20
 replace H := Option.bind_eq_some_iff.mp H
 obtain ⟨⟨t106, t107, t108⟩, A30, H⟩ := H
 try dsimp only at H
 have A3 := Aside0.mk A30
 clear A30
 replace H := Option.bind_eq_some_iff.mp H
 obtain ⟨⟨t110, t111⟩, A40, H⟩ := H
 try dsimp only at H
 have A4 := Aside0.mk A40
 clear A40
 replace H := Option.bind_eq_some_iff.mp H
 obtain ⟨⟨t112, t113, t114⟩, A50, H⟩ := H
 try dsimp only at H
 have A5 := Aside0.mk A50
 clear A50
 replace H := Option.bind_eq_some_iff.mp H
 obtain ⟨⟨t116, t117, t118⟩, A60, H⟩ := H
 try dsimp only at H
 have A6 := Aside0.mk A60
 clear A60
 replace H := Option.bind_eq_some_iff.mp H
 obtain ⟨⟨t120, t121⟩, A70, H⟩ := H
 try dsimp only at H
 have A7 := Aside0.mk A70
 clear A70
 have HC8 := Aside0.mk H
 clear H
 go_enter Tryz.func19, Tryz.ntmps19
 go_upto_region 5 with (first | ((with_reducible refine gate_callee (f := 49) rfl ?_); refine goesL_ (some 14) rfl rfl Tryz.func49 (by kernel_rfl) rfl #[.int .i64 0] rfl az ?_; (with_reducible refine (manorboylaw02_two.calls 0 t102 t103 _ A1.out).mono ?_); rintro e w9 ⟨rfl, hb⟩; refine ⟨_, rfl, ?_⟩; replace HB := bs hb; (try clear hb)) | ((with_reducible refine gate_callee (f := 49) rfl ?_); refine goesL_ (some 15) rfl rfl Tryz.func49 (by kernel_rfl) rfl #[.int .i64 (-24)] rfl az ?_; (with_reducible refine (manorboylaw02_two.calls (-24) t104 t105 _ A2.out).mono ?_); rintro e w10 ⟨rfl, hb⟩; refine ⟨_, rfl, ?_⟩; replace HB := bs hb; (try clear hb)) | ((with_reducible refine gate_callee (f := 33) rfl ?_); refine goesL_ (some 16) rfl rfl Tryz.func33 (by kernel_rfl) rfl #[.agg #[.int .i64 t102, .int .i64 t103], .agg #[.int .i64 t104, .int .i64 t105]] rfl az ?_; (with_reducible refine (real_Add.calls k t102 t103 t104 t105 t106 t107 t108 _ A3.out).mono ?_); rintro e w11 ⟨rfl, hb⟩; refine ⟨_, rfl, ?_⟩; replace HB := bs hb; (try clear hb)) | ((with_reducible refine gate_dst (N := 1) rfl ?_); refine box_event ?hg (N := 1) ?hd (cs := #[.int .i64 0, .int .i64 0]) (t := 23) ?hr ?_; (case hd => rfl); (case hg => rfl); (case hr => first | (go_simp; done) | (go_simp; rfl)); intro gb109 hg w12 hbox hb; have BK109 := Aside0.mk hbox; have GW109 := ge hg; have GE109 := ge hg; replace HB := bs hb; clear hb hbox hg; have hcz13_0 := c20 BK109; have hcz13_1 := c21 BK109; have hfz13_0 := blk_frozen BK109.out 0; have hfz13_1 := blk_frozen BK109.out 1) | ((with_reducible refine gate_callee (f := 49) rfl ?_); refine goesL_ (some 20) rfl rfl Tryz.func49 (by kernel_rfl) rfl #[.int .i64 0] rfl az ?_; (with_reducible refine (manorboylaw02_two.calls 0 t110 t111 _ A4.out).mono ?_); rintro e w14 ⟨rfl, hb⟩; refine ⟨_, rfl, ?_⟩; replace BK109 := Aside0.mk (blk_below (g := gb109) (o := .cells #[.int .i64 t106, .int .i64 t107] 23 (0, 0)) (by (with_reducible repeat (first | refine blk_drewN ?_ _ | refine blk_drew ?_ | refine blk_alloc ?_ _)); refine blk_put (cs := #[.int .i64 t106, .int .i64 0]) ?_ 1 _ rfl; (with_reducible repeat (first | refine blk_drewN ?_ _ | refine blk_drew ?_ | refine blk_alloc ?_ _)); refine blk_put (cs := #[.int .i64 0, .int .i64 0]) ?_ 0 _ rfl; (with_reducible repeat (first | refine blk_drewN ?_ _ | refine blk_drew ?_ | refine blk_alloc ?_ _)); exact BK109.out) hb); replace HB := bs hb; (try clear hb)) | ((with_reducible refine gate_callee (f := 32) rfl ?_); refine goesL_ (some 22) rfl rfl Tryz.func32 (by kernel_rfl) rfl #[.agg #[.int .i64 t110, .int .i64 t111], .agg #[.int .i64 12582912, .int .i64 (-22)]] rfl az ?_; (with_reducible refine (real_Div.calls k t110 t111 12582912 (-22) t112 t113 t114 _ A5.out).mono ?_); rintro e w15 ⟨rfl, hb⟩; refine ⟨_, rfl, ?_⟩; replace BK109 := kb BK109 hb; replace HB := bs hb; (try clear hb)) | ((with_reducible refine gate_dst (N := 3) rfl ?_); refine box_event ?hg (N := 3) ?hd (cs := #[.int .i64 0, .int .i64 0]) (t := 23) ?hr ?_; (case hd => rfl); (case hg => rfl); (case hr => first | (go_simp; done) | (go_simp; rfl)); intro gb115 hg w16 hbox hb; have BK115 := Aside0.mk hbox; have GW115 := ge hg; have GE115 := ge hg; have NB109_115 := nl BK109 hg; have NB115_109 := nr BK109 hg; replace BK109 := kb BK109 hb; replace HB := bs hb; clear hb hbox hg; have hnb17 := NB115_109.out; have hnc17 := NB109_115.out; have hcz18_0 := c20 BK115; have hcz18_1 := c21 BK115; have hfz18_0 := blk_frozen BK115.out 0; have hfz18_1 := blk_frozen BK115.out 1) | ((with_reducible refine gate_callee (f := 25) rfl ?_); refine goesL_ (some 26) rfl rfl Tryz.func25 (by kernel_rfl) rfl #[.string (⟨#[48, 46, 49]⟩ : ByteArray)] rfl az ?_; (with_reducible refine (real_Parse.calls k (⟨#[48, 46, 49]⟩ : ByteArray) t116 t117 t118 _ A6.out).mono ?_); rintro e w19 ⟨rfl, hb⟩; refine ⟨_, rfl, ?_⟩; replace BK109 := Aside0.mk (blk_below (g := gb109) (o := .cells #[.int .i64 t106, .int .i64 t107] 23 (0, 0)) (by (with_reducible repeat (first | refine blk_drewN ?_ _ | refine blk_drew ?_ | refine blk_alloc ?_ _)); refine blk_far ?_ NB109_115.out _; (with_reducible repeat (first | refine blk_drewN ?_ _ | refine blk_drew ?_ | refine blk_alloc ?_ _)); refine blk_far ?_ NB109_115.out _; (with_reducible repeat (first | refine blk_drewN ?_ _ | refine blk_drew ?_ | refine blk_alloc ?_ _)); exact BK109.out) hb); replace BK115 := Aside0.mk (blk_below (g := gb115) (o := .cells #[.int .i64 t112, .int .i64 t113] 23 (0, 0)) (by (with_reducible repeat (first | refine blk_drewN ?_ _ | refine blk_drew ?_ | refine blk_alloc ?_ _)); refine blk_put (cs := #[.int .i64 t112, .int .i64 0]) ?_ 1 _ rfl; (with_reducible repeat (first | refine blk_drewN ?_ _ | refine blk_drew ?_ | refine blk_alloc ?_ _)); refine blk_put (cs := #[.int .i64 0, .int .i64 0]) ?_ 0 _ rfl; (with_reducible repeat (first | refine blk_drewN ?_ _ | refine blk_drew ?_ | refine blk_alloc ?_ _)); exact BK115.out) hb); replace HB := bs hb; (try clear hb)) | ((with_reducible refine gate_dst (N := 5) rfl ?_); refine box_event ?hg (N := 5) ?hd (cs := #[.int .i64 0, .int .i64 0]) (t := 23) ?hr ?_; (case hd => rfl); (case hg => rfl); (case hr => first | (go_simp; done) | (go_simp; rfl)); intro gb119 hg w20 hbox hb; have BK119 := Aside0.mk hbox; have GW119 := ge hg; have GE119 := ge hg; have NB109_119 := nl BK109 hg; have NB119_109 := nr BK109 hg; have NB115_119 := nl BK115 hg; have NB119_115 := nr BK115 hg; replace BK109 := kb BK109 hb; replace BK115 := kb BK115 hb; replace HB := bs hb; clear hb hbox hg; have hnb21 := NB119_109.out; have hnc21 := NB109_119.out; have hnb22 := NB119_115.out; have hnc22 := NB115_119.out; have hcz23_0 := c20 BK119; have hcz23_1 := c21 BK119; have hfz23_0 := blk_frozen BK119.out 0; have hfz23_1 := blk_frozen BK119.out 1; have hcz24_0 := c20 BK115; have hcz24_1 := c21 BK115; have hfz24_0 := blk_frozen BK115.out 0; have hfz24_1 := blk_frozen BK115.out 1) | ((with_reducible refine gate_callee (f := 27) rfl ?_); refine goesL_ (some 31) rfl rfl Tryz.func27 (by kernel_rfl) rfl #[.agg #[.int .i64 t112, .int .i64 t113]] rfl az ?_; (with_reducible refine (real_Print.calls k t112 t113 t120 t121 _ A7.out (tabAt HT.out bz)).mono ?_); rintro e w25 ⟨rfl, hb⟩; refine ⟨_, rfl, ?_⟩; replace BK109 := Aside0.mk (blk_below (g := gb109) (o := .cells #[.int .i64 t106, .int .i64 t107] 23 (0, 0)) (by (with_reducible repeat (first | refine blk_drewN ?_ _ | refine blk_drew ?_ | refine blk_alloc ?_ _)); refine blk_far ?_ NB109_119.out _; (with_reducible repeat (first | refine blk_drewN ?_ _ | refine blk_drew ?_ | refine blk_alloc ?_ _)); refine blk_far ?_ NB109_119.out _; (with_reducible repeat (first | refine blk_drewN ?_ _ | refine blk_drew ?_ | refine blk_alloc ?_ _)); exact BK109.out) hb); replace BK115 := Aside0.mk (blk_below (g := gb115) (o := .cells #[.int .i64 t112, .int .i64 t113] 23 (0, 0)) (by (with_reducible repeat (first | refine blk_drewN ?_ _ | refine blk_drew ?_ | refine blk_alloc ?_ _)); refine blk_far ?_ NB115_119.out _; (with_reducible repeat (first | refine blk_drewN ?_ _ | refine blk_drew ?_ | refine blk_alloc ?_ _)); refine blk_far ?_ NB115_119.out _; (with_reducible repeat (first | refine blk_drewN ?_ _ | refine blk_drew ?_ | refine blk_alloc ?_ _)); exact BK115.out) hb); replace BK119 := Aside0.mk (blk_below (g := gb119) (o := .cells #[.int .i64 t116, .int .i64 t117] 23 (0, 0)) (by (with_reducible repeat (first | refine blk_drewN ?_ _ | refine blk_drew ?_ | refine blk_alloc ?_ _)); refine blk_put (cs := #[.int .i64 t116, .int .i64 0]) ?_ 1 _ rfl; (with_reducible repeat (first | refine blk_drewN ?_ _ | refine blk_drew ?_ | refine blk_alloc ?_ _)); refine blk_put (cs := #[.int .i64 0, .int .i64 0]) ?_ 0 _ rfl; (with_reducible repeat (first | refine blk_drewN ?_ _ | refine blk_drew ?_ | refine blk_alloc ?_ _)); exact BK119.out) hb); replace HB := bs hb; (try clear hb)))
 (try simp only [Act.put, List.setIfInBounds_toArray, List.set_cons_zero, List.set_cons_succ])
 go_cut [60] (fun v60 wc => ∃ (kq : Nat) (x60_7 : Bool), v60 = .bool x60_7 ∧ Aside0 (manorboylaw02_sanity.j0 kq x60_7 = some r) ∧ Aside0 (kq ≤ k) ∧ Aside0 (wc.heap[gb109]? = some (.cells #[.int .i64 t106, .int .i64 t107] 23 (0, 0))) ∧ Aside0 (wc.heap[gb115]? = some (.cells #[.int .i64 t112, .int .i64 t113] 23 (0, 0))) ∧ Aside0 (wc.heap[gb119]? = some (.cells #[.int .i64 t116, .int .i64 t117] 23 (0, 0))) ∧ Aside0 (Below w.heap.size w wc))
 case first => as_aux_lemma =>
  have H := HC8.out
  clear HC8
  replace H := Option.bind_eq_some_iff.mp H
  obtain ⟨⟨t122, t123⟩, A260, H⟩ := H
  try dsimp only at H
  have A26 := Aside0.mk A260
  clear A260
  replace H := Option.bind_eq_some_iff.mp H
  obtain ⟨t124, A270, H⟩ := H
  try dsimp only at H
  have A27 := Aside0.mk A270
  clear A270
  by_cases c28 : t124 = true
  ·subst c28
   have H1 : ((manorboylaw02_is.f t112 t113 t114 11184811 (-25)).bind fun t125 => (if t125 = true then ((manorboylaw02_is.f t116 t117 t118 13421773 (-27)).bind fun t126 => (if t126 = true then (if t121 = 0 then (manorboylaw02_sanity.j0 k (t120.toList != ([48, 46, 51, 51, 51, 51, 51, 51, 51, 52] : List UInt8))) else (manorboylaw02_sanity.j0 k true)) else (manorboylaw02_sanity.j0 k true))) else (manorboylaw02_sanity.j0 k true))) = some r := by rw [if_pos rfl] at H; exact H
   clear H
   have H := H1
   clear H1
   replace H := Option.bind_eq_some_iff.mp H
   obtain ⟨t125, A290, H⟩ := H
   try dsimp only at H
   have A29 := Aside0.mk A290
   clear A290
   by_cases c30 : t125 = true
   ·subst c30
    have H1 : ((manorboylaw02_is.f t116 t117 t118 13421773 (-27)).bind fun t126 => (if t126 = true then (if t121 = 0 then (manorboylaw02_sanity.j0 k (t120.toList != ([48, 46, 51, 51, 51, 51, 51, 51, 51, 52] : List UInt8))) else (manorboylaw02_sanity.j0 k true)) else (manorboylaw02_sanity.j0 k true))) = some r := by rw [if_pos rfl] at H; exact H
    clear H
    have H := H1
    clear H1
    replace H := Option.bind_eq_some_iff.mp H
    obtain ⟨t126, A310, H⟩ := H
    try dsimp only at H
    have A31 := Aside0.mk A310
    clear A310
    by_cases c32 : t126 = true
    ·subst c32
     have H1 : (if t121 = 0 then (manorboylaw02_sanity.j0 k (t120.toList != ([48, 46, 51, 51, 51, 51, 51, 51, 51, 52] : List UInt8))) else (manorboylaw02_sanity.j0 k true)) = some r := by rw [if_pos rfl] at H; exact H
     clear H
     have H := H1
     clear H1
     by_cases c33 : t121 = 0
     ·rw [if_pos c33] at H
      have c33b0 : (t121 == 0) = true := beq_iff_eq.mpr c33
      have c33b1 : (t121 != 0) = false := bne_eq_false_iff_eq.mpr c33
      clear c33
      (first | rw [c33b0] | (simp only [i64_w, i32_w]; rw [c33b0]) | skip)
      have H' := Aside0.mk H
      clear H
      try go_wp2
      replace BK109 := Aside0.mk (blk_drew BK109.out)
      replace BK115 := Aside0.mk (blk_drew BK115.out)
      replace BK119 := Aside0.mk (blk_drew BK119.out)
      replace HB := Aside0.mk (below_drew1 HB.out)
      refine start_ (n := 27) (S := fun w' => w'.cell? ⟨gb109, 0, none⟩ = some (.int .i64 t106) ∧ w'.cell? ⟨gb109, 1, none⟩ = some (.int .i64 t107) ∧ w'.cell? ⟨gb115, 0, none⟩ = some (.int .i64 t112) ∧ w'.cell? ⟨gb115, 1, none⟩ = some (.int .i64 t113) ∧ w'.cell? ⟨gb119, 0, none⟩ = some (.int .i64 t116) ∧ w'.cell? ⟨gb119, 1, none⟩ = some (.int .i64 t117)) (ds := []) #[false, false, false, false, false, false, false, false, false, false, false, false, false, false, false, false, false, false, false, false, false, false, false, false, false, false, false] (by kernel_rfl) rfl rfl ⟨(blk_cell BK109.out 0).trans rfl, (blk_cell BK109.out 1).trans rfl, (blk_cell BK115.out 0).trans rfl, (blk_cell BK115.out 1).trans rfl, (blk_cell BK119.out 0).trans rfl, (blk_cell BK119.out 1).trans rfl⟩ (fun hHeld => ?_); refine with_tabW manorboylaw02_sanity.tab5 manorboylaw02_sanity.bits5 (fun HT_ HW_ => ?_)
      generalize w25.drew = w34 at BK109 BK115 BK119 HB hHeld ⊢
      refine pur 1 (some 35) #[ff,tt,ff,ff,ff,ff,ff,ff,ff,ff,ff,ff,ff,ff,ff,ff,ff,ff,ff,ff,ff,ff,ff,ff,ff,ff,ff] ?_
      refine take_ (i := 0) (N := some 34) (v := ?_) (a' := ?_) #[true, true, false, false, false, false, false, false, false, false, false, false, false, false, false, false, false, false, false, false, false, false, false, false, false, false, false] rfl rfl (take_ofW HT_.out HW_.out (by kernel_rfl)) (fun _ _ _ h => h) (Or.inl ⟨by rfl, ?_⟩) hHeld ?_ ?_
      rotate_left
      ·rintro w' ⟨s0, s1, s2, s3, s4, s5⟩
       go_simp
       with_reducible rfl
      rotate_left
      ·simp only [Act.put, List.setIfInBounds_toArray, List.set_cons_zero, List.set_cons_succ, i64_w, i32_w]
       rfl
      refine one_ (i := 2) (N := some 36) #[true, true, true, false, false, false, false, false, false, false, false, false, false, false, false, false, false, false, false, false, false, false, false, false, false, false, false] rfl rfl (one_of HT_.out (by kernel_rfl)) (by decide) (fun K hK => ?_)
      refine goes_ Tryz.func49 (by kernel_rfl) rfl #[.int .i64 0] (by rfl) rfl rfl az ?_
      with_reducible refine (manorboylaw02_two.calls 0 t122 t123 _ A26.out).mono ?_
      rintro e w35 ⟨rfl, hb⟩
      refine ⟨_, rfl, ?_⟩
      replace BK109 := kb BK109 hb
      replace BK115 := kb BK115 hb
      replace BK119 := kb BK119 hb
      replace HB := bs hb
      (try clear hb)
      refine hK.out _ _ ⟨(blk_cell BK109.out 0).trans rfl, (blk_cell BK109.out 1).trans rfl, (blk_cell BK115.out 0).trans rfl, (blk_cell BK115.out 1).trans rfl, (blk_cell BK119.out 0).trans rfl, (blk_cell BK119.out 1).trans rfl⟩ (fun hHeld => ?_)
      clear hK K
      refine norm_ (a' := ?_) ?_ ?_
      rotate_left
      ·show Act.put _ (some 36) _ = _
       simp only [Act.put, List.setIfInBounds_toArray, List.set_cons_zero, List.set_cons_succ, i64_w, i32_w]
       rfl
      refine one_ (i := 3) (N := some 37) #[true, true, true, true, false, false, false, false, false, false, false, false, false, false, false, false, false, false, false, false, false, false, false, false, false, false, false] rfl rfl (one_of HT_.out (by kernel_rfl)) (by decide) (fun K hK => ?_)
      refine goes_ Tryz.func39 (by kernel_rfl) rfl #[.agg #[.int .i64 t106, .int .i64 t107], .int .i64 t108, .agg #[.int .i64 t122, .int .i64 t123]] (by rfl) rfl rfl az ?_
      with_reducible refine (manorboylaw02_is.calls t106 t107 t108 t122 t123 true _ A27.out).mono ?_
      rintro e w36 ⟨rfl, hb⟩
      refine ⟨_, rfl, ?_⟩
      replace BK109 := kb BK109 hb
      replace BK115 := kb BK115 hb
      replace BK119 := kb BK119 hb
      replace HB := bs hb
      (try clear hb)
      refine hK.out _ _ ⟨(blk_cell BK109.out 0).trans rfl, (blk_cell BK109.out 1).trans rfl, (blk_cell BK115.out 0).trans rfl, (blk_cell BK115.out 1).trans rfl, (blk_cell BK119.out 0).trans rfl, (blk_cell BK119.out 1).trans rfl⟩ (fun hHeld => ?_)
      clear hK K
      refine norm_ (a' := ?_) ?_ ?_
      rotate_left
      ·show Act.put _ (some 37) _ = _
       simp only [Act.put, List.setIfInBounds_toArray, List.set_cons_zero, List.set_cons_succ, i64_w, i32_w]
       rfl
      refine pur 4 (some 38) #[tt,tt,tt,tt,tt,ff,ff,ff,ff,ff,ff,ff,ff,ff,ff,ff,ff,ff,ff,ff,ff,ff,ff,ff,ff,ff,ff] ?_
      refine pur 5 (some 39) #[tt,tt,tt,tt,tt,tt,ff,ff,ff,ff,ff,ff,ff,ff,ff,ff,ff,ff,ff,ff,ff,ff,ff,ff,ff,ff,ff] ?_
      refine pur 7 (some 41) #[tt,tt,tt,tt,tt,tt,ff,tt,ff,ff,ff,ff,ff,ff,ff,ff,ff,ff,ff,ff,ff,ff,ff,ff,ff,ff,ff] ?_
      refine pur 8 (some 42) #[tt,tt,tt,tt,tt,tt,ff,tt,tt,ff,ff,ff,ff,ff,ff,ff,ff,ff,ff,ff,ff,ff,ff,ff,ff,ff,ff] ?_
      refine take_ (i := 6) (N := some 40) (v := ?_) (a' := ?_) #[true, true, true, true, true, true, true, true, true, false, false, false, false, false, false, false, false, false, false, false, false, false, false, false, false, false, false] rfl rfl (take_ofW HT_.out HW_.out (by kernel_rfl)) (fun _ _ _ h => h) (Or.inl ⟨by rfl, ?_⟩) hHeld ?_ ?_
      rotate_left
      ·rintro w' ⟨s0, s1, s2, s3, s4, s5⟩
       go_simp
       with_reducible rfl
      rotate_left
      ·simp only [Act.put, List.setIfInBounds_toArray, List.set_cons_zero, List.set_cons_succ, i64_w, i32_w]
       rfl
      refine one_ (i := 9) (N := some 43) #[true, true, true, true, true, true, true, true, true, true, false, false, false, false, false, false, false, false, false, false, false, false, false, false, false, false, false] rfl rfl (one_of HT_.out (by kernel_rfl)) (by decide) (fun K hK => ?_)
      refine goes_ Tryz.func39 (by kernel_rfl) rfl #[.agg #[.int .i64 t112, .int .i64 t113], .int .i64 t114, .agg #[.int .i64 11184811, .int .i64 (-25)]] (by rfl) rfl rfl az ?_
      with_reducible refine (manorboylaw02_is.calls t112 t113 t114 11184811 (-25) true _ A29.out).mono ?_
      rintro e w37 ⟨rfl, hb⟩
      refine ⟨_, rfl, ?_⟩
      replace BK109 := kb BK109 hb
      replace BK115 := kb BK115 hb
      replace BK119 := kb BK119 hb
      replace HB := bs hb
      (try clear hb)
      refine hK.out _ _ ⟨(blk_cell BK109.out 0).trans rfl, (blk_cell BK109.out 1).trans rfl, (blk_cell BK115.out 0).trans rfl, (blk_cell BK115.out 1).trans rfl, (blk_cell BK119.out 0).trans rfl, (blk_cell BK119.out 1).trans rfl⟩ (fun hHeld => ?_)
      clear hK K
      refine norm_ (a' := ?_) ?_ ?_
      rotate_left
      ·show Act.put _ (some 43) _ = _
       simp only [Act.put, List.setIfInBounds_toArray, List.set_cons_zero, List.set_cons_succ, i64_w, i32_w]
       rfl
      refine pur 10 (some 44) #[tt,tt,tt,tt,tt,tt,tt,tt,tt,tt,tt,ff,ff,ff,ff,ff,ff,ff,ff,ff,ff,ff,ff,ff,ff,ff,ff] ?_
      refine pur 11 (some 45) #[tt,tt,tt,tt,tt,tt,tt,tt,tt,tt,tt,tt,ff,ff,ff,ff,ff,ff,ff,ff,ff,ff,ff,ff,ff,ff,ff] ?_
      refine pur 12 (some 46) #[tt,tt,tt,tt,tt,tt,tt,tt,tt,tt,tt,tt,tt,ff,ff,ff,ff,ff,ff,ff,ff,ff,ff,ff,ff,ff,ff] ?_
      refine pur 14 (some 48) #[tt,tt,tt,tt,tt,tt,tt,tt,tt,tt,tt,tt,tt,ff,tt,ff,ff,ff,ff,ff,ff,ff,ff,ff,ff,ff,ff] ?_
      refine pur 15 (some 49) #[tt,tt,tt,tt,tt,tt,tt,tt,tt,tt,tt,tt,tt,ff,tt,tt,ff,ff,ff,ff,ff,ff,ff,ff,ff,ff,ff] ?_
      refine take_ (i := 13) (N := some 47) (v := ?_) (a' := ?_) #[true, true, true, true, true, true, true, true, true, true, true, true, true, true, true, true, false, false, false, false, false, false, false, false, false, false, false] rfl rfl (take_ofW HT_.out HW_.out (by kernel_rfl)) (fun _ _ _ h => h) (Or.inl ⟨by rfl, ?_⟩) hHeld ?_ ?_
      rotate_left
      ·rintro w' ⟨s0, s1, s2, s3, s4, s5⟩
       go_simp
       with_reducible rfl
      rotate_left
      ·simp only [Act.put, List.setIfInBounds_toArray, List.set_cons_zero, List.set_cons_succ, i64_w, i32_w]
       rfl
      refine one_ (i := 16) (N := some 50) #[true, true, true, true, true, true, true, true, true, true, true, true, true, true, true, true, true, false, false, false, false, false, false, false, false, false, false] rfl rfl (one_of HT_.out (by kernel_rfl)) (by decide) (fun K hK => ?_)
      refine goes_ Tryz.func39 (by kernel_rfl) rfl #[.agg #[.int .i64 t116, .int .i64 t117], .int .i64 t118, .agg #[.int .i64 13421773, .int .i64 (-27)]] (by rfl) rfl rfl az ?_
      with_reducible refine (manorboylaw02_is.calls t116 t117 t118 13421773 (-27) true _ A31.out).mono ?_
      rintro e w38 ⟨rfl, hb⟩
      refine ⟨_, rfl, ?_⟩
      replace BK109 := kb BK109 hb
      replace BK115 := kb BK115 hb
      replace BK119 := kb BK119 hb
      replace HB := bs hb
      (try clear hb)
      refine hK.out _ _ ⟨(blk_cell BK109.out 0).trans rfl, (blk_cell BK109.out 1).trans rfl, (blk_cell BK115.out 0).trans rfl, (blk_cell BK115.out 1).trans rfl, (blk_cell BK119.out 0).trans rfl, (blk_cell BK119.out 1).trans rfl⟩ (fun hHeld => ?_)
      clear hK K
      refine norm_ (a' := ?_) ?_ ?_
      rotate_left
      ·show Act.put _ (some 50) _ = _
       simp only [Act.put, List.setIfInBounds_toArray, List.set_cons_zero, List.set_cons_succ, i64_w, i32_w]
       rfl
      refine pur 17 (some 51) #[tt,tt,tt,tt,tt,tt,tt,tt,tt,tt,tt,tt,tt,tt,tt,tt,tt,tt,ff,ff,ff,ff,ff,ff,ff,ff,ff] ?_
      refine pur 18 (some 52) #[tt,tt,tt,tt,tt,tt,tt,tt,tt,tt,tt,tt,tt,tt,tt,tt,tt,tt,tt,ff,ff,ff,ff,ff,ff,ff,ff] ?_
      refine pur 19 (some 53) #[tt,tt,tt,tt,tt,tt,tt,tt,tt,tt,tt,tt,tt,tt,tt,tt,tt,tt,tt,tt,ff,ff,ff,ff,ff,ff,ff] ?_
      refine pur 20 (some 54) #[tt,tt,tt,tt,tt,tt,tt,tt,tt,tt,tt,tt,tt,tt,tt,tt,tt,tt,tt,tt,tt,ff,ff,ff,ff,ff,ff] ?_
      refine pur 21 (some 55) #[tt,tt,tt,tt,tt,tt,tt,tt,tt,tt,tt,tt,tt,tt,tt,tt,tt,tt,tt,tt,tt,tt,ff,ff,ff,ff,ff] ?_
      refine pur 22 (some 56) #[tt,tt,tt,tt,tt,tt,tt,tt,tt,tt,tt,tt,tt,tt,tt,tt,tt,tt,tt,tt,tt,tt,tt,ff,ff,ff,ff] ?_
      refine pur 23 (some 57) #[tt,tt,tt,tt,tt,tt,tt,tt,tt,tt,tt,tt,tt,tt,tt,tt,tt,tt,tt,tt,tt,tt,tt,tt,ff,ff,ff] ?_
      refine pur 24 (some 58) #[tt,tt,tt,tt,tt,tt,tt,tt,tt,tt,tt,tt,tt,tt,tt,tt,tt,tt,tt,tt,tt,tt,tt,tt,tt,ff,ff] ?_
      refine pur 25 (some 59) #[tt,tt,tt,tt,tt,tt,tt,tt,tt,tt,tt,tt,tt,tt,tt,tt,tt,tt,tt,tt,tt,tt,tt,tt,tt,tt,ff] ?_
      refine pur 26 (some 60) #[tt,tt,tt,tt,tt,tt,tt,tt,tt,tt,tt,tt,tt,tt,tt,tt,tt,tt,tt,tt,tt,tt,tt,tt,tt,tt,tt] ?_
      refine done_ (done_of HT_.out (by kernel_rfl)) ?_
      try go_wp2
      go_meet
      case rel => exact ⟨_, ((t120.toList != ([48, 46, 51, 51, 51, 51, 51, 51, 51, 52] : List UInt8))), (by first | rfl | (simp; done) | (simp [*]; done)), H', ⟨by first | omega | exact Nat.le_refl _⟩, ⟨kz BK109⟩, ⟨kz BK115⟩, ⟨kz BK119⟩, ⟨bz⟩⟩
     ·rw [if_neg c33] at H
      first | exact absurd (Option.some.inj H) (by rw [hr]; decide) | exact absurd H (by rw [hr]; exact manorboylaw02_sanity.no _)
    ·replace c32 := Bool.eq_false_iff.mpr c32
     subst c32
     have H1 : (manorboylaw02_sanity.j0 k true) = some r := by rw [if_neg (show ¬ (false = true) by decide)] at H; exact H
     clear H
     have H := H1
     clear H1
     first | exact absurd (Option.some.inj H) (by rw [hr]; decide) | exact absurd H (by rw [hr]; exact manorboylaw02_sanity.no _)
   ·replace c30 := Bool.eq_false_iff.mpr c30
    subst c30
    have H1 : (manorboylaw02_sanity.j0 k true) = some r := by rw [if_neg (show ¬ (false = true) by decide)] at H; exact H
    clear H
    have H := H1
    clear H1
    first | exact absurd (Option.some.inj H) (by rw [hr]; decide) | exact absurd H (by rw [hr]; exact manorboylaw02_sanity.no _)
  ·replace c28 := Bool.eq_false_iff.mpr c28
   subst c28
   have H1 : (manorboylaw02_sanity.j0 k true) = some r := by rw [if_neg (show ¬ (false = true) by decide)] at H; exact H
   clear H
   have H := H1
   clear H1
   first | exact absurd (Option.some.inj H) (by rw [hr]; decide) | exact absurd H (by rw [hr]; exact manorboylaw02_sanity.no _)
 case rest => as_aux_lemma =>
  clear HC8
  try clear c28
  try clear c30
  obtain ⟨kq, x60_7, rfl, HA, HJ7, BK109, BK115, BK119, HB⟩ := hcut
  cases kq with
  | zero => exact absurd HA.out (by simp [manorboylaw02_sanity.j0])
  | succ kj7 =>
   have H := HA.out
   clear HA
   simp only [manorboylaw02_sanity.j0] at H
   by_cases c56 : x60_7 = true
   ·subst c56
    have H1 : (some false) = some r := by rw [if_pos rfl] at H; exact H
    clear H
    have H := H1
    clear H1
    first | exact absurd (Option.some.inj H) (by rw [hr]; decide) | exact absurd H (by rw [hr]; exact manorboylaw02_sanity.no _)
   ·replace c56 := Bool.eq_false_iff.mpr c56
    subst c56
    have H1 : ((real_Entier.f (-12582912) (-23)).bind fun bt127 => ((real_Round.f 10485760 (-22)).bind fun bt129 => ((real_Parse.f kj7 (⟨#[49, 101, 54, 48]⟩ : ByteArray)).bind fun bt131 => ((real_PowZ.f 0 0 (-1)).bind fun bt134 => ((real_Print.f kj7 1 (-150)).bind fun bt137 => (if bt127.2 = 0 then (if bt129.2 = 0 then (if bt127.1 = (-2) then (if bt129.1 = 3 then (if bt131.2.2 = 3 then (if bt134.2.2 = 5 then (if bt137.2 = 0 then (if bt137.1.toList = ([55, 46, 48, 101, 45, 52, 54] : List UInt8) then ((real_FromIntN.f kj7 16777217).bind fun bt139 => ((manorboylaw02_two.f 24).bind fun bt141 => (some (bt139.1 == bt141.1 && (bt139.2 == bt141.2))))) else (some false)) else (some false)) else (some false)) else (some false)) else (some false)) else (some false)) else (some false)) else (some false))))))) = some r := by rw [if_neg (show ¬ (false = true) by decide)] at H; exact H
    clear H
    have H := H1
    clear H1
    replace H := Option.bind_eq_some_iff.mp H
    obtain ⟨⟨t127, t128⟩, A570, H⟩ := H
    try dsimp only at H
    have A57 := Aside0.mk A570
    clear A570
    replace H := Option.bind_eq_some_iff.mp H
    obtain ⟨⟨t129, t130⟩, A580, H⟩ := H
    try dsimp only at H
    have A58 := Aside0.mk A580
    clear A580
    replace H := Option.bind_eq_some_iff.mp H
    obtain ⟨⟨t131, t132, t133⟩, A590, H⟩ := H
    try dsimp only at H
    have A59 := Aside0.mk A590
    clear A590
    replace H := Option.bind_eq_some_iff.mp H
    obtain ⟨⟨t134, t135, t136⟩, A600, H⟩ := H
    try dsimp only at H
    have A60 := Aside0.mk A600
    clear A600
    replace H := Option.bind_eq_some_iff.mp H
    obtain ⟨⟨t137, t138⟩, A610, H⟩ := H
    try dsimp only at H
    have A61 := Aside0.mk A610
    clear A610
    by_cases c62 : t128 = 0
    ·rw [if_pos c62] at H
     have c62b0 : (t128 == 0) = true := beq_iff_eq.mpr c62
     have c62b1 : (t128 != 0) = false := bne_eq_false_iff_eq.mpr c62
     clear c62
     by_cases c63 : t130 = 0
     ·rw [if_pos c63] at H
      have c63b0 : (t130 == 0) = true := beq_iff_eq.mpr c63
      have c63b1 : (t130 != 0) = false := bne_eq_false_iff_eq.mpr c63
      clear c63
      by_cases c64 : t127 = (-2)
      ·rw [if_pos c64] at H
       have c64b0 : (t127 == (-2)) = true := beq_iff_eq.mpr c64
       have c64b1 : (t127 != (-2)) = false := bne_eq_false_iff_eq.mpr c64
       clear c64
       by_cases c65 : t129 = 3
       ·rw [if_pos c65] at H
        have c65b0 : (t129 == 3) = true := beq_iff_eq.mpr c65
        have c65b1 : (t129 != 3) = false := bne_eq_false_iff_eq.mpr c65
        clear c65
        by_cases c66 : t133 = 3
        ·rw [if_pos c66] at H
         have c66b0 : (t133 == 3) = true := beq_iff_eq.mpr c66
         have c66b1 : (t133 != 3) = false := bne_eq_false_iff_eq.mpr c66
         clear c66
         by_cases c67 : t136 = 5
         ·rw [if_pos c67] at H
          have c67b0 : (t136 == 5) = true := beq_iff_eq.mpr c67
          have c67b1 : (t136 != 5) = false := bne_eq_false_iff_eq.mpr c67
          clear c67
          by_cases c68 : t138 = 0
          ·rw [if_pos c68] at H
           have c68b0 : (t138 == 0) = true := beq_iff_eq.mpr c68
           have c68b1 : (t138 != 0) = false := bne_eq_false_iff_eq.mpr c68
           clear c68
           by_cases c69 : t137.toList = ([55, 46, 48, 101, 45, 52, 54] : List UInt8)
           ·rw [if_pos c69] at H
            have c69b0 : (t137.toList == ([55, 46, 48, 101, 45, 52, 54] : List UInt8)) = true := beq_iff_eq.mpr c69
            have c69b1 : (t137.toList != ([55, 46, 48, 101, 45, 52, 54] : List UInt8)) = false := bne_eq_false_iff_eq.mpr c69
            clear c69
            replace H := Option.bind_eq_some_iff.mp H
            obtain ⟨⟨t139, t140⟩, A700, H⟩ := H
            try dsimp only at H
            have A70 := Aside0.mk A700
            clear A700
            replace H := Option.bind_eq_some_iff.mp H
            obtain ⟨⟨t141, t142⟩, A710, H⟩ := H
            try dsimp only at H
            have A71 := Aside0.mk A710
            clear A710
            obtain rfl := Option.some.inj H
            go_wp2_with (first | ((with_reducible refine gate_callee (f := 21) rfl ?_); refine goesL_ (some 63) rfl rfl Tryz.func21 (by kernel_rfl) rfl #[.agg #[.int .i64 (-12582912), .int .i64 (-23)]] rfl az ?_; (with_reducible refine (real_Entier.calls (-12582912) (-23) t127 t128 _ A57.out).mono ?_); rintro e w72 ⟨rfl, hb⟩; refine ⟨_, rfl, ?_⟩; replace BK109 := kb BK109 hb; replace BK115 := kb BK115 hb; replace BK119 := kb BK119 hb; replace HB := bs hb; (try clear hb)) | ((with_reducible refine gate_callee (f := 22) rfl ?_); refine goesL_ (some 68) rfl rfl Tryz.func22 (by kernel_rfl) rfl #[.agg #[.int .i64 10485760, .int .i64 (-22)]] rfl az ?_; (with_reducible refine (real_Round.calls 10485760 (-22) t129 t130 _ A58.out).mono ?_); rintro e w73 ⟨rfl, hb⟩; refine ⟨_, rfl, ?_⟩; replace BK109 := kb BK109 hb; replace BK115 := kb BK115 hb; replace BK119 := kb BK119 hb; replace HB := bs hb; (try clear hb)) | ((with_reducible refine gate_callee (f := 25) rfl ?_); refine goesL_ (some 72) rfl rfl Tryz.func25 (by kernel_rfl) rfl #[.string (⟨#[49, 101, 54, 48]⟩ : ByteArray)] rfl az ?_; (with_reducible refine (real_Parse.calls kj7 (⟨#[49, 101, 54, 48]⟩ : ByteArray) t131 t132 t133 _ A59.out).mono ?_); rintro e w74 ⟨rfl, hb⟩; refine ⟨_, rfl, ?_⟩; replace BK109 := kb BK109 hb; replace BK115 := kb BK115 hb; replace BK119 := kb BK119 hb; replace HB := bs hb; (try clear hb)) | ((with_reducible refine gate_callee (f := 17) rfl ?_); refine goesL_ (some 77) rfl rfl Tryz.func17 (by kernel_rfl) rfl #[.agg #[.int .i64 0, .int .i64 0], .int .i64 (-1)] rfl az ?_; (with_reducible refine (real_PowZ.calls 0 0 (-1) t134 t135 t136 _ A60.out).mono ?_); rintro e w75 ⟨rfl, hb⟩; refine ⟨_, rfl, ?_⟩; replace BK109 := kb BK109 hb; replace BK115 := kb BK115 hb; replace BK119 := kb BK119 hb; replace HB := bs hb; (try clear hb)) | ((with_reducible refine gate_callee (f := 27) rfl ?_); refine goesL_ (some 82) rfl rfl Tryz.func27 (by kernel_rfl) rfl #[.agg #[.int .i64 1, .int .i64 (-150)]] rfl az ?_; (with_reducible refine (real_Print.calls kj7 1 (-150) t137 t138 _ A61.out (tabAt HT.out bz)).mono ?_); rintro e w76 ⟨rfl, hb⟩; refine ⟨_, rfl, ?_⟩; replace BK109 := kb BK109 hb; replace BK115 := kb BK115 hb; replace BK119 := kb BK119 hb; replace HB := bs hb; (try clear hb)) | (go_at_call 31; (with_reducible refine (real_FromIntN.calls kj7 16777217 t139 t140 _ A70.out).mono ?_); rintro e w77 ⟨rfl, hb⟩; replace BK109 := kb BK109 hb; replace BK115 := kb BK115 hb; replace BK119 := kb BK119 hb; replace HB := bs hb; (try clear hb)) | (go_at_call 49; (with_reducible refine (manorboylaw02_two.calls 24 t141 t142 _ A71.out).mono ?_); rintro e w78 ⟨rfl, hb⟩; replace BK109 := kb BK109 hb; replace BK115 := kb BK115 hb; replace BK119 := kb BK119 hb; replace HB := bs hb; (try clear hb)))
            go_ret
            exact ⟨by first | rfl | (simp [errW_none, errW_some] <;> rfl) | (simp [*, errW_none, errW_some] <;> rfl), bz⟩
           ·rw [if_neg c69] at H
            first | exact absurd (Option.some.inj H) (by rw [hr]; decide) | exact absurd H (by rw [hr]; exact manorboylaw02_sanity.no _)
          ·rw [if_neg c68] at H
           first | exact absurd (Option.some.inj H) (by rw [hr]; decide) | exact absurd H (by rw [hr]; exact manorboylaw02_sanity.no _)
         ·rw [if_neg c67] at H
          first | exact absurd (Option.some.inj H) (by rw [hr]; decide) | exact absurd H (by rw [hr]; exact manorboylaw02_sanity.no _)
        ·rw [if_neg c66] at H
         first | exact absurd (Option.some.inj H) (by rw [hr]; decide) | exact absurd H (by rw [hr]; exact manorboylaw02_sanity.no _)
       ·rw [if_neg c65] at H
        first | exact absurd (Option.some.inj H) (by rw [hr]; decide) | exact absurd H (by rw [hr]; exact manorboylaw02_sanity.no _)
      ·rw [if_neg c64] at H
       first | exact absurd (Option.some.inj H) (by rw [hr]; decide) | exact absurd H (by rw [hr]; exact manorboylaw02_sanity.no _)
     ·rw [if_neg c63] at H
      first | exact absurd (Option.some.inj H) (by rw [hr]; decide) | exact absurd H (by rw [hr]; exact manorboylaw02_sanity.no _)
    ·rw [if_neg c62] at H
     first | exact absurd (Option.some.inj H) (by rw [hr]; decide) | exact absurd H (by rw [hr]; exact manorboylaw02_sanity.no _)
end Go.Proofs.YteigbokklclmbaaGreatDoor.Z.Y
end
section
namespace Go.Proofs.YteigbokklclmbaaGreatDoor.Z.Y
open Go Go.RowKit Go.Proofs.YteigbokklclmbaaGreatDoor.Given Go.Proofs.YteigbokklclmbaaGreatDoorW.PrintWords Go.Proofs.YteigbokklclmbaaGreatDoorW.PrintLast Go.Proofs.YteigbokklclmbaaGreatDoorW.PrintMore
theorem sanity_ok : manorboylaw02_sanity.f 400 = some true := by kernel_rfl
end Go.Proofs.YteigbokklclmbaaGreatDoor.Z.Y
end
section
namespace Go.Proofs.YteigbokklclmbaaGreatDoor.Z.Y.V
open Go.RowKit Go.Proofs.YteigbokklclmbaaGreatDoor.Given Go.Proofs.YteigbokklclmbaaGreatDoorW.PrintWords Go.Proofs.YteigbokklclmbaaGreatDoorW.PrintLast Go.Proofs.YteigbokklclmbaaGreatDoorW.PrintMore
attribute [local go_sem] max2_int min2_int max_two min_two max_three min_three max_four min_four   -- for this text's walks alone
set_option linter.unusedVariables false
set_option linter.unusedSimpArgs false



def errW : Option Int → Value
 | none => .nilIface
 | some c => .iface 0 (.int .i64 c)
theorem errW_none : errW none = .nilIface := rfl
theorem errW_some (c : Int) : errW (some c) = .iface 0 (.int .i64 c) := rfl

-- the values' own types

end Go.Proofs.YteigbokklclmbaaGreatDoor.Z.Y.V
end
section
namespace Go.Proofs.YteigbokklclmbaaGreatDoor.Z.Y.V
open Go.RowKit Go.Proofs.YteigbokklclmbaaGreatDoor.Given Go.Proofs.YteigbokklclmbaaGreatDoorW.PrintWords Go.Proofs.YteigbokklclmbaaGreatDoorW.PrintLast Go.Proofs.YteigbokklclmbaaGreatDoorW.PrintMore
attribute [local go_sem] max2_int min2_int max_two min_two max_three min_three max_four min_four   -- for this text's walks alone
set_option linter.unusedVariables false
set_option linter.unusedSimpArgs false

theorem eqA23 (d : Nat) (w : World) (x0 y0 : Int) (x1 y1 : Int) :
  (Op.equalIn (d + 2) 23 (.agg #[.int .i64 x0, .int .i64 x1]) (.agg #[.int .i64 y0, .int .i64 y1])).run Tryz.prog w = .ok (x0 == y0 && (x1 == y1)) w := by
 refine eqA_of Tryz.underlying23 (by kernel_rfl) ?_
 refine eqf_cons (by rfl) (by go_simp; rfl) (by go_simp; rfl) (by go_simp) ?_
 exact eqf_last (by rfl) (by go_simp; rfl) (by go_simp; rfl) (by go_simp)
end Go.Proofs.YteigbokklclmbaaGreatDoor.Z.Y.V
end
section
namespace Go.Proofs.YteigbokklclmbaaGreatDoor.Z.Y.V
open Go.RowKit Go.Proofs.YteigbokklclmbaaGreatDoor.Given Go.Proofs.YteigbokklclmbaaGreatDoorW.PrintWords Go.Proofs.YteigbokklclmbaaGreatDoorW.PrintLast Go.Proofs.YteigbokklclmbaaGreatDoorW.PrintMore
attribute [local go_sem] max2_int min2_int max_two min_two max_three min_three max_four min_four   -- for this text's walks alone
set_option linter.unusedVariables false
set_option linter.unusedSimpArgs false

attribute [local go_sem high] eqA23
-- NOT PRINTED: function 12 (manorboylaw02_RealAlgebra)

def manorboylaw02_scaled.f (a0_0 : Int) (a0_1 : Int) : Option (Int × Bool) := if a0_0 = 0 then (some (0, true)) else (if a0_1 < (-60) then (some (0, false)) else (if a0_1 > (-22) then (some (0, false)) else (if 0 ≤ (IntKind.u64.wrap (wrap64 (a0_1 + 60))) then (some (shl .i64 a0_0 (IntKind.u64.wrap (wrap64 (a0_1 + 60))), true)) else (none))))
set_option maxHeartbeats 8000000 in
set_option maxRecDepth 100000 in
theorem manorboylaw02_scaled.calls (a0_0 : Int) (a0_1 : Int) (r1 : Int) (r2 : Bool) (w : World) (h : manorboylaw02_scaled.f a0_0 a0_1 = some (r1, r2)) :
  Calls Tryz.prog 41 #[.agg #[.int .i64 a0_0, .int .i64 a0_1]] w fun e w' => e = .returned (.tuple #[.int .i64 r1, .bool r2]) ∧ Below w.heap.size w w' := by
 have hu23 := Tryz.underlying23
 have HB := Aside0.mk (Below.refl w.heap.size w)
 have H : (if a0_0 = 0 then (some (0, true)) else (if a0_1 < (-60) then (some (0, false)) else (if a0_1 > (-22) then (some (0, false)) else (if 0 ≤ (IntKind.u64.wrap (wrap64 (a0_1 + 60))) then (some (shl .i64 a0_0 (IntKind.u64.wrap (wrap64 (a0_1 + 60))), true)) else (none))))) = some (r1, r2) := h
 clear h
 by_cases c2 : a0_0 = 0
 ·rw [if_pos c2] at H
  have c2b0 : (a0_0 == 0) = true := beq_iff_eq.mpr c2
  have c2b1 : (a0_0 != 0) = false := bne_eq_false_iff_eq.mpr c2
  clear c2
  simp only [Option.some.injEq, Prod.mk.injEq] at H
  obtain ⟨rfl, rfl⟩ := H
  go_enter Tryz.func41, Tryz.ntmps41
  go_wp2_with (first | ((with_reducible refine gate_dst (N := 1) rfl ?_); refine box_event ?hg (N := 1) ?hd (cs := #[.int .i64 a0_0, .int .i64 a0_1]) (t := 23) ?hr ?_; (case hd => rfl); (case hg => rfl); (case hr => first | (go_simp; done) | (go_simp; rfl)); intro gb665 hg w3 hbox hb; have BK665 := Aside0.mk hbox; have GW665 := ge hg; have GE665 := ge hg; replace HB := bs hb; clear hb hbox hg; have hcz4_0 := c20 BK665; have hcz4_1 := c21 BK665; have hfz4_0 := blk_frozen BK665.out 0; have hfz4_1 := blk_frozen BK665.out 1))
  go_ret2
  exact ⟨by first | rfl | (simp [errW_none, errW_some] <;> rfl) | (simp [*, errW_none, errW_some] <;> rfl), bz⟩
 ·rw [if_neg c2] at H
  have c2b0 : (a0_0 == 0) = false := beq_eq_false_iff_ne.mpr c2
  have c2b1 : (a0_0 != 0) = true := bne_iff_ne.mpr c2
  by_cases c5 : a0_1 < (-60)
  ·rw [if_pos c5] at H
   have c5b0 : decide (a0_1 < (-60)) = true := decide_eq_true c5
   clear c5
   simp only [Option.some.injEq, Prod.mk.injEq] at H
   obtain ⟨rfl, rfl⟩ := H
   go_enter Tryz.func41, Tryz.ntmps41
   go_wp2_with (first | ((with_reducible refine gate_dst (N := 1) rfl ?_); refine box_event ?hg (N := 1) ?hd (cs := #[.int .i64 a0_0, .int .i64 a0_1]) (t := 23) ?hr ?_; (case hd => rfl); (case hg => rfl); (case hr => first | (go_simp; done) | (go_simp; rfl)); intro gb665 hg w6 hbox hb; have BK665 := Aside0.mk hbox; have GW665 := ge hg; have GE665 := ge hg; replace HB := bs hb; clear hb hbox hg; have hcz7_0 := c20 BK665; have hcz7_1 := c21 BK665; have hfz7_0 := blk_frozen BK665.out 0; have hfz7_1 := blk_frozen BK665.out 1))
   go_ret2
   exact ⟨by first | rfl | (simp [errW_none, errW_some] <;> rfl) | (simp [*, errW_none, errW_some] <;> rfl), bz⟩
  ·rw [if_neg c5] at H
   have c5b0 : decide (a0_1 < (-60)) = false := decide_eq_false c5
   clear c5
   by_cases c8 : a0_1 > (-22)
   ·rw [if_pos c8] at H
    have c8b0 : decide ((-22) < a0_1) = true := decide_eq_true c8
    clear c8
    simp only [Option.some.injEq, Prod.mk.injEq] at H
    obtain ⟨rfl, rfl⟩ := H
    go_enter Tryz.func41, Tryz.ntmps41
    go_wp2_with (first | ((with_reducible refine gate_dst (N := 1) rfl ?_); refine box_event ?hg (N := 1) ?hd (cs := #[.int .i64 a0_0, .int .i64 a0_1]) (t := 23) ?hr ?_; (case hd => rfl); (case hg => rfl); (case hr => first | (go_simp; done) | (go_simp; rfl)); intro gb665 hg w9 hbox hb; have BK665 := Aside0.mk hbox; have GW665 := ge hg; have GE665 := ge hg; replace HB := bs hb; clear hb hbox hg; have hcz10_0 := c20 BK665; have hcz10_1 := c21 BK665; have hfz10_0 := blk_frozen BK665.out 0; have hfz10_1 := blk_frozen BK665.out 1))
    go_ret2
    exact ⟨by first | rfl | (simp [errW_none, errW_some] <;> rfl) | (simp [*, errW_none, errW_some] <;> rfl), bz⟩
   ·rw [if_neg c8] at H
    have c8b0 : decide ((-22) < a0_1) = false := decide_eq_false c8
    clear c8
    obtain ⟨ji11, hji11⟩ : ∃ j_ : Int, (IntKind.u64.wrap (wrap64 (a0_1 + 60))) = j_ := ⟨_, rfl⟩
    replace H : (if 0 ≤ (ji11) then (some (shl .i64 a0_0 (ji11), true)) else (none)) = some (r1, r2) := by first | (rw [hji11] at H; exact H) | (simp only [hji11] at H ⊢; exact H)
    by_cases c12 : 0 ≤ (ji11)
    ·rw [if_pos c12] at H
     have c12b0 := eq_true c12
     have c12b1 : decide (0 ≤ (ji11)) = true := decide_eq_true c12
     clear c12
     obtain ⟨ji13, hji13⟩ : ∃ j_ : Int, (shl .i64 a0_0 (ji11)) = j_ := ⟨_, rfl⟩
     replace H : (some (ji13, true)) = some (r1, r2) := by first | (rw [hji13] at H; exact H) | (simp only [hji13] at H ⊢; exact H)
     have hji13_ : (IntKind.i64.wrap (a0_0 * 2 ^ min (ji11).toNat 64)) = ji13 := hji13
     have hji13z : (ji11) ≤ 64 → (IntKind.i64.wrap (a0_0 * 2 ^ (ji11).toNat)) = ji13 := shl_small hji13
     have hji13y : (wrap64 (a0_0 * 2 ^ min (ji11).toNat 64)) = ji13 := (i64_w _).symm.trans hji13_
     have hji13x : (ji11) ≤ 64 → (wrap64 (a0_0 * 2 ^ (ji11).toNat)) = ji13 := fun h_ => (i64_w _).symm.trans (hji13z h_)
     simp only [Option.some.injEq, Prod.mk.injEq] at H
     obtain ⟨rfl, rfl⟩ := H
     go_enter Tryz.func41, Tryz.ntmps41
     go_wp2_with (first | ((with_reducible refine gate_dst (N := 1) rfl ?_); refine box_event ?hg (N := 1) ?hd (cs := #[.int .i64 a0_0, .int .i64 a0_1]) (t := 23) ?hr ?_; (case hd => rfl); (case hg => rfl); (case hr => first | (go_simp; done) | (go_simp; rfl)); intro gb665 hg w14 hbox hb; have BK665 := Aside0.mk hbox; have GW665 := ge hg; have GE665 := ge hg; replace HB := bs hb; clear hb hbox hg; have hcz15_0 := c20 BK665; have hcz15_1 := c21 BK665; have hfz15_0 := blk_frozen BK665.out 0; have hfz15_1 := blk_frozen BK665.out 1))
     go_ret2
     exact ⟨by first | rfl | (simp [errW_none, errW_some] <;> rfl) | (simp only [← hji11, ← hji13]; first | rfl | (simp [errW_none, errW_some] <;> rfl)) | (simp [*, errW_none, errW_some] <;> rfl), bz⟩
    ·rw [if_neg c12] at H
     exact absurd H (by simp)

def manorboylaw02_distance.f (a0 : Int) (a1 : Int) : Option (Int) := some (mx (wrap64 (a0 - a1)) (wrap64 (a1 - a0)))
set_option maxHeartbeats 8000000 in
set_option maxRecDepth 100000 in
theorem manorboylaw02_distance.calls (a0 : Int) (a1 : Int) (r : Int) (w : World) (h : manorboylaw02_distance.f a0 a1 = some r) :
  Calls Tryz.prog 42 #[.int .i64 a0, .int .i64 a1] w fun e w' => e = .returned (.int .i64 r) ∧ Below w.heap.size w w' := by
 have HB := Aside0.mk (Below.refl w.heap.size w)
 have H : (some (mx (wrap64 (a0 - a1)) (wrap64 (a1 - a0)))) = some r := h
 clear h
 obtain ⟨ji3, hji3⟩ : ∃ j_ : Int, (mx (wrap64 (a0 - a1)) (wrap64 (a1 - a0))) = j_ := ⟨_, rfl⟩
 replace H : (some ji3) = some r := by first | (rw [hji3] at H; exact H) | (simp only [hji3] at H ⊢; exact H)
 have hji3_ : (if (wrap64 (a0 - a1)) < (wrap64 (a1 - a0)) then (wrap64 (a1 - a0)) else (wrap64 (a0 - a1))) = ji3 := hji3
 obtain rfl := Option.some.inj H
 go_enter Tryz.func42, Tryz.ntmps42
 go_wp2
 go_ret
 exact ⟨by first | rfl | (simp [errW_none, errW_some] <;> rfl) | (simp only [← hji3]; first | rfl | (simp [errW_none, errW_some] <;> rfl)) | (simp [*, errW_none, errW_some] <;> rfl), bz⟩

end Go.Proofs.YteigbokklclmbaaGreatDoor.Z.Y.V
end
section
namespace Go.Proofs.YteigbokklclmbaaGreatDoor.Z.Y.V
open Go.RowKit Go.Proofs.YteigbokklclmbaaGreatDoor.Given Go.Proofs.YteigbokklclmbaaGreatDoorW.PrintWords Go.Proofs.YteigbokklclmbaaGreatDoorW.PrintLast Go.Proofs.YteigbokklclmbaaGreatDoorW.PrintMore
attribute [local go_sem] max2_int min2_int max_two min_two max_three min_three max_four min_four   -- for this text's walks alone
set_option linter.unusedVariables false
set_option linter.unusedSimpArgs false

attribute [local go_sem high] eqA23
mutual
def manorboylaw02_RealNearest.j0 : Nat → Int → Int → Int → Int → Int → Bool → Int → Int → Int → Int → Int → Int → Option (Bool)
 | 0, _, _, _, _, _, _, _, _, _, _, _, _ => none
 | k + 1, x10, x12, x14, x17, x19, x87, x675000, x675001, x685000, x685001, x689000, x689001 => if x87 = true then ((manorboylaw02_sanity.f k).bind fun t689 => (some t689)) else ((manorboylaw02_scaled.f x685000 x685001).bind fun bt690 => ((manorboylaw02_scaled.f x689000 x689001).bind fun bt692 => (if x17 = 0 then (if x19 = 0 then (if bt690.2 = true then (if bt692.2 = true then (manorboylaw02_RealNearest.j1 k x10 x12 x14 bt690.1 bt690.2 bt692.1 bt692.2 false x675000 x675001 x685000 x685001 x689000 x689001) else (manorboylaw02_RealNearest.j1 k x10 x12 x14 bt690.1 bt690.2 bt692.1 bt692.2 (decide (x689001 ≥ (-60))) x675000 x675001 x685000 x685001 x689000 x689001)) else (if x685001 ≥ (-60) then (manorboylaw02_RealNearest.j1 k x10 x12 x14 bt690.1 bt690.2 bt692.1 bt692.2 true x675000 x675001 x685000 x685001 x689000 x689001) else (if bt692.2 = true then (manorboylaw02_RealNearest.j1 k x10 x12 x14 bt690.1 bt690.2 bt692.1 bt692.2 false x675000 x675001 x685000 x685001 x689000 x689001) else (manorboylaw02_RealNearest.j1 k x10 x12 x14 bt690.1 bt690.2 bt692.1 bt692.2 (decide (x689001 ≥ (-60))) x675000 x675001 x685000 x685001 x689000 x689001)))) else (manorboylaw02_RealNearest.j1 k x10 x12 x14 bt690.1 bt690.2 bt692.1 bt692.2 true x675000 x675001 x685000 x685001 x689000 x689001)) else (manorboylaw02_RealNearest.j1 k x10 x12 x14 bt690.1 bt690.2 bt692.1 bt692.2 true x675000 x675001 x685000 x685001 x689000 x689001))))
def manorboylaw02_RealNearest.j1 : Nat → Int → Int → Int → Int → Bool → Int → Bool → Bool → Int → Int → Int → Int → Int → Int → Option (Bool)
 | 0, _, _, _, _, _, _, _, _, _, _, _, _, _, _ => none
 | k + 1, x10, x12, x14, x20, x21, x22, x23, x122, x675000, x675001, x685000, x685001, x689000, x689001 => if x122 = true then (some false) else (if x21 = true then (manorboylaw02_RealNearest.j2 k x10 x12 x14 x20 x22 (!x23) x675000 x675001 x685000 x685001 x689000 x689001) else (manorboylaw02_RealNearest.j2 k x10 x12 x14 x20 x22 true x675000 x675001 x685000 x685001 x689000 x689001))
def manorboylaw02_RealNearest.j2 : Nat → Int → Int → Int → Int → Int → Bool → Int → Int → Int → Int → Int → Int → Option (Bool)
 | 0, _, _, _, _, _, _, _, _, _, _, _, _ => none
 | k + 1, x10, x12, x14, x20, x22, x128, x675000, x675001, x685000, x685001, x689000, x689001 => if x128 = true then ((manorboylaw02_sanity.f k).bind fun t694 => (some t694)) else ((manorboylaw02_distance.f x20 (wrap64 (x10 + x12))).bind fun t695 => ((manorboylaw02_distance.f x14 (wrap64 (x10 + x12))).bind fun t696 => (if t695 ≤ t696 then ((manorboylaw02_distance.f x22 (wrap64 (x10 - x12))).bind fun t697 => ((manorboylaw02_distance.f x14 (wrap64 (x10 - x12))).bind fun t698 => ((manorboylaw02_sanity.f k).bind fun t699 => (if t699 = true then (if t697 ≤ t698 then (if x14 = (wrap64 (x10 + x12)) then (if (x685000 == x675000 && (x685001 == x675001)) = true then (if x14 = (wrap64 (x10 - x12)) then (some (x689000 == x675000 && (x689001 == x675001))) else (some true)) else (some false)) else (if x14 = (wrap64 (x10 - x12)) then (some (x689000 == x675000 && (x689001 == x675001))) else (some true))) else (some false)) else (some false))))) else ((manorboylaw02_sanity.f k).bind fun t700 => (if t700 = true then (some false) else (some false))))))
end
def manorboylaw02_RealNearest.f (k : Nat) (a0 : Int) (a1 : Int) (a2 : Int) : Option (Bool) := (manorboylaw02_at.f a0).bind fun bt666 => ((manorboylaw02_at.f a1).bind fun bt669 => ((manorboylaw02_at.f a2).bind fun bt672 => ((manorboylaw02_scaled.f bt666.1 bt666.2).bind fun bt675 => ((manorboylaw02_scaled.f bt669.1 bt669.2).bind fun bt677 => ((manorboylaw02_scaled.f bt672.1 bt672.2).bind fun bt679 => ((real_Add.f k bt666.1 bt666.2 bt669.1 bt669.2).bind fun bt681 => ((real_Sub.f k bt666.1 bt666.2 bt669.1 bt669.2).bind fun bt685 => (if bt675.2 = true then (if bt677.2 = true then (if bt679.2 = true then (if bt666.2 > (-24) then (if bt666.1 = 0 then (if bt669.2 > (-24) then (manorboylaw02_RealNearest.j0 k bt675.1 bt677.1 bt679.1 bt681.2.2 bt685.2.2 (bt669.1 != 0) bt672.1 bt672.2 bt681.1 bt681.2.1 bt685.1 bt685.2.1) else (manorboylaw02_RealNearest.j0 k bt675.1 bt677.1 bt679.1 bt681.2.2 bt685.2.2 false bt672.1 bt672.2 bt681.1 bt681.2.1 bt685.1 bt685.2.1)) else (manorboylaw02_RealNearest.j0 k bt675.1 bt677.1 bt679.1 bt681.2.2 bt685.2.2 true bt672.1 bt672.2 bt681.1 bt681.2.1 bt685.1 bt685.2.1)) else (if bt669.2 > (-24) then (manorboylaw02_RealNearest.j0 k bt675.1 bt677.1 bt679.1 bt681.2.2 bt685.2.2 (bt669.1 != 0) bt672.1 bt672.2 bt681.1 bt681.2.1 bt685.1 bt685.2.1) else (manorboylaw02_RealNearest.j0 k bt675.1 bt677.1 bt679.1 bt681.2.2 bt685.2.2 false bt672.1 bt672.2 bt681.1 bt681.2.1 bt685.1 bt685.2.1))) else (manorboylaw02_RealNearest.j0 k bt675.1 bt677.1 bt679.1 bt681.2.2 bt685.2.2 true bt672.1 bt672.2 bt681.1 bt681.2.1 bt685.1 bt685.2.1)) else (manorboylaw02_RealNearest.j0 k bt675.1 bt677.1 bt679.1 bt681.2.2 bt685.2.2 true bt672.1 bt672.2 bt681.1 bt681.2.1 bt685.1 bt685.2.1)) else (manorboylaw02_RealNearest.j0 k bt675.1 bt677.1 bt679.1 bt681.2.2 bt685.2.2 true bt672.1 bt672.2 bt681.1 bt681.2.1 bt685.1 bt685.2.1)))))))))
theorem manorboylaw02_RealNearest.j1_no : ∀ (k : Nat) (y0 : _) (y1 : _) (y2 : _) (y3 : _) (y4 : _) (y5 : _) (y6 : _) (y8 : _) (y9 : _) (y10 : _) (y11 : _) (y12 : _) (y13 : _), manorboylaw02_RealNearest.j1 k y0 y1 y2 y3 y4 y5 y6 true y8 y9 y10 y11 y12 y13 ≠ some true
 | 0, y0, y1, y2, y3, y4, y5, y6, y8, y9, y10, y11, y12, y13, h => by simp [manorboylaw02_RealNearest.j1] at h
 | k + 1, y0, y1, y2, y3, y4, y5, y6, y8, y9, y10, y11, y12, y13, h => by rw [manorboylaw02_RealNearest.j1, if_pos rfl] at h; simp at h
set_option maxHeartbeats 8000000 in
set_option maxRecDepth 100000 in
theorem manorboylaw02_RealNearest.calls (k : Nat) (a0 : Int) (a1 : Int) (a2 : Int) (r : Bool) (w : World) (h : manorboylaw02_RealNearest.f k a0 a1 a2 = some r) (hr : r = true) (ht : Table w) :
  Calls Tryz.prog 9 #[.int .i64 a0, .int .i64 a1, .int .i64 a2] w fun e w' => e = .returned (.bool r) ∧ Below w.heap.size w w' := by
 have hu23 := Tryz.underlying23
 have HB := Aside0.mk (Below.refl w.heap.size w)
 have HT := Aside0.mk (Lib.tabBelow_of_tabIs ht)
 clear ht
 have H : ((manorboylaw02_at.f a0).bind fun bt666 => ((manorboylaw02_at.f a1).bind fun bt669 => ((manorboylaw02_at.f a2).bind fun bt672 => ((manorboylaw02_scaled.f bt666.1 bt666.2).bind fun bt675 => ((manorboylaw02_scaled.f bt669.1 bt669.2).bind fun bt677 => ((manorboylaw02_scaled.f bt672.1 bt672.2).bind fun bt679 => ((real_Add.f k bt666.1 bt666.2 bt669.1 bt669.2).bind fun bt681 => ((real_Sub.f k bt666.1 bt666.2 bt669.1 bt669.2).bind fun bt685 => (if bt675.2 = true then (if bt677.2 = true then (if bt679.2 = true then (if bt666.2 > (-24) then (if bt666.1 = 0 then (if bt669.2 > (-24) then (manorboylaw02_RealNearest.j0 k bt675.1 bt677.1 bt679.1 bt681.2.2 bt685.2.2 (bt669.1 != 0) bt672.1 bt672.2 bt681.1 bt681.2.1 bt685.1 bt685.2.1) else (manorboylaw02_RealNearest.j0 k bt675.1 bt677.1 bt679.1 bt681.2.2 bt685.2.2 false bt672.1 bt672.2 bt681.1 bt681.2.1 bt685.1 bt685.2.1)) else (manorboylaw02_RealNearest.j0 k bt675.1 bt677.1 bt679.1 bt681.2.2 bt685.2.2 true bt672.1 bt672.2 bt681.1 bt681.2.1 bt685.1 bt685.2.1)) else (if bt669.2 > (-24) then (manorboylaw02_RealNearest.j0 k bt675.1 bt677.1 bt679.1 bt681.2.2 bt685.2.2 (bt669.1 != 0) bt672.1 bt672.2 bt681.1 bt681.2.1 bt685.1 bt685.2.1) else (manorboylaw02_RealNearest.j0 k bt675.1 bt677.1 bt679.1 bt681.2.2 bt685.2.2 false bt672.1 bt672.2 bt681.1 bt681.2.1 bt685.1 bt685.2.1))) else (manorboylaw02_RealNearest.j0 k bt675.1 bt677.1 bt679.1 bt681.2.2 bt685.2.2 true bt672.1 bt672.2 bt681.1 bt681.2.1 bt685.1 bt685.2.1)) else (manorboylaw02_RealNearest.j0 k bt675.1 bt677.1 bt679.1 bt681.2.2 bt685.2.2 true bt672.1 bt672.2 bt681.1 bt681.2.1 bt685.1 bt685.2.1)) else (manorboylaw02_RealNearest.j0 k bt675.1 bt677.1 bt679.1 bt681.2.2 bt685.2.2 true bt672.1 bt672.2 bt681.1 bt681.2.1 bt685.1 bt685.2.1)))))))))) = some r := h
 clear h
 replace H := Option.bind_eq_some_iff.mp H
 obtain ⟨⟨t666, t667⟩, A40, H⟩ := H
 try dsimp only at H
 have A4 := Aside0.mk A40
 clear A40
 replace H := Option.bind_eq_some_iff.mp H
 obtain ⟨⟨t669, t670⟩, A50, H⟩ := H
 try dsimp only at H
 have A5 := Aside0.mk A50
 clear A50
 replace H := Option.bind_eq_some_iff.mp H
 obtain ⟨⟨t672, t673⟩, A60, H⟩ := H
 try dsimp only at H
 have A6 := Aside0.mk A60
 clear A60
 replace H := Option.bind_eq_some_iff.mp H
 obtain ⟨⟨t675, t676⟩, A70, H⟩ := H
 try dsimp only at H
 have A7 := Aside0.mk A70
 clear A70
 replace H := Option.bind_eq_some_iff.mp H
 obtain ⟨⟨t677, t678⟩, A80, H⟩ := H
 try dsimp only at H
 have A8 := Aside0.mk A80
 clear A80
 replace H := Option.bind_eq_some_iff.mp H
 obtain ⟨⟨t679, t680⟩, A90, H⟩ := H
 try dsimp only at H
 have A9 := Aside0.mk A90
 clear A90
 replace H := Option.bind_eq_some_iff.mp H
 obtain ⟨⟨t681, t682, t683⟩, A100, H⟩ := H
 try dsimp only at H
 have A10 := Aside0.mk A100
 clear A100
 replace H := Option.bind_eq_some_iff.mp H
 obtain ⟨⟨t685, t686, t687⟩, A110, H⟩ := H
 try dsimp only at H
 have A11 := Aside0.mk A110
 clear A110
 have HC12 := Aside0.mk H
 clear H
 go_enter Tryz.func9, Tryz.ntmps9
 go_upto_region 9 with (first | ((with_reducible refine gate_callee (f := 38) rfl ?_); refine goesL_ (some 26) rfl rfl Tryz.func38 (by kernel_rfl) rfl #[.int .i64 a0] rfl az ?_; (with_reducible refine (manorboylaw02_at.calls a0 t666 t667 _ A4.out).mono ?_); rintro e w13 ⟨rfl, hb⟩; refine ⟨_, rfl, ?_⟩; replace HB := bs hb; (try clear hb)) | ((with_reducible refine gate_dst (N := 7) rfl ?_); refine box_event ?hg (N := 7) ?hd (cs := #[.int .i64 0, .int .i64 0]) (t := 23) ?hr ?_; (case hd => rfl); (case hg => rfl); (case hr => first | (go_simp; done) | (go_simp; rfl)); intro gb668 hg w14 hbox hb; have BK668 := Aside0.mk hbox; have GW668 := ge hg; have GE668 := ge hg; replace HB := bs hb; clear hb hbox hg; have hcz15_0 := Given.c20 BK668; have hcz15_1 := Given.c21 BK668; have hfz15_0 := blk_frozen BK668.out 0; have hfz15_1 := blk_frozen BK668.out 1) | ((with_reducible refine gate_callee (f := 38) rfl ?_); refine goesL_ (some 28) rfl rfl Tryz.func38 (by kernel_rfl) rfl #[.int .i64 a1] rfl az ?_; (with_reducible refine (manorboylaw02_at.calls a1 t669 t670 _ A5.out).mono ?_); rintro e w16 ⟨rfl, hb⟩; refine ⟨_, rfl, ?_⟩; replace BK668 := Aside0.mk (blk_below (g := gb668) (o := .cells #[.int .i64 t666, .int .i64 t667] 23 (0, 0)) (by (with_reducible repeat (first | refine blk_drewN ?_ _ | refine blk_drew ?_ | refine blk_alloc ?_ _)); refine blk_put (cs := #[.int .i64 t666, .int .i64 0]) ?_ 1 _ rfl; (with_reducible repeat (first | refine blk_drewN ?_ _ | refine blk_drew ?_ | refine blk_alloc ?_ _)); refine blk_put (cs := #[.int .i64 0, .int .i64 0]) ?_ 0 _ rfl; (with_reducible repeat (first | refine blk_drewN ?_ _ | refine blk_drew ?_ | refine blk_alloc ?_ _)); exact BK668.out) hb); replace HB := bs hb; (try clear hb)) | ((with_reducible refine gate_dst (N := 8) rfl ?_); refine box_event ?hg (N := 8) ?hd (cs := #[.int .i64 0, .int .i64 0]) (t := 23) ?hr ?_; (case hd => rfl); (case hg => rfl); (case hr => first | (go_simp; done) | (go_simp; rfl)); intro gb671 hg w17 hbox hb; have BK671 := Aside0.mk hbox; have GW671 := ge hg; have GE671 := ge hg; have NB668_671 := nl BK668 hg; have NB671_668 := nr BK668 hg; replace BK668 := kb BK668 hb; replace HB := bs hb; clear hb hbox hg; have hnb18 := NB671_668.out; have hnc18 := NB668_671.out; have hcz19_0 := Given.c20 BK671; have hcz19_1 := Given.c21 BK671; have hfz19_0 := blk_frozen BK671.out 0; have hfz19_1 := blk_frozen BK671.out 1) | ((with_reducible refine gate_callee (f := 38) rfl ?_); refine goesL_ (some 30) rfl rfl Tryz.func38 (by kernel_rfl) rfl #[.int .i64 a2] rfl az ?_; (with_reducible refine (manorboylaw02_at.calls a2 t672 t673 _ A6.out).mono ?_); rintro e w20 ⟨rfl, hb⟩; refine ⟨_, rfl, ?_⟩; replace BK668 := Aside0.mk (blk_below (g := gb668) (o := .cells #[.int .i64 t666, .int .i64 t667] 23 (0, 0)) (by (with_reducible repeat (first | refine blk_drewN ?_ _ | refine blk_drew ?_ | refine blk_alloc ?_ _)); refine blk_far ?_ NB668_671.out _; (with_reducible repeat (first | refine blk_drewN ?_ _ | refine blk_drew ?_ | refine blk_alloc ?_ _)); refine blk_far ?_ NB668_671.out _; (with_reducible repeat (first | refine blk_drewN ?_ _ | refine blk_drew ?_ | refine blk_alloc ?_ _)); exact BK668.out) hb); replace BK671 := Aside0.mk (blk_below (g := gb671) (o := .cells #[.int .i64 t669, .int .i64 t670] 23 (0, 0)) (by (with_reducible repeat (first | refine blk_drewN ?_ _ | refine blk_drew ?_ | refine blk_alloc ?_ _)); refine blk_put (cs := #[.int .i64 t669, .int .i64 0]) ?_ 1 _ rfl; (with_reducible repeat (first | refine blk_drewN ?_ _ | refine blk_drew ?_ | refine blk_alloc ?_ _)); refine blk_put (cs := #[.int .i64 0, .int .i64 0]) ?_ 0 _ rfl; (with_reducible repeat (first | refine blk_drewN ?_ _ | refine blk_drew ?_ | refine blk_alloc ?_ _)); exact BK671.out) hb); replace HB := bs hb; (try clear hb)) | ((with_reducible refine gate_dst (N := 9) rfl ?_); refine box_event ?hg (N := 9) ?hd (cs := #[.int .i64 0, .int .i64 0]) (t := 23) ?hr ?_; (case hd => rfl); (case hg => rfl); (case hr => first | (go_simp; done) | (go_simp; rfl)); intro gb674 hg w21 hbox hb; have BK674 := Aside0.mk hbox; have GW674 := ge hg; have GE674 := ge hg; have NB668_674 := nl BK668 hg; have NB674_668 := nr BK668 hg; have NB671_674 := nl BK671 hg; have NB674_671 := nr BK671 hg; replace BK668 := kb BK668 hb; replace BK671 := kb BK671 hb; replace HB := bs hb; clear hb hbox hg; have hnb22 := NB674_668.out; have hnc22 := NB668_674.out; have hnb23 := NB674_671.out; have hnc23 := NB671_674.out; have hcz24_0 := Given.c20 BK674; have hcz24_1 := Given.c21 BK674; have hfz24_0 := blk_frozen BK674.out 0; have hfz24_1 := blk_frozen BK674.out 1; have hcz25_0 := Given.c20 BK668; have hcz25_1 := Given.c21 BK668; have hfz25_0 := blk_frozen BK668.out 0; have hfz25_1 := blk_frozen BK668.out 1) | ((with_reducible refine gate_callee (f := 41) rfl ?_); refine goesL_ (some 33) rfl rfl Tryz.func41 (by kernel_rfl) rfl #[.agg #[.int .i64 t666, .int .i64 t667]] rfl az ?_; (with_reducible refine (manorboylaw02_scaled.calls t666 t667 t675 t676 _ A7.out).mono ?_); rintro e w26 ⟨rfl, hb⟩; refine ⟨_, rfl, ?_⟩; replace BK668 := Aside0.mk (blk_below (g := gb668) (o := .cells #[.int .i64 t666, .int .i64 t667] 23 (0, 0)) (by (with_reducible repeat (first | refine blk_drewN ?_ _ | refine blk_drew ?_ | refine blk_alloc ?_ _)); refine blk_far ?_ NB668_674.out _; (with_reducible repeat (first | refine blk_drewN ?_ _ | refine blk_drew ?_ | refine blk_alloc ?_ _)); refine blk_far ?_ NB668_674.out _; (with_reducible repeat (first | refine blk_drewN ?_ _ | refine blk_drew ?_ | refine blk_alloc ?_ _)); exact BK668.out) hb); replace BK671 := Aside0.mk (blk_below (g := gb671) (o := .cells #[.int .i64 t669, .int .i64 t670] 23 (0, 0)) (by (with_reducible repeat (first | refine blk_drewN ?_ _ | refine blk_drew ?_ | refine blk_alloc ?_ _)); refine blk_far ?_ NB671_674.out _; (with_reducible repeat (first | refine blk_drewN ?_ _ | refine blk_drew ?_ | refine blk_alloc ?_ _)); refine blk_far ?_ NB671_674.out _; (with_reducible repeat (first | refine blk_drewN ?_ _ | refine blk_drew ?_ | refine blk_alloc ?_ _)); exact BK671.out) hb); replace BK674 := Aside0.mk (blk_below (g := gb674) (o := .cells #[.int .i64 t672, .int .i64 t673] 23 (0, 0)) (by (with_reducible repeat (first | refine blk_drewN ?_ _ | refine blk_drew ?_ | refine blk_alloc ?_ _)); refine blk_put (cs := #[.int .i64 t672, .int .i64 0]) ?_ 1 _ rfl; (with_reducible repeat (first | refine blk_drewN ?_ _ | refine blk_drew ?_ | refine blk_alloc ?_ _)); refine blk_put (cs := #[.int .i64 0, .int .i64 0]) ?_ 0 _ rfl; (with_reducible repeat (first | refine blk_drewN ?_ _ | refine blk_drew ?_ | refine blk_alloc ?_ _)); exact BK674.out) hb); replace HB := bs hb; (try clear hb); have hcz27_0 := Given.c20 BK671; have hcz27_1 := Given.c21 BK671; have hfz27_0 := blk_frozen BK671.out 0; have hfz27_1 := blk_frozen BK671.out 1) | ((with_reducible refine gate_callee (f := 41) rfl ?_); refine goesL_ (some 38) rfl rfl Tryz.func41 (by kernel_rfl) rfl #[.agg #[.int .i64 t669, .int .i64 t670]] rfl az ?_; (with_reducible refine (manorboylaw02_scaled.calls t669 t670 t677 t678 _ A8.out).mono ?_); rintro e w28 ⟨rfl, hb⟩; refine ⟨_, rfl, ?_⟩; replace BK668 := kb BK668 hb; replace BK671 := kb BK671 hb; replace BK674 := kb BK674 hb; replace HB := bs hb; (try clear hb); have hcz29_0 := Given.c20 BK674; have hcz29_1 := Given.c21 BK674; have hfz29_0 := blk_frozen BK674.out 0; have hfz29_1 := blk_frozen BK674.out 1) | ((with_reducible refine gate_callee (f := 41) rfl ?_); refine goesL_ (some 43) rfl rfl Tryz.func41 (by kernel_rfl) rfl #[.agg #[.int .i64 t672, .int .i64 t673]] rfl az ?_; (with_reducible refine (manorboylaw02_scaled.calls t672 t673 t679 t680 _ A9.out).mono ?_); rintro e w30 ⟨rfl, hb⟩; refine ⟨_, rfl, ?_⟩; replace BK668 := kb BK668 hb; replace BK671 := kb BK671 hb; replace BK674 := kb BK674 hb; replace HB := bs hb; (try clear hb); have hcz31_0 := Given.c20 BK668; have hcz31_1 := Given.c21 BK668; have hfz31_0 := blk_frozen BK668.out 0; have hfz31_1 := blk_frozen BK668.out 1; have hcz32_0 := Given.c20 BK671; have hcz32_1 := Given.c21 BK671; have hfz32_0 := blk_frozen BK671.out 0; have hfz32_1 := blk_frozen BK671.out 1) | ((with_reducible refine gate_callee (f := 33) rfl ?_); refine goesL_ (some 49) rfl rfl Tryz.func33 (by kernel_rfl) rfl #[.agg #[.int .i64 t666, .int .i64 t667], .agg #[.int .i64 t669, .int .i64 t670]] rfl az ?_; (with_reducible refine (real_Add.calls k t666 t667 t669 t670 t681 t682 t683 _ A10.out).mono ?_); rintro e w33 ⟨rfl, hb⟩; refine ⟨_, rfl, ?_⟩; replace BK668 := kb BK668 hb; replace BK671 := kb BK671 hb; replace BK674 := kb BK674 hb; replace HB := bs hb; (try clear hb)) | ((with_reducible refine gate_dst (N := 16) rfl ?_); refine box_event ?hg (N := 16) ?hd (cs := #[.int .i64 0, .int .i64 0]) (t := 23) ?hr ?_; (case hd => rfl); (case hg => rfl); (case hr => first | (go_simp; done) | (go_simp; rfl)); intro gb684 hg w34 hbox hb; have BK684 := Aside0.mk hbox; have GW684 := ge hg; have GE684 := ge hg; have NB668_684 := nl BK668 hg; have NB684_668 := nr BK668 hg; have NB671_684 := nl BK671 hg; have NB684_671 := nr BK671 hg; have NB674_684 := nl BK674 hg; have NB684_674 := nr BK674 hg; replace BK668 := kb BK668 hb; replace BK671 := kb BK671 hb; replace BK674 := kb BK674 hb; replace HB := bs hb; clear hb hbox hg; have hnb35 := NB684_668.out; have hnc35 := NB668_684.out; have hnb36 := NB684_671.out; have hnc36 := NB671_684.out; have hnb37 := NB684_674.out; have hnc37 := NB674_684.out; have hcz38_0 := Given.c20 BK684; have hcz38_1 := Given.c21 BK684; have hfz38_0 := blk_frozen BK684.out 0; have hfz38_1 := blk_frozen BK684.out 1; have hcz39_0 := Given.c20 BK668; have hcz39_1 := Given.c21 BK668; have hfz39_0 := blk_frozen BK668.out 0; have hfz39_1 := blk_frozen BK668.out 1; have hcz40_0 := Given.c20 BK671; have hcz40_1 := Given.c21 BK671; have hfz40_0 := blk_frozen BK671.out 0; have hfz40_1 := blk_frozen BK671.out 1) | ((with_reducible refine gate_callee (f := 34) rfl ?_); refine goesL_ (some 55) rfl rfl Tryz.func34 (by kernel_rfl) rfl #[.agg #[.int .i64 t666, .int .i64 t667], .agg #[.int .i64 t669, .int .i64 t670]] rfl az ?_; (with_reducible refine (real_Sub.calls k t666 t667 t669 t670 t685 t686 t687 _ A11.out).mono ?_); rintro e w41 ⟨rfl, hb⟩; refine ⟨_, rfl, ?_⟩; replace BK668 := Aside0.mk (blk_below (g := gb668) (o := .cells #[.int .i64 t666, .int .i64 t667] 23 (0, 0)) (by (with_reducible repeat (first | refine blk_drewN ?_ _ | refine blk_drew ?_ | refine blk_alloc ?_ _)); refine blk_far ?_ NB668_684.out _; (with_reducible repeat (first | refine blk_drewN ?_ _ | refine blk_drew ?_ | refine blk_alloc ?_ _)); refine blk_far ?_ NB668_684.out _; (with_reducible repeat (first | refine blk_drewN ?_ _ | refine blk_drew ?_ | refine blk_alloc ?_ _)); exact BK668.out) hb); replace BK671 := Aside0.mk (blk_below (g := gb671) (o := .cells #[.int .i64 t669, .int .i64 t670] 23 (0, 0)) (by (with_reducible repeat (first | refine blk_drewN ?_ _ | refine blk_drew ?_ | refine blk_alloc ?_ _)); refine blk_far ?_ NB671_684.out _; (with_reducible repeat (first | refine blk_drewN ?_ _ | refine blk_drew ?_ | refine blk_alloc ?_ _)); refine blk_far ?_ NB671_684.out _; (with_reducible repeat (first | refine blk_drewN ?_ _ | refine blk_drew ?_ | refine blk_alloc ?_ _)); exact BK671.out) hb); replace BK674 := Aside0.mk (blk_below (g := gb674) (o := .cells #[.int .i64 t672, .int .i64 t673] 23 (0, 0)) (by (with_reducible repeat (first | refine blk_drewN ?_ _ | refine blk_drew ?_ | refine blk_alloc ?_ _)); refine blk_far ?_ NB674_684.out _; (with_reducible repeat (first | refine blk_drewN ?_ _ | refine blk_drew ?_ | refine blk_alloc ?_ _)); refine blk_far ?_ NB674_684.out _; (with_reducible repeat (first | refine blk_drewN ?_ _ | refine blk_drew ?_ | refine blk_alloc ?_ _)); exact BK674.out) hb); replace BK684 := Aside0.mk (blk_below (g := gb684) (o := .cells #[.int .i64 t681, .int .i64 t682] 23 (0, 0)) (by (with_reducible repeat (first | refine blk_drewN ?_ _ | refine blk_drew ?_ | refine blk_alloc ?_ _)); refine blk_put (cs := #[.int .i64 t681, .int .i64 0]) ?_ 1 _ rfl; (with_reducible repeat (first | refine blk_drewN ?_ _ | refine blk_drew ?_ | refine blk_alloc ?_ _)); refine blk_put (cs := #[.int .i64 0, .int .i64 0]) ?_ 0 _ rfl; (with_reducible repeat (first | refine blk_drewN ?_ _ | refine blk_drew ?_ | refine blk_alloc ?_ _)); exact BK684.out) hb); replace HB := bs hb; (try clear hb)) | ((with_reducible refine gate_dst (N := 18) rfl ?_); refine box_event ?hg (N := 18) ?hd (cs := #[.int .i64 0, .int .i64 0]) (t := 23) ?hr ?_; (case hd => rfl); (case hg => rfl); (case hr => first | (go_simp; done) | (go_simp; rfl)); intro gb688 hg w42 hbox hb; have BK688 := Aside0.mk hbox; have GW688 := ge hg; have GE688 := ge hg; have NB668_688 := nl BK668 hg; have NB688_668 := nr BK668 hg; have NB671_688 := nl BK671 hg; have NB688_671 := nr BK671 hg; have NB674_688 := nl BK674 hg; have NB688_674 := nr BK674 hg; have NB684_688 := nl BK684 hg; have NB688_684 := nr BK684 hg; replace BK668 := kb BK668 hb; replace BK671 := kb BK671 hb; replace BK674 := kb BK674 hb; replace BK684 := kb BK684 hb; replace HB := bs hb; clear hb hbox hg; have hnb43 := NB688_668.out; have hnc43 := NB668_688.out; have hnb44 := NB688_671.out; have hnc44 := NB671_688.out; have hnb45 := NB688_674.out; have hnc45 := NB674_688.out; have hnb46 := NB688_684.out; have hnc46 := NB684_688.out; have hcz47_0 := Given.c20 BK688; have hcz47_1 := Given.c21 BK688; have hfz47_0 := blk_frozen BK688.out 0; have hfz47_1 := blk_frozen BK688.out 1))
 (try simp only [Act.put, List.setIfInBounds_toArray, List.set_cons_zero, List.set_cons_succ])
 go_cut [87] (fun v87 wc => ∃ (kq : Nat) (x87_11 : Bool), v87 = .bool x87_11 ∧ Aside0 (manorboylaw02_RealNearest.j0 kq t675 t677 t679 t683 t687 x87_11 t672 t673 t681 t682 t685 t686 = some r) ∧ Aside0 (kq ≤ k) ∧ Aside0 (wc.heap[gb668]? = some (.cells #[.int .i64 t666, .int .i64 t667] 23 (0, 0))) ∧ Aside0 (wc.heap[gb671]? = some (.cells #[.int .i64 t669, .int .i64 t670] 23 (0, 0))) ∧ Aside0 (wc.heap[gb674]? = some (.cells #[.int .i64 t672, .int .i64 t673] 23 (0, 0))) ∧ Aside0 (wc.heap[gb684]? = some (.cells #[.int .i64 t681, .int .i64 t682] 23 (0, 0))) ∧ Aside0 (wc.heap[gb688]? = some (.cells #[.int .i64 t685, .int .i64 t686] 23 (0, 0))) ∧ Aside0 (Below w.heap.size w wc))
 case first => as_aux_lemma =>
  have H := HC12.out
  clear HC12
  by_cases c48 : t676 = true
  ·subst c48
   have H1 : (if t678 = true then (if t680 = true then (if t667 > (-24) then (if t666 = 0 then (if t670 > (-24) then (manorboylaw02_RealNearest.j0 k t675 t677 t679 t683 t687 (t669 != 0) t672 t673 t681 t682 t685 t686) else (manorboylaw02_RealNearest.j0 k t675 t677 t679 t683 t687 false t672 t673 t681 t682 t685 t686)) else (manorboylaw02_RealNearest.j0 k t675 t677 t679 t683 t687 true t672 t673 t681 t682 t685 t686)) else (if t670 > (-24) then (manorboylaw02_RealNearest.j0 k t675 t677 t679 t683 t687 (t669 != 0) t672 t673 t681 t682 t685 t686) else (manorboylaw02_RealNearest.j0 k t675 t677 t679 t683 t687 false t672 t673 t681 t682 t685 t686))) else (manorboylaw02_RealNearest.j0 k t675 t677 t679 t683 t687 true t672 t673 t681 t682 t685 t686)) else (manorboylaw02_RealNearest.j0 k t675 t677 t679 t683 t687 true t672 t673 t681 t682 t685 t686)) = some r := by rw [if_pos rfl] at H; exact H
   clear H
   have H := H1
   clear H1
   by_cases c49 : t678 = true
   ·subst c49
    have H1 : (if t680 = true then (if t667 > (-24) then (if t666 = 0 then (if t670 > (-24) then (manorboylaw02_RealNearest.j0 k t675 t677 t679 t683 t687 (t669 != 0) t672 t673 t681 t682 t685 t686) else (manorboylaw02_RealNearest.j0 k t675 t677 t679 t683 t687 false t672 t673 t681 t682 t685 t686)) else (manorboylaw02_RealNearest.j0 k t675 t677 t679 t683 t687 true t672 t673 t681 t682 t685 t686)) else (if t670 > (-24) then (manorboylaw02_RealNearest.j0 k t675 t677 t679 t683 t687 (t669 != 0) t672 t673 t681 t682 t685 t686) else (manorboylaw02_RealNearest.j0 k t675 t677 t679 t683 t687 false t672 t673 t681 t682 t685 t686))) else (manorboylaw02_RealNearest.j0 k t675 t677 t679 t683 t687 true t672 t673 t681 t682 t685 t686)) = some r := by rw [if_pos rfl] at H; exact H
    clear H
    have H := H1
    clear H1
    by_cases c50 : t680 = true
    ·subst c50
     have H1 : (if t667 > (-24) then (if t666 = 0 then (if t670 > (-24) then (manorboylaw02_RealNearest.j0 k t675 t677 t679 t683 t687 (t669 != 0) t672 t673 t681 t682 t685 t686) else (manorboylaw02_RealNearest.j0 k t675 t677 t679 t683 t687 false t672 t673 t681 t682 t685 t686)) else (manorboylaw02_RealNearest.j0 k t675 t677 t679 t683 t687 true t672 t673 t681 t682 t685 t686)) else (if t670 > (-24) then (manorboylaw02_RealNearest.j0 k t675 t677 t679 t683 t687 (t669 != 0) t672 t673 t681 t682 t685 t686) else (manorboylaw02_RealNearest.j0 k t675 t677 t679 t683 t687 false t672 t673 t681 t682 t685 t686))) = some r := by rw [if_pos rfl] at H; exact H
     clear H
     have H := H1
     clear H1
     by_cases c51 : t667 > (-24)
     ·rw [if_pos c51] at H
      have c51b0 : decide ((-24) < t667) = true := decide_eq_true c51
      clear c51
      (first | rw [c51b0] | (simp only [i64_w, i32_w]; rw [c51b0]) | skip)
      by_cases c52 : t666 = 0
      ·rw [if_pos c52] at H
       have c52b0 : (t666 == 0) = true := beq_iff_eq.mpr c52
       have c52b1 : (t666 != 0) = false := bne_eq_false_iff_eq.mpr c52
       clear c52
       by_cases c53 : t670 > (-24)
       ·rw [if_pos c53] at H
        have c53b0 : decide ((-24) < t670) = true := decide_eq_true c53
        clear c53
        have H' := Aside0.mk H
        clear H
        have hnb54 := NB668_671.out
        have hnc54 := NB671_668.out
        have hnb55 := NB668_674.out
        have hnc55 := NB674_668.out
        have hnb56 := NB668_684.out
        have hnc56 := NB684_668.out
        have hnb57 := NB668_688.out
        have hnc57 := NB688_668.out
        have hcz58_0 := Given.c20 BK668
        have hcz58_1 := Given.c21 BK668
        have hfz58_0 := blk_frozen BK668.out 0
        have hfz58_1 := blk_frozen BK668.out 1
        have hnb59 := NB671_674.out
        have hnc59 := NB674_671.out
        have hnb60 := NB671_684.out
        have hnc60 := NB684_671.out
        have hnb61 := NB671_688.out
        have hnc61 := NB688_671.out
        have hcz62_0 := Given.c20 BK671
        have hcz62_1 := Given.c21 BK671
        have hfz62_0 := blk_frozen BK671.out 0
        have hfz62_1 := blk_frozen BK671.out 1
        go_wp2
        go_meet
        case rel => exact ⟨_, ((t669 != 0)), (by first | rfl | (simp; done) | (simp [*]; done)), H', ⟨by first | omega | exact Nat.le_refl _⟩, ⟨by (with_reducible repeat (first | refine blk_drewN ?_ _ | refine blk_drew ?_ | refine blk_alloc ?_ _)); refine blk_far ?_ NB668_688.out _; (with_reducible repeat (first | refine blk_drewN ?_ _ | refine blk_drew ?_ | refine blk_alloc ?_ _)); refine blk_far ?_ NB668_688.out _; (with_reducible repeat (first | refine blk_drewN ?_ _ | refine blk_drew ?_ | refine blk_alloc ?_ _)); exact BK668.out⟩, ⟨by (with_reducible repeat (first | refine blk_drewN ?_ _ | refine blk_drew ?_ | refine blk_alloc ?_ _)); refine blk_far ?_ NB671_688.out _; (with_reducible repeat (first | refine blk_drewN ?_ _ | refine blk_drew ?_ | refine blk_alloc ?_ _)); refine blk_far ?_ NB671_688.out _; (with_reducible repeat (first | refine blk_drewN ?_ _ | refine blk_drew ?_ | refine blk_alloc ?_ _)); exact BK671.out⟩, ⟨by (with_reducible repeat (first | refine blk_drewN ?_ _ | refine blk_drew ?_ | refine blk_alloc ?_ _)); refine blk_far ?_ NB674_688.out _; (with_reducible repeat (first | refine blk_drewN ?_ _ | refine blk_drew ?_ | refine blk_alloc ?_ _)); refine blk_far ?_ NB674_688.out _; (with_reducible repeat (first | refine blk_drewN ?_ _ | refine blk_drew ?_ | refine blk_alloc ?_ _)); exact BK674.out⟩, ⟨by (with_reducible repeat (first | refine blk_drewN ?_ _ | refine blk_drew ?_ | refine blk_alloc ?_ _)); refine blk_far ?_ NB684_688.out _; (with_reducible repeat (first | refine blk_drewN ?_ _ | refine blk_drew ?_ | refine blk_alloc ?_ _)); refine blk_far ?_ NB684_688.out _; (with_reducible repeat (first | refine blk_drewN ?_ _ | refine blk_drew ?_ | refine blk_alloc ?_ _)); exact BK684.out⟩, ⟨by (with_reducible repeat (first | refine blk_drewN ?_ _ | refine blk_drew ?_ | refine blk_alloc ?_ _)); refine blk_put (cs := #[.int .i64 t685, .int .i64 0]) ?_ 1 _ rfl; (with_reducible repeat (first | refine blk_drewN ?_ _ | refine blk_drew ?_ | refine blk_alloc ?_ _)); refine blk_put (cs := #[.int .i64 0, .int .i64 0]) ?_ 0 _ rfl; (with_reducible repeat (first | refine blk_drewN ?_ _ | refine blk_drew ?_ | refine blk_alloc ?_ _)); exact BK688.out⟩, ⟨bz⟩⟩
       ·rw [if_neg c53] at H
        have c53b0 : decide ((-24) < t670) = false := decide_eq_false c53
        clear c53
        have H' := Aside0.mk H
        clear H
        have hnb63 := NB668_671.out
        have hnc63 := NB671_668.out
        have hnb64 := NB668_674.out
        have hnc64 := NB674_668.out
        have hnb65 := NB668_684.out
        have hnc65 := NB684_668.out
        have hnb66 := NB668_688.out
        have hnc66 := NB688_668.out
        have hcz67_0 := Given.c20 BK668
        have hcz67_1 := Given.c21 BK668
        have hfz67_0 := blk_frozen BK668.out 0
        have hfz67_1 := blk_frozen BK668.out 1
        have hnb68 := NB671_674.out
        have hnc68 := NB674_671.out
        have hnb69 := NB671_684.out
        have hnc69 := NB684_671.out
        have hnb70 := NB671_688.out
        have hnc70 := NB688_671.out
        have hcz71_0 := Given.c20 BK671
        have hcz71_1 := Given.c21 BK671
        have hfz71_0 := blk_frozen BK671.out 0
        have hfz71_1 := blk_frozen BK671.out 1
        go_wp2
        go_meet
        case rel => exact ⟨_, (false), (by first | rfl | (simp; done) | (simp [*]; done)), H', ⟨by first | omega | exact Nat.le_refl _⟩, ⟨by (with_reducible repeat (first | refine blk_drewN ?_ _ | refine blk_drew ?_ | refine blk_alloc ?_ _)); refine blk_far ?_ NB668_688.out _; (with_reducible repeat (first | refine blk_drewN ?_ _ | refine blk_drew ?_ | refine blk_alloc ?_ _)); refine blk_far ?_ NB668_688.out _; (with_reducible repeat (first | refine blk_drewN ?_ _ | refine blk_drew ?_ | refine blk_alloc ?_ _)); exact BK668.out⟩, ⟨by (with_reducible repeat (first | refine blk_drewN ?_ _ | refine blk_drew ?_ | refine blk_alloc ?_ _)); refine blk_far ?_ NB671_688.out _; (with_reducible repeat (first | refine blk_drewN ?_ _ | refine blk_drew ?_ | refine blk_alloc ?_ _)); refine blk_far ?_ NB671_688.out _; (with_reducible repeat (first | refine blk_drewN ?_ _ | refine blk_drew ?_ | refine blk_alloc ?_ _)); exact BK671.out⟩, ⟨by (with_reducible repeat (first | refine blk_drewN ?_ _ | refine blk_drew ?_ | refine blk_alloc ?_ _)); refine blk_far ?_ NB674_688.out _; (with_reducible repeat (first | refine blk_drewN ?_ _ | refine blk_drew ?_ | refine blk_alloc ?_ _)); refine blk_far ?_ NB674_688.out _; (with_reducible repeat (first | refine blk_drewN ?_ _ | refine blk_drew ?_ | refine blk_alloc ?_ _)); exact BK674.out⟩, ⟨by (with_reducible repeat (first | refine blk_drewN ?_ _ | refine blk_drew ?_ | refine blk_alloc ?_ _)); refine blk_far ?_ NB684_688.out _; (with_reducible repeat (first | refine blk_drewN ?_ _ | refine blk_drew ?_ | refine blk_alloc ?_ _)); refine blk_far ?_ NB684_688.out _; (with_reducible repeat (first | refine blk_drewN ?_ _ | refine blk_drew ?_ | refine blk_alloc ?_ _)); exact BK684.out⟩, ⟨by (with_reducible repeat (first | refine blk_drewN ?_ _ | refine blk_drew ?_ | refine blk_alloc ?_ _)); refine blk_put (cs := #[.int .i64 t685, .int .i64 0]) ?_ 1 _ rfl; (with_reducible repeat (first | refine blk_drewN ?_ _ | refine blk_drew ?_ | refine blk_alloc ?_ _)); refine blk_put (cs := #[.int .i64 0, .int .i64 0]) ?_ 0 _ rfl; (with_reducible repeat (first | refine blk_drewN ?_ _ | refine blk_drew ?_ | refine blk_alloc ?_ _)); exact BK688.out⟩, ⟨bz⟩⟩
      ·rw [if_neg c52] at H
       have c52b0 : (t666 == 0) = false := beq_eq_false_iff_ne.mpr c52
       have c52b1 : (t666 != 0) = true := bne_iff_ne.mpr c52
       have H' := Aside0.mk H
       clear H
       have hnb72 := NB668_671.out
       have hnc72 := NB671_668.out
       have hnb73 := NB668_674.out
       have hnc73 := NB674_668.out
       have hnb74 := NB668_684.out
       have hnc74 := NB684_668.out
       have hnb75 := NB668_688.out
       have hnc75 := NB688_668.out
       have hcz76_0 := Given.c20 BK668
       have hcz76_1 := Given.c21 BK668
       have hfz76_0 := blk_frozen BK668.out 0
       have hfz76_1 := blk_frozen BK668.out 1
       go_wp2
       go_meet
       case rel => exact ⟨_, (true), (by first | rfl | (simp; done) | (simp [*]; done)), H', ⟨by first | omega | exact Nat.le_refl _⟩, ⟨by (with_reducible repeat (first | refine blk_drewN ?_ _ | refine blk_drew ?_ | refine blk_alloc ?_ _)); refine blk_far ?_ NB668_688.out _; (with_reducible repeat (first | refine blk_drewN ?_ _ | refine blk_drew ?_ | refine blk_alloc ?_ _)); refine blk_far ?_ NB668_688.out _; (with_reducible repeat (first | refine blk_drewN ?_ _ | refine blk_drew ?_ | refine blk_alloc ?_ _)); exact BK668.out⟩, ⟨by (with_reducible repeat (first | refine blk_drewN ?_ _ | refine blk_drew ?_ | refine blk_alloc ?_ _)); refine blk_far ?_ NB671_688.out _; (with_reducible repeat (first | refine blk_drewN ?_ _ | refine blk_drew ?_ | refine blk_alloc ?_ _)); refine blk_far ?_ NB671_688.out _; (with_reducible repeat (first | refine blk_drewN ?_ _ | refine blk_drew ?_ | refine blk_alloc ?_ _)); exact BK671.out⟩, ⟨by (with_reducible repeat (first | refine blk_drewN ?_ _ | refine blk_drew ?_ | refine blk_alloc ?_ _)); refine blk_far ?_ NB674_688.out _; (with_reducible repeat (first | refine blk_drewN ?_ _ | refine blk_drew ?_ | refine blk_alloc ?_ _)); refine blk_far ?_ NB674_688.out _; (with_reducible repeat (first | refine blk_drewN ?_ _ | refine blk_drew ?_ | refine blk_alloc ?_ _)); exact BK674.out⟩, ⟨by (with_reducible repeat (first | refine blk_drewN ?_ _ | refine blk_drew ?_ | refine blk_alloc ?_ _)); refine blk_far ?_ NB684_688.out _; (with_reducible repeat (first | refine blk_drewN ?_ _ | refine blk_drew ?_ | refine blk_alloc ?_ _)); refine blk_far ?_ NB684_688.out _; (with_reducible repeat (first | refine blk_drewN ?_ _ | refine blk_drew ?_ | refine blk_alloc ?_ _)); exact BK684.out⟩, ⟨by (with_reducible repeat (first | refine blk_drewN ?_ _ | refine blk_drew ?_ | refine blk_alloc ?_ _)); refine blk_put (cs := #[.int .i64 t685, .int .i64 0]) ?_ 1 _ rfl; (with_reducible repeat (first | refine blk_drewN ?_ _ | refine blk_drew ?_ | refine blk_alloc ?_ _)); refine blk_put (cs := #[.int .i64 0, .int .i64 0]) ?_ 0 _ rfl; (with_reducible repeat (first | refine blk_drewN ?_ _ | refine blk_drew ?_ | refine blk_alloc ?_ _)); exact BK688.out⟩, ⟨bz⟩⟩
     ·rw [if_neg c51] at H
      have c51b0 : decide ((-24) < t667) = false := decide_eq_false c51
      clear c51
      (first | rw [c51b0] | (simp only [i64_w, i32_w]; rw [c51b0]) | skip)
      by_cases c77 : t670 > (-24)
      ·rw [if_pos c77] at H
       have c77b0 : decide ((-24) < t670) = true := decide_eq_true c77
       clear c77
       have H' := Aside0.mk H
       clear H
       have hnb78 := NB668_671.out
       have hnc78 := NB671_668.out
       have hnb79 := NB668_674.out
       have hnc79 := NB674_668.out
       have hnb80 := NB668_684.out
       have hnc80 := NB684_668.out
       have hnb81 := NB668_688.out
       have hnc81 := NB688_668.out
       have hcz82_0 := Given.c20 BK668
       have hcz82_1 := Given.c21 BK668
       have hfz82_0 := blk_frozen BK668.out 0
       have hfz82_1 := blk_frozen BK668.out 1
       have hnb83 := NB671_674.out
       have hnc83 := NB674_671.out
       have hnb84 := NB671_684.out
       have hnc84 := NB684_671.out
       have hnb85 := NB671_688.out
       have hnc85 := NB688_671.out
       have hcz86_0 := Given.c20 BK671
       have hcz86_1 := Given.c21 BK671
       have hfz86_0 := blk_frozen BK671.out 0
       have hfz86_1 := blk_frozen BK671.out 1
       go_wp2
       go_meet
       case rel => exact ⟨_, ((t669 != 0)), (by first | rfl | (simp; done) | (simp [*]; done)), H', ⟨by first | omega | exact Nat.le_refl _⟩, ⟨by (with_reducible repeat (first | refine blk_drewN ?_ _ | refine blk_drew ?_ | refine blk_alloc ?_ _)); refine blk_far ?_ NB668_688.out _; (with_reducible repeat (first | refine blk_drewN ?_ _ | refine blk_drew ?_ | refine blk_alloc ?_ _)); refine blk_far ?_ NB668_688.out _; (with_reducible repeat (first | refine blk_drewN ?_ _ | refine blk_drew ?_ | refine blk_alloc ?_ _)); exact BK668.out⟩, ⟨by (with_reducible repeat (first | refine blk_drewN ?_ _ | refine blk_drew ?_ | refine blk_alloc ?_ _)); refine blk_far ?_ NB671_688.out _; (with_reducible repeat (first | refine blk_drewN ?_ _ | refine blk_drew ?_ | refine blk_alloc ?_ _)); refine blk_far ?_ NB671_688.out _; (with_reducible repeat (first | refine blk_drewN ?_ _ | refine blk_drew ?_ | refine blk_alloc ?_ _)); exact BK671.out⟩, ⟨by (with_reducible repeat (first | refine blk_drewN ?_ _ | refine blk_drew ?_ | refine blk_alloc ?_ _)); refine blk_far ?_ NB674_688.out _; (with_reducible repeat (first | refine blk_drewN ?_ _ | refine blk_drew ?_ | refine blk_alloc ?_ _)); refine blk_far ?_ NB674_688.out _; (with_reducible repeat (first | refine blk_drewN ?_ _ | refine blk_drew ?_ | refine blk_alloc ?_ _)); exact BK674.out⟩, ⟨by (with_reducible repeat (first | refine blk_drewN ?_ _ | refine blk_drew ?_ | refine blk_alloc ?_ _)); refine blk_far ?_ NB684_688.out _; (with_reducible repeat (first | refine blk_drewN ?_ _ | refine blk_drew ?_ | refine blk_alloc ?_ _)); refine blk_far ?_ NB684_688.out _; (with_reducible repeat (first | refine blk_drewN ?_ _ | refine blk_drew ?_ | refine blk_alloc ?_ _)); exact BK684.out⟩, ⟨by (with_reducible repeat (first | refine blk_drewN ?_ _ | refine blk_drew ?_ | refine blk_alloc ?_ _)); refine blk_put (cs := #[.int .i64 t685, .int .i64 0]) ?_ 1 _ rfl; (with_reducible repeat (first | refine blk_drewN ?_ _ | refine blk_drew ?_ | refine blk_alloc ?_ _)); refine blk_put (cs := #[.int .i64 0, .int .i64 0]) ?_ 0 _ rfl; (with_reducible repeat (first | refine blk_drewN ?_ _ | refine blk_drew ?_ | refine blk_alloc ?_ _)); exact BK688.out⟩, ⟨bz⟩⟩
      ·rw [if_neg c77] at H
       have c77b0 : decide ((-24) < t670) = false := decide_eq_false c77
       clear c77
       have H' := Aside0.mk H
       clear H
       have hnb87 := NB668_671.out
       have hnc87 := NB671_668.out
       have hnb88 := NB668_674.out
       have hnc88 := NB674_668.out
       have hnb89 := NB668_684.out
       have hnc89 := NB684_668.out
       have hnb90 := NB668_688.out
       have hnc90 := NB688_668.out
       have hcz91_0 := Given.c20 BK668
       have hcz91_1 := Given.c21 BK668
       have hfz91_0 := blk_frozen BK668.out 0
       have hfz91_1 := blk_frozen BK668.out 1
       have hnb92 := NB671_674.out
       have hnc92 := NB674_671.out
       have hnb93 := NB671_684.out
       have hnc93 := NB684_671.out
       have hnb94 := NB671_688.out
       have hnc94 := NB688_671.out
       have hcz95_0 := Given.c20 BK671
       have hcz95_1 := Given.c21 BK671
       have hfz95_0 := blk_frozen BK671.out 0
       have hfz95_1 := blk_frozen BK671.out 1
       go_wp2
       go_meet
       case rel => exact ⟨_, (false), (by first | rfl | (simp; done) | (simp [*]; done)), H', ⟨by first | omega | exact Nat.le_refl _⟩, ⟨by (with_reducible repeat (first | refine blk_drewN ?_ _ | refine blk_drew ?_ | refine blk_alloc ?_ _)); refine blk_far ?_ NB668_688.out _; (with_reducible repeat (first | refine blk_drewN ?_ _ | refine blk_drew ?_ | refine blk_alloc ?_ _)); refine blk_far ?_ NB668_688.out _; (with_reducible repeat (first | refine blk_drewN ?_ _ | refine blk_drew ?_ | refine blk_alloc ?_ _)); exact BK668.out⟩, ⟨by (with_reducible repeat (first | refine blk_drewN ?_ _ | refine blk_drew ?_ | refine blk_alloc ?_ _)); refine blk_far ?_ NB671_688.out _; (with_reducible repeat (first | refine blk_drewN ?_ _ | refine blk_drew ?_ | refine blk_alloc ?_ _)); refine blk_far ?_ NB671_688.out _; (with_reducible repeat (first | refine blk_drewN ?_ _ | refine blk_drew ?_ | refine blk_alloc ?_ _)); exact BK671.out⟩, ⟨by (with_reducible repeat (first | refine blk_drewN ?_ _ | refine blk_drew ?_ | refine blk_alloc ?_ _)); refine blk_far ?_ NB674_688.out _; (with_reducible repeat (first | refine blk_drewN ?_ _ | refine blk_drew ?_ | refine blk_alloc ?_ _)); refine blk_far ?_ NB674_688.out _; (with_reducible repeat (first | refine blk_drewN ?_ _ | refine blk_drew ?_ | refine blk_alloc ?_ _)); exact BK674.out⟩, ⟨by (with_reducible repeat (first | refine blk_drewN ?_ _ | refine blk_drew ?_ | refine blk_alloc ?_ _)); refine blk_far ?_ NB684_688.out _; (with_reducible repeat (first | refine blk_drewN ?_ _ | refine blk_drew ?_ | refine blk_alloc ?_ _)); refine blk_far ?_ NB684_688.out _; (with_reducible repeat (first | refine blk_drewN ?_ _ | refine blk_drew ?_ | refine blk_alloc ?_ _)); exact BK684.out⟩, ⟨by (with_reducible repeat (first | refine blk_drewN ?_ _ | refine blk_drew ?_ | refine blk_alloc ?_ _)); refine blk_put (cs := #[.int .i64 t685, .int .i64 0]) ?_ 1 _ rfl; (with_reducible repeat (first | refine blk_drewN ?_ _ | refine blk_drew ?_ | refine blk_alloc ?_ _)); refine blk_put (cs := #[.int .i64 0, .int .i64 0]) ?_ 0 _ rfl; (with_reducible repeat (first | refine blk_drewN ?_ _ | refine blk_drew ?_ | refine blk_alloc ?_ _)); exact BK688.out⟩, ⟨bz⟩⟩
    ·replace c50 := Bool.eq_false_iff.mpr c50
     subst c50
     have H1 : (manorboylaw02_RealNearest.j0 k t675 t677 t679 t683 t687 true t672 t673 t681 t682 t685 t686) = some r := by rw [if_neg (show ¬ (false = true) by decide)] at H; exact H
     clear H
     have H := H1
     clear H1
     have H' := Aside0.mk H
     clear H
     go_wp2
     go_meet
     case rel => exact ⟨_, (true), (by first | rfl | (simp; done) | (simp [*]; done)), H', ⟨by first | omega | exact Nat.le_refl _⟩, ⟨by (with_reducible repeat (first | refine blk_drewN ?_ _ | refine blk_drew ?_ | refine blk_alloc ?_ _)); refine blk_far ?_ NB668_688.out _; (with_reducible repeat (first | refine blk_drewN ?_ _ | refine blk_drew ?_ | refine blk_alloc ?_ _)); refine blk_far ?_ NB668_688.out _; (with_reducible repeat (first | refine blk_drewN ?_ _ | refine blk_drew ?_ | refine blk_alloc ?_ _)); exact BK668.out⟩, ⟨by (with_reducible repeat (first | refine blk_drewN ?_ _ | refine blk_drew ?_ | refine blk_alloc ?_ _)); refine blk_far ?_ NB671_688.out _; (with_reducible repeat (first | refine blk_drewN ?_ _ | refine blk_drew ?_ | refine blk_alloc ?_ _)); refine blk_far ?_ NB671_688.out _; (with_reducible repeat (first | refine blk_drewN ?_ _ | refine blk_drew ?_ | refine blk_alloc ?_ _)); exact BK671.out⟩, ⟨by (with_reducible repeat (first | refine blk_drewN ?_ _ | refine blk_drew ?_ | refine blk_alloc ?_ _)); refine blk_far ?_ NB674_688.out _; (with_reducible repeat (first | refine blk_drewN ?_ _ | refine blk_drew ?_ | refine blk_alloc ?_ _)); refine blk_far ?_ NB674_688.out _; (with_reducible repeat (first | refine blk_drewN ?_ _ | refine blk_drew ?_ | refine blk_alloc ?_ _)); exact BK674.out⟩, ⟨by (with_reducible repeat (first | refine blk_drewN ?_ _ | refine blk_drew ?_ | refine blk_alloc ?_ _)); refine blk_far ?_ NB684_688.out _; (with_reducible repeat (first | refine blk_drewN ?_ _ | refine blk_drew ?_ | refine blk_alloc ?_ _)); refine blk_far ?_ NB684_688.out _; (with_reducible repeat (first | refine blk_drewN ?_ _ | refine blk_drew ?_ | refine blk_alloc ?_ _)); exact BK684.out⟩, ⟨by (with_reducible repeat (first | refine blk_drewN ?_ _ | refine blk_drew ?_ | refine blk_alloc ?_ _)); refine blk_put (cs := #[.int .i64 t685, .int .i64 0]) ?_ 1 _ rfl; (with_reducible repeat (first | refine blk_drewN ?_ _ | refine blk_drew ?_ | refine blk_alloc ?_ _)); refine blk_put (cs := #[.int .i64 0, .int .i64 0]) ?_ 0 _ rfl; (with_reducible repeat (first | refine blk_drewN ?_ _ | refine blk_drew ?_ | refine blk_alloc ?_ _)); exact BK688.out⟩, ⟨bz⟩⟩
   ·replace c49 := Bool.eq_false_iff.mpr c49
    subst c49
    have H1 : (manorboylaw02_RealNearest.j0 k t675 t677 t679 t683 t687 true t672 t673 t681 t682 t685 t686) = some r := by rw [if_neg (show ¬ (false = true) by decide)] at H; exact H
    clear H
    have H := H1
    clear H1
    have H' := Aside0.mk H
    clear H
    go_wp2
    go_meet
    case rel => exact ⟨_, (true), (by first | rfl | (simp; done) | (simp [*]; done)), H', ⟨by first | omega | exact Nat.le_refl _⟩, ⟨by (with_reducible repeat (first | refine blk_drewN ?_ _ | refine blk_drew ?_ | refine blk_alloc ?_ _)); refine blk_far ?_ NB668_688.out _; (with_reducible repeat (first | refine blk_drewN ?_ _ | refine blk_drew ?_ | refine blk_alloc ?_ _)); refine blk_far ?_ NB668_688.out _; (with_reducible repeat (first | refine blk_drewN ?_ _ | refine blk_drew ?_ | refine blk_alloc ?_ _)); exact BK668.out⟩, ⟨by (with_reducible repeat (first | refine blk_drewN ?_ _ | refine blk_drew ?_ | refine blk_alloc ?_ _)); refine blk_far ?_ NB671_688.out _; (with_reducible repeat (first | refine blk_drewN ?_ _ | refine blk_drew ?_ | refine blk_alloc ?_ _)); refine blk_far ?_ NB671_688.out _; (with_reducible repeat (first | refine blk_drewN ?_ _ | refine blk_drew ?_ | refine blk_alloc ?_ _)); exact BK671.out⟩, ⟨by (with_reducible repeat (first | refine blk_drewN ?_ _ | refine blk_drew ?_ | refine blk_alloc ?_ _)); refine blk_far ?_ NB674_688.out _; (with_reducible repeat (first | refine blk_drewN ?_ _ | refine blk_drew ?_ | refine blk_alloc ?_ _)); refine blk_far ?_ NB674_688.out _; (with_reducible repeat (first | refine blk_drewN ?_ _ | refine blk_drew ?_ | refine blk_alloc ?_ _)); exact BK674.out⟩, ⟨by (with_reducible repeat (first | refine blk_drewN ?_ _ | refine blk_drew ?_ | refine blk_alloc ?_ _)); refine blk_far ?_ NB684_688.out _; (with_reducible repeat (first | refine blk_drewN ?_ _ | refine blk_drew ?_ | refine blk_alloc ?_ _)); refine blk_far ?_ NB684_688.out _; (with_reducible repeat (first | refine blk_drewN ?_ _ | refine blk_drew ?_ | refine blk_alloc ?_ _)); exact BK684.out⟩, ⟨by (with_reducible repeat (first | refine blk_drewN ?_ _ | refine blk_drew ?_ | refine blk_alloc ?_ _)); refine blk_put (cs := #[.int .i64 t685, .int .i64 0]) ?_ 1 _ rfl; (with_reducible repeat (first | refine blk_drewN ?_ _ | refine blk_drew ?_ | refine blk_alloc ?_ _)); refine blk_put (cs := #[.int .i64 0, .int .i64 0]) ?_ 0 _ rfl; (with_reducible repeat (first | refine blk_drewN ?_ _ | refine blk_drew ?_ | refine blk_alloc ?_ _)); exact BK688.out⟩, ⟨bz⟩⟩
  ·replace c48 := Bool.eq_false_iff.mpr c48
   subst c48
   have H1 : (manorboylaw02_RealNearest.j0 k t675 t677 t679 t683 t687 true t672 t673 t681 t682 t685 t686) = some r := by rw [if_neg (show ¬ (false = true) by decide)] at H; exact H
   clear H
   have H := H1
   clear H1
   have H' := Aside0.mk H
   clear H
   go_wp2
   go_meet
   case rel => exact ⟨_, (true), (by first | rfl | (simp; done) | (simp [*]; done)), H', ⟨by first | omega | exact Nat.le_refl _⟩, ⟨by (with_reducible repeat (first | refine blk_drewN ?_ _ | refine blk_drew ?_ | refine blk_alloc ?_ _)); refine blk_far ?_ NB668_688.out _; (with_reducible repeat (first | refine blk_drewN ?_ _ | refine blk_drew ?_ | refine blk_alloc ?_ _)); refine blk_far ?_ NB668_688.out _; (with_reducible repeat (first | refine blk_drewN ?_ _ | refine blk_drew ?_ | refine blk_alloc ?_ _)); exact BK668.out⟩, ⟨by (with_reducible repeat (first | refine blk_drewN ?_ _ | refine blk_drew ?_ | refine blk_alloc ?_ _)); refine blk_far ?_ NB671_688.out _; (with_reducible repeat (first | refine blk_drewN ?_ _ | refine blk_drew ?_ | refine blk_alloc ?_ _)); refine blk_far ?_ NB671_688.out _; (with_reducible repeat (first | refine blk_drewN ?_ _ | refine blk_drew ?_ | refine blk_alloc ?_ _)); exact BK671.out⟩, ⟨by (with_reducible repeat (first | refine blk_drewN ?_ _ | refine blk_drew ?_ | refine blk_alloc ?_ _)); refine blk_far ?_ NB674_688.out _; (with_reducible repeat (first | refine blk_drewN ?_ _ | refine blk_drew ?_ | refine blk_alloc ?_ _)); refine blk_far ?_ NB674_688.out _; (with_reducible repeat (first | refine blk_drewN ?_ _ | refine blk_drew ?_ | refine blk_alloc ?_ _)); exact BK674.out⟩, ⟨by (with_reducible repeat (first | refine blk_drewN ?_ _ | refine blk_drew ?_ | refine blk_alloc ?_ _)); refine blk_far ?_ NB684_688.out _; (with_reducible repeat (first | refine blk_drewN ?_ _ | refine blk_drew ?_ | refine blk_alloc ?_ _)); refine blk_far ?_ NB684_688.out _; (with_reducible repeat (first | refine blk_drewN ?_ _ | refine blk_drew ?_ | refine blk_alloc ?_ _)); exact BK684.out⟩, ⟨by (with_reducible repeat (first | refine blk_drewN ?_ _ | refine blk_drew ?_ | refine blk_alloc ?_ _)); refine blk_put (cs := #[.int .i64 t685, .int .i64 0]) ?_ 1 _ rfl; (with_reducible repeat (first | refine blk_drewN ?_ _ | refine blk_drew ?_ | refine blk_alloc ?_ _)); refine blk_put (cs := #[.int .i64 0, .int .i64 0]) ?_ 0 _ rfl; (with_reducible repeat (first | refine blk_drewN ?_ _ | refine blk_drew ?_ | refine blk_alloc ?_ _)); exact BK688.out⟩, ⟨bz⟩⟩
 case rest => as_aux_lemma =>
  clear HC12
  try clear c48
  try clear c49
  try clear c50
  try clear c51
  try clear c51b0
  try clear c52
  try clear c52b0
  try clear c52b1
  try clear c53
  try clear c53b0
  try clear c77
  try clear c77b0
  try clear hcz15_0
  try clear hcz15_1
  try clear hcz19_0
  try clear hcz19_1
  try clear hcz24_0
  try clear hcz24_1
  try clear hcz25_0
  try clear hcz25_1
  try clear hcz27_0
  try clear hcz27_1
  try clear hcz29_0
  try clear hcz29_1
  try clear hcz31_0
  try clear hcz31_1
  try clear hcz32_0
  try clear hcz32_1
  try clear hcz38_0
  try clear hcz38_1
  try clear hcz39_0
  try clear hcz39_1
  try clear hcz40_0
  try clear hcz40_1
  try clear hcz47_0
  try clear hcz47_1
  try clear hcz58_0
  try clear hcz58_1
  try clear hcz62_0
  try clear hcz62_1
  try clear hcz67_0
  try clear hcz67_1
  try clear hcz71_0
  try clear hcz71_1
  try clear hcz76_0
  try clear hcz76_1
  try clear hcz82_0
  try clear hcz82_1
  try clear hcz86_0
  try clear hcz86_1
  try clear hcz91_0
  try clear hcz91_1
  try clear hcz95_0
  try clear hcz95_1
  try clear hfz15_0
  try clear hfz15_1
  try clear hfz19_0
  try clear hfz19_1
  try clear hfz24_0
  try clear hfz24_1
  try clear hfz25_0
  try clear hfz25_1
  try clear hfz27_0
  try clear hfz27_1
  try clear hfz29_0
  try clear hfz29_1
  try clear hfz31_0
  try clear hfz31_1
  try clear hfz32_0
  try clear hfz32_1
  try clear hfz38_0
  try clear hfz38_1
  try clear hfz39_0
  try clear hfz39_1
  try clear hfz40_0
  try clear hfz40_1
  try clear hfz47_0
  try clear hfz47_1
  try clear hfz58_0
  try clear hfz58_1
  try clear hfz62_0
  try clear hfz62_1
  try clear hfz67_0
  try clear hfz67_1
  try clear hfz71_0
  try clear hfz71_1
  try clear hfz76_0
  try clear hfz76_1
  try clear hfz82_0
  try clear hfz82_1
  try clear hfz86_0
  try clear hfz86_1
  try clear hfz91_0
  try clear hfz91_1
  try clear hfz95_0
  try clear hfz95_1
  obtain ⟨kq, x87_11, rfl, HA, HJ11, BK668, BK671, BK674, BK684, BK688, HB⟩ := hcut
  cases kq with
  | zero => exact absurd HA.out (by simp [manorboylaw02_RealNearest.j0])
  | succ kj11 =>
   have H := HA.out
   clear HA
   simp only [manorboylaw02_RealNearest.j0] at H
   by_cases c96 : x87_11 = true
   ·subst c96
    have H1 : ((manorboylaw02_sanity.f kj11).bind fun t689 => (some t689)) = some r := by rw [if_pos rfl] at H; exact H
    clear H
    have H := H1
    clear H1
    replace H := Option.bind_eq_some_iff.mp H
    obtain ⟨t689, A970, H⟩ := H
    try dsimp only at H
    have A97 := Aside0.mk A970
    clear A970
    obtain rfl := Option.some.inj H
    go_wp2_with (first | ((with_reducible refine gate_callee (f := 19) rfl ?_); refine goesL_ (some 88) rfl rfl Tryz.func19 (by kernel_rfl) rfl #[] rfl az ?_; (with_reducible refine (manorboylaw02_sanity.calls kj11  t689 _ A97.out (by first | rfl | exact hr) (tabAt HT.out bz)).mono ?_); rintro e w98 ⟨rfl, hb⟩; refine ⟨_, rfl, ?_⟩; replace BK668 := kb BK668 hb; replace BK671 := kb BK671 hb; replace BK674 := kb BK674 hb; replace BK684 := kb BK684 hb; replace BK688 := kb BK688 hb; replace HB := bs hb; (try clear hb)))
    go_ret
    exact ⟨by first | rfl | (simp [errW_none, errW_some] <;> rfl) | (simp [*, errW_none, errW_some] <;> rfl), bz⟩
   ·replace c96 := Bool.eq_false_iff.mpr c96
    subst c96
    have H1 : ((manorboylaw02_scaled.f t681 t682).bind fun bt690 => ((manorboylaw02_scaled.f t685 t686).bind fun bt692 => (if t683 = 0 then (if t687 = 0 then (if bt690.2 = true then (if bt692.2 = true then (manorboylaw02_RealNearest.j1 kj11 t675 t677 t679 bt690.1 bt690.2 bt692.1 bt692.2 false t672 t673 t681 t682 t685 t686) else (manorboylaw02_RealNearest.j1 kj11 t675 t677 t679 bt690.1 bt690.2 bt692.1 bt692.2 (decide (t686 ≥ (-60))) t672 t673 t681 t682 t685 t686)) else (if t682 ≥ (-60) then (manorboylaw02_RealNearest.j1 kj11 t675 t677 t679 bt690.1 bt690.2 bt692.1 bt692.2 true t672 t673 t681 t682 t685 t686) else (if bt692.2 = true then (manorboylaw02_RealNearest.j1 kj11 t675 t677 t679 bt690.1 bt690.2 bt692.1 bt692.2 false t672 t673 t681 t682 t685 t686) else (manorboylaw02_RealNearest.j1 kj11 t675 t677 t679 bt690.1 bt690.2 bt692.1 bt692.2 (decide (t686 ≥ (-60))) t672 t673 t681 t682 t685 t686)))) else (manorboylaw02_RealNearest.j1 kj11 t675 t677 t679 bt690.1 bt690.2 bt692.1 bt692.2 true t672 t673 t681 t682 t685 t686)) else (manorboylaw02_RealNearest.j1 kj11 t675 t677 t679 bt690.1 bt690.2 bt692.1 bt692.2 true t672 t673 t681 t682 t685 t686)))) = some r := by rw [if_neg (show ¬ (false = true) by decide)] at H; exact H
    clear H
    have H := H1
    clear H1
    replace H := Option.bind_eq_some_iff.mp H
    obtain ⟨⟨t690, t691⟩, A990, H⟩ := H
    try dsimp only at H
    have A99 := Aside0.mk A990
    clear A990
    replace H := Option.bind_eq_some_iff.mp H
    obtain ⟨⟨t692, t693⟩, A1000, H⟩ := H
    try dsimp only at H
    have A100 := Aside0.mk A1000
    clear A1000
    have HC101 := Aside0.mk H
    clear H
    have hnb102 := NB684_668.out
    have hnc102 := NB668_684.out
    have hnb103 := NB684_671.out
    have hnc103 := NB671_684.out
    have hnb104 := NB684_674.out
    have hnc104 := NB674_684.out
    have hnb105 := NB684_688.out
    have hnc105 := NB688_684.out
    have hcz106_0 := Given.c20 BK684
    have hcz106_1 := Given.c21 BK684
    have hfz106_0 := blk_frozen BK684.out 0
    have hfz106_1 := blk_frozen BK684.out 1
    go_upto_region 13 with (first | ((with_reducible refine gate_callee (f := 41) rfl ?_); refine goesL_ (some 91) rfl rfl Tryz.func41 (by kernel_rfl) rfl #[.agg #[.int .i64 t681, .int .i64 t682]] rfl az ?_; (with_reducible refine (manorboylaw02_scaled.calls t681 t682 t690 t691 _ A99.out).mono ?_); rintro e w107 ⟨rfl, hb⟩; refine ⟨_, rfl, ?_⟩; replace BK668 := kb BK668 hb; replace BK671 := kb BK671 hb; replace BK674 := kb BK674 hb; replace BK684 := kb BK684 hb; replace BK688 := kb BK688 hb; replace HB := bs hb; (try clear hb); have hnb108 := NB688_668.out; have hnc108 := NB668_688.out; have hnb109 := NB688_671.out; have hnc109 := NB671_688.out; have hnb110 := NB688_674.out; have hnc110 := NB674_688.out; have hcz111_0 := Given.c20 BK688; have hcz111_1 := Given.c21 BK688; have hfz111_0 := blk_frozen BK688.out 0; have hfz111_1 := blk_frozen BK688.out 1) | ((with_reducible refine gate_callee (f := 41) rfl ?_); refine goesL_ (some 96) rfl rfl Tryz.func41 (by kernel_rfl) rfl #[.agg #[.int .i64 t685, .int .i64 t686]] rfl az ?_; (with_reducible refine (manorboylaw02_scaled.calls t685 t686 t692 t693 _ A100.out).mono ?_); rintro e w112 ⟨rfl, hb⟩; refine ⟨_, rfl, ?_⟩; replace BK668 := kb BK668 hb; replace BK671 := kb BK671 hb; replace BK674 := kb BK674 hb; replace BK684 := kb BK684 hb; replace BK688 := kb BK688 hb; replace HB := bs hb; (try clear hb)))
    (try simp only [Act.put, List.setIfInBounds_toArray, List.set_cons_zero, List.set_cons_succ])
    go_cut [122] (fun v122 wc => ∃ (kq : Nat) (x122_100 : Bool), v122 = .bool x122_100 ∧ Aside0 (manorboylaw02_RealNearest.j1 kq t675 t677 t679 t690 t691 t692 t693 x122_100 t672 t673 t681 t682 t685 t686 = some r) ∧ Aside0 (kq ≤ kj11) ∧ Aside0 (wc.heap[gb668]? = some (.cells #[.int .i64 t666, .int .i64 t667] 23 (0, 0))) ∧ Aside0 (wc.heap[gb671]? = some (.cells #[.int .i64 t669, .int .i64 t670] 23 (0, 0))) ∧ Aside0 (wc.heap[gb674]? = some (.cells #[.int .i64 t672, .int .i64 t673] 23 (0, 0))) ∧ Aside0 (wc.heap[gb684]? = some (.cells #[.int .i64 t681, .int .i64 t682] 23 (0, 0))) ∧ Aside0 (wc.heap[gb688]? = some (.cells #[.int .i64 t685, .int .i64 t686] 23 (0, 0))) ∧ Aside0 (Below w.heap.size w wc))
    case first => as_aux_lemma =>
     have H := HC101.out
     clear HC101
     by_cases c113 : t683 = 0
     ·rw [if_pos c113] at H
      have c113b0 : (t683 == 0) = true := beq_iff_eq.mpr c113
      have c113b1 : (t683 != 0) = false := bne_eq_false_iff_eq.mpr c113
      clear c113
      (first | rw [c113b0] | (simp only [i64_w, i32_w]; rw [c113b0]) | skip)
      by_cases c114 : t687 = 0
      ·rw [if_pos c114] at H
       have c114b0 : (t687 == 0) = true := beq_iff_eq.mpr c114
       have c114b1 : (t687 != 0) = false := bne_eq_false_iff_eq.mpr c114
       clear c114
       by_cases c115 : t691 = true
       ·subst c115
        have H1 : (if t693 = true then (manorboylaw02_RealNearest.j1 kj11 t675 t677 t679 t690 true t692 t693 false t672 t673 t681 t682 t685 t686) else (manorboylaw02_RealNearest.j1 kj11 t675 t677 t679 t690 true t692 t693 (decide (t686 ≥ (-60))) t672 t673 t681 t682 t685 t686)) = some r := by rw [if_pos rfl] at H; exact H
        clear H
        have H := H1
        clear H1
        by_cases c116 : t693 = true
        ·subst c116
         have H1 : (manorboylaw02_RealNearest.j1 kj11 t675 t677 t679 t690 true t692 true false t672 t673 t681 t682 t685 t686) = some r := by rw [if_pos rfl] at H; exact H
         clear H
         have H := H1
         clear H1
         have H' := Aside0.mk H
         clear H
         go_wp2
         go_meet
         case rel => exact ⟨_, (false), (by first | rfl | (simp; done) | (simp [*]; done)), H', ⟨by have := HJ11.out; first | omega | exact Nat.le_refl _⟩, ⟨kz BK668⟩, ⟨kz BK671⟩, ⟨kz BK674⟩, ⟨kz BK684⟩, ⟨kz BK688⟩, ⟨bz⟩⟩
        ·replace c116 := Bool.eq_false_iff.mpr c116
         subst c116
         have H1 : (manorboylaw02_RealNearest.j1 kj11 t675 t677 t679 t690 true t692 false (decide (t686 ≥ (-60))) t672 t673 t681 t682 t685 t686) = some r := by rw [if_neg (show ¬ (false = true) by decide)] at H; exact H
         clear H
         have H := H1
         clear H1
         have H' := Aside0.mk H
         clear H
         have hnb117 := NB688_668.out
         have hnc117 := NB668_688.out
         have hnb118 := NB688_671.out
         have hnc118 := NB671_688.out
         have hnb119 := NB688_674.out
         have hnc119 := NB674_688.out
         have hnb120 := NB688_684.out
         have hnc120 := NB684_688.out
         have hcz121_0 := Given.c20 BK688
         have hcz121_1 := Given.c21 BK688
         have hfz121_0 := blk_frozen BK688.out 0
         have hfz121_1 := blk_frozen BK688.out 1
         go_wp2
         go_meet
         case rel => exact ⟨_, (decide (t686 ≥ (-60))), (by first | rfl | (simp; done) | (simp [*]; done)), H', ⟨by have := HJ11.out; first | omega | exact Nat.le_refl _⟩, ⟨kz BK668⟩, ⟨kz BK671⟩, ⟨kz BK674⟩, ⟨kz BK684⟩, ⟨kz BK688⟩, ⟨bz⟩⟩
       ·replace c115 := Bool.eq_false_iff.mpr c115
        subst c115
        have H1 : (if t682 ≥ (-60) then (manorboylaw02_RealNearest.j1 kj11 t675 t677 t679 t690 false t692 t693 true t672 t673 t681 t682 t685 t686) else (if t693 = true then (manorboylaw02_RealNearest.j1 kj11 t675 t677 t679 t690 false t692 t693 false t672 t673 t681 t682 t685 t686) else (manorboylaw02_RealNearest.j1 kj11 t675 t677 t679 t690 false t692 t693 (decide (t686 ≥ (-60))) t672 t673 t681 t682 t685 t686))) = some r := by rw [if_neg (show ¬ (false = true) by decide)] at H; exact H
        clear H
        have H := H1
        clear H1
        by_cases c122 : t682 ≥ (-60)
        ·rw [if_pos c122] at H
         first | exact absurd (Option.some.inj H) (by rw [hr]; decide) | exact absurd H (by rw [hr]; exact manorboylaw02_RealNearest.j1_no _ _ _ _ _ _ _ _ _ _ _ _ _ _)
        ·rw [if_neg c122] at H
         have c122b0 : decide ((-60) ≤ t682) = false := decide_eq_false c122
         clear c122
         by_cases c128 : t693 = true
         ·subst c128
          have H1 : (manorboylaw02_RealNearest.j1 kj11 t675 t677 t679 t690 false t692 true false t672 t673 t681 t682 t685 t686) = some r := by rw [if_pos rfl] at H; exact H
          clear H
          have H := H1
          clear H1
          have H' := Aside0.mk H
          clear H
          have hnb129 := NB684_668.out
          have hnc129 := NB668_684.out
          have hnb130 := NB684_671.out
          have hnc130 := NB671_684.out
          have hnb131 := NB684_674.out
          have hnc131 := NB674_684.out
          have hnb132 := NB684_688.out
          have hnc132 := NB688_684.out
          have hcz133_0 := Given.c20 BK684
          have hcz133_1 := Given.c21 BK684
          have hfz133_0 := blk_frozen BK684.out 0
          have hfz133_1 := blk_frozen BK684.out 1
          go_wp2
          go_meet
          case rel => exact ⟨_, (false), (by first | rfl | (simp; done) | (simp [*]; done)), H', ⟨by have := HJ11.out; first | omega | exact Nat.le_refl _⟩, ⟨kz BK668⟩, ⟨kz BK671⟩, ⟨kz BK674⟩, ⟨kz BK684⟩, ⟨kz BK688⟩, ⟨bz⟩⟩
         ·replace c128 := Bool.eq_false_iff.mpr c128
          subst c128
          have H1 : (manorboylaw02_RealNearest.j1 kj11 t675 t677 t679 t690 false t692 false (decide (t686 ≥ (-60))) t672 t673 t681 t682 t685 t686) = some r := by rw [if_neg (show ¬ (false = true) by decide)] at H; exact H
          clear H
          have H := H1
          clear H1
          have H' := Aside0.mk H
          clear H
          have hnb134 := NB684_668.out
          have hnc134 := NB668_684.out
          have hnb135 := NB684_671.out
          have hnc135 := NB671_684.out
          have hnb136 := NB684_674.out
          have hnc136 := NB674_684.out
          have hnb137 := NB684_688.out
          have hnc137 := NB688_684.out
          have hcz138_0 := Given.c20 BK684
          have hcz138_1 := Given.c21 BK684
          have hfz138_0 := blk_frozen BK684.out 0
          have hfz138_1 := blk_frozen BK684.out 1
          have hnb139 := NB688_668.out
          have hnc139 := NB668_688.out
          have hnb140 := NB688_671.out
          have hnc140 := NB671_688.out
          have hnb141 := NB688_674.out
          have hnc141 := NB674_688.out
          have hcz142_0 := Given.c20 BK688
          have hcz142_1 := Given.c21 BK688
          have hfz142_0 := blk_frozen BK688.out 0
          have hfz142_1 := blk_frozen BK688.out 1
          go_wp2
          go_meet
          case rel => exact ⟨_, (decide (t686 ≥ (-60))), (by first | rfl | (simp; done) | (simp [*]; done)), H', ⟨by have := HJ11.out; first | omega | exact Nat.le_refl _⟩, ⟨kz BK668⟩, ⟨kz BK671⟩, ⟨kz BK674⟩, ⟨kz BK684⟩, ⟨kz BK688⟩, ⟨bz⟩⟩
      ·rw [if_neg c114] at H
       first | exact absurd (Option.some.inj H) (by rw [hr]; decide) | exact absurd H (by rw [hr]; exact manorboylaw02_RealNearest.j1_no _ _ _ _ _ _ _ _ _ _ _ _ _ _)
     ·rw [if_neg c113] at H
      first | exact absurd (Option.some.inj H) (by rw [hr]; decide) | exact absurd H (by rw [hr]; exact manorboylaw02_RealNearest.j1_no _ _ _ _ _ _ _ _ _ _ _ _ _ _)
    case rest => as_aux_lemma =>
     clear HC101
     try clear c48
     try clear c49
     try clear c50
     try clear c51
     try clear c51b0
     try clear c52
     try clear c52b0
     try clear c52b1
     try clear c53
     try clear c53b0
     try clear c77
     try clear c77b0
     try clear c96
     try clear c113
     try clear c113b0
     try clear c113b1
     try clear c114
     try clear c114b0
     try clear c114b1
     try clear c115
     try clear c116
     try clear c122
     try clear c122b0
     try clear c128
     try clear hcz106_0
     try clear hcz106_1
     try clear hcz111_0
     try clear hcz111_1
     try clear hcz121_0
     try clear hcz121_1
     try clear hcz133_0
     try clear hcz133_1
     try clear hcz138_0
     try clear hcz138_1
     try clear hcz142_0
     try clear hcz142_1
     try clear hcz15_0
     try clear hcz15_1
     try clear hcz19_0
     try clear hcz19_1
     try clear hcz24_0
     try clear hcz24_1
     try clear hcz25_0
     try clear hcz25_1
     try clear hcz27_0
     try clear hcz27_1
     try clear hcz29_0
     try clear hcz29_1
     try clear hcz31_0
     try clear hcz31_1
     try clear hcz32_0
     try clear hcz32_1
     try clear hcz38_0
     try clear hcz38_1
     try clear hcz39_0
     try clear hcz39_1
     try clear hcz40_0
     try clear hcz40_1
     try clear hcz47_0
     try clear hcz47_1
     try clear hcz58_0
     try clear hcz58_1
     try clear hcz62_0
     try clear hcz62_1
     try clear hcz67_0
     try clear hcz67_1
     try clear hcz71_0
     try clear hcz71_1
     try clear hcz76_0
     try clear hcz76_1
     try clear hcz82_0
     try clear hcz82_1
     try clear hcz86_0
     try clear hcz86_1
     try clear hcz91_0
     try clear hcz91_1
     try clear hcz95_0
     try clear hcz95_1
     try clear hfz106_0
     try clear hfz106_1
     try clear hfz111_0
     try clear hfz111_1
     try clear hfz121_0
     try clear hfz121_1
     try clear hfz133_0
     try clear hfz133_1
     try clear hfz138_0
     try clear hfz138_1
     try clear hfz142_0
     try clear hfz142_1
     try clear hfz15_0
     try clear hfz15_1
     try clear hfz19_0
     try clear hfz19_1
     try clear hfz24_0
     try clear hfz24_1
     try clear hfz25_0
     try clear hfz25_1
     try clear hfz27_0
     try clear hfz27_1
     try clear hfz29_0
     try clear hfz29_1
     try clear hfz31_0
     try clear hfz31_1
     try clear hfz32_0
     try clear hfz32_1
     try clear hfz38_0
     try clear hfz38_1
     try clear hfz39_0
     try clear hfz39_1
     try clear hfz40_0
     try clear hfz40_1
     try clear hfz47_0
     try clear hfz47_1
     try clear hfz58_0
     try clear hfz58_1
     try clear hfz62_0
     try clear hfz62_1
     try clear hfz67_0
     try clear hfz67_1
     try clear hfz71_0
     try clear hfz71_1
     try clear hfz76_0
     try clear hfz76_1
     try clear hfz82_0
     try clear hfz82_1
     try clear hfz86_0
     try clear hfz86_1
     try clear hfz91_0
     try clear hfz91_1
     try clear hfz95_0
     try clear hfz95_1
     obtain ⟨kq, x122_100, rfl, HA, HJ100, BK668, BK671, BK674, BK684, BK688, HB⟩ := hcut
     cases kq with
     | zero => exact absurd HA.out (by simp [manorboylaw02_RealNearest.j1])
     | succ kj100 =>
      have H := HA.out
      clear HA
      simp only [manorboylaw02_RealNearest.j1] at H
      by_cases c143 : x122_100 = true
      ·subst c143
       have H1 : (some false) = some r := by rw [if_pos rfl] at H; exact H
       clear H
       have H := H1
       clear H1
       first | exact absurd (Option.some.inj H) (by rw [hr]; decide) | exact absurd H (by rw [hr]; exact manorboylaw02_RealNearest.j1_no _ _ _ _ _ _ _ _ _ _ _ _ _ _)
      ·replace c143 := Bool.eq_false_iff.mpr c143
       subst c143
       have H1 : (if t691 = true then (manorboylaw02_RealNearest.j2 kj100 t675 t677 t679 t690 t692 (!t693) t672 t673 t681 t682 t685 t686) else (manorboylaw02_RealNearest.j2 kj100 t675 t677 t679 t690 t692 true t672 t673 t681 t682 t685 t686)) = some r := by rw [if_neg (show ¬ (false = true) by decide)] at H; exact H
       clear H
       have H := H1
       clear H1
       have HC144 := Aside0.mk H
       clear H
       go_upto_region 15 with (fail)
       go_cut [128] (fun v128 wc => ∃ (kq : Nat) (x128_143 : Bool), v128 = .bool x128_143 ∧ Aside0 (manorboylaw02_RealNearest.j2 kq t675 t677 t679 t690 t692 x128_143 t672 t673 t681 t682 t685 t686 = some r) ∧ Aside0 (kq ≤ kj100) ∧ Aside0 (wc.heap[gb668]? = some (.cells #[.int .i64 t666, .int .i64 t667] 23 (0, 0))) ∧ Aside0 (wc.heap[gb671]? = some (.cells #[.int .i64 t669, .int .i64 t670] 23 (0, 0))) ∧ Aside0 (wc.heap[gb674]? = some (.cells #[.int .i64 t672, .int .i64 t673] 23 (0, 0))) ∧ Aside0 (wc.heap[gb684]? = some (.cells #[.int .i64 t681, .int .i64 t682] 23 (0, 0))) ∧ Aside0 (wc.heap[gb688]? = some (.cells #[.int .i64 t685, .int .i64 t686] 23 (0, 0))) ∧ Aside0 (Below w.heap.size w wc))
       case first => as_aux_lemma =>
        have H := HC144.out
        clear HC144
        by_cases c145 : t691 = true
        ·subst c145
         have H1 : (manorboylaw02_RealNearest.j2 kj100 t675 t677 t679 t690 t692 (!t693) t672 t673 t681 t682 t685 t686) = some r := by rw [if_pos rfl] at H; exact H
         clear H
         have H := H1
         clear H1
         have H' := Aside0.mk H
         clear H
         go_wp2
         go_meet
         case rel => exact ⟨_, (!t693), (by first | rfl | (simp; done) | (simp [*]; done)), H', ⟨by have := HJ11.out; have := HJ100.out; first | omega | exact Nat.le_refl _⟩, ⟨kz BK668⟩, ⟨kz BK671⟩, ⟨kz BK674⟩, ⟨kz BK684⟩, ⟨kz BK688⟩, ⟨bz⟩⟩
        ·replace c145 := Bool.eq_false_iff.mpr c145
         subst c145
         have H1 : (manorboylaw02_RealNearest.j2 kj100 t675 t677 t679 t690 t692 true t672 t673 t681 t682 t685 t686) = some r := by rw [if_neg (show ¬ (false = true) by decide)] at H; exact H
         clear H
         have H := H1
         clear H1
         have H' := Aside0.mk H
         clear H
         go_wp2
         go_meet
         case rel => exact ⟨_, (true), (by first | rfl | (simp; done) | (simp [*]; done)), H', ⟨by have := HJ11.out; have := HJ100.out; first | omega | exact Nat.le_refl _⟩, ⟨kz BK668⟩, ⟨kz BK671⟩, ⟨kz BK674⟩, ⟨kz BK684⟩, ⟨kz BK688⟩, ⟨bz⟩⟩
       case rest => as_aux_lemma =>
        clear HC144
        try clear c48
        try clear c49
        try clear c50
        try clear c51
        try clear c51b0
        try clear c52
        try clear c52b0
        try clear c52b1
        try clear c53
        try clear c53b0
        try clear c77
        try clear c77b0
        try clear c96
        try clear c113
        try clear c113b0
        try clear c113b1
        try clear c114
        try clear c114b0
        try clear c114b1
        try clear c115
        try clear c116
        try clear c122
        try clear c122b0
        try clear c128
        try clear c143
        try clear c145
        try clear hcz106_0
        try clear hcz106_1
        try clear hcz111_0
        try clear hcz111_1
        try clear hcz121_0
        try clear hcz121_1
        try clear hcz133_0
        try clear hcz133_1
        try clear hcz138_0
        try clear hcz138_1
        try clear hcz142_0
        try clear hcz142_1
        try clear hcz15_0
        try clear hcz15_1
        try clear hcz19_0
        try clear hcz19_1
        try clear hcz24_0
        try clear hcz24_1
        try clear hcz25_0
        try clear hcz25_1
        try clear hcz27_0
        try clear hcz27_1
        try clear hcz29_0
        try clear hcz29_1
        try clear hcz31_0
        try clear hcz31_1
        try clear hcz32_0
        try clear hcz32_1
        try clear hcz38_0
        try clear hcz38_1
        try clear hcz39_0
        try clear hcz39_1
        try clear hcz40_0
        try clear hcz40_1
        try clear hcz47_0
        try clear hcz47_1
        try clear hcz58_0
        try clear hcz58_1
        try clear hcz62_0
        try clear hcz62_1
        try clear hcz67_0
        try clear hcz67_1
        try clear hcz71_0
        try clear hcz71_1
        try clear hcz76_0
        try clear hcz76_1
        try clear hcz82_0
        try clear hcz82_1
        try clear hcz86_0
        try clear hcz86_1
        try clear hcz91_0
        try clear hcz91_1
        try clear hcz95_0
        try clear hcz95_1
        try clear hfz106_0
        try clear hfz106_1
        try clear hfz111_0
        try clear hfz111_1
        try clear hfz121_0
        try clear hfz121_1
        try clear hfz133_0
        try clear hfz133_1
        try clear hfz138_0
        try clear hfz138_1
        try clear hfz142_0
        try clear hfz142_1
        try clear hfz15_0
        try clear hfz15_1
        try clear hfz19_0
        try clear hfz19_1
        try clear hfz24_0
        try clear hfz24_1
        try clear hfz25_0
        try clear hfz25_1
        try clear hfz27_0
        try clear hfz27_1
        try clear hfz29_0
        try clear hfz29_1
        try clear hfz31_0
        try clear hfz31_1
        try clear hfz32_0
        try clear hfz32_1
        try clear hfz38_0
        try clear hfz38_1
        try clear hfz39_0
        try clear hfz39_1
        try clear hfz40_0
        try clear hfz40_1
        try clear hfz47_0
        try clear hfz47_1
        try clear hfz58_0
        try clear hfz58_1
        try clear hfz62_0
        try clear hfz62_1
        try clear hfz67_0
        try clear hfz67_1
        try clear hfz71_0
        try clear hfz71_1
        try clear hfz76_0
        try clear hfz76_1
        try clear hfz82_0
        try clear hfz82_1
        try clear hfz86_0
        try clear hfz86_1
        try clear hfz91_0
        try clear hfz91_1
        try clear hfz95_0
        try clear hfz95_1
        obtain ⟨kq, x128_143, rfl, HA, HJ143, BK668, BK671, BK674, BK684, BK688, HB⟩ := hcut
        cases kq with
        | zero => exact absurd HA.out (by simp [manorboylaw02_RealNearest.j2])
        | succ kj143 =>
         have H := HA.out
         clear HA
         simp only [manorboylaw02_RealNearest.j2] at H
         by_cases c146 : x128_143 = true
         ·subst c146
          have H1 : ((manorboylaw02_sanity.f kj143).bind fun t694 => (some t694)) = some r := by rw [if_pos rfl] at H; exact H
          clear H
          have H := H1
          clear H1
          replace H := Option.bind_eq_some_iff.mp H
          obtain ⟨t694, A1470, H⟩ := H
          try dsimp only at H
          have A147 := Aside0.mk A1470
          clear A1470
          obtain rfl := Option.some.inj H
          go_wp2_with (first | ((with_reducible refine gate_callee (f := 19) rfl ?_); refine goesL_ (some 129) rfl rfl Tryz.func19 (by kernel_rfl) rfl #[] rfl az ?_; (with_reducible refine (manorboylaw02_sanity.calls kj143  t694 _ A147.out (by first | rfl | exact hr) (tabAt HT.out bz)).mono ?_); rintro e w148 ⟨rfl, hb⟩; refine ⟨_, rfl, ?_⟩; replace BK668 := kb BK668 hb; replace BK671 := kb BK671 hb; replace BK674 := kb BK674 hb; replace BK684 := kb BK684 hb; replace BK688 := kb BK688 hb; replace HB := bs hb; (try clear hb)))
          go_ret
          exact ⟨by first | rfl | (simp [errW_none, errW_some] <;> rfl) | (simp [*, errW_none, errW_some] <;> rfl), bz⟩
         ·replace c146 := Bool.eq_false_iff.mpr c146
          subst c146
          have H1 : ((manorboylaw02_distance.f t690 (wrap64 (t675 + t677))).bind fun t695 => ((manorboylaw02_distance.f t679 (wrap64 (t675 + t677))).bind fun t696 => (if t695 ≤ t696 then ((manorboylaw02_distance.f t692 (wrap64 (t675 - t677))).bind fun t697 => ((manorboylaw02_distance.f t679 (wrap64 (t675 - t677))).bind fun t698 => ((manorboylaw02_sanity.f kj143).bind fun t699 => (if t699 = true then (if t697 ≤ t698 then (if t679 = (wrap64 (t675 + t677)) then (if (t681 == t672 && (t682 == t673)) = true then (if t679 = (wrap64 (t675 - t677)) then (some (t685 == t672 && (t686 == t673))) else (some true)) else (some false)) else (if t679 = (wrap64 (t675 - t677)) then (some (t685 == t672 && (t686 == t673))) else (some true))) else (some false)) else (some false))))) else ((manorboylaw02_sanity.f kj143).bind fun t700 => (if t700 = true then (some false) else (some false)))))) = some r := by rw [if_neg (show ¬ (false = true) by decide)] at H; exact H
          clear H
          have H := H1
          clear H1
          replace H := Option.bind_eq_some_iff.mp H
          obtain ⟨t695, A1490, H⟩ := H
          try dsimp only at H
          have A149 := Aside0.mk A1490
          clear A1490
          replace H := Option.bind_eq_some_iff.mp H
          obtain ⟨t696, A1500, H⟩ := H
          try dsimp only at H
          have A150 := Aside0.mk A1500
          clear A1500
          by_cases c151 : t695 ≤ t696
          ·rw [if_pos c151] at H
           have c151b0 : decide (t695 ≤ t696) = true := decide_eq_true c151
           clear c151
           replace H := Option.bind_eq_some_iff.mp H
           obtain ⟨t697, A1520, H⟩ := H
           try dsimp only at H
           have A152 := Aside0.mk A1520
           clear A1520
           replace H := Option.bind_eq_some_iff.mp H
           obtain ⟨t698, A1530, H⟩ := H
           try dsimp only at H
           have A153 := Aside0.mk A1530
           clear A1530
           replace H := Option.bind_eq_some_iff.mp H
           obtain ⟨t699, A1540, H⟩ := H
           try dsimp only at H
           have A154 := Aside0.mk A1540
           clear A1540
           by_cases c155 : t699 = true
           ·subst c155
            have H1 : (if t697 ≤ t698 then (if t679 = (wrap64 (t675 + t677)) then (if (t681 == t672 && (t682 == t673)) = true then (if t679 = (wrap64 (t675 - t677)) then (some (t685 == t672 && (t686 == t673))) else (some true)) else (some false)) else (if t679 = (wrap64 (t675 - t677)) then (some (t685 == t672 && (t686 == t673))) else (some true))) else (some false)) = some r := by rw [if_pos rfl] at H; exact H
            clear H
            have H := H1
            clear H1
            by_cases c156 : t697 ≤ t698
            ·rw [if_pos c156] at H
             have c156b0 : decide (t697 ≤ t698) = true := decide_eq_true c156
             clear c156
             by_cases c157 : t679 = (wrap64 (t675 + t677))
             ·rw [if_pos c157] at H
              have c157b0 : (t679 == (wrap64 (t675 + t677))) = true := beq_iff_eq.mpr c157
              have c157b1 : (t679 != (wrap64 (t675 + t677))) = false := bne_eq_false_iff_eq.mpr c157
              clear c157
              by_cases c158 : (t681 == t672 && (t682 == t673)) = true
              ·rw [if_pos c158] at H
               have c158b0 : (t681 == t672 && (t682 == t673)) = true := c158
               (try (have c158b1 : decide (t681 = t672 && (t682 == t673)) = true := by simpa using c158))
               (try (have c158b2 : (t681 == t672 && (t682 == t673)) = true := by simpa using c158))
               clear c158
               by_cases c159 : t679 = (wrap64 (t675 - t677))
               ·rw [if_pos c159] at H
                have c159b0 : (t679 == (wrap64 (t675 - t677))) = true := beq_iff_eq.mpr c159
                have c159b1 : (t679 != (wrap64 (t675 - t677))) = false := bne_eq_false_iff_eq.mpr c159
                clear c159
                obtain rfl := Option.some.inj H
                go_wp2_with (first | ((with_reducible refine gate_callee (f := 42) rfl ?_); refine goesL_ (some 134) rfl rfl Tryz.func42 (by kernel_rfl) rfl #[.int .i64 t690, .int .i64 (wrap64 (t675 + t677))] rfl az ?_; (with_reducible refine (manorboylaw02_distance.calls t690 (wrap64 (t675 + t677)) t695 _ A149.out).mono ?_); rintro e w160 ⟨rfl, hb⟩; refine ⟨_, rfl, ?_⟩; replace BK668 := kb BK668 hb; replace BK671 := kb BK671 hb; replace BK674 := kb BK674 hb; replace BK684 := kb BK684 hb; replace BK688 := kb BK688 hb; replace HB := bs hb; (try clear hb)) | ((with_reducible refine gate_callee (f := 42) rfl ?_); refine goesL_ (some 139) rfl rfl Tryz.func42 (by kernel_rfl) rfl #[.int .i64 t679, .int .i64 (wrap64 (t675 + t677))] rfl az ?_; (with_reducible refine (manorboylaw02_distance.calls t679 (wrap64 (t675 + t677)) t696 _ A150.out).mono ?_); rintro e w161 ⟨rfl, hb⟩; refine ⟨_, rfl, ?_⟩; replace BK668 := kb BK668 hb; replace BK671 := kb BK671 hb; replace BK674 := kb BK674 hb; replace BK684 := kb BK684 hb; replace BK688 := kb BK688 hb; replace HB := bs hb; (try clear hb)) | (go_at_call 42; (with_reducible refine (manorboylaw02_distance.calls t692 (wrap64 (t675 - t677)) t697 _ A152.out).mono ?_); rintro e w162 ⟨rfl, hb⟩; replace BK668 := kb BK668 hb; replace BK671 := kb BK671 hb; replace BK674 := kb BK674 hb; replace BK684 := kb BK684 hb; replace BK688 := kb BK688 hb; replace HB := bs hb; (try clear hb)) | (go_at_call 42; (with_reducible refine (manorboylaw02_distance.calls t679 (wrap64 (t675 - t677)) t698 _ A153.out).mono ?_); rintro e w163 ⟨rfl, hb⟩; replace BK668 := kb BK668 hb; replace BK671 := kb BK671 hb; replace BK674 := kb BK674 hb; replace BK684 := kb BK684 hb; replace BK688 := kb BK688 hb; replace HB := bs hb; (try clear hb)) | ((with_reducible refine gate_callee (f := 19) rfl ?_); refine goesL_ (some 154) rfl rfl Tryz.func19 (by kernel_rfl) rfl #[] rfl az ?_; (with_reducible refine (manorboylaw02_sanity.calls kj143  true _ A154.out (by first | rfl | exact hr) (tabAt HT.out bz)).mono ?_); rintro e w164 ⟨rfl, hb⟩; refine ⟨_, rfl, ?_⟩; replace BK668 := kb BK668 hb; replace BK671 := kb BK671 hb; replace BK674 := kb BK674 hb; replace BK684 := kb BK684 hb; replace BK688 := kb BK688 hb; replace HB := bs hb; (try clear hb); have hnb165 := NB684_668.out; have hnc165 := NB668_684.out; have hnb166 := NB684_671.out; have hnc166 := NB671_684.out; have hnb167 := NB684_674.out; have hnc167 := NB674_684.out; have hnb168 := NB684_688.out; have hnc168 := NB688_684.out; have hcz169_0 := Given.c20 BK684; have hcz169_1 := Given.c21 BK684; have hfz169_0 := blk_frozen BK684.out 0; have hfz169_1 := blk_frozen BK684.out 1; have hnb170 := NB674_668.out; have hnc170 := NB668_674.out; have hnb171 := NB674_671.out; have hnc171 := NB671_674.out; have hnb172 := NB674_688.out; have hnc172 := NB688_674.out; have hcz173_0 := Given.c20 BK674; have hcz173_1 := Given.c21 BK674; have hfz173_0 := blk_frozen BK674.out 0; have hfz173_1 := blk_frozen BK674.out 1; have hnb174 := NB688_668.out; have hnc174 := NB668_688.out; have hnb175 := NB688_671.out; have hnc175 := NB671_688.out; have hcz176_0 := Given.c20 BK688; have hcz176_1 := Given.c21 BK688; have hfz176_0 := blk_frozen BK688.out 0; have hfz176_1 := blk_frozen BK688.out 1))
                go_ret
                exact ⟨by first | rfl | (simp [errW_none, errW_some] <;> rfl) | (simp [*, errW_none, errW_some] <;> rfl), bz⟩
               ·rw [if_neg c159] at H
                have c159b0 : (t679 == (wrap64 (t675 - t677))) = false := beq_eq_false_iff_ne.mpr c159
                have c159b1 : (t679 != (wrap64 (t675 - t677))) = true := bne_iff_ne.mpr c159
                obtain rfl := Option.some.inj H
                go_wp2_with (first | ((with_reducible refine gate_callee (f := 42) rfl ?_); refine goesL_ (some 134) rfl rfl Tryz.func42 (by kernel_rfl) rfl #[.int .i64 t690, .int .i64 (wrap64 (t675 + t677))] rfl az ?_; (with_reducible refine (manorboylaw02_distance.calls t690 (wrap64 (t675 + t677)) t695 _ A149.out).mono ?_); rintro e w177 ⟨rfl, hb⟩; refine ⟨_, rfl, ?_⟩; replace BK668 := kb BK668 hb; replace BK671 := kb BK671 hb; replace BK674 := kb BK674 hb; replace BK684 := kb BK684 hb; replace BK688 := kb BK688 hb; replace HB := bs hb; (try clear hb)) | ((with_reducible refine gate_callee (f := 42) rfl ?_); refine goesL_ (some 139) rfl rfl Tryz.func42 (by kernel_rfl) rfl #[.int .i64 t679, .int .i64 (wrap64 (t675 + t677))] rfl az ?_; (with_reducible refine (manorboylaw02_distance.calls t679 (wrap64 (t675 + t677)) t696 _ A150.out).mono ?_); rintro e w178 ⟨rfl, hb⟩; refine ⟨_, rfl, ?_⟩; replace BK668 := kb BK668 hb; replace BK671 := kb BK671 hb; replace BK674 := kb BK674 hb; replace BK684 := kb BK684 hb; replace BK688 := kb BK688 hb; replace HB := bs hb; (try clear hb)) | (go_at_call 42; (with_reducible refine (manorboylaw02_distance.calls t692 (wrap64 (t675 - t677)) t697 _ A152.out).mono ?_); rintro e w179 ⟨rfl, hb⟩; replace BK668 := kb BK668 hb; replace BK671 := kb BK671 hb; replace BK674 := kb BK674 hb; replace BK684 := kb BK684 hb; replace BK688 := kb BK688 hb; replace HB := bs hb; (try clear hb)) | (go_at_call 42; (with_reducible refine (manorboylaw02_distance.calls t679 (wrap64 (t675 - t677)) t698 _ A153.out).mono ?_); rintro e w180 ⟨rfl, hb⟩; replace BK668 := kb BK668 hb; replace BK671 := kb BK671 hb; replace BK674 := kb BK674 hb; replace BK684 := kb BK684 hb; replace BK688 := kb BK688 hb; replace HB := bs hb; (try clear hb)) | ((with_reducible refine gate_callee (f := 19) rfl ?_); refine goesL_ (some 154) rfl rfl Tryz.func19 (by kernel_rfl) rfl #[] rfl az ?_; (with_reducible refine (manorboylaw02_sanity.calls kj143  true _ A154.out (by first | rfl | exact hr) (tabAt HT.out bz)).mono ?_); rintro e w181 ⟨rfl, hb⟩; refine ⟨_, rfl, ?_⟩; replace BK668 := kb BK668 hb; replace BK671 := kb BK671 hb; replace BK674 := kb BK674 hb; replace BK684 := kb BK684 hb; replace BK688 := kb BK688 hb; replace HB := bs hb; (try clear hb); have hnb182 := NB684_668.out; have hnc182 := NB668_684.out; have hnb183 := NB684_671.out; have hnc183 := NB671_684.out; have hnb184 := NB684_674.out; have hnc184 := NB674_684.out; have hnb185 := NB684_688.out; have hnc185 := NB688_684.out; have hcz186_0 := Given.c20 BK684; have hcz186_1 := Given.c21 BK684; have hfz186_0 := blk_frozen BK684.out 0; have hfz186_1 := blk_frozen BK684.out 1; have hnb187 := NB674_668.out; have hnc187 := NB668_674.out; have hnb188 := NB674_671.out; have hnc188 := NB671_674.out; have hnb189 := NB674_688.out; have hnc189 := NB688_674.out; have hcz190_0 := Given.c20 BK674; have hcz190_1 := Given.c21 BK674; have hfz190_0 := blk_frozen BK674.out 0; have hfz190_1 := blk_frozen BK674.out 1))
                go_ret
                exact ⟨by first | rfl | (simp [errW_none, errW_some] <;> rfl) | (simp [*, errW_none, errW_some] <;> rfl), bz⟩
              ·rw [if_neg c158] at H
               first | exact absurd (Option.some.inj H) (by rw [hr]; decide) | exact absurd H (by rw [hr]; exact manorboylaw02_RealNearest.j1_no _ _ _ _ _ _ _ _ _ _ _ _ _ _)
             ·rw [if_neg c157] at H
              have c157b0 : (t679 == (wrap64 (t675 + t677))) = false := beq_eq_false_iff_ne.mpr c157
              have c157b1 : (t679 != (wrap64 (t675 + t677))) = true := bne_iff_ne.mpr c157
              by_cases c205 : t679 = (wrap64 (t675 - t677))
              ·rw [if_pos c205] at H
               have c205b0 : (t679 == (wrap64 (t675 - t677))) = true := beq_iff_eq.mpr c205
               have c205b1 : (t679 != (wrap64 (t675 - t677))) = false := bne_eq_false_iff_eq.mpr c205
               clear c205
               obtain rfl := Option.some.inj H
               go_wp2_with (first | ((with_reducible refine gate_callee (f := 42) rfl ?_); refine goesL_ (some 134) rfl rfl Tryz.func42 (by kernel_rfl) rfl #[.int .i64 t690, .int .i64 (wrap64 (t675 + t677))] rfl az ?_; (with_reducible refine (manorboylaw02_distance.calls t690 (wrap64 (t675 + t677)) t695 _ A149.out).mono ?_); rintro e w206 ⟨rfl, hb⟩; refine ⟨_, rfl, ?_⟩; replace BK668 := kb BK668 hb; replace BK671 := kb BK671 hb; replace BK674 := kb BK674 hb; replace BK684 := kb BK684 hb; replace BK688 := kb BK688 hb; replace HB := bs hb; (try clear hb)) | ((with_reducible refine gate_callee (f := 42) rfl ?_); refine goesL_ (some 139) rfl rfl Tryz.func42 (by kernel_rfl) rfl #[.int .i64 t679, .int .i64 (wrap64 (t675 + t677))] rfl az ?_; (with_reducible refine (manorboylaw02_distance.calls t679 (wrap64 (t675 + t677)) t696 _ A150.out).mono ?_); rintro e w207 ⟨rfl, hb⟩; refine ⟨_, rfl, ?_⟩; replace BK668 := kb BK668 hb; replace BK671 := kb BK671 hb; replace BK674 := kb BK674 hb; replace BK684 := kb BK684 hb; replace BK688 := kb BK688 hb; replace HB := bs hb; (try clear hb)) | (go_at_call 42; (with_reducible refine (manorboylaw02_distance.calls t692 (wrap64 (t675 - t677)) t697 _ A152.out).mono ?_); rintro e w208 ⟨rfl, hb⟩; replace BK668 := kb BK668 hb; replace BK671 := kb BK671 hb; replace BK674 := kb BK674 hb; replace BK684 := kb BK684 hb; replace BK688 := kb BK688 hb; replace HB := bs hb; (try clear hb)) | (go_at_call 42; (with_reducible refine (manorboylaw02_distance.calls t679 (wrap64 (t675 - t677)) t698 _ A153.out).mono ?_); rintro e w209 ⟨rfl, hb⟩; replace BK668 := kb BK668 hb; replace BK671 := kb BK671 hb; replace BK674 := kb BK674 hb; replace BK684 := kb BK684 hb; replace BK688 := kb BK688 hb; replace HB := bs hb; (try clear hb)) | ((with_reducible refine gate_callee (f := 19) rfl ?_); refine goesL_ (some 154) rfl rfl Tryz.func19 (by kernel_rfl) rfl #[] rfl az ?_; (with_reducible refine (manorboylaw02_sanity.calls kj143  true _ A154.out (by first | rfl | exact hr) (tabAt HT.out bz)).mono ?_); rintro e w210 ⟨rfl, hb⟩; refine ⟨_, rfl, ?_⟩; replace BK668 := kb BK668 hb; replace BK671 := kb BK671 hb; replace BK674 := kb BK674 hb; replace BK684 := kb BK684 hb; replace BK688 := kb BK688 hb; replace HB := bs hb; (try clear hb); have hnb211 := NB688_668.out; have hnc211 := NB668_688.out; have hnb212 := NB688_671.out; have hnc212 := NB671_688.out; have hnb213 := NB688_674.out; have hnc213 := NB674_688.out; have hnb214 := NB688_684.out; have hnc214 := NB684_688.out; have hcz215_0 := Given.c20 BK688; have hcz215_1 := Given.c21 BK688; have hfz215_0 := blk_frozen BK688.out 0; have hfz215_1 := blk_frozen BK688.out 1; have hnb216 := NB674_668.out; have hnc216 := NB668_674.out; have hnb217 := NB674_671.out; have hnc217 := NB671_674.out; have hnb218 := NB674_684.out; have hnc218 := NB684_674.out; have hcz219_0 := Given.c20 BK674; have hcz219_1 := Given.c21 BK674; have hfz219_0 := blk_frozen BK674.out 0; have hfz219_1 := blk_frozen BK674.out 1))
               go_ret
               exact ⟨by first | rfl | (simp [errW_none, errW_some] <;> rfl) | (simp [*, errW_none, errW_some] <;> rfl), bz⟩
              ·rw [if_neg c205] at H
               have c205b0 : (t679 == (wrap64 (t675 - t677))) = false := beq_eq_false_iff_ne.mpr c205
               have c205b1 : (t679 != (wrap64 (t675 - t677))) = true := bne_iff_ne.mpr c205
               obtain rfl := Option.some.inj H
               go_wp2_with (first | ((with_reducible refine gate_callee (f := 42) rfl ?_); refine goesL_ (some 134) rfl rfl Tryz.func42 (by kernel_rfl) rfl #[.int .i64 t690, .int .i64 (wrap64 (t675 + t677))] rfl az ?_; (with_reducible refine (manorboylaw02_distance.calls t690 (wrap64 (t675 + t677)) t695 _ A149.out).mono ?_); rintro e w220 ⟨rfl, hb⟩; refine ⟨_, rfl, ?_⟩; replace BK668 := kb BK668 hb; replace BK671 := kb BK671 hb; replace BK674 := kb BK674 hb; replace BK684 := kb BK684 hb; replace BK688 := kb BK688 hb; replace HB := bs hb; (try clear hb)) | ((with_reducible refine gate_callee (f := 42) rfl ?_); refine goesL_ (some 139) rfl rfl Tryz.func42 (by kernel_rfl) rfl #[.int .i64 t679, .int .i64 (wrap64 (t675 + t677))] rfl az ?_; (with_reducible refine (manorboylaw02_distance.calls t679 (wrap64 (t675 + t677)) t696 _ A150.out).mono ?_); rintro e w221 ⟨rfl, hb⟩; refine ⟨_, rfl, ?_⟩; replace BK668 := kb BK668 hb; replace BK671 := kb BK671 hb; replace BK674 := kb BK674 hb; replace BK684 := kb BK684 hb; replace BK688 := kb BK688 hb; replace HB := bs hb; (try clear hb)) | (go_at_call 42; (with_reducible refine (manorboylaw02_distance.calls t692 (wrap64 (t675 - t677)) t697 _ A152.out).mono ?_); rintro e w222 ⟨rfl, hb⟩; replace BK668 := kb BK668 hb; replace BK671 := kb BK671 hb; replace BK674 := kb BK674 hb; replace BK684 := kb BK684 hb; replace BK688 := kb BK688 hb; replace HB := bs hb; (try clear hb)) | (go_at_call 42; (with_reducible refine (manorboylaw02_distance.calls t679 (wrap64 (t675 - t677)) t698 _ A153.out).mono ?_); rintro e w223 ⟨rfl, hb⟩; replace BK668 := kb BK668 hb; replace BK671 := kb BK671 hb; replace BK674 := kb BK674 hb; replace BK684 := kb BK684 hb; replace BK688 := kb BK688 hb; replace HB := bs hb; (try clear hb)) | ((with_reducible refine gate_callee (f := 19) rfl ?_); refine goesL_ (some 154) rfl rfl Tryz.func19 (by kernel_rfl) rfl #[] rfl az ?_; (with_reducible refine (manorboylaw02_sanity.calls kj143  true _ A154.out (by first | rfl | exact hr) (tabAt HT.out bz)).mono ?_); rintro e w224 ⟨rfl, hb⟩; refine ⟨_, rfl, ?_⟩; replace BK668 := kb BK668 hb; replace BK671 := kb BK671 hb; replace BK674 := kb BK674 hb; replace BK684 := kb BK684 hb; replace BK688 := kb BK688 hb; replace HB := bs hb; (try clear hb)))
               go_ret
               exact ⟨by first | rfl | (simp [errW_none, errW_some] <;> rfl) | (simp [*, errW_none, errW_some] <;> rfl), bz⟩
            ·rw [if_neg c156] at H
             first | exact absurd (Option.some.inj H) (by rw [hr]; decide) | exact absurd H (by rw [hr]; exact manorboylaw02_RealNearest.j1_no _ _ _ _ _ _ _ _ _ _ _ _ _ _)
           ·replace c155 := Bool.eq_false_iff.mpr c155
            subst c155
            have H1 : (some false) = some r := by rw [if_neg (show ¬ (false = true) by decide)] at H; exact H
            clear H
            have H := H1
            clear H1
            first | exact absurd (Option.some.inj H) (by rw [hr]; decide) | exact absurd H (by rw [hr]; exact manorboylaw02_RealNearest.j1_no _ _ _ _ _ _ _ _ _ _ _ _ _ _)
          ·rw [if_neg c151] at H
           have c151b0 : decide (t695 ≤ t696) = false := decide_eq_false c151
           clear c151
           replace H := Option.bind_eq_some_iff.mp H
           obtain ⟨t700, A2350, H⟩ := H
           try dsimp only at H
           have A235 := Aside0.mk A2350
           clear A2350
           by_cases c236 : t700 = true
           ·subst c236
            have H1 : (some false) = some r := by rw [if_pos rfl] at H; exact H
            clear H
            have H := H1
            clear H1
            first | exact absurd (Option.some.inj H) (by rw [hr]; decide) | exact absurd H (by rw [hr]; exact manorboylaw02_RealNearest.j1_no _ _ _ _ _ _ _ _ _ _ _ _ _ _)
           ·replace c236 := Bool.eq_false_iff.mpr c236
            subst c236
            have H1 : (some false) = some r := by rw [if_neg (show ¬ (false = true) by decide)] at H; exact H
            clear H
            have H := H1
            clear H1
            first | exact absurd (Option.some.inj H) (by rw [hr]; decide) | exact absurd H (by rw [hr]; exact manorboylaw02_RealNearest.j1_no _ _ _ _ _ _ _ _ _ _ _ _ _ _)

end Go.Proofs.YteigbokklclmbaaGreatDoor.Z.Y.V
end
