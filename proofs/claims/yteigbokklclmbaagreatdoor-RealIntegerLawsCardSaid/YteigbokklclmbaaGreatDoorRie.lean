/- Contracts and lemmas that the law's row leans on, joined by program (pack.py) out of the session's texts; no condition of its own. -/
import Derived.Test.YteigbokklclmbaaGreatDoorProg
import Derived.Below
import Derived.Deep.Draws
import Derived.Deep.AppendLies
import Derived.Maps.AppendAt
import Derived.OwnWalk
import Derived.Laws.BytesArg
import Derived.Laws.MakeOwn
import Derived.Laws.OwnMore
import Derived.Deep.OwnRows
import Derived.Tactics
import Derived.Lib.ConvBytes
import Derived.Laws.Slices
import Derived.WalkKit
import Derived.KernelRfl
import Derived.RowKit3
import Derived.Deep.LoopGhost
import Derived.Deep.QuietTactic
import Derived.BigQuiet
import Derived.WideLaws
import Derived.Deep.DeepCutAuto
import Derived.Deep.CutBlock
import Derived.Deep.RegionHeld3
import Derived.Laws.Rows
import Derived.Lib.AppendStr
import Derived.ArgAppend
import Derived.Laws.IdiomCopy
import Derived.OrdersHeld
import Derived.Laws.BitsLemmas
import Derived.RowKit
import Derived.Test.YteigbokklclmbaaGreatDoorRia
import Derived.Test.YteigbokklclmbaaGreatDoorRib
import Derived.Test.YteigbokklclmbaaGreatDoorRic
import Derived.Test.YteigbokklclmbaaGreatDoorRid
section
namespace Go.Proofs.YteigbokklclmbaaGreatDoor.Z
open Go Go.RowKit Go.Proofs.YteigbokklclmbaaGreatDoor.Given Go.Proofs.YteigbokklclmbaaGreatDoorW.PrintWords Go.Proofs.YteigbokklclmbaaGreatDoorW.PrintLast Go.Proofs.YteigbokklclmbaaGreatDoorW.PrintMore
set_option linter.unusedVariables false
set_option linter.unusedSimpArgs false
def dotS : ByteArray := { data := #[46] }
def eS : ByteArray := { data := #[101] }
theorem nil_C (w : World) : Kd.C (Kd.int .u32) w none ([] : List Int).length [] := Kd.C_of_reads (enc := Value.int .u32) (d := (0 : Int)) (h1 := fun _ => rfl) ⟨rfl, by simp, fun h => absurd h (by simp)⟩
theorem parse1_n (k : Nat) (neg : Bool) (l : List Int) (A : Option Addr) (c : Nat) (exp behind m x r1 r2 : Int) (hd : real_decimal.f k l (wrap64 (exp - behind)) = some (m, x)) (hs : real_signed.f neg m x = some (r1, r2)) (b0 b1 b2 b3 : Nat) (w : World)
    (h0 : w.heap[b0]? = some (.cells #[.bool neg] 4 (0, 0))) (h1 : w.heap[b1]? = some (.cells #[.slice A l.length c] 87 (0, 0))) (h2 : w.heap[b2]? = some (.cells #[.int .i64 exp] 3 (0, 0))) (h3 : w.heap[b3]? = some (.cells #[.int .i64 behind] 3 (0, 0)))
    (hN : Nat32 w (.slice A l.length c) l) :
    Calls Tryz.prog 79 #[.pointer (some ⟨b0, 0, none⟩), .pointer (some ⟨b1, 0, none⟩), .pointer (some ⟨b2, 0, none⟩), .pointer (some ⟨b3, 0, none⟩)] w fun e w' => e = ending r1 r2 ∧ Below w.heap.size w w' := by
  obtain ⟨A', c', heq, hc, hC⟩ := hN
  cases heq
  exact parse1_c k neg l A c exp behind m x r1 r2 hd hs b0 b1 b2 b3 w h0 h1 h2 h3 hC hc
set_option maxRecDepth 100000 in
set_option maxHeartbeats 8000000 in
theorem parse_E1 (k : Nat) (s : ByteArray) (w : World) (hsz : (s.size : Int) > 60) :
    Calls Tryz.prog 25 #[.string s] w fun e w' => e = .returned (.tuple #[.agg #[.int .i64 0, .int .i64 0], .int .i64 7]) ∧ Below w.heap.size w w' := by
  have HB := Lib.hid (Below.refl w.heap.size w)
  go_enter Tryz.func25, Tryz.ntmps25
  go_wp2
  refine bodyPost_ret (results_ct rfl _ _ (w.heap.size) 23 #[.int .i64 0, .int .i64 0] (0, 0) _ rfl (new_at _ _ _ rfl) Tryz.underlying23 rfl (by kernel_rfl)) rfl ?_
  exact ⟨rfl, (HB.out).alloc oz _⟩
set_option maxRecDepth 100000 in
set_option maxHeartbeats 8000000 in
theorem parse_E2 (k : Nat) (s : ByteArray) (w : World) (hsz : ¬ (s.size : Int) > 60) (rest : ByteArray) (neg : Bool) (hc1 : strings_CutPrefix.f s minusS = some (rest, neg)) (n : List Int) (rest2 : ByteArray) (hn1 : real_number.f k rest [] = some (n, 0, rest2)) :
    Calls Tryz.prog 25 #[.string s] w fun e w' => e = .returned (.tuple #[.agg #[.int .i64 0, .int .i64 0], .int .i64 7]) ∧ Below w.heap.size w w' := by
  have HB := Lib.hid (Below.refl w.heap.size w)
  go_enter Tryz.func25, Tryz.ntmps25
  go_wp2_with fail
  refine (strings_CutPrefix.calls s minusS rest neg _ hc1).mono ?_
  rintro e w1 ⟨rfl, hd⟩
  have hb := hd.below
  have nZ := Lib.hid (blk_below (new_at _ _ (w.heap.size) oz) hb)
  have nB := Lib.hid (((HB.out).alloc oz _).trans (hb.mono oz))
  have hs1 := hb.size
  try simp only [World.size_alloc, World.size_setCell] at hs1
  clear HB
  have HZ := nZ
  have HB := nB
  clear nB nZ
  clear hb hd
  have cZ0 : w1.cell? ⟨w.heap.size, 0, none⟩ = some (Value.int .i64 0) := (blk_cell HZ.out 0).trans rfl
  have fZ0 := blk_frozen HZ.out 0
  have cZ1 : w1.cell? ⟨w.heap.size, 1, none⟩ = some (Value.int .i64 0) := (blk_cell HZ.out 1).trans rfl
  have fZ1 := blk_frozen HZ.out 1
  have lZ1 := blk_lt HZ.out
  go_wp2_with fail
  refine (number_c k rest none 0 [] n 0 rest2 _ (nil_C _) (Nat.zero_le _) hn1).mono ?_
  rintro e w2 ⟨⟨v, hv, rfl⟩, hb⟩
  have nZ := Lib.hid (blk_below (blk_alloc (HZ.out) _) hb)
  have nG := Lib.hid (blk_below (new_at _ _ (w1.heap.size) oz) hb)
  have nB := Lib.hid (((HB.out).alloc oz _).trans (hb.mono oz))
  have hs2 := hb.size
  try simp only [World.size_alloc, World.size_setCell] at hs2
  clear HB HZ
  try clear cZ0 fZ0 cZ1 fZ1
  have HZ := nZ
  have HG := nG
  have HB := nB
  clear nB nZ nG
  clear hb
  have cZ0 : w2.cell? ⟨w.heap.size, 0, none⟩ = some (Value.int .i64 0) := (blk_cell HZ.out 0).trans rfl
  have fZ0 := blk_frozen HZ.out 0
  have cZ1 : w2.cell? ⟨w.heap.size, 1, none⟩ = some (Value.int .i64 0) := (blk_cell HZ.out 1).trans rfl
  have fZ1 := blk_frozen HZ.out 1
  have lZ2 := blk_lt HZ.out
  have cG0 : w2.cell? ⟨w1.heap.size, 0, none⟩ = some (.bool neg) := (blk_cell HG.out 0).trans rfl
  have fG0 := blk_frozen HG.out 0
  have lG2 := blk_lt HG.out
  obtain ⟨A, c, rfl, hc, hC⟩ := hv
  have HN := Lib.hid (show Nat32 w2 (.slice A n.length c) n from ⟨A, c, rfl, hc, hC⟩)
  clear hC
  go_wp2
  have fz : (((w2.setCell ⟨w.heap.size, 0, none⟩ (.int .i64 0)).setCell ⟨w.heap.size, 1, none⟩ (.int .i64 0)).alloc (.cells #[.slice A n.length c] 87)).heap[w.heap.size]? = some (.cells #[Value.int .i64 0, Value.int .i64 0] 23 (0, 0)) := blk_alloc (heap_setCell_same _ _ 1 _ _ _ (heap_setCell_same _ _ 0 _ _ _ (HZ.out))) _
  refine bodyPost_ret (results_ct rfl _ _ (w.heap.size) 23 #[.int .i64 0, .int .i64 0] (0, 0) _ rfl fz Tryz.underlying23 rfl (by kernel_rfl)) rfl ?_
  exact ⟨rfl, (((HB.out).setCell (p := ⟨w.heap.size, 0, none⟩) (by simp only; omega) _).setCell (p := ⟨w.heap.size, 1, none⟩) (by simp only; omega) _).alloc oz _⟩
set_option maxRecDepth 100000 in
set_option maxHeartbeats 8000000 in
theorem parse_Z (k : Nat) (s : ByteArray) (w : World) (hsz : ¬ (s.size : Int) > 60) (rest : ByteArray) (neg : Bool) (hc1 : strings_CutPrefix.f s minusS = some (rest, neg)) (n : List Int) (many : Int) (rest2 : ByteArray) (hn1 : real_number.f k rest [] = some (n, many, rest2)) (hmany : ¬ many = 0) (after : ByteArray) (hc2 : strings_CutPrefix.f rest2 dotS = some (after, false)) (hrest : rest2.toList = []) (m y r1 r2 t0 t1 t2 : Int) (hd1 : real_decimal.f k n (wrap64 (0 - 0)) = some (m, y)) (hsg : real_signed.f neg m y = some (r1, r2)) (ht : caughtS r1 r2 = (t0, t1, t2)) :
    Calls Tryz.prog 25 #[.string s] w fun e w' => e = .returned (.tuple #[.agg #[.int .i64 t0, .int .i64 t1], .int .i64 t2]) ∧ Below w.heap.size w w' := by
  have HB := Lib.hid (Below.refl w.heap.size w)
  go_enter Tryz.func25, Tryz.ntmps25
  go_wp2_with fail
  refine (strings_CutPrefix.calls s minusS rest neg _ hc1).mono ?_
  rintro e w1 ⟨rfl, hd⟩
  have hb := hd.below
  have nZ := Lib.hid (blk_below (new_at _ _ (w.heap.size) oz) hb)
  have nB := Lib.hid (((HB.out).alloc oz _).trans (hb.mono oz))
  have hs1 := hb.size
  try simp only [World.size_alloc, World.size_setCell] at hs1
  clear HB
  have HZ := nZ
  have HB := nB
  clear nB nZ
  clear hb hd
  have cZ0 : w1.cell? ⟨w.heap.size, 0, none⟩ = some (Value.int .i64 0) := (blk_cell HZ.out 0).trans rfl
  have fZ0 := blk_frozen HZ.out 0
  have cZ1 : w1.cell? ⟨w.heap.size, 1, none⟩ = some (Value.int .i64 0) := (blk_cell HZ.out 1).trans rfl
  have fZ1 := blk_frozen HZ.out 1
  have lZ1 := blk_lt HZ.out
  go_wp2_with fail
  refine (number_c k rest none 0 [] n many rest2 _ (nil_C _) (Nat.zero_le _) hn1).mono ?_
  rintro e w2 ⟨⟨v, hv, rfl⟩, hb⟩
  have nZ := Lib.hid (blk_below (blk_alloc (HZ.out) _) hb)
  have nG := Lib.hid (blk_below (new_at _ _ (w1.heap.size) oz) hb)
  have nB := Lib.hid (((HB.out).alloc oz _).trans (hb.mono oz))
  have hs2 := hb.size
  try simp only [World.size_alloc, World.size_setCell] at hs2
  clear HB HZ
  try clear cZ0 fZ0 cZ1 fZ1
  have HZ := nZ
  have HG := nG
  have HB := nB
  clear nB nZ nG
  clear hb
  have cZ0 : w2.cell? ⟨w.heap.size, 0, none⟩ = some (Value.int .i64 0) := (blk_cell HZ.out 0).trans rfl
  have fZ0 := blk_frozen HZ.out 0
  have cZ1 : w2.cell? ⟨w.heap.size, 1, none⟩ = some (Value.int .i64 0) := (blk_cell HZ.out 1).trans rfl
  have fZ1 := blk_frozen HZ.out 1
  have lZ2 := blk_lt HZ.out
  have cG0 : w2.cell? ⟨w1.heap.size, 0, none⟩ = some (.bool neg) := (blk_cell HG.out 0).trans rfl
  have fG0 := blk_frozen HG.out 0
  have lG2 := blk_lt HG.out
  obtain ⟨A, c, rfl, hc, hC⟩ := hv
  have HN := Lib.hid (show Nat32 w2 (.slice A n.length c) n from ⟨A, c, rfl, hc, hC⟩)
  clear hC
  go_wp2_with fail
  refine (strings_CutPrefix.calls rest2 dotS after false _ hc2).mono ?_
  rintro e w3 ⟨rfl, hd⟩
  have hb := hd.below
  have nZ := Lib.hid (blk_below (blk_alloc (blk_alloc (HZ.out) _) _) hb)
  have nG := Lib.hid (blk_below (blk_alloc (blk_alloc (HG.out) _) _) hb)
  have nQ := Lib.hid (blk_below (blk_alloc (new_at _ _ (w2.heap.size) oz) _) hb)
  have nE := Lib.hid (blk_below (new_at _ _ (w2.heap.size + 1) oz) hb)
  have nN := Lib.hid ((((HN.out).below ((Below.refl _ _).alloc (Nat.le_refl _) _)).below ((Below.refl _ _).alloc (Nat.le_refl _) _)).below hb)
  have nB := Lib.hid ((((HB.out).alloc oz _).alloc oz _).trans (hb.mono oz))
  have hs3 := hb.size
  try simp only [World.size_alloc, World.size_setCell] at hs3
  clear HB HZ HG HN
  try clear cZ0 fZ0 cZ1 fZ1 cG0 fG0
  have HZ := nZ
  have HG := nG
  have HQ := nQ
  have HE := nE
  have HN := nN
  have HB := nB
  clear nB nZ nG nQ nE nN
  clear hb hd
  have cZ0 : w3.cell? ⟨w.heap.size, 0, none⟩ = some (Value.int .i64 0) := (blk_cell HZ.out 0).trans rfl
  have fZ0 := blk_frozen HZ.out 0
  have cZ1 : w3.cell? ⟨w.heap.size, 1, none⟩ = some (Value.int .i64 0) := (blk_cell HZ.out 1).trans rfl
  have fZ1 := blk_frozen HZ.out 1
  have lZ3 := blk_lt HZ.out
  have cG0 : w3.cell? ⟨w1.heap.size, 0, none⟩ = some (.bool neg) := (blk_cell HG.out 0).trans rfl
  have fG0 := blk_frozen HG.out 0
  have lG3 := blk_lt HG.out
  have cQ0 : w3.cell? ⟨w2.heap.size, 0, none⟩ = some (.slice A n.length c) := (blk_cell HQ.out 0).trans rfl
  have fQ0 := blk_frozen HQ.out 0
  have lQ3 := blk_lt HQ.out
  have cE0 : w3.cell? ⟨w2.heap.size + 1, 0, none⟩ = some (.int .i64 0) := (blk_cell HE.out 0).trans rfl
  have fE0 := blk_frozen HE.out 0
  have lE3 := blk_lt HE.out
  have hre : (rest2.toList == []) = true := by simp [hrest]
  have hri : rest2.toList.isEmpty = true := by simp [hrest]
  have hmf : ∀ (fn : Fn) (first cap : Array Value) (w : World), (Instr.makeFunc fn first cap).run Tryz.prog w = .ok (.func fn first cap) w := fun _ _ _ _ => rfl
  have HD1 := Lib.hid hd1
  have HS1 := Lib.hid hsg
  have HT1 := Lib.hid ht
  clear hd1 hsg ht
  skip
  go_wp2_with fail
  refine (caught_t 79 _ r1 r2 t0 t1 t2 HT1.out _ (fun args w => enters_ Tryz.func79 (by kernel_rfl) rfl args w) (fun w' h' => parse1_n k neg n A c 0 0 m y r1 r2 HD1.out HS1.out _ _ _ _ w' (blk_below (blk_alloc (HG.out) _) h') (blk_below (blk_alloc (HQ.out) _) h') (blk_below (new_at _ _ (w3.heap.size) oz) h') (blk_below (blk_alloc (HE.out) _) h') (((HN.out).below ((Below.refl _ _).alloc (Nat.le_refl _) _)).below h'))).mono ?_
  rintro e w4 ⟨rfl, hb⟩
  have nZ := Lib.hid (blk_below (blk_alloc (HZ.out) _) hb)
  have nG := Lib.hid (blk_below (blk_alloc (HG.out) _) hb)
  have nQ := Lib.hid (blk_below (blk_alloc (HQ.out) _) hb)
  have nE := Lib.hid (blk_below (blk_alloc (HE.out) _) hb)
  have nX := Lib.hid (blk_below (new_at _ _ (w3.heap.size) oz) hb)
  have nN := Lib.hid (((HN.out).below ((Below.refl _ _).alloc (Nat.le_refl _) _)).below hb)
  have nB := Lib.hid (((HB.out).alloc oz _).trans (hb.mono oz))
  have hs4 := hb.size
  try simp only [World.size_alloc, World.size_setCell] at hs4
  clear HB HZ HG HQ HE HN
  try clear cZ0 fZ0 cZ1 fZ1 cG0 fG0 cQ0 fQ0 cE0 fE0
  have HZ := nZ
  have HG := nG
  have HQ := nQ
  have HE := nE
  have HX := nX
  have HN := nN
  have HB := nB
  clear nB nZ nG nQ nE nX nN
  clear hb
  have cZ0 : w4.cell? ⟨w.heap.size, 0, none⟩ = some (Value.int .i64 0) := (blk_cell HZ.out 0).trans rfl
  have fZ0 := blk_frozen HZ.out 0
  have cZ1 : w4.cell? ⟨w.heap.size, 1, none⟩ = some (Value.int .i64 0) := (blk_cell HZ.out 1).trans rfl
  have fZ1 := blk_frozen HZ.out 1
  have lZ4 := blk_lt HZ.out
  have cG0 : w4.cell? ⟨w1.heap.size, 0, none⟩ = some (.bool neg) := (blk_cell HG.out 0).trans rfl
  have fG0 := blk_frozen HG.out 0
  have lG4 := blk_lt HG.out
  have cQ0 : w4.cell? ⟨w2.heap.size, 0, none⟩ = some (.slice A n.length c) := (blk_cell HQ.out 0).trans rfl
  have fQ0 := blk_frozen HQ.out 0
  have lQ4 := blk_lt HQ.out
  have cE0 : w4.cell? ⟨w2.heap.size + 1, 0, none⟩ = some (.int .i64 0) := (blk_cell HE.out 0).trans rfl
  have fE0 := blk_frozen HE.out 0
  have lE4 := blk_lt HE.out
  have cX0 : w4.cell? ⟨w3.heap.size, 0, none⟩ = some (.int .i64 0) := (blk_cell HX.out 0).trans rfl
  have fX0 := blk_frozen HX.out 0
  have lX4 := blk_lt HX.out
  go_wp2
  have fz : ((w4.setCell ⟨w.heap.size, 0, none⟩ (.int .i64 t0)).setCell ⟨w.heap.size, 1, none⟩ (.int .i64 t1)).heap[w.heap.size]? = some (.cells #[Value.int .i64 t0, Value.int .i64 t1] 23 (0, 0)) := heap_setCell_same _ _ 1 _ _ _ (heap_setCell_same _ _ 0 _ _ _ (HZ.out))
  refine bodyPost_ret (results_ct rfl _ _ (w.heap.size) 23 #[.int .i64 t0, .int .i64 t1] (0, 0) _ rfl fz Tryz.underlying23 rfl (by kernel_rfl)) rfl ?_
  exact ⟨rfl, ((HB.out).setCell (p := ⟨w.heap.size, 0, none⟩) (by simp only; omega) _).setCell (p := ⟨w.heap.size, 1, none⟩) (by simp only; omega) _⟩
set_option maxRecDepth 100000 in
set_option maxHeartbeats 8000000 in
theorem parse_B (k : Nat) (s : ByteArray) (w : World) (hsz : ¬ (s.size : Int) > 60) (rest : ByteArray) (neg : Bool) (hc1 : strings_CutPrefix.f s minusS = some (rest, neg)) (n : List Int) (many : Int) (rest2 : ByteArray) (hn1 : real_number.f k rest [] = some (n, many, rest2)) (hmany : ¬ many = 0) (after : ByteArray) (hc2 : strings_CutPrefix.f rest2 dotS = some (after, false)) (hrest : rest2.toList ≠ []) (aft : ByteArray) (x : Int) (ok : Bool) (hc3 : strings_CutPrefix.f rest2 eS = some (aft, false)) (hx : real_exponent.f aft = some (x, ok)) :
    Calls Tryz.prog 25 #[.string s] w fun e w' => e = .returned (.tuple #[.agg #[.int .i64 0, .int .i64 0], .int .i64 7]) ∧ Below w.heap.size w w' := by
  have HB := Lib.hid (Below.refl w.heap.size w)
  go_enter Tryz.func25, Tryz.ntmps25
  go_wp2_with fail
  refine (strings_CutPrefix.calls s minusS rest neg _ hc1).mono ?_
  rintro e w1 ⟨rfl, hd⟩
  have hb := hd.below
  have nZ := Lib.hid (blk_below (new_at _ _ (w.heap.size) oz) hb)
  have nB := Lib.hid (((HB.out).alloc oz _).trans (hb.mono oz))
  have hs1 := hb.size
  try simp only [World.size_alloc, World.size_setCell] at hs1
  clear HB
  have HZ := nZ
  have HB := nB
  clear nB nZ
  clear hb hd
  have cZ0 : w1.cell? ⟨w.heap.size, 0, none⟩ = some (Value.int .i64 0) := (blk_cell HZ.out 0).trans rfl
  have fZ0 := blk_frozen HZ.out 0
  have cZ1 : w1.cell? ⟨w.heap.size, 1, none⟩ = some (Value.int .i64 0) := (blk_cell HZ.out 1).trans rfl
  have fZ1 := blk_frozen HZ.out 1
  have lZ1 := blk_lt HZ.out
  go_wp2_with fail
  refine (number_c k rest none 0 [] n many rest2 _ (nil_C _) (Nat.zero_le _) hn1).mono ?_
  rintro e w2 ⟨⟨v, hv, rfl⟩, hb⟩
  have nZ := Lib.hid (blk_below (blk_alloc (HZ.out) _) hb)
  have nG := Lib.hid (blk_below (new_at _ _ (w1.heap.size) oz) hb)
  have nB := Lib.hid (((HB.out).alloc oz _).trans (hb.mono oz))
  have hs2 := hb.size
  try simp only [World.size_alloc, World.size_setCell] at hs2
  clear HB HZ
  try clear cZ0 fZ0 cZ1 fZ1
  have HZ := nZ
  have HG := nG
  have HB := nB
  clear nB nZ nG
  clear hb
  have cZ0 : w2.cell? ⟨w.heap.size, 0, none⟩ = some (Value.int .i64 0) := (blk_cell HZ.out 0).trans rfl
  have fZ0 := blk_frozen HZ.out 0
  have cZ1 : w2.cell? ⟨w.heap.size, 1, none⟩ = some (Value.int .i64 0) := (blk_cell HZ.out 1).trans rfl
  have fZ1 := blk_frozen HZ.out 1
  have lZ2 := blk_lt HZ.out
  have cG0 : w2.cell? ⟨w1.heap.size, 0, none⟩ = some (.bool neg) := (blk_cell HG.out 0).trans rfl
  have fG0 := blk_frozen HG.out 0
  have lG2 := blk_lt HG.out
  obtain ⟨A, c, rfl, hc, hC⟩ := hv
  have HN := Lib.hid (show Nat32 w2 (.slice A n.length c) n from ⟨A, c, rfl, hc, hC⟩)
  clear hC
  go_wp2_with fail
  refine (strings_CutPrefix.calls rest2 dotS after false _ hc2).mono ?_
  rintro e w3 ⟨rfl, hd⟩
  have hb := hd.below
  have nZ := Lib.hid (blk_below (blk_alloc (blk_alloc (HZ.out) _) _) hb)
  have nG := Lib.hid (blk_below (blk_alloc (blk_alloc (HG.out) _) _) hb)
  have nQ := Lib.hid (blk_below (blk_alloc (new_at _ _ (w2.heap.size) oz) _) hb)
  have nE := Lib.hid (blk_below (new_at _ _ (w2.heap.size + 1) oz) hb)
  have nN := Lib.hid ((((HN.out).below ((Below.refl _ _).alloc (Nat.le_refl _) _)).below ((Below.refl _ _).alloc (Nat.le_refl _) _)).below hb)
  have nB := Lib.hid ((((HB.out).alloc oz _).alloc oz _).trans (hb.mono oz))
  have hs3 := hb.size
  try simp only [World.size_alloc, World.size_setCell] at hs3
  clear HB HZ HG HN
  try clear cZ0 fZ0 cZ1 fZ1 cG0 fG0
  have HZ := nZ
  have HG := nG
  have HQ := nQ
  have HE := nE
  have HN := nN
  have HB := nB
  clear nB nZ nG nQ nE nN
  clear hb hd
  have cZ0 : w3.cell? ⟨w.heap.size, 0, none⟩ = some (Value.int .i64 0) := (blk_cell HZ.out 0).trans rfl
  have fZ0 := blk_frozen HZ.out 0
  have cZ1 : w3.cell? ⟨w.heap.size, 1, none⟩ = some (Value.int .i64 0) := (blk_cell HZ.out 1).trans rfl
  have fZ1 := blk_frozen HZ.out 1
  have lZ3 := blk_lt HZ.out
  have cG0 : w3.cell? ⟨w1.heap.size, 0, none⟩ = some (.bool neg) := (blk_cell HG.out 0).trans rfl
  have fG0 := blk_frozen HG.out 0
  have lG3 := blk_lt HG.out
  have cQ0 : w3.cell? ⟨w2.heap.size, 0, none⟩ = some (.slice A n.length c) := (blk_cell HQ.out 0).trans rfl
  have fQ0 := blk_frozen HQ.out 0
  have lQ3 := blk_lt HQ.out
  have cE0 : w3.cell? ⟨w2.heap.size + 1, 0, none⟩ = some (.int .i64 0) := (blk_cell HE.out 0).trans rfl
  have fE0 := blk_frozen HE.out 0
  have lE3 := blk_lt HE.out
  have hre : (rest2.toList == []) = false := by simpa using hrest
  have hri : rest2.toList.isEmpty = false := by simpa using hrest
  go_wp2_with fail
  refine (strings_CutPrefix.calls rest2 eS aft false _ hc3).mono ?_
  rintro e w4 ⟨rfl, hd⟩
  have hb := hd.below
  have nZ := Lib.hid (blk_below (blk_alloc (HZ.out) _) hb)
  have nG := Lib.hid (blk_below (blk_alloc (HG.out) _) hb)
  have nQ := Lib.hid (blk_below (blk_alloc (HQ.out) _) hb)
  have nE := Lib.hid (blk_below (blk_alloc (HE.out) _) hb)
  have nX := Lib.hid (blk_below (new_at _ _ (w3.heap.size) oz) hb)
  have nN := Lib.hid (((HN.out).below ((Below.refl _ _).alloc (Nat.le_refl _) _)).below hb)
  have nB := Lib.hid (((HB.out).alloc oz _).trans (hb.mono oz))
  have hs4 := hb.size
  try simp only [World.size_alloc, World.size_setCell] at hs4
  clear HB HZ HG HQ HE HN
  try clear cZ0 fZ0 cZ1 fZ1 cG0 fG0 cQ0 fQ0 cE0 fE0
  have HZ := nZ
  have HG := nG
  have HQ := nQ
  have HE := nE
  have HX := nX
  have HN := nN
  have HB := nB
  clear nB nZ nG nQ nE nX nN
  clear hb hd
  have cZ0 : w4.cell? ⟨w.heap.size, 0, none⟩ = some (Value.int .i64 0) := (blk_cell HZ.out 0).trans rfl
  have fZ0 := blk_frozen HZ.out 0
  have cZ1 : w4.cell? ⟨w.heap.size, 1, none⟩ = some (Value.int .i64 0) := (blk_cell HZ.out 1).trans rfl
  have fZ1 := blk_frozen HZ.out 1
  have lZ4 := blk_lt HZ.out
  have cG0 : w4.cell? ⟨w1.heap.size, 0, none⟩ = some (.bool neg) := (blk_cell HG.out 0).trans rfl
  have fG0 := blk_frozen HG.out 0
  have lG4 := blk_lt HG.out
  have cQ0 : w4.cell? ⟨w2.heap.size, 0, none⟩ = some (.slice A n.length c) := (blk_cell HQ.out 0).trans rfl
  have fQ0 := blk_frozen HQ.out 0
  have lQ4 := blk_lt HQ.out
  have cE0 : w4.cell? ⟨w2.heap.size + 1, 0, none⟩ = some (.int .i64 0) := (blk_cell HE.out 0).trans rfl
  have fE0 := blk_frozen HE.out 0
  have lE4 := blk_lt HE.out
  have cX0 : w4.cell? ⟨w3.heap.size, 0, none⟩ = some (.int .i64 0) := (blk_cell HX.out 0).trans rfl
  have fX0 := blk_frozen HX.out 0
  have lX4 := blk_lt HX.out
  go_wp2_with fail
  refine (real_exponent.calls aft x ok _ hx).mono ?_
  rintro e w5 ⟨rfl, hb⟩
  have nZ := Lib.hid (blk_below (HZ.out) hb)
  have nG := Lib.hid (blk_below (HG.out) hb)
  have nQ := Lib.hid (blk_below (HQ.out) hb)
  have nE := Lib.hid (blk_below (HE.out) hb)
  have nX := Lib.hid (blk_below (HX.out) hb)
  have nN := Lib.hid ((HN.out).below hb)
  have nB := Lib.hid ((HB.out).trans (hb.mono oz))
  have hs5 := hb.size
  try simp only [World.size_alloc, World.size_setCell] at hs5
  clear HB HZ HG HQ HE HX HN
  try clear cZ0 fZ0 cZ1 fZ1 cG0 fG0 cQ0 fQ0 cE0 fE0 cX0 fX0
  have HZ := nZ
  have HG := nG
  have HQ := nQ
  have HE := nE
  have HX := nX
  have HN := nN
  have HB := nB
  clear nB nZ nG nQ nE nX nN
  clear hb
  have cZ0 : w5.cell? ⟨w.heap.size, 0, none⟩ = some (Value.int .i64 0) := (blk_cell HZ.out 0).trans rfl
  have fZ0 := blk_frozen HZ.out 0
  have cZ1 : w5.cell? ⟨w.heap.size, 1, none⟩ = some (Value.int .i64 0) := (blk_cell HZ.out 1).trans rfl
  have fZ1 := blk_frozen HZ.out 1
  have lZ5 := blk_lt HZ.out
  have cG0 : w5.cell? ⟨w1.heap.size, 0, none⟩ = some (.bool neg) := (blk_cell HG.out 0).trans rfl
  have fG0 := blk_frozen HG.out 0
  have lG5 := blk_lt HG.out
  have cQ0 : w5.cell? ⟨w2.heap.size, 0, none⟩ = some (.slice A n.length c) := (blk_cell HQ.out 0).trans rfl
  have fQ0 := blk_frozen HQ.out 0
  have lQ5 := blk_lt HQ.out
  have cE0 : w5.cell? ⟨w2.heap.size + 1, 0, none⟩ = some (.int .i64 0) := (blk_cell HE.out 0).trans rfl
  have fE0 := blk_frozen HE.out 0
  have lE5 := blk_lt HE.out
  have cX0 : w5.cell? ⟨w3.heap.size, 0, none⟩ = some (.int .i64 0) := (blk_cell HX.out 0).trans rfl
  have fX0 := blk_frozen HX.out 0
  have lX5 := blk_lt HX.out
  go_wp2
  have fz : ((w5.setCell ⟨w.heap.size, 0, none⟩ (.int .i64 0)).setCell ⟨w.heap.size, 1, none⟩ (.int .i64 0)).heap[w.heap.size]? = some (.cells #[Value.int .i64 0, Value.int .i64 0] 23 (0, 0)) := heap_setCell_same _ _ 1 _ _ _ (heap_setCell_same _ _ 0 _ _ _ (HZ.out))
  refine bodyPost_ret (results_ct rfl _ _ (w.heap.size) 23 #[.int .i64 0, .int .i64 0] (0, 0) _ rfl fz Tryz.underlying23 rfl (by kernel_rfl)) rfl ?_
  exact ⟨rfl, ((HB.out).setCell (p := ⟨w.heap.size, 0, none⟩) (by simp only; omega) _).setCell (p := ⟨w.heap.size, 1, none⟩) (by simp only; omega) _⟩
set_option maxRecDepth 100000 in
set_option maxHeartbeats 8000000 in
theorem parse_C (k : Nat) (s : ByteArray) (w : World) (hsz : ¬ (s.size : Int) > 60) (rest : ByteArray) (neg : Bool) (hc1 : strings_CutPrefix.f s minusS = some (rest, neg)) (n : List Int) (many : Int) (rest2 : ByteArray) (hn1 : real_number.f k rest [] = some (n, many, rest2)) (hmany : ¬ many = 0) (after : ByteArray) (hc2 : strings_CutPrefix.f rest2 dotS = some (after, false)) (hrest : rest2.toList ≠ []) (aft : ByteArray) (x : Int) (hc3 : strings_CutPrefix.f rest2 eS = some (aft, true)) (hx : real_exponent.f aft = some (x, false)) :
    Calls Tryz.prog 25 #[.string s] w fun e w' => e = .returned (.tuple #[.agg #[.int .i64 0, .int .i64 0], .int .i64 7]) ∧ Below w.heap.size w w' := by
  have HB := Lib.hid (Below.refl w.heap.size w)
  go_enter Tryz.func25, Tryz.ntmps25
  go_wp2_with fail
  refine (strings_CutPrefix.calls s minusS rest neg _ hc1).mono ?_
  rintro e w1 ⟨rfl, hd⟩
  have hb := hd.below
  have nZ := Lib.hid (blk_below (new_at _ _ (w.heap.size) oz) hb)
  have nB := Lib.hid (((HB.out).alloc oz _).trans (hb.mono oz))
  have hs1 := hb.size
  try simp only [World.size_alloc, World.size_setCell] at hs1
  clear HB
  have HZ := nZ
  have HB := nB
  clear nB nZ
  clear hb hd
  have cZ0 : w1.cell? ⟨w.heap.size, 0, none⟩ = some (Value.int .i64 0) := (blk_cell HZ.out 0).trans rfl
  have fZ0 := blk_frozen HZ.out 0
  have cZ1 : w1.cell? ⟨w.heap.size, 1, none⟩ = some (Value.int .i64 0) := (blk_cell HZ.out 1).trans rfl
  have fZ1 := blk_frozen HZ.out 1
  have lZ1 := blk_lt HZ.out
  go_wp2_with fail
  refine (number_c k rest none 0 [] n many rest2 _ (nil_C _) (Nat.zero_le _) hn1).mono ?_
  rintro e w2 ⟨⟨v, hv, rfl⟩, hb⟩
  have nZ := Lib.hid (blk_below (blk_alloc (HZ.out) _) hb)
  have nG := Lib.hid (blk_below (new_at _ _ (w1.heap.size) oz) hb)
  have nB := Lib.hid (((HB.out).alloc oz _).trans (hb.mono oz))
  have hs2 := hb.size
  try simp only [World.size_alloc, World.size_setCell] at hs2
  clear HB HZ
  try clear cZ0 fZ0 cZ1 fZ1
  have HZ := nZ
  have HG := nG
  have HB := nB
  clear nB nZ nG
  clear hb
  have cZ0 : w2.cell? ⟨w.heap.size, 0, none⟩ = some (Value.int .i64 0) := (blk_cell HZ.out 0).trans rfl
  have fZ0 := blk_frozen HZ.out 0
  have cZ1 : w2.cell? ⟨w.heap.size, 1, none⟩ = some (Value.int .i64 0) := (blk_cell HZ.out 1).trans rfl
  have fZ1 := blk_frozen HZ.out 1
  have lZ2 := blk_lt HZ.out
  have cG0 : w2.cell? ⟨w1.heap.size, 0, none⟩ = some (.bool neg) := (blk_cell HG.out 0).trans rfl
  have fG0 := blk_frozen HG.out 0
  have lG2 := blk_lt HG.out
  obtain ⟨A, c, rfl, hc, hC⟩ := hv
  have HN := Lib.hid (show Nat32 w2 (.slice A n.length c) n from ⟨A, c, rfl, hc, hC⟩)
  clear hC
  go_wp2_with fail
  refine (strings_CutPrefix.calls rest2 dotS after false _ hc2).mono ?_
  rintro e w3 ⟨rfl, hd⟩
  have hb := hd.below
  have nZ := Lib.hid (blk_below (blk_alloc (blk_alloc (HZ.out) _) _) hb)
  have nG := Lib.hid (blk_below (blk_alloc (blk_alloc (HG.out) _) _) hb)
  have nQ := Lib.hid (blk_below (blk_alloc (new_at _ _ (w2.heap.size) oz) _) hb)
  have nE := Lib.hid (blk_below (new_at _ _ (w2.heap.size + 1) oz) hb)
  have nN := Lib.hid ((((HN.out).below ((Below.refl _ _).alloc (Nat.le_refl _) _)).below ((Below.refl _ _).alloc (Nat.le_refl _) _)).below hb)
  have nB := Lib.hid ((((HB.out).alloc oz _).alloc oz _).trans (hb.mono oz))
  have hs3 := hb.size
  try simp only [World.size_alloc, World.size_setCell] at hs3
  clear HB HZ HG HN
  try clear cZ0 fZ0 cZ1 fZ1 cG0 fG0
  have HZ := nZ
  have HG := nG
  have HQ := nQ
  have HE := nE
  have HN := nN
  have HB := nB
  clear nB nZ nG nQ nE nN
  clear hb hd
  have cZ0 : w3.cell? ⟨w.heap.size, 0, none⟩ = some (Value.int .i64 0) := (blk_cell HZ.out 0).trans rfl
  have fZ0 := blk_frozen HZ.out 0
  have cZ1 : w3.cell? ⟨w.heap.size, 1, none⟩ = some (Value.int .i64 0) := (blk_cell HZ.out 1).trans rfl
  have fZ1 := blk_frozen HZ.out 1
  have lZ3 := blk_lt HZ.out
  have cG0 : w3.cell? ⟨w1.heap.size, 0, none⟩ = some (.bool neg) := (blk_cell HG.out 0).trans rfl
  have fG0 := blk_frozen HG.out 0
  have lG3 := blk_lt HG.out
  have cQ0 : w3.cell? ⟨w2.heap.size, 0, none⟩ = some (.slice A n.length c) := (blk_cell HQ.out 0).trans rfl
  have fQ0 := blk_frozen HQ.out 0
  have lQ3 := blk_lt HQ.out
  have cE0 : w3.cell? ⟨w2.heap.size + 1, 0, none⟩ = some (.int .i64 0) := (blk_cell HE.out 0).trans rfl
  have fE0 := blk_frozen HE.out 0
  have lE3 := blk_lt HE.out
  have hre : (rest2.toList == []) = false := by simpa using hrest
  have hri : rest2.toList.isEmpty = false := by simpa using hrest
  go_wp2_with fail
  refine (strings_CutPrefix.calls rest2 eS aft true _ hc3).mono ?_
  rintro e w4 ⟨rfl, hd⟩
  have hb := hd.below
  have nZ := Lib.hid (blk_below (blk_alloc (HZ.out) _) hb)
  have nG := Lib.hid (blk_below (blk_alloc (HG.out) _) hb)
  have nQ := Lib.hid (blk_below (blk_alloc (HQ.out) _) hb)
  have nE := Lib.hid (blk_below (blk_alloc (HE.out) _) hb)
  have nX := Lib.hid (blk_below (new_at _ _ (w3.heap.size) oz) hb)
  have nN := Lib.hid (((HN.out).below ((Below.refl _ _).alloc (Nat.le_refl _) _)).below hb)
  have nB := Lib.hid (((HB.out).alloc oz _).trans (hb.mono oz))
  have hs4 := hb.size
  try simp only [World.size_alloc, World.size_setCell] at hs4
  clear HB HZ HG HQ HE HN
  try clear cZ0 fZ0 cZ1 fZ1 cG0 fG0 cQ0 fQ0 cE0 fE0
  have HZ := nZ
  have HG := nG
  have HQ := nQ
  have HE := nE
  have HX := nX
  have HN := nN
  have HB := nB
  clear nB nZ nG nQ nE nX nN
  clear hb hd
  have cZ0 : w4.cell? ⟨w.heap.size, 0, none⟩ = some (Value.int .i64 0) := (blk_cell HZ.out 0).trans rfl
  have fZ0 := blk_frozen HZ.out 0
  have cZ1 : w4.cell? ⟨w.heap.size, 1, none⟩ = some (Value.int .i64 0) := (blk_cell HZ.out 1).trans rfl
  have fZ1 := blk_frozen HZ.out 1
  have lZ4 := blk_lt HZ.out
  have cG0 : w4.cell? ⟨w1.heap.size, 0, none⟩ = some (.bool neg) := (blk_cell HG.out 0).trans rfl
  have fG0 := blk_frozen HG.out 0
  have lG4 := blk_lt HG.out
  have cQ0 : w4.cell? ⟨w2.heap.size, 0, none⟩ = some (.slice A n.length c) := (blk_cell HQ.out 0).trans rfl
  have fQ0 := blk_frozen HQ.out 0
  have lQ4 := blk_lt HQ.out
  have cE0 : w4.cell? ⟨w2.heap.size + 1, 0, none⟩ = some (.int .i64 0) := (blk_cell HE.out 0).trans rfl
  have fE0 := blk_frozen HE.out 0
  have lE4 := blk_lt HE.out
  have cX0 : w4.cell? ⟨w3.heap.size, 0, none⟩ = some (.int .i64 0) := (blk_cell HX.out 0).trans rfl
  have fX0 := blk_frozen HX.out 0
  have lX4 := blk_lt HX.out
  go_wp2_with fail
  refine (real_exponent.calls aft x false _ hx).mono ?_
  rintro e w5 ⟨rfl, hb⟩
  have nZ := Lib.hid (blk_below (HZ.out) hb)
  have nG := Lib.hid (blk_below (HG.out) hb)
  have nQ := Lib.hid (blk_below (HQ.out) hb)
  have nE := Lib.hid (blk_below (HE.out) hb)
  have nX := Lib.hid (blk_below (HX.out) hb)
  have nN := Lib.hid ((HN.out).below hb)
  have nB := Lib.hid ((HB.out).trans (hb.mono oz))
  have hs5 := hb.size
  try simp only [World.size_alloc, World.size_setCell] at hs5
  clear HB HZ HG HQ HE HX HN
  try clear cZ0 fZ0 cZ1 fZ1 cG0 fG0 cQ0 fQ0 cE0 fE0 cX0 fX0
  have HZ := nZ
  have HG := nG
  have HQ := nQ
  have HE := nE
  have HX := nX
  have HN := nN
  have HB := nB
  clear nB nZ nG nQ nE nX nN
  clear hb
  have cZ0 : w5.cell? ⟨w.heap.size, 0, none⟩ = some (Value.int .i64 0) := (blk_cell HZ.out 0).trans rfl
  have fZ0 := blk_frozen HZ.out 0
  have cZ1 : w5.cell? ⟨w.heap.size, 1, none⟩ = some (Value.int .i64 0) := (blk_cell HZ.out 1).trans rfl
  have fZ1 := blk_frozen HZ.out 1
  have lZ5 := blk_lt HZ.out
  have cG0 : w5.cell? ⟨w1.heap.size, 0, none⟩ = some (.bool neg) := (blk_cell HG.out 0).trans rfl
  have fG0 := blk_frozen HG.out 0
  have lG5 := blk_lt HG.out
  have cQ0 : w5.cell? ⟨w2.heap.size, 0, none⟩ = some (.slice A n.length c) := (blk_cell HQ.out 0).trans rfl
  have fQ0 := blk_frozen HQ.out 0
  have lQ5 := blk_lt HQ.out
  have cE0 : w5.cell? ⟨w2.heap.size + 1, 0, none⟩ = some (.int .i64 0) := (blk_cell HE.out 0).trans rfl
  have fE0 := blk_frozen HE.out 0
  have lE5 := blk_lt HE.out
  have cX0 : w5.cell? ⟨w3.heap.size, 0, none⟩ = some (.int .i64 0) := (blk_cell HX.out 0).trans rfl
  have fX0 := blk_frozen HX.out 0
  have lX5 := blk_lt HX.out
  go_wp2
  have fz : ((w5.setCell ⟨w.heap.size, 0, none⟩ (.int .i64 0)).setCell ⟨w.heap.size, 1, none⟩ (.int .i64 0)).heap[w.heap.size]? = some (.cells #[Value.int .i64 0, Value.int .i64 0] 23 (0, 0)) := heap_setCell_same _ _ 1 _ _ _ (heap_setCell_same _ _ 0 _ _ _ (HZ.out))
  refine bodyPost_ret (results_ct rfl _ _ (w.heap.size) 23 #[.int .i64 0, .int .i64 0] (0, 0) _ rfl fz Tryz.underlying23 rfl (by kernel_rfl)) rfl ?_
  exact ⟨rfl, ((HB.out).setCell (p := ⟨w.heap.size, 0, none⟩) (by simp only; omega) _).setCell (p := ⟨w.heap.size, 1, none⟩) (by simp only; omega) _⟩
set_option maxRecDepth 100000 in
set_option maxHeartbeats 8000000 in
theorem parse_F (k : Nat) (s : ByteArray) (w : World) (hsz : ¬ (s.size : Int) > 60) (rest : ByteArray) (neg : Bool) (hc1 : strings_CutPrefix.f s minusS = some (rest, neg)) (n : List Int) (many : Int) (rest2 : ByteArray) (hn1 : real_number.f k rest [] = some (n, many, rest2)) (hmany : ¬ many = 0) (after : ByteArray) (hc2 : strings_CutPrefix.f rest2 dotS = some (after, false)) (hrest : rest2.toList ≠ []) (aft : ByteArray) (x : Int) (hc3 : strings_CutPrefix.f rest2 eS = some (aft, true)) (hx : real_exponent.f aft = some (x, true)) (m y r1 r2 t0 t1 t2 : Int) (hd1 : real_decimal.f k n (wrap64 (x - 0)) = some (m, y)) (hsg : real_signed.f neg m y = some (r1, r2)) (ht : caughtS r1 r2 = (t0, t1, t2)) :
    Calls Tryz.prog 25 #[.string s] w fun e w' => e = .returned (.tuple #[.agg #[.int .i64 t0, .int .i64 t1], .int .i64 t2]) ∧ Below w.heap.size w w' := by
  have HB := Lib.hid (Below.refl w.heap.size w)
  go_enter Tryz.func25, Tryz.ntmps25
  go_wp2_with fail
  refine (strings_CutPrefix.calls s minusS rest neg _ hc1).mono ?_
  rintro e w1 ⟨rfl, hd⟩
  have hb := hd.below
  have nZ := Lib.hid (blk_below (new_at _ _ (w.heap.size) oz) hb)
  have nB := Lib.hid (((HB.out).alloc oz _).trans (hb.mono oz))
  have hs1 := hb.size
  try simp only [World.size_alloc, World.size_setCell] at hs1
  clear HB
  have HZ := nZ
  have HB := nB
  clear nB nZ
  clear hb hd
  have cZ0 : w1.cell? ⟨w.heap.size, 0, none⟩ = some (Value.int .i64 0) := (blk_cell HZ.out 0).trans rfl
  have fZ0 := blk_frozen HZ.out 0
  have cZ1 : w1.cell? ⟨w.heap.size, 1, none⟩ = some (Value.int .i64 0) := (blk_cell HZ.out 1).trans rfl
  have fZ1 := blk_frozen HZ.out 1
  have lZ1 := blk_lt HZ.out
  go_wp2_with fail
  refine (number_c k rest none 0 [] n many rest2 _ (nil_C _) (Nat.zero_le _) hn1).mono ?_
  rintro e w2 ⟨⟨v, hv, rfl⟩, hb⟩
  have nZ := Lib.hid (blk_below (blk_alloc (HZ.out) _) hb)
  have nG := Lib.hid (blk_below (new_at _ _ (w1.heap.size) oz) hb)
  have nB := Lib.hid (((HB.out).alloc oz _).trans (hb.mono oz))
  have hs2 := hb.size
  try simp only [World.size_alloc, World.size_setCell] at hs2
  clear HB HZ
  try clear cZ0 fZ0 cZ1 fZ1
  have HZ := nZ
  have HG := nG
  have HB := nB
  clear nB nZ nG
  clear hb
  have cZ0 : w2.cell? ⟨w.heap.size, 0, none⟩ = some (Value.int .i64 0) := (blk_cell HZ.out 0).trans rfl
  have fZ0 := blk_frozen HZ.out 0
  have cZ1 : w2.cell? ⟨w.heap.size, 1, none⟩ = some (Value.int .i64 0) := (blk_cell HZ.out 1).trans rfl
  have fZ1 := blk_frozen HZ.out 1
  have lZ2 := blk_lt HZ.out
  have cG0 : w2.cell? ⟨w1.heap.size, 0, none⟩ = some (.bool neg) := (blk_cell HG.out 0).trans rfl
  have fG0 := blk_frozen HG.out 0
  have lG2 := blk_lt HG.out
  obtain ⟨A, c, rfl, hc, hC⟩ := hv
  have HN := Lib.hid (show Nat32 w2 (.slice A n.length c) n from ⟨A, c, rfl, hc, hC⟩)
  clear hC
  go_wp2_with fail
  refine (strings_CutPrefix.calls rest2 dotS after false _ hc2).mono ?_
  rintro e w3 ⟨rfl, hd⟩
  have hb := hd.below
  have nZ := Lib.hid (blk_below (blk_alloc (blk_alloc (HZ.out) _) _) hb)
  have nG := Lib.hid (blk_below (blk_alloc (blk_alloc (HG.out) _) _) hb)
  have nQ := Lib.hid (blk_below (blk_alloc (new_at _ _ (w2.heap.size) oz) _) hb)
  have nE := Lib.hid (blk_below (new_at _ _ (w2.heap.size + 1) oz) hb)
  have nN := Lib.hid ((((HN.out).below ((Below.refl _ _).alloc (Nat.le_refl _) _)).below ((Below.refl _ _).alloc (Nat.le_refl _) _)).below hb)
  have nB := Lib.hid ((((HB.out).alloc oz _).alloc oz _).trans (hb.mono oz))
  have hs3 := hb.size
  try simp only [World.size_alloc, World.size_setCell] at hs3
  clear HB HZ HG HN
  try clear cZ0 fZ0 cZ1 fZ1 cG0 fG0
  have HZ := nZ
  have HG := nG
  have HQ := nQ
  have HE := nE
  have HN := nN
  have HB := nB
  clear nB nZ nG nQ nE nN
  clear hb hd
  have cZ0 : w3.cell? ⟨w.heap.size, 0, none⟩ = some (Value.int .i64 0) := (blk_cell HZ.out 0).trans rfl
  have fZ0 := blk_frozen HZ.out 0
  have cZ1 : w3.cell? ⟨w.heap.size, 1, none⟩ = some (Value.int .i64 0) := (blk_cell HZ.out 1).trans rfl
  have fZ1 := blk_frozen HZ.out 1
  have lZ3 := blk_lt HZ.out
  have cG0 : w3.cell? ⟨w1.heap.size, 0, none⟩ = some (.bool neg) := (blk_cell HG.out 0).trans rfl
  have fG0 := blk_frozen HG.out 0
  have lG3 := blk_lt HG.out
  have cQ0 : w3.cell? ⟨w2.heap.size, 0, none⟩ = some (.slice A n.length c) := (blk_cell HQ.out 0).trans rfl
  have fQ0 := blk_frozen HQ.out 0
  have lQ3 := blk_lt HQ.out
  have cE0 : w3.cell? ⟨w2.heap.size + 1, 0, none⟩ = some (.int .i64 0) := (blk_cell HE.out 0).trans rfl
  have fE0 := blk_frozen HE.out 0
  have lE3 := blk_lt HE.out
  have hre : (rest2.toList == []) = false := by simpa using hrest
  have hri : rest2.toList.isEmpty = false := by simpa using hrest
  go_wp2_with fail
  refine (strings_CutPrefix.calls rest2 eS aft true _ hc3).mono ?_
  rintro e w4 ⟨rfl, hd⟩
  have hb := hd.below
  have nZ := Lib.hid (blk_below (blk_alloc (HZ.out) _) hb)
  have nG := Lib.hid (blk_below (blk_alloc (HG.out) _) hb)
  have nQ := Lib.hid (blk_below (blk_alloc (HQ.out) _) hb)
  have nE := Lib.hid (blk_below (blk_alloc (HE.out) _) hb)
  have nX := Lib.hid (blk_below (new_at _ _ (w3.heap.size) oz) hb)
  have nN := Lib.hid (((HN.out).below ((Below.refl _ _).alloc (Nat.le_refl _) _)).below hb)
  have nB := Lib.hid (((HB.out).alloc oz _).trans (hb.mono oz))
  have hs4 := hb.size
  try simp only [World.size_alloc, World.size_setCell] at hs4
  clear HB HZ HG HQ HE HN
  try clear cZ0 fZ0 cZ1 fZ1 cG0 fG0 cQ0 fQ0 cE0 fE0
  have HZ := nZ
  have HG := nG
  have HQ := nQ
  have HE := nE
  have HX := nX
  have HN := nN
  have HB := nB
  clear nB nZ nG nQ nE nX nN
  clear hb hd
  have cZ0 : w4.cell? ⟨w.heap.size, 0, none⟩ = some (Value.int .i64 0) := (blk_cell HZ.out 0).trans rfl
  have fZ0 := blk_frozen HZ.out 0
  have cZ1 : w4.cell? ⟨w.heap.size, 1, none⟩ = some (Value.int .i64 0) := (blk_cell HZ.out 1).trans rfl
  have fZ1 := blk_frozen HZ.out 1
  have lZ4 := blk_lt HZ.out
  have cG0 : w4.cell? ⟨w1.heap.size, 0, none⟩ = some (.bool neg) := (blk_cell HG.out 0).trans rfl
  have fG0 := blk_frozen HG.out 0
  have lG4 := blk_lt HG.out
  have cQ0 : w4.cell? ⟨w2.heap.size, 0, none⟩ = some (.slice A n.length c) := (blk_cell HQ.out 0).trans rfl
  have fQ0 := blk_frozen HQ.out 0
  have lQ4 := blk_lt HQ.out
  have cE0 : w4.cell? ⟨w2.heap.size + 1, 0, none⟩ = some (.int .i64 0) := (blk_cell HE.out 0).trans rfl
  have fE0 := blk_frozen HE.out 0
  have lE4 := blk_lt HE.out
  have cX0 : w4.cell? ⟨w3.heap.size, 0, none⟩ = some (.int .i64 0) := (blk_cell HX.out 0).trans rfl
  have fX0 := blk_frozen HX.out 0
  have lX4 := blk_lt HX.out
  go_wp2_with fail
  refine (real_exponent.calls aft x true _ hx).mono ?_
  rintro e w5 ⟨rfl, hb⟩
  have nZ := Lib.hid (blk_below (HZ.out) hb)
  have nG := Lib.hid (blk_below (HG.out) hb)
  have nQ := Lib.hid (blk_below (HQ.out) hb)
  have nE := Lib.hid (blk_below (HE.out) hb)
  have nX := Lib.hid (blk_below (HX.out) hb)
  have nN := Lib.hid ((HN.out).below hb)
  have nB := Lib.hid ((HB.out).trans (hb.mono oz))
  have hs5 := hb.size
  try simp only [World.size_alloc, World.size_setCell] at hs5
  clear HB HZ HG HQ HE HX HN
  try clear cZ0 fZ0 cZ1 fZ1 cG0 fG0 cQ0 fQ0 cE0 fE0 cX0 fX0
  have HZ := nZ
  have HG := nG
  have HQ := nQ
  have HE := nE
  have HX := nX
  have HN := nN
  have HB := nB
  clear nB nZ nG nQ nE nX nN
  clear hb
  have cZ0 : w5.cell? ⟨w.heap.size, 0, none⟩ = some (Value.int .i64 0) := (blk_cell HZ.out 0).trans rfl
  have fZ0 := blk_frozen HZ.out 0
  have cZ1 : w5.cell? ⟨w.heap.size, 1, none⟩ = some (Value.int .i64 0) := (blk_cell HZ.out 1).trans rfl
  have fZ1 := blk_frozen HZ.out 1
  have lZ5 := blk_lt HZ.out
  have cG0 : w5.cell? ⟨w1.heap.size, 0, none⟩ = some (.bool neg) := (blk_cell HG.out 0).trans rfl
  have fG0 := blk_frozen HG.out 0
  have lG5 := blk_lt HG.out
  have cQ0 : w5.cell? ⟨w2.heap.size, 0, none⟩ = some (.slice A n.length c) := (blk_cell HQ.out 0).trans rfl
  have fQ0 := blk_frozen HQ.out 0
  have lQ5 := blk_lt HQ.out
  have cE0 : w5.cell? ⟨w2.heap.size + 1, 0, none⟩ = some (.int .i64 0) := (blk_cell HE.out 0).trans rfl
  have fE0 := blk_frozen HE.out 0
  have lE5 := blk_lt HE.out
  have cX0 : w5.cell? ⟨w3.heap.size, 0, none⟩ = some (.int .i64 0) := (blk_cell HX.out 0).trans rfl
  have fX0 := blk_frozen HX.out 0
  have lX5 := blk_lt HX.out
  have hmf : ∀ (fn : Fn) (first cap : Array Value) (w : World), (Instr.makeFunc fn first cap).run Tryz.prog w = .ok (.func fn first cap) w := fun _ _ _ _ => rfl
  have HD1 := Lib.hid hd1
  have HS1 := Lib.hid hsg
  have HT1 := Lib.hid ht
  clear hd1 hsg ht
  skip
  go_wp2_with fail
  refine (caught_t 79 _ r1 r2 t0 t1 t2 HT1.out _ (fun args w => enters_ Tryz.func79 (by kernel_rfl) rfl args w) (fun w' h' => parse1_n k neg n A c x 0 m y r1 r2 HD1.out HS1.out _ _ _ _ w' (blk_below ((heap_setCell_other _ _ _ _ (by simp only; omega)).trans (HG.out)) h') (blk_below ((heap_setCell_other _ _ _ _ (by simp only; omega)).trans (HQ.out)) h') (blk_below (heap_setCell_same _ _ 0 _ _ _ (HX.out)) h') (blk_below ((heap_setCell_other _ _ _ _ (by simp only; omega)).trans (HE.out)) h') ((nat32_set (HN.out) (HX.out) (fun _ h => by cases h)).below h'))).mono ?_
  rintro e w6 ⟨rfl, hb⟩
  have nZ := Lib.hid (blk_below ((heap_setCell_other _ _ _ _ (by simp only; omega)).trans (HZ.out)) hb)
  have nG := Lib.hid (blk_below ((heap_setCell_other _ _ _ _ (by simp only; omega)).trans (HG.out)) hb)
  have nQ := Lib.hid (blk_below ((heap_setCell_other _ _ _ _ (by simp only; omega)).trans (HQ.out)) hb)
  have nE := Lib.hid (blk_below ((heap_setCell_other _ _ _ _ (by simp only; omega)).trans (HE.out)) hb)
  have nX := Lib.hid (blk_below (heap_setCell_same _ _ 0 _ _ _ (HX.out)) hb)
  have nN := Lib.hid ((nat32_set (HN.out) (HX.out) (fun _ h => by cases h)).below hb)
  have nB := Lib.hid (((HB.out).setCell (p := ⟨w3.heap.size, 0, none⟩) (by simp only; omega) _).trans (hb.mono oz))
  have hs6 := hb.size
  try simp only [World.size_alloc, World.size_setCell] at hs6
  clear HB HZ HG HQ HE HX HN
  try clear cZ0 fZ0 cZ1 fZ1 cG0 fG0 cQ0 fQ0 cE0 fE0 cX0 fX0
  have HZ := nZ
  have HG := nG
  have HQ := nQ
  have HE := nE
  have HX := nX
  have HN := nN
  have HB := nB
  clear nB nZ nG nQ nE nX nN
  clear hb
  have cZ0 : w6.cell? ⟨w.heap.size, 0, none⟩ = some (Value.int .i64 0) := (blk_cell HZ.out 0).trans rfl
  have fZ0 := blk_frozen HZ.out 0
  have cZ1 : w6.cell? ⟨w.heap.size, 1, none⟩ = some (Value.int .i64 0) := (blk_cell HZ.out 1).trans rfl
  have fZ1 := blk_frozen HZ.out 1
  have lZ6 := blk_lt HZ.out
  have cG0 : w6.cell? ⟨w1.heap.size, 0, none⟩ = some (.bool neg) := (blk_cell HG.out 0).trans rfl
  have fG0 := blk_frozen HG.out 0
  have lG6 := blk_lt HG.out
  have cQ0 : w6.cell? ⟨w2.heap.size, 0, none⟩ = some (.slice A n.length c) := (blk_cell HQ.out 0).trans rfl
  have fQ0 := blk_frozen HQ.out 0
  have lQ6 := blk_lt HQ.out
  have cE0 : w6.cell? ⟨w2.heap.size + 1, 0, none⟩ = some (.int .i64 0) := (blk_cell HE.out 0).trans rfl
  have fE0 := blk_frozen HE.out 0
  have lE6 := blk_lt HE.out
  have cX0 : w6.cell? ⟨w3.heap.size, 0, none⟩ = some (.int .i64 x) := (blk_cell HX.out 0).trans rfl
  have fX0 := blk_frozen HX.out 0
  have lX6 := blk_lt HX.out
  go_wp2
  have fz : ((w6.setCell ⟨w.heap.size, 0, none⟩ (.int .i64 t0)).setCell ⟨w.heap.size, 1, none⟩ (.int .i64 t1)).heap[w.heap.size]? = some (.cells #[Value.int .i64 t0, Value.int .i64 t1] 23 (0, 0)) := heap_setCell_same _ _ 1 _ _ _ (heap_setCell_same _ _ 0 _ _ _ (HZ.out))
  refine bodyPost_ret (results_ct rfl _ _ (w.heap.size) 23 #[.int .i64 t0, .int .i64 t1] (0, 0) _ rfl fz Tryz.underlying23 rfl (by kernel_rfl)) rfl ?_
  exact ⟨rfl, ((HB.out).setCell (p := ⟨w.heap.size, 0, none⟩) (by simp only; omega) _).setCell (p := ⟨w.heap.size, 1, none⟩) (by simp only; omega) _⟩
set_option maxRecDepth 100000 in
set_option maxHeartbeats 8000000 in
theorem parse_PE3 (k : Nat) (s : ByteArray) (w : World) (hsz : ¬ (s.size : Int) > 60) (rest : ByteArray) (neg : Bool) (hc1 : strings_CutPrefix.f s minusS = some (rest, neg)) (n : List Int) (many : Int) (rest2 : ByteArray) (hn1 : real_number.f k rest [] = some (n, many, rest2)) (hmany : ¬ many = 0) (after : ByteArray) (hc2 : strings_CutPrefix.f rest2 dotS = some (after, true)) (n2 : List Int) (rest3 : ByteArray) (hn2 : real_number.f k after n = some (n2, 0, rest3)) :
    Calls Tryz.prog 25 #[.string s] w fun e w' => e = .returned (.tuple #[.agg #[.int .i64 0, .int .i64 0], .int .i64 7]) ∧ Below w.heap.size w w' := by
  have HB := Lib.hid (Below.refl w.heap.size w)
  go_enter Tryz.func25, Tryz.ntmps25
  go_wp2_with fail
  refine (strings_CutPrefix.calls s minusS rest neg _ hc1).mono ?_
  rintro e w1 ⟨rfl, hd⟩
  have hb := hd.below
  have nZ := Lib.hid (blk_below (new_at _ _ (w.heap.size) oz) hb)
  have nB := Lib.hid (((HB.out).alloc oz _).trans (hb.mono oz))
  have hs1 := hb.size
  try simp only [World.size_alloc, World.size_setCell] at hs1
  clear HB
  have HZ := nZ
  have HB := nB
  clear nB nZ
  clear hb hd
  have cZ0 : w1.cell? ⟨w.heap.size, 0, none⟩ = some (Value.int .i64 0) := (blk_cell HZ.out 0).trans rfl
  have fZ0 := blk_frozen HZ.out 0
  have cZ1 : w1.cell? ⟨w.heap.size, 1, none⟩ = some (Value.int .i64 0) := (blk_cell HZ.out 1).trans rfl
  have fZ1 := blk_frozen HZ.out 1
  have lZ1 := blk_lt HZ.out
  go_wp2_with fail
  refine (number_c k rest none 0 [] n many rest2 _ (nil_C _) (Nat.zero_le _) hn1).mono ?_
  rintro e w2 ⟨⟨v, hv, rfl⟩, hb⟩
  have nZ := Lib.hid (blk_below (blk_alloc (HZ.out) _) hb)
  have nG := Lib.hid (blk_below (new_at _ _ (w1.heap.size) oz) hb)
  have nB := Lib.hid (((HB.out).alloc oz _).trans (hb.mono oz))
  have hs2 := hb.size
  try simp only [World.size_alloc, World.size_setCell] at hs2
  clear HB HZ
  try clear cZ0 fZ0 cZ1 fZ1
  have HZ := nZ
  have HG := nG
  have HB := nB
  clear nB nZ nG
  clear hb
  have cZ0 : w2.cell? ⟨w.heap.size, 0, none⟩ = some (Value.int .i64 0) := (blk_cell HZ.out 0).trans rfl
  have fZ0 := blk_frozen HZ.out 0
  have cZ1 : w2.cell? ⟨w.heap.size, 1, none⟩ = some (Value.int .i64 0) := (blk_cell HZ.out 1).trans rfl
  have fZ1 := blk_frozen HZ.out 1
  have lZ2 := blk_lt HZ.out
  have cG0 : w2.cell? ⟨w1.heap.size, 0, none⟩ = some (.bool neg) := (blk_cell HG.out 0).trans rfl
  have fG0 := blk_frozen HG.out 0
  have lG2 := blk_lt HG.out
  obtain ⟨A, c, rfl, hc, hC⟩ := hv
  have HN := Lib.hid (show Nat32 w2 (.slice A n.length c) n from ⟨A, c, rfl, hc, hC⟩)
  clear hC
  go_wp2_with fail
  refine (strings_CutPrefix.calls rest2 dotS after true _ hc2).mono ?_
  rintro e w3 ⟨rfl, hd⟩
  have hb := hd.below
  have nZ := Lib.hid (blk_below (blk_alloc (blk_alloc (HZ.out) _) _) hb)
  have nG := Lib.hid (blk_below (blk_alloc (blk_alloc (HG.out) _) _) hb)
  have nQ := Lib.hid (blk_below (blk_alloc (new_at _ _ (w2.heap.size) oz) _) hb)
  have nE := Lib.hid (blk_below (new_at _ _ (w2.heap.size + 1) oz) hb)
  have nN := Lib.hid ((((HN.out).below ((Below.refl _ _).alloc (Nat.le_refl _) _)).below ((Below.refl _ _).alloc (Nat.le_refl _) _)).below hb)
  have nB := Lib.hid ((((HB.out).alloc oz _).alloc oz _).trans (hb.mono oz))
  have hs3 := hb.size
  try simp only [World.size_alloc, World.size_setCell] at hs3
  clear HB HZ HG HN
  try clear cZ0 fZ0 cZ1 fZ1 cG0 fG0
  have HZ := nZ
  have HG := nG
  have HQ := nQ
  have HE := nE
  have HN := nN
  have HB := nB
  clear nB nZ nG nQ nE nN
  clear hb hd
  have cZ0 : w3.cell? ⟨w.heap.size, 0, none⟩ = some (Value.int .i64 0) := (blk_cell HZ.out 0).trans rfl
  have fZ0 := blk_frozen HZ.out 0
  have cZ1 : w3.cell? ⟨w.heap.size, 1, none⟩ = some (Value.int .i64 0) := (blk_cell HZ.out 1).trans rfl
  have fZ1 := blk_frozen HZ.out 1
  have lZ3 := blk_lt HZ.out
  have cG0 : w3.cell? ⟨w1.heap.size, 0, none⟩ = some (.bool neg) := (blk_cell HG.out 0).trans rfl
  have fG0 := blk_frozen HG.out 0
  have lG3 := blk_lt HG.out
  have cQ0 : w3.cell? ⟨w2.heap.size, 0, none⟩ = some (.slice A n.length c) := (blk_cell HQ.out 0).trans rfl
  have fQ0 := blk_frozen HQ.out 0
  have lQ3 := blk_lt HQ.out
  have cE0 : w3.cell? ⟨w2.heap.size + 1, 0, none⟩ = some (.int .i64 0) := (blk_cell HE.out 0).trans rfl
  have fE0 := blk_frozen HE.out 0
  have lE3 := blk_lt HE.out
  have HN32 := HN.out
  obtain ⟨A', c', heq, hcc, hCC⟩ := HN32
  cases heq
  go_wp2_with fail
  refine (number_c k after A c n n2 0 rest3 _ hCC hcc hn2).mono ?_
  rintro e w4 ⟨⟨v, hv, rfl⟩, hb⟩
  have nZ := Lib.hid (blk_below (HZ.out) hb)
  have nG := Lib.hid (blk_below (HG.out) hb)
  have nQ := Lib.hid (blk_below (HQ.out) hb)
  have nE := Lib.hid (blk_below (HE.out) hb)
  have nN := Lib.hid ((HN.out).below hb)
  have nB := Lib.hid ((HB.out).trans (hb.mono oz))
  have hs4 := hb.size
  try simp only [World.size_alloc, World.size_setCell] at hs4
  clear HB HZ HG HQ HE HN
  try clear cZ0 fZ0 cZ1 fZ1 cG0 fG0 cQ0 fQ0 cE0 fE0
  have HZ := nZ
  have HG := nG
  have HQ := nQ
  have HE := nE
  have HN := nN
  have HB := nB
  clear nB nZ nG nQ nE nN
  clear hb
  have cZ0 : w4.cell? ⟨w.heap.size, 0, none⟩ = some (Value.int .i64 0) := (blk_cell HZ.out 0).trans rfl
  have fZ0 := blk_frozen HZ.out 0
  have cZ1 : w4.cell? ⟨w.heap.size, 1, none⟩ = some (Value.int .i64 0) := (blk_cell HZ.out 1).trans rfl
  have fZ1 := blk_frozen HZ.out 1
  have lZ4 := blk_lt HZ.out
  have cG0 : w4.cell? ⟨w1.heap.size, 0, none⟩ = some (.bool neg) := (blk_cell HG.out 0).trans rfl
  have fG0 := blk_frozen HG.out 0
  have lG4 := blk_lt HG.out
  have cQ0 : w4.cell? ⟨w2.heap.size, 0, none⟩ = some (.slice A n.length c) := (blk_cell HQ.out 0).trans rfl
  have fQ0 := blk_frozen HQ.out 0
  have lQ4 := blk_lt HQ.out
  have cE0 : w4.cell? ⟨w2.heap.size + 1, 0, none⟩ = some (.int .i64 0) := (blk_cell HE.out 0).trans rfl
  have fE0 := blk_frozen HE.out 0
  have lE4 := blk_lt HE.out
  clear HN hCC
  obtain ⟨A2, c2, rfl, hc2', hC2⟩ := hv
  have HN := Lib.hid (show Nat32 w4 (.slice A2 n2.length c2) n2 from ⟨A2, c2, rfl, hc2', hC2⟩)
  clear hC2
  go_wp2
  have fz : ((((w4.setCell ⟨w2.heap.size, 0, none⟩ (.slice A2 n2.length c2)).setCell ⟨w2.heap.size + 1, 0, none⟩ (.int .i64 0)).setCell ⟨w.heap.size, 0, none⟩ (.int .i64 0)).setCell ⟨w.heap.size, 1, none⟩ (.int .i64 0)).heap[w.heap.size]? = some (.cells #[Value.int .i64 0, Value.int .i64 0] 23 (0, 0)) := heap_setCell_same _ _ 1 _ _ _ (heap_setCell_same _ _ 0 _ _ _ ((heap_setCell_other _ _ _ _ (by simp only; omega)).trans ((heap_setCell_other _ _ _ _ (by simp only; omega)).trans (HZ.out))))
  refine bodyPost_ret (results_ct rfl _ _ (w.heap.size) 23 #[.int .i64 0, .int .i64 0] (0, 0) _ rfl fz Tryz.underlying23 rfl (by kernel_rfl)) rfl ?_
  exact ⟨rfl, ((((HB.out).setCell (p := ⟨w2.heap.size, 0, none⟩) (by simp only; omega) _).setCell (p := ⟨w2.heap.size + 1, 0, none⟩) (by simp only; omega) _).setCell (p := ⟨w.heap.size, 0, none⟩) (by simp only; omega) _).setCell (p := ⟨w.heap.size, 1, none⟩) (by simp only; omega) _⟩
set_option maxRecDepth 100000 in
set_option maxHeartbeats 8000000 in
theorem parse_PZ (k : Nat) (s : ByteArray) (w : World) (hsz : ¬ (s.size : Int) > 60) (rest : ByteArray) (neg : Bool) (hc1 : strings_CutPrefix.f s minusS = some (rest, neg)) (n : List Int) (many : Int) (rest2 : ByteArray) (hn1 : real_number.f k rest [] = some (n, many, rest2)) (hmany : ¬ many = 0) (after : ByteArray) (hc2 : strings_CutPrefix.f rest2 dotS = some (after, true)) (n2 : List Int) (behind : Int) (rest3 : ByteArray) (hn2 : real_number.f k after n = some (n2, behind, rest3)) (hbeh : ¬ behind = 0) (hrest : rest3.toList = []) (m y r1 r2 t0 t1 t2 : Int) (hd1 : real_decimal.f k n2 (wrap64 (0 - behind)) = some (m, y)) (hsg : real_signed.f neg m y = some (r1, r2)) (ht : caughtS r1 r2 = (t0, t1, t2)) :
    Calls Tryz.prog 25 #[.string s] w fun e w' => e = .returned (.tuple #[.agg #[.int .i64 t0, .int .i64 t1], .int .i64 t2]) ∧ Below w.heap.size w w' := by
  have HB := Lib.hid (Below.refl w.heap.size w)
  go_enter Tryz.func25, Tryz.ntmps25
  go_wp2_with fail
  refine (strings_CutPrefix.calls s minusS rest neg _ hc1).mono ?_
  rintro e w1 ⟨rfl, hd⟩
  have hb := hd.below
  have nZ := Lib.hid (blk_below (new_at _ _ (w.heap.size) oz) hb)
  have nB := Lib.hid (((HB.out).alloc oz _).trans (hb.mono oz))
  have hs1 := hb.size
  try simp only [World.size_alloc, World.size_setCell] at hs1
  clear HB
  have HZ := nZ
  have HB := nB
  clear nB nZ
  clear hb hd
  have cZ0 : w1.cell? ⟨w.heap.size, 0, none⟩ = some (Value.int .i64 0) := (blk_cell HZ.out 0).trans rfl
  have fZ0 := blk_frozen HZ.out 0
  have cZ1 : w1.cell? ⟨w.heap.size, 1, none⟩ = some (Value.int .i64 0) := (blk_cell HZ.out 1).trans rfl
  have fZ1 := blk_frozen HZ.out 1
  have lZ1 := blk_lt HZ.out
  go_wp2_with fail
  refine (number_c k rest none 0 [] n many rest2 _ (nil_C _) (Nat.zero_le _) hn1).mono ?_
  rintro e w2 ⟨⟨v, hv, rfl⟩, hb⟩
  have nZ := Lib.hid (blk_below (blk_alloc (HZ.out) _) hb)
  have nG := Lib.hid (blk_below (new_at _ _ (w1.heap.size) oz) hb)
  have nB := Lib.hid (((HB.out).alloc oz _).trans (hb.mono oz))
  have hs2 := hb.size
  try simp only [World.size_alloc, World.size_setCell] at hs2
  clear HB HZ
  try clear cZ0 fZ0 cZ1 fZ1
  have HZ := nZ
  have HG := nG
  have HB := nB
  clear nB nZ nG
  clear hb
  have cZ0 : w2.cell? ⟨w.heap.size, 0, none⟩ = some (Value.int .i64 0) := (blk_cell HZ.out 0).trans rfl
  have fZ0 := blk_frozen HZ.out 0
  have cZ1 : w2.cell? ⟨w.heap.size, 1, none⟩ = some (Value.int .i64 0) := (blk_cell HZ.out 1).trans rfl
  have fZ1 := blk_frozen HZ.out 1
  have lZ2 := blk_lt HZ.out
  have cG0 : w2.cell? ⟨w1.heap.size, 0, none⟩ = some (.bool neg) := (blk_cell HG.out 0).trans rfl
  have fG0 := blk_frozen HG.out 0
  have lG2 := blk_lt HG.out
  obtain ⟨A, c, rfl, hc, hC⟩ := hv
  have HN := Lib.hid (show Nat32 w2 (.slice A n.length c) n from ⟨A, c, rfl, hc, hC⟩)
  clear hC
  go_wp2_with fail
  refine (strings_CutPrefix.calls rest2 dotS after true _ hc2).mono ?_
  rintro e w3 ⟨rfl, hd⟩
  have hb := hd.below
  have nZ := Lib.hid (blk_below (blk_alloc (blk_alloc (HZ.out) _) _) hb)
  have nG := Lib.hid (blk_below (blk_alloc (blk_alloc (HG.out) _) _) hb)
  have nQ := Lib.hid (blk_below (blk_alloc (new_at _ _ (w2.heap.size) oz) _) hb)
  have nE := Lib.hid (blk_below (new_at _ _ (w2.heap.size + 1) oz) hb)
  have nN := Lib.hid ((((HN.out).below ((Below.refl _ _).alloc (Nat.le_refl _) _)).below ((Below.refl _ _).alloc (Nat.le_refl _) _)).below hb)
  have nB := Lib.hid ((((HB.out).alloc oz _).alloc oz _).trans (hb.mono oz))
  have hs3 := hb.size
  try simp only [World.size_alloc, World.size_setCell] at hs3
  clear HB HZ HG HN
  try clear cZ0 fZ0 cZ1 fZ1 cG0 fG0
  have HZ := nZ
  have HG := nG
  have HQ := nQ
  have HE := nE
  have HN := nN
  have HB := nB
  clear nB nZ nG nQ nE nN
  clear hb hd
  have cZ0 : w3.cell? ⟨w.heap.size, 0, none⟩ = some (Value.int .i64 0) := (blk_cell HZ.out 0).trans rfl
  have fZ0 := blk_frozen HZ.out 0
  have cZ1 : w3.cell? ⟨w.heap.size, 1, none⟩ = some (Value.int .i64 0) := (blk_cell HZ.out 1).trans rfl
  have fZ1 := blk_frozen HZ.out 1
  have lZ3 := blk_lt HZ.out
  have cG0 : w3.cell? ⟨w1.heap.size, 0, none⟩ = some (.bool neg) := (blk_cell HG.out 0).trans rfl
  have fG0 := blk_frozen HG.out 0
  have lG3 := blk_lt HG.out
  have cQ0 : w3.cell? ⟨w2.heap.size, 0, none⟩ = some (.slice A n.length c) := (blk_cell HQ.out 0).trans rfl
  have fQ0 := blk_frozen HQ.out 0
  have lQ3 := blk_lt HQ.out
  have cE0 : w3.cell? ⟨w2.heap.size + 1, 0, none⟩ = some (.int .i64 0) := (blk_cell HE.out 0).trans rfl
  have fE0 := blk_frozen HE.out 0
  have lE3 := blk_lt HE.out
  have HN32 := HN.out
  obtain ⟨A', c', heq, hcc, hCC⟩ := HN32
  cases heq
  go_wp2_with fail
  refine (number_c k after A c n n2 behind rest3 _ hCC hcc hn2).mono ?_
  rintro e w4 ⟨⟨v, hv, rfl⟩, hb⟩
  have nZ := Lib.hid (blk_below (HZ.out) hb)
  have nG := Lib.hid (blk_below (HG.out) hb)
  have nQ := Lib.hid (blk_below (HQ.out) hb)
  have nE := Lib.hid (blk_below (HE.out) hb)
  have nN := Lib.hid ((HN.out).below hb)
  have nB := Lib.hid ((HB.out).trans (hb.mono oz))
  have hs4 := hb.size
  try simp only [World.size_alloc, World.size_setCell] at hs4
  clear HB HZ HG HQ HE HN
  try clear cZ0 fZ0 cZ1 fZ1 cG0 fG0 cQ0 fQ0 cE0 fE0
  have HZ := nZ
  have HG := nG
  have HQ := nQ
  have HE := nE
  have HN := nN
  have HB := nB
  clear nB nZ nG nQ nE nN
  clear hb
  have cZ0 : w4.cell? ⟨w.heap.size, 0, none⟩ = some (Value.int .i64 0) := (blk_cell HZ.out 0).trans rfl
  have fZ0 := blk_frozen HZ.out 0
  have cZ1 : w4.cell? ⟨w.heap.size, 1, none⟩ = some (Value.int .i64 0) := (blk_cell HZ.out 1).trans rfl
  have fZ1 := blk_frozen HZ.out 1
  have lZ4 := blk_lt HZ.out
  have cG0 : w4.cell? ⟨w1.heap.size, 0, none⟩ = some (.bool neg) := (blk_cell HG.out 0).trans rfl
  have fG0 := blk_frozen HG.out 0
  have lG4 := blk_lt HG.out
  have cQ0 : w4.cell? ⟨w2.heap.size, 0, none⟩ = some (.slice A n.length c) := (blk_cell HQ.out 0).trans rfl
  have fQ0 := blk_frozen HQ.out 0
  have lQ4 := blk_lt HQ.out
  have cE0 : w4.cell? ⟨w2.heap.size + 1, 0, none⟩ = some (.int .i64 0) := (blk_cell HE.out 0).trans rfl
  have fE0 := blk_frozen HE.out 0
  have lE4 := blk_lt HE.out
  clear HN hCC
  obtain ⟨A2, c2, rfl, hc2', hC2⟩ := hv
  have HN := Lib.hid (show Nat32 w4 (.slice A2 n2.length c2) n2 from ⟨A2, c2, rfl, hc2', hC2⟩)
  clear hC2
  have hre : (rest3.toList == []) = true := by simp [hrest]
  have hri : rest3.toList.isEmpty = true := by simp [hrest]
  have hmf : ∀ (fn : Fn) (first cap : Array Value) (w : World), (Instr.makeFunc fn first cap).run Tryz.prog w = .ok (.func fn first cap) w := fun _ _ _ _ => rfl
  have HD1 := Lib.hid hd1
  have HS1 := Lib.hid hsg
  have HT1 := Lib.hid ht
  clear hd1 hsg ht
  skip
  go_wp2_with fail
  refine (caught_t 79 _ r1 r2 t0 t1 t2 HT1.out _ (fun args w => enters_ Tryz.func79 (by kernel_rfl) rfl args w) (fun w' h' => parse1_n k neg n2 A2 c2 0 behind m y r1 r2 HD1.out HS1.out _ _ _ _ w' (blk_below (blk_alloc ((heap_setCell_other _ _ _ _ (by simp only; omega)).trans ((heap_setCell_other _ _ _ _ (by simp only; omega)).trans (HG.out))) _) h') (blk_below (blk_alloc ((heap_setCell_other _ _ _ _ (by simp only; omega)).trans (heap_setCell_same _ _ 0 _ _ _ (HQ.out))) _) h') (blk_below (new_at _ _ (w4.heap.size) oz) h') (blk_below (blk_alloc (heap_setCell_same _ _ 0 _ _ _ ((heap_setCell_other _ _ _ _ (by simp only; omega)).trans (HE.out))) _) h') (((nat32_set (nat32_set (HN.out) (HQ.out) (fun _ h => by cases h)) ((heap_setCell_other _ _ _ _ (by simp only; omega)).trans (HE.out)) (fun _ h => by cases h)).below ((Below.refl _ _).alloc (Nat.le_refl _) _)).below h'))).mono ?_
  rintro e w5 ⟨rfl, hb⟩
  have nZ := Lib.hid (blk_below (blk_alloc ((heap_setCell_other _ _ _ _ (by simp only; omega)).trans ((heap_setCell_other _ _ _ _ (by simp only; omega)).trans (HZ.out))) _) hb)
  have nG := Lib.hid (blk_below (blk_alloc ((heap_setCell_other _ _ _ _ (by simp only; omega)).trans ((heap_setCell_other _ _ _ _ (by simp only; omega)).trans (HG.out))) _) hb)
  have nQ := Lib.hid (blk_below (blk_alloc ((heap_setCell_other _ _ _ _ (by simp only; omega)).trans (heap_setCell_same _ _ 0 _ _ _ (HQ.out))) _) hb)
  have nE := Lib.hid (blk_below (blk_alloc (heap_setCell_same _ _ 0 _ _ _ ((heap_setCell_other _ _ _ _ (by simp only; omega)).trans (HE.out))) _) hb)
  have nX := Lib.hid (blk_below (new_at _ _ (w4.heap.size) oz) hb)
  have nN := Lib.hid (((nat32_set (nat32_set (HN.out) (HQ.out) (fun _ h => by cases h)) ((heap_setCell_other _ _ _ _ (by simp only; omega)).trans (HE.out)) (fun _ h => by cases h)).below ((Below.refl _ _).alloc (Nat.le_refl _) _)).below hb)
  have nB := Lib.hid (((((HB.out).setCell (p := ⟨w2.heap.size, 0, none⟩) (by simp only; omega) _).setCell (p := ⟨w2.heap.size + 1, 0, none⟩) (by simp only; omega) _).alloc oz _).trans (hb.mono oz))
  have hs5 := hb.size
  try simp only [World.size_alloc, World.size_setCell] at hs5
  clear HB HZ HG HQ HE HN
  try clear cZ0 fZ0 cZ1 fZ1 cG0 fG0 cQ0 fQ0 cE0 fE0
  have HZ := nZ
  have HG := nG
  have HQ := nQ
  have HE := nE
  have HX := nX
  have HN := nN
  have HB := nB
  clear nB nZ nG nQ nE nX nN
  clear hb
  have cZ0 : w5.cell? ⟨w.heap.size, 0, none⟩ = some (Value.int .i64 0) := (blk_cell HZ.out 0).trans rfl
  have fZ0 := blk_frozen HZ.out 0
  have cZ1 : w5.cell? ⟨w.heap.size, 1, none⟩ = some (Value.int .i64 0) := (blk_cell HZ.out 1).trans rfl
  have fZ1 := blk_frozen HZ.out 1
  have lZ5 := blk_lt HZ.out
  have cG0 : w5.cell? ⟨w1.heap.size, 0, none⟩ = some (.bool neg) := (blk_cell HG.out 0).trans rfl
  have fG0 := blk_frozen HG.out 0
  have lG5 := blk_lt HG.out
  have cQ0 : w5.cell? ⟨w2.heap.size, 0, none⟩ = some (.slice A2 n2.length c2) := (blk_cell HQ.out 0).trans rfl
  have fQ0 := blk_frozen HQ.out 0
  have lQ5 := blk_lt HQ.out
  have cE0 : w5.cell? ⟨w2.heap.size + 1, 0, none⟩ = some (.int .i64 behind) := (blk_cell HE.out 0).trans rfl
  have fE0 := blk_frozen HE.out 0
  have lE5 := blk_lt HE.out
  have cX0 : w5.cell? ⟨w4.heap.size, 0, none⟩ = some (.int .i64 0) := (blk_cell HX.out 0).trans rfl
  have fX0 := blk_frozen HX.out 0
  have lX5 := blk_lt HX.out
  go_wp2
  have fz : ((w5.setCell ⟨w.heap.size, 0, none⟩ (.int .i64 t0)).setCell ⟨w.heap.size, 1, none⟩ (.int .i64 t1)).heap[w.heap.size]? = some (.cells #[Value.int .i64 t0, Value.int .i64 t1] 23 (0, 0)) := heap_setCell_same _ _ 1 _ _ _ (heap_setCell_same _ _ 0 _ _ _ (HZ.out))
  refine bodyPost_ret (results_ct rfl _ _ (w.heap.size) 23 #[.int .i64 t0, .int .i64 t1] (0, 0) _ rfl fz Tryz.underlying23 rfl (by kernel_rfl)) rfl ?_
  exact ⟨rfl, ((HB.out).setCell (p := ⟨w.heap.size, 0, none⟩) (by simp only; omega) _).setCell (p := ⟨w.heap.size, 1, none⟩) (by simp only; omega) _⟩
set_option maxRecDepth 100000 in
set_option maxHeartbeats 8000000 in
theorem parse_PB (k : Nat) (s : ByteArray) (w : World) (hsz : ¬ (s.size : Int) > 60) (rest : ByteArray) (neg : Bool) (hc1 : strings_CutPrefix.f s minusS = some (rest, neg)) (n : List Int) (many : Int) (rest2 : ByteArray) (hn1 : real_number.f k rest [] = some (n, many, rest2)) (hmany : ¬ many = 0) (after : ByteArray) (hc2 : strings_CutPrefix.f rest2 dotS = some (after, true)) (n2 : List Int) (behind : Int) (rest3 : ByteArray) (hn2 : real_number.f k after n = some (n2, behind, rest3)) (hbeh : ¬ behind = 0) (hrest : rest3.toList ≠ []) (aft : ByteArray) (x : Int) (ok : Bool) (hc3 : strings_CutPrefix.f rest3 eS = some (aft, false)) (hx : real_exponent.f aft = some (x, ok)) :
    Calls Tryz.prog 25 #[.string s] w fun e w' => e = .returned (.tuple #[.agg #[.int .i64 0, .int .i64 0], .int .i64 7]) ∧ Below w.heap.size w w' := by
  have HB := Lib.hid (Below.refl w.heap.size w)
  go_enter Tryz.func25, Tryz.ntmps25
  go_wp2_with fail
  refine (strings_CutPrefix.calls s minusS rest neg _ hc1).mono ?_
  rintro e w1 ⟨rfl, hd⟩
  have hb := hd.below
  have nZ := Lib.hid (blk_below (new_at _ _ (w.heap.size) oz) hb)
  have nB := Lib.hid (((HB.out).alloc oz _).trans (hb.mono oz))
  have hs1 := hb.size
  try simp only [World.size_alloc, World.size_setCell] at hs1
  clear HB
  have HZ := nZ
  have HB := nB
  clear nB nZ
  clear hb hd
  have cZ0 : w1.cell? ⟨w.heap.size, 0, none⟩ = some (Value.int .i64 0) := (blk_cell HZ.out 0).trans rfl
  have fZ0 := blk_frozen HZ.out 0
  have cZ1 : w1.cell? ⟨w.heap.size, 1, none⟩ = some (Value.int .i64 0) := (blk_cell HZ.out 1).trans rfl
  have fZ1 := blk_frozen HZ.out 1
  have lZ1 := blk_lt HZ.out
  go_wp2_with fail
  refine (number_c k rest none 0 [] n many rest2 _ (nil_C _) (Nat.zero_le _) hn1).mono ?_
  rintro e w2 ⟨⟨v, hv, rfl⟩, hb⟩
  have nZ := Lib.hid (blk_below (blk_alloc (HZ.out) _) hb)
  have nG := Lib.hid (blk_below (new_at _ _ (w1.heap.size) oz) hb)
  have nB := Lib.hid (((HB.out).alloc oz _).trans (hb.mono oz))
  have hs2 := hb.size
  try simp only [World.size_alloc, World.size_setCell] at hs2
  clear HB HZ
  try clear cZ0 fZ0 cZ1 fZ1
  have HZ := nZ
  have HG := nG
  have HB := nB
  clear nB nZ nG
  clear hb
  have cZ0 : w2.cell? ⟨w.heap.size, 0, none⟩ = some (Value.int .i64 0) := (blk_cell HZ.out 0).trans rfl
  have fZ0 := blk_frozen HZ.out 0
  have cZ1 : w2.cell? ⟨w.heap.size, 1, none⟩ = some (Value.int .i64 0) := (blk_cell HZ.out 1).trans rfl
  have fZ1 := blk_frozen HZ.out 1
  have lZ2 := blk_lt HZ.out
  have cG0 : w2.cell? ⟨w1.heap.size, 0, none⟩ = some (.bool neg) := (blk_cell HG.out 0).trans rfl
  have fG0 := blk_frozen HG.out 0
  have lG2 := blk_lt HG.out
  obtain ⟨A, c, rfl, hc, hC⟩ := hv
  have HN := Lib.hid (show Nat32 w2 (.slice A n.length c) n from ⟨A, c, rfl, hc, hC⟩)
  clear hC
  go_wp2_with fail
  refine (strings_CutPrefix.calls rest2 dotS after true _ hc2).mono ?_
  rintro e w3 ⟨rfl, hd⟩
  have hb := hd.below
  have nZ := Lib.hid (blk_below (blk_alloc (blk_alloc (HZ.out) _) _) hb)
  have nG := Lib.hid (blk_below (blk_alloc (blk_alloc (HG.out) _) _) hb)
  have nQ := Lib.hid (blk_below (blk_alloc (new_at _ _ (w2.heap.size) oz) _) hb)
  have nE := Lib.hid (blk_below (new_at _ _ (w2.heap.size + 1) oz) hb)
  have nN := Lib.hid ((((HN.out).below ((Below.refl _ _).alloc (Nat.le_refl _) _)).below ((Below.refl _ _).alloc (Nat.le_refl _) _)).below hb)
  have nB := Lib.hid ((((HB.out).alloc oz _).alloc oz _).trans (hb.mono oz))
  have hs3 := hb.size
  try simp only [World.size_alloc, World.size_setCell] at hs3
  clear HB HZ HG HN
  try clear cZ0 fZ0 cZ1 fZ1 cG0 fG0
  have HZ := nZ
  have HG := nG
  have HQ := nQ
  have HE := nE
  have HN := nN
  have HB := nB
  clear nB nZ nG nQ nE nN
  clear hb hd
  have cZ0 : w3.cell? ⟨w.heap.size, 0, none⟩ = some (Value.int .i64 0) := (blk_cell HZ.out 0).trans rfl
  have fZ0 := blk_frozen HZ.out 0
  have cZ1 : w3.cell? ⟨w.heap.size, 1, none⟩ = some (Value.int .i64 0) := (blk_cell HZ.out 1).trans rfl
  have fZ1 := blk_frozen HZ.out 1
  have lZ3 := blk_lt HZ.out
  have cG0 : w3.cell? ⟨w1.heap.size, 0, none⟩ = some (.bool neg) := (blk_cell HG.out 0).trans rfl
  have fG0 := blk_frozen HG.out 0
  have lG3 := blk_lt HG.out
  have cQ0 : w3.cell? ⟨w2.heap.size, 0, none⟩ = some (.slice A n.length c) := (blk_cell HQ.out 0).trans rfl
  have fQ0 := blk_frozen HQ.out 0
  have lQ3 := blk_lt HQ.out
  have cE0 : w3.cell? ⟨w2.heap.size + 1, 0, none⟩ = some (.int .i64 0) := (blk_cell HE.out 0).trans rfl
  have fE0 := blk_frozen HE.out 0
  have lE3 := blk_lt HE.out
  have HN32 := HN.out
  obtain ⟨A', c', heq, hcc, hCC⟩ := HN32
  cases heq
  go_wp2_with fail
  refine (number_c k after A c n n2 behind rest3 _ hCC hcc hn2).mono ?_
  rintro e w4 ⟨⟨v, hv, rfl⟩, hb⟩
  have nZ := Lib.hid (blk_below (HZ.out) hb)
  have nG := Lib.hid (blk_below (HG.out) hb)
  have nQ := Lib.hid (blk_below (HQ.out) hb)
  have nE := Lib.hid (blk_below (HE.out) hb)
  have nN := Lib.hid ((HN.out).below hb)
  have nB := Lib.hid ((HB.out).trans (hb.mono oz))
  have hs4 := hb.size
  try simp only [World.size_alloc, World.size_setCell] at hs4
  clear HB HZ HG HQ HE HN
  try clear cZ0 fZ0 cZ1 fZ1 cG0 fG0 cQ0 fQ0 cE0 fE0
  have HZ := nZ
  have HG := nG
  have HQ := nQ
  have HE := nE
  have HN := nN
  have HB := nB
  clear nB nZ nG nQ nE nN
  clear hb
  have cZ0 : w4.cell? ⟨w.heap.size, 0, none⟩ = some (Value.int .i64 0) := (blk_cell HZ.out 0).trans rfl
  have fZ0 := blk_frozen HZ.out 0
  have cZ1 : w4.cell? ⟨w.heap.size, 1, none⟩ = some (Value.int .i64 0) := (blk_cell HZ.out 1).trans rfl
  have fZ1 := blk_frozen HZ.out 1
  have lZ4 := blk_lt HZ.out
  have cG0 : w4.cell? ⟨w1.heap.size, 0, none⟩ = some (.bool neg) := (blk_cell HG.out 0).trans rfl
  have fG0 := blk_frozen HG.out 0
  have lG4 := blk_lt HG.out
  have cQ0 : w4.cell? ⟨w2.heap.size, 0, none⟩ = some (.slice A n.length c) := (blk_cell HQ.out 0).trans rfl
  have fQ0 := blk_frozen HQ.out 0
  have lQ4 := blk_lt HQ.out
  have cE0 : w4.cell? ⟨w2.heap.size + 1, 0, none⟩ = some (.int .i64 0) := (blk_cell HE.out 0).trans rfl
  have fE0 := blk_frozen HE.out 0
  have lE4 := blk_lt HE.out
  clear HN hCC
  obtain ⟨A2, c2, rfl, hc2', hC2⟩ := hv
  have HN := Lib.hid (show Nat32 w4 (.slice A2 n2.length c2) n2 from ⟨A2, c2, rfl, hc2', hC2⟩)
  clear hC2
  have hre : (rest3.toList == []) = false := by simpa using hrest
  have hri : rest3.toList.isEmpty = false := by simpa using hrest
  go_wp2_with fail
  refine (strings_CutPrefix.calls rest3 eS aft false _ hc3).mono ?_
  rintro e w5 ⟨rfl, hd⟩
  have hb := hd.below
  have nZ := Lib.hid (blk_below (blk_alloc ((heap_setCell_other _ _ _ _ (by simp only; omega)).trans ((heap_setCell_other _ _ _ _ (by simp only; omega)).trans (HZ.out))) _) hb)
  have nG := Lib.hid (blk_below (blk_alloc ((heap_setCell_other _ _ _ _ (by simp only; omega)).trans ((heap_setCell_other _ _ _ _ (by simp only; omega)).trans (HG.out))) _) hb)
  have nQ := Lib.hid (blk_below (blk_alloc ((heap_setCell_other _ _ _ _ (by simp only; omega)).trans (heap_setCell_same _ _ 0 _ _ _ (HQ.out))) _) hb)
  have nE := Lib.hid (blk_below (blk_alloc (heap_setCell_same _ _ 0 _ _ _ ((heap_setCell_other _ _ _ _ (by simp only; omega)).trans (HE.out))) _) hb)
  have nX := Lib.hid (blk_below (new_at _ _ (w4.heap.size) oz) hb)
  have nN := Lib.hid (((nat32_set (nat32_set (HN.out) (HQ.out) (fun _ h => by cases h)) ((heap_setCell_other _ _ _ _ (by simp only; omega)).trans (HE.out)) (fun _ h => by cases h)).below ((Below.refl _ _).alloc (Nat.le_refl _) _)).below hb)
  have nB := Lib.hid (((((HB.out).setCell (p := ⟨w2.heap.size, 0, none⟩) (by simp only; omega) _).setCell (p := ⟨w2.heap.size + 1, 0, none⟩) (by simp only; omega) _).alloc oz _).trans (hb.mono oz))
  have hs5 := hb.size
  try simp only [World.size_alloc, World.size_setCell] at hs5
  clear HB HZ HG HQ HE HN
  try clear cZ0 fZ0 cZ1 fZ1 cG0 fG0 cQ0 fQ0 cE0 fE0
  have HZ := nZ
  have HG := nG
  have HQ := nQ
  have HE := nE
  have HX := nX
  have HN := nN
  have HB := nB
  clear nB nZ nG nQ nE nX nN
  clear hb hd
  have cZ0 : w5.cell? ⟨w.heap.size, 0, none⟩ = some (Value.int .i64 0) := (blk_cell HZ.out 0).trans rfl
  have fZ0 := blk_frozen HZ.out 0
  have cZ1 : w5.cell? ⟨w.heap.size, 1, none⟩ = some (Value.int .i64 0) := (blk_cell HZ.out 1).trans rfl
  have fZ1 := blk_frozen HZ.out 1
  have lZ5 := blk_lt HZ.out
  have cG0 : w5.cell? ⟨w1.heap.size, 0, none⟩ = some (.bool neg) := (blk_cell HG.out 0).trans rfl
  have fG0 := blk_frozen HG.out 0
  have lG5 := blk_lt HG.out
  have cQ0 : w5.cell? ⟨w2.heap.size, 0, none⟩ = some (.slice A2 n2.length c2) := (blk_cell HQ.out 0).trans rfl
  have fQ0 := blk_frozen HQ.out 0
  have lQ5 := blk_lt HQ.out
  have cE0 : w5.cell? ⟨w2.heap.size + 1, 0, none⟩ = some (.int .i64 behind) := (blk_cell HE.out 0).trans rfl
  have fE0 := blk_frozen HE.out 0
  have lE5 := blk_lt HE.out
  have cX0 : w5.cell? ⟨w4.heap.size, 0, none⟩ = some (.int .i64 0) := (blk_cell HX.out 0).trans rfl
  have fX0 := blk_frozen HX.out 0
  have lX5 := blk_lt HX.out
  go_wp2_with fail
  refine (real_exponent.calls aft x ok _ hx).mono ?_
  rintro e w6 ⟨rfl, hb⟩
  have nZ := Lib.hid (blk_below (HZ.out) hb)
  have nG := Lib.hid (blk_below (HG.out) hb)
  have nQ := Lib.hid (blk_below (HQ.out) hb)
  have nE := Lib.hid (blk_below (HE.out) hb)
  have nX := Lib.hid (blk_below (HX.out) hb)
  have nN := Lib.hid ((HN.out).below hb)
  have nB := Lib.hid ((HB.out).trans (hb.mono oz))
  have hs6 := hb.size
  try simp only [World.size_alloc, World.size_setCell] at hs6
  clear HB HZ HG HQ HE HX HN
  try clear cZ0 fZ0 cZ1 fZ1 cG0 fG0 cQ0 fQ0 cE0 fE0 cX0 fX0
  have HZ := nZ
  have HG := nG
  have HQ := nQ
  have HE := nE
  have HX := nX
  have HN := nN
  have HB := nB
  clear nB nZ nG nQ nE nX nN
  clear hb
  have cZ0 : w6.cell? ⟨w.heap.size, 0, none⟩ = some (Value.int .i64 0) := (blk_cell HZ.out 0).trans rfl
  have fZ0 := blk_frozen HZ.out 0
  have cZ1 : w6.cell? ⟨w.heap.size, 1, none⟩ = some (Value.int .i64 0) := (blk_cell HZ.out 1).trans rfl
  have fZ1 := blk_frozen HZ.out 1
  have lZ6 := blk_lt HZ.out
  have cG0 : w6.cell? ⟨w1.heap.size, 0, none⟩ = some (.bool neg) := (blk_cell HG.out 0).trans rfl
  have fG0 := blk_frozen HG.out 0
  have lG6 := blk_lt HG.out
  have cQ0 : w6.cell? ⟨w2.heap.size, 0, none⟩ = some (.slice A2 n2.length c2) := (blk_cell HQ.out 0).trans rfl
  have fQ0 := blk_frozen HQ.out 0
  have lQ6 := blk_lt HQ.out
  have cE0 : w6.cell? ⟨w2.heap.size + 1, 0, none⟩ = some (.int .i64 behind) := (blk_cell HE.out 0).trans rfl
  have fE0 := blk_frozen HE.out 0
  have lE6 := blk_lt HE.out
  have cX0 : w6.cell? ⟨w4.heap.size, 0, none⟩ = some (.int .i64 0) := (blk_cell HX.out 0).trans rfl
  have fX0 := blk_frozen HX.out 0
  have lX6 := blk_lt HX.out
  go_wp2
  have fz : ((w6.setCell ⟨w.heap.size, 0, none⟩ (.int .i64 0)).setCell ⟨w.heap.size, 1, none⟩ (.int .i64 0)).heap[w.heap.size]? = some (.cells #[Value.int .i64 0, Value.int .i64 0] 23 (0, 0)) := heap_setCell_same _ _ 1 _ _ _ (heap_setCell_same _ _ 0 _ _ _ (HZ.out))
  refine bodyPost_ret (results_ct rfl _ _ (w.heap.size) 23 #[.int .i64 0, .int .i64 0] (0, 0) _ rfl fz Tryz.underlying23 rfl (by kernel_rfl)) rfl ?_
  exact ⟨rfl, ((HB.out).setCell (p := ⟨w.heap.size, 0, none⟩) (by simp only; omega) _).setCell (p := ⟨w.heap.size, 1, none⟩) (by simp only; omega) _⟩
set_option maxRecDepth 100000 in
set_option maxHeartbeats 8000000 in
theorem parse_PC (k : Nat) (s : ByteArray) (w : World) (hsz : ¬ (s.size : Int) > 60) (rest : ByteArray) (neg : Bool) (hc1 : strings_CutPrefix.f s minusS = some (rest, neg)) (n : List Int) (many : Int) (rest2 : ByteArray) (hn1 : real_number.f k rest [] = some (n, many, rest2)) (hmany : ¬ many = 0) (after : ByteArray) (hc2 : strings_CutPrefix.f rest2 dotS = some (after, true)) (n2 : List Int) (behind : Int) (rest3 : ByteArray) (hn2 : real_number.f k after n = some (n2, behind, rest3)) (hbeh : ¬ behind = 0) (hrest : rest3.toList ≠ []) (aft : ByteArray) (x : Int) (hc3 : strings_CutPrefix.f rest3 eS = some (aft, true)) (hx : real_exponent.f aft = some (x, false)) :
    Calls Tryz.prog 25 #[.string s] w fun e w' => e = .returned (.tuple #[.agg #[.int .i64 0, .int .i64 0], .int .i64 7]) ∧ Below w.heap.size w w' := by
  have HB := Lib.hid (Below.refl w.heap.size w)
  go_enter Tryz.func25, Tryz.ntmps25
  go_wp2_with fail
  refine (strings_CutPrefix.calls s minusS rest neg _ hc1).mono ?_
  rintro e w1 ⟨rfl, hd⟩
  have hb := hd.below
  have nZ := Lib.hid (blk_below (new_at _ _ (w.heap.size) oz) hb)
  have nB := Lib.hid (((HB.out).alloc oz _).trans (hb.mono oz))
  have hs1 := hb.size
  try simp only [World.size_alloc, World.size_setCell] at hs1
  clear HB
  have HZ := nZ
  have HB := nB
  clear nB nZ
  clear hb hd
  have cZ0 : w1.cell? ⟨w.heap.size, 0, none⟩ = some (Value.int .i64 0) := (blk_cell HZ.out 0).trans rfl
  have fZ0 := blk_frozen HZ.out 0
  have cZ1 : w1.cell? ⟨w.heap.size, 1, none⟩ = some (Value.int .i64 0) := (blk_cell HZ.out 1).trans rfl
  have fZ1 := blk_frozen HZ.out 1
  have lZ1 := blk_lt HZ.out
  go_wp2_with fail
  refine (number_c k rest none 0 [] n many rest2 _ (nil_C _) (Nat.zero_le _) hn1).mono ?_
  rintro e w2 ⟨⟨v, hv, rfl⟩, hb⟩
  have nZ := Lib.hid (blk_below (blk_alloc (HZ.out) _) hb)
  have nG := Lib.hid (blk_below (new_at _ _ (w1.heap.size) oz) hb)
  have nB := Lib.hid (((HB.out).alloc oz _).trans (hb.mono oz))
  have hs2 := hb.size
  try simp only [World.size_alloc, World.size_setCell] at hs2
  clear HB HZ
  try clear cZ0 fZ0 cZ1 fZ1
  have HZ := nZ
  have HG := nG
  have HB := nB
  clear nB nZ nG
  clear hb
  have cZ0 : w2.cell? ⟨w.heap.size, 0, none⟩ = some (Value.int .i64 0) := (blk_cell HZ.out 0).trans rfl
  have fZ0 := blk_frozen HZ.out 0
  have cZ1 : w2.cell? ⟨w.heap.size, 1, none⟩ = some (Value.int .i64 0) := (blk_cell HZ.out 1).trans rfl
  have fZ1 := blk_frozen HZ.out 1
  have lZ2 := blk_lt HZ.out
  have cG0 : w2.cell? ⟨w1.heap.size, 0, none⟩ = some (.bool neg) := (blk_cell HG.out 0).trans rfl
  have fG0 := blk_frozen HG.out 0
  have lG2 := blk_lt HG.out
  obtain ⟨A, c, rfl, hc, hC⟩ := hv
  have HN := Lib.hid (show Nat32 w2 (.slice A n.length c) n from ⟨A, c, rfl, hc, hC⟩)
  clear hC
  go_wp2_with fail
  refine (strings_CutPrefix.calls rest2 dotS after true _ hc2).mono ?_
  rintro e w3 ⟨rfl, hd⟩
  have hb := hd.below
  have nZ := Lib.hid (blk_below (blk_alloc (blk_alloc (HZ.out) _) _) hb)
  have nG := Lib.hid (blk_below (blk_alloc (blk_alloc (HG.out) _) _) hb)
  have nQ := Lib.hid (blk_below (blk_alloc (new_at _ _ (w2.heap.size) oz) _) hb)
  have nE := Lib.hid (blk_below (new_at _ _ (w2.heap.size + 1) oz) hb)
  have nN := Lib.hid ((((HN.out).below ((Below.refl _ _).alloc (Nat.le_refl _) _)).below ((Below.refl _ _).alloc (Nat.le_refl _) _)).below hb)
  have nB := Lib.hid ((((HB.out).alloc oz _).alloc oz _).trans (hb.mono oz))
  have hs3 := hb.size
  try simp only [World.size_alloc, World.size_setCell] at hs3
  clear HB HZ HG HN
  try clear cZ0 fZ0 cZ1 fZ1 cG0 fG0
  have HZ := nZ
  have HG := nG
  have HQ := nQ
  have HE := nE
  have HN := nN
  have HB := nB
  clear nB nZ nG nQ nE nN
  clear hb hd
  have cZ0 : w3.cell? ⟨w.heap.size, 0, none⟩ = some (Value.int .i64 0) := (blk_cell HZ.out 0).trans rfl
  have fZ0 := blk_frozen HZ.out 0
  have cZ1 : w3.cell? ⟨w.heap.size, 1, none⟩ = some (Value.int .i64 0) := (blk_cell HZ.out 1).trans rfl
  have fZ1 := blk_frozen HZ.out 1
  have lZ3 := blk_lt HZ.out
  have cG0 : w3.cell? ⟨w1.heap.size, 0, none⟩ = some (.bool neg) := (blk_cell HG.out 0).trans rfl
  have fG0 := blk_frozen HG.out 0
  have lG3 := blk_lt HG.out
  have cQ0 : w3.cell? ⟨w2.heap.size, 0, none⟩ = some (.slice A n.length c) := (blk_cell HQ.out 0).trans rfl
  have fQ0 := blk_frozen HQ.out 0
  have lQ3 := blk_lt HQ.out
  have cE0 : w3.cell? ⟨w2.heap.size + 1, 0, none⟩ = some (.int .i64 0) := (blk_cell HE.out 0).trans rfl
  have fE0 := blk_frozen HE.out 0
  have lE3 := blk_lt HE.out
  have HN32 := HN.out
  obtain ⟨A', c', heq, hcc, hCC⟩ := HN32
  cases heq
  go_wp2_with fail
  refine (number_c k after A c n n2 behind rest3 _ hCC hcc hn2).mono ?_
  rintro e w4 ⟨⟨v, hv, rfl⟩, hb⟩
  have nZ := Lib.hid (blk_below (HZ.out) hb)
  have nG := Lib.hid (blk_below (HG.out) hb)
  have nQ := Lib.hid (blk_below (HQ.out) hb)
  have nE := Lib.hid (blk_below (HE.out) hb)
  have nN := Lib.hid ((HN.out).below hb)
  have nB := Lib.hid ((HB.out).trans (hb.mono oz))
  have hs4 := hb.size
  try simp only [World.size_alloc, World.size_setCell] at hs4
  clear HB HZ HG HQ HE HN
  try clear cZ0 fZ0 cZ1 fZ1 cG0 fG0 cQ0 fQ0 cE0 fE0
  have HZ := nZ
  have HG := nG
  have HQ := nQ
  have HE := nE
  have HN := nN
  have HB := nB
  clear nB nZ nG nQ nE nN
  clear hb
  have cZ0 : w4.cell? ⟨w.heap.size, 0, none⟩ = some (Value.int .i64 0) := (blk_cell HZ.out 0).trans rfl
  have fZ0 := blk_frozen HZ.out 0
  have cZ1 : w4.cell? ⟨w.heap.size, 1, none⟩ = some (Value.int .i64 0) := (blk_cell HZ.out 1).trans rfl
  have fZ1 := blk_frozen HZ.out 1
  have lZ4 := blk_lt HZ.out
  have cG0 : w4.cell? ⟨w1.heap.size, 0, none⟩ = some (.bool neg) := (blk_cell HG.out 0).trans rfl
  have fG0 := blk_frozen HG.out 0
  have lG4 := blk_lt HG.out
  have cQ0 : w4.cell? ⟨w2.heap.size, 0, none⟩ = some (.slice A n.length c) := (blk_cell HQ.out 0).trans rfl
  have fQ0 := blk_frozen HQ.out 0
  have lQ4 := blk_lt HQ.out
  have cE0 : w4.cell? ⟨w2.heap.size + 1, 0, none⟩ = some (.int .i64 0) := (blk_cell HE.out 0).trans rfl
  have fE0 := blk_frozen HE.out 0
  have lE4 := blk_lt HE.out
  clear HN hCC
  obtain ⟨A2, c2, rfl, hc2', hC2⟩ := hv
  have HN := Lib.hid (show Nat32 w4 (.slice A2 n2.length c2) n2 from ⟨A2, c2, rfl, hc2', hC2⟩)
  clear hC2
  have hre : (rest3.toList == []) = false := by simpa using hrest
  have hri : rest3.toList.isEmpty = false := by simpa using hrest
  go_wp2_with fail
  refine (strings_CutPrefix.calls rest3 eS aft true _ hc3).mono ?_
  rintro e w5 ⟨rfl, hd⟩
  have hb := hd.below
  have nZ := Lib.hid (blk_below (blk_alloc ((heap_setCell_other _ _ _ _ (by simp only; omega)).trans ((heap_setCell_other _ _ _ _ (by simp only; omega)).trans (HZ.out))) _) hb)
  have nG := Lib.hid (blk_below (blk_alloc ((heap_setCell_other _ _ _ _ (by simp only; omega)).trans ((heap_setCell_other _ _ _ _ (by simp only; omega)).trans (HG.out))) _) hb)
  have nQ := Lib.hid (blk_below (blk_alloc ((heap_setCell_other _ _ _ _ (by simp only; omega)).trans (heap_setCell_same _ _ 0 _ _ _ (HQ.out))) _) hb)
  have nE := Lib.hid (blk_below (blk_alloc (heap_setCell_same _ _ 0 _ _ _ ((heap_setCell_other _ _ _ _ (by simp only; omega)).trans (HE.out))) _) hb)
  have nX := Lib.hid (blk_below (new_at _ _ (w4.heap.size) oz) hb)
  have nN := Lib.hid (((nat32_set (nat32_set (HN.out) (HQ.out) (fun _ h => by cases h)) ((heap_setCell_other _ _ _ _ (by simp only; omega)).trans (HE.out)) (fun _ h => by cases h)).below ((Below.refl _ _).alloc (Nat.le_refl _) _)).below hb)
  have nB := Lib.hid (((((HB.out).setCell (p := ⟨w2.heap.size, 0, none⟩) (by simp only; omega) _).setCell (p := ⟨w2.heap.size + 1, 0, none⟩) (by simp only; omega) _).alloc oz _).trans (hb.mono oz))
  have hs5 := hb.size
  try simp only [World.size_alloc, World.size_setCell] at hs5
  clear HB HZ HG HQ HE HN
  try clear cZ0 fZ0 cZ1 fZ1 cG0 fG0 cQ0 fQ0 cE0 fE0
  have HZ := nZ
  have HG := nG
  have HQ := nQ
  have HE := nE
  have HX := nX
  have HN := nN
  have HB := nB
  clear nB nZ nG nQ nE nX nN
  clear hb hd
  have cZ0 : w5.cell? ⟨w.heap.size, 0, none⟩ = some (Value.int .i64 0) := (blk_cell HZ.out 0).trans rfl
  have fZ0 := blk_frozen HZ.out 0
  have cZ1 : w5.cell? ⟨w.heap.size, 1, none⟩ = some (Value.int .i64 0) := (blk_cell HZ.out 1).trans rfl
  have fZ1 := blk_frozen HZ.out 1
  have lZ5 := blk_lt HZ.out
  have cG0 : w5.cell? ⟨w1.heap.size, 0, none⟩ = some (.bool neg) := (blk_cell HG.out 0).trans rfl
  have fG0 := blk_frozen HG.out 0
  have lG5 := blk_lt HG.out
  have cQ0 : w5.cell? ⟨w2.heap.size, 0, none⟩ = some (.slice A2 n2.length c2) := (blk_cell HQ.out 0).trans rfl
  have fQ0 := blk_frozen HQ.out 0
  have lQ5 := blk_lt HQ.out
  have cE0 : w5.cell? ⟨w2.heap.size + 1, 0, none⟩ = some (.int .i64 behind) := (blk_cell HE.out 0).trans rfl
  have fE0 := blk_frozen HE.out 0
  have lE5 := blk_lt HE.out
  have cX0 : w5.cell? ⟨w4.heap.size, 0, none⟩ = some (.int .i64 0) := (blk_cell HX.out 0).trans rfl
  have fX0 := blk_frozen HX.out 0
  have lX5 := blk_lt HX.out
  go_wp2_with fail
  refine (real_exponent.calls aft x false _ hx).mono ?_
  rintro e w6 ⟨rfl, hb⟩
  have nZ := Lib.hid (blk_below (HZ.out) hb)
  have nG := Lib.hid (blk_below (HG.out) hb)
  have nQ := Lib.hid (blk_below (HQ.out) hb)
  have nE := Lib.hid (blk_below (HE.out) hb)
  have nX := Lib.hid (blk_below (HX.out) hb)
  have nN := Lib.hid ((HN.out).below hb)
  have nB := Lib.hid ((HB.out).trans (hb.mono oz))
  have hs6 := hb.size
  try simp only [World.size_alloc, World.size_setCell] at hs6
  clear HB HZ HG HQ HE HX HN
  try clear cZ0 fZ0 cZ1 fZ1 cG0 fG0 cQ0 fQ0 cE0 fE0 cX0 fX0
  have HZ := nZ
  have HG := nG
  have HQ := nQ
  have HE := nE
  have HX := nX
  have HN := nN
  have HB := nB
  clear nB nZ nG nQ nE nX nN
  clear hb
  have cZ0 : w6.cell? ⟨w.heap.size, 0, none⟩ = some (Value.int .i64 0) := (blk_cell HZ.out 0).trans rfl
  have fZ0 := blk_frozen HZ.out 0
  have cZ1 : w6.cell? ⟨w.heap.size, 1, none⟩ = some (Value.int .i64 0) := (blk_cell HZ.out 1).trans rfl
  have fZ1 := blk_frozen HZ.out 1
  have lZ6 := blk_lt HZ.out
  have cG0 : w6.cell? ⟨w1.heap.size, 0, none⟩ = some (.bool neg) := (blk_cell HG.out 0).trans rfl
  have fG0 := blk_frozen HG.out 0
  have lG6 := blk_lt HG.out
  have cQ0 : w6.cell? ⟨w2.heap.size, 0, none⟩ = some (.slice A2 n2.length c2) := (blk_cell HQ.out 0).trans rfl
  have fQ0 := blk_frozen HQ.out 0
  have lQ6 := blk_lt HQ.out
  have cE0 : w6.cell? ⟨w2.heap.size + 1, 0, none⟩ = some (.int .i64 behind) := (blk_cell HE.out 0).trans rfl
  have fE0 := blk_frozen HE.out 0
  have lE6 := blk_lt HE.out
  have cX0 : w6.cell? ⟨w4.heap.size, 0, none⟩ = some (.int .i64 0) := (blk_cell HX.out 0).trans rfl
  have fX0 := blk_frozen HX.out 0
  have lX6 := blk_lt HX.out
  go_wp2
  have fz : ((w6.setCell ⟨w.heap.size, 0, none⟩ (.int .i64 0)).setCell ⟨w.heap.size, 1, none⟩ (.int .i64 0)).heap[w.heap.size]? = some (.cells #[Value.int .i64 0, Value.int .i64 0] 23 (0, 0)) := heap_setCell_same _ _ 1 _ _ _ (heap_setCell_same _ _ 0 _ _ _ (HZ.out))
  refine bodyPost_ret (results_ct rfl _ _ (w.heap.size) 23 #[.int .i64 0, .int .i64 0] (0, 0) _ rfl fz Tryz.underlying23 rfl (by kernel_rfl)) rfl ?_
  exact ⟨rfl, ((HB.out).setCell (p := ⟨w.heap.size, 0, none⟩) (by simp only; omega) _).setCell (p := ⟨w.heap.size, 1, none⟩) (by simp only; omega) _⟩
set_option maxRecDepth 100000 in
set_option maxHeartbeats 8000000 in
theorem parse_PF (k : Nat) (s : ByteArray) (w : World) (hsz : ¬ (s.size : Int) > 60) (rest : ByteArray) (neg : Bool) (hc1 : strings_CutPrefix.f s minusS = some (rest, neg)) (n : List Int) (many : Int) (rest2 : ByteArray) (hn1 : real_number.f k rest [] = some (n, many, rest2)) (hmany : ¬ many = 0) (after : ByteArray) (hc2 : strings_CutPrefix.f rest2 dotS = some (after, true)) (n2 : List Int) (behind : Int) (rest3 : ByteArray) (hn2 : real_number.f k after n = some (n2, behind, rest3)) (hbeh : ¬ behind = 0) (hrest : rest3.toList ≠ []) (aft : ByteArray) (x : Int) (hc3 : strings_CutPrefix.f rest3 eS = some (aft, true)) (hx : real_exponent.f aft = some (x, true)) (m y r1 r2 t0 t1 t2 : Int) (hd1 : real_decimal.f k n2 (wrap64 (x - behind)) = some (m, y)) (hsg : real_signed.f neg m y = some (r1, r2)) (ht : caughtS r1 r2 = (t0, t1, t2)) :
    Calls Tryz.prog 25 #[.string s] w fun e w' => e = .returned (.tuple #[.agg #[.int .i64 t0, .int .i64 t1], .int .i64 t2]) ∧ Below w.heap.size w w' := by
  have HB := Lib.hid (Below.refl w.heap.size w)
  go_enter Tryz.func25, Tryz.ntmps25
  go_wp2_with fail
  refine (strings_CutPrefix.calls s minusS rest neg _ hc1).mono ?_
  rintro e w1 ⟨rfl, hd⟩
  have hb := hd.below
  have nZ := Lib.hid (blk_below (new_at _ _ (w.heap.size) oz) hb)
  have nB := Lib.hid (((HB.out).alloc oz _).trans (hb.mono oz))
  have hs1 := hb.size
  try simp only [World.size_alloc, World.size_setCell] at hs1
  clear HB
  have HZ := nZ
  have HB := nB
  clear nB nZ
  clear hb hd
  have cZ0 : w1.cell? ⟨w.heap.size, 0, none⟩ = some (Value.int .i64 0) := (blk_cell HZ.out 0).trans rfl
  have fZ0 := blk_frozen HZ.out 0
  have cZ1 : w1.cell? ⟨w.heap.size, 1, none⟩ = some (Value.int .i64 0) := (blk_cell HZ.out 1).trans rfl
  have fZ1 := blk_frozen HZ.out 1
  have lZ1 := blk_lt HZ.out
  go_wp2_with fail
  refine (number_c k rest none 0 [] n many rest2 _ (nil_C _) (Nat.zero_le _) hn1).mono ?_
  rintro e w2 ⟨⟨v, hv, rfl⟩, hb⟩
  have nZ := Lib.hid (blk_below (blk_alloc (HZ.out) _) hb)
  have nG := Lib.hid (blk_below (new_at _ _ (w1.heap.size) oz) hb)
  have nB := Lib.hid (((HB.out).alloc oz _).trans (hb.mono oz))
  have hs2 := hb.size
  try simp only [World.size_alloc, World.size_setCell] at hs2
  clear HB HZ
  try clear cZ0 fZ0 cZ1 fZ1
  have HZ := nZ
  have HG := nG
  have HB := nB
  clear nB nZ nG
  clear hb
  have cZ0 : w2.cell? ⟨w.heap.size, 0, none⟩ = some (Value.int .i64 0) := (blk_cell HZ.out 0).trans rfl
  have fZ0 := blk_frozen HZ.out 0
  have cZ1 : w2.cell? ⟨w.heap.size, 1, none⟩ = some (Value.int .i64 0) := (blk_cell HZ.out 1).trans rfl
  have fZ1 := blk_frozen HZ.out 1
  have lZ2 := blk_lt HZ.out
  have cG0 : w2.cell? ⟨w1.heap.size, 0, none⟩ = some (.bool neg) := (blk_cell HG.out 0).trans rfl
  have fG0 := blk_frozen HG.out 0
  have lG2 := blk_lt HG.out
  obtain ⟨A, c, rfl, hc, hC⟩ := hv
  have HN := Lib.hid (show Nat32 w2 (.slice A n.length c) n from ⟨A, c, rfl, hc, hC⟩)
  clear hC
  go_wp2_with fail
  refine (strings_CutPrefix.calls rest2 dotS after true _ hc2).mono ?_
  rintro e w3 ⟨rfl, hd⟩
  have hb := hd.below
  have nZ := Lib.hid (blk_below (blk_alloc (blk_alloc (HZ.out) _) _) hb)
  have nG := Lib.hid (blk_below (blk_alloc (blk_alloc (HG.out) _) _) hb)
  have nQ := Lib.hid (blk_below (blk_alloc (new_at _ _ (w2.heap.size) oz) _) hb)
  have nE := Lib.hid (blk_below (new_at _ _ (w2.heap.size + 1) oz) hb)
  have nN := Lib.hid ((((HN.out).below ((Below.refl _ _).alloc (Nat.le_refl _) _)).below ((Below.refl _ _).alloc (Nat.le_refl _) _)).below hb)
  have nB := Lib.hid ((((HB.out).alloc oz _).alloc oz _).trans (hb.mono oz))
  have hs3 := hb.size
  try simp only [World.size_alloc, World.size_setCell] at hs3
  clear HB HZ HG HN
  try clear cZ0 fZ0 cZ1 fZ1 cG0 fG0
  have HZ := nZ
  have HG := nG
  have HQ := nQ
  have HE := nE
  have HN := nN
  have HB := nB
  clear nB nZ nG nQ nE nN
  clear hb hd
  have cZ0 : w3.cell? ⟨w.heap.size, 0, none⟩ = some (Value.int .i64 0) := (blk_cell HZ.out 0).trans rfl
  have fZ0 := blk_frozen HZ.out 0
  have cZ1 : w3.cell? ⟨w.heap.size, 1, none⟩ = some (Value.int .i64 0) := (blk_cell HZ.out 1).trans rfl
  have fZ1 := blk_frozen HZ.out 1
  have lZ3 := blk_lt HZ.out
  have cG0 : w3.cell? ⟨w1.heap.size, 0, none⟩ = some (.bool neg) := (blk_cell HG.out 0).trans rfl
  have fG0 := blk_frozen HG.out 0
  have lG3 := blk_lt HG.out
  have cQ0 : w3.cell? ⟨w2.heap.size, 0, none⟩ = some (.slice A n.length c) := (blk_cell HQ.out 0).trans rfl
  have fQ0 := blk_frozen HQ.out 0
  have lQ3 := blk_lt HQ.out
  have cE0 : w3.cell? ⟨w2.heap.size + 1, 0, none⟩ = some (.int .i64 0) := (blk_cell HE.out 0).trans rfl
  have fE0 := blk_frozen HE.out 0
  have lE3 := blk_lt HE.out
  have HN32 := HN.out
  obtain ⟨A', c', heq, hcc, hCC⟩ := HN32
  cases heq
  go_wp2_with fail
  refine (number_c k after A c n n2 behind rest3 _ hCC hcc hn2).mono ?_
  rintro e w4 ⟨⟨v, hv, rfl⟩, hb⟩
  have nZ := Lib.hid (blk_below (HZ.out) hb)
  have nG := Lib.hid (blk_below (HG.out) hb)
  have nQ := Lib.hid (blk_below (HQ.out) hb)
  have nE := Lib.hid (blk_below (HE.out) hb)
  have nN := Lib.hid ((HN.out).below hb)
  have nB := Lib.hid ((HB.out).trans (hb.mono oz))
  have hs4 := hb.size
  try simp only [World.size_alloc, World.size_setCell] at hs4
  clear HB HZ HG HQ HE HN
  try clear cZ0 fZ0 cZ1 fZ1 cG0 fG0 cQ0 fQ0 cE0 fE0
  have HZ := nZ
  have HG := nG
  have HQ := nQ
  have HE := nE
  have HN := nN
  have HB := nB
  clear nB nZ nG nQ nE nN
  clear hb
  have cZ0 : w4.cell? ⟨w.heap.size, 0, none⟩ = some (Value.int .i64 0) := (blk_cell HZ.out 0).trans rfl
  have fZ0 := blk_frozen HZ.out 0
  have cZ1 : w4.cell? ⟨w.heap.size, 1, none⟩ = some (Value.int .i64 0) := (blk_cell HZ.out 1).trans rfl
  have fZ1 := blk_frozen HZ.out 1
  have lZ4 := blk_lt HZ.out
  have cG0 : w4.cell? ⟨w1.heap.size, 0, none⟩ = some (.bool neg) := (blk_cell HG.out 0).trans rfl
  have fG0 := blk_frozen HG.out 0
  have lG4 := blk_lt HG.out
  have cQ0 : w4.cell? ⟨w2.heap.size, 0, none⟩ = some (.slice A n.length c) := (blk_cell HQ.out 0).trans rfl
  have fQ0 := blk_frozen HQ.out 0
  have lQ4 := blk_lt HQ.out
  have cE0 : w4.cell? ⟨w2.heap.size + 1, 0, none⟩ = some (.int .i64 0) := (blk_cell HE.out 0).trans rfl
  have fE0 := blk_frozen HE.out 0
  have lE4 := blk_lt HE.out
  clear HN hCC
  obtain ⟨A2, c2, rfl, hc2', hC2⟩ := hv
  have HN := Lib.hid (show Nat32 w4 (.slice A2 n2.length c2) n2 from ⟨A2, c2, rfl, hc2', hC2⟩)
  clear hC2
  have hre : (rest3.toList == []) = false := by simpa using hrest
  have hri : rest3.toList.isEmpty = false := by simpa using hrest
  go_wp2_with fail
  refine (strings_CutPrefix.calls rest3 eS aft true _ hc3).mono ?_
  rintro e w5 ⟨rfl, hd⟩
  have hb := hd.below
  have nZ := Lib.hid (blk_below (blk_alloc ((heap_setCell_other _ _ _ _ (by simp only; omega)).trans ((heap_setCell_other _ _ _ _ (by simp only; omega)).trans (HZ.out))) _) hb)
  have nG := Lib.hid (blk_below (blk_alloc ((heap_setCell_other _ _ _ _ (by simp only; omega)).trans ((heap_setCell_other _ _ _ _ (by simp only; omega)).trans (HG.out))) _) hb)
  have nQ := Lib.hid (blk_below (blk_alloc ((heap_setCell_other _ _ _ _ (by simp only; omega)).trans (heap_setCell_same _ _ 0 _ _ _ (HQ.out))) _) hb)
  have nE := Lib.hid (blk_below (blk_alloc (heap_setCell_same _ _ 0 _ _ _ ((heap_setCell_other _ _ _ _ (by simp only; omega)).trans (HE.out))) _) hb)
  have nX := Lib.hid (blk_below (new_at _ _ (w4.heap.size) oz) hb)
  have nN := Lib.hid (((nat32_set (nat32_set (HN.out) (HQ.out) (fun _ h => by cases h)) ((heap_setCell_other _ _ _ _ (by simp only; omega)).trans (HE.out)) (fun _ h => by cases h)).below ((Below.refl _ _).alloc (Nat.le_refl _) _)).below hb)
  have nB := Lib.hid (((((HB.out).setCell (p := ⟨w2.heap.size, 0, none⟩) (by simp only; omega) _).setCell (p := ⟨w2.heap.size + 1, 0, none⟩) (by simp only; omega) _).alloc oz _).trans (hb.mono oz))
  have hs5 := hb.size
  try simp only [World.size_alloc, World.size_setCell] at hs5
  clear HB HZ HG HQ HE HN
  try clear cZ0 fZ0 cZ1 fZ1 cG0 fG0 cQ0 fQ0 cE0 fE0
  have HZ := nZ
  have HG := nG
  have HQ := nQ
  have HE := nE
  have HX := nX
  have HN := nN
  have HB := nB
  clear nB nZ nG nQ nE nX nN
  clear hb hd
  have cZ0 : w5.cell? ⟨w.heap.size, 0, none⟩ = some (Value.int .i64 0) := (blk_cell HZ.out 0).trans rfl
  have fZ0 := blk_frozen HZ.out 0
  have cZ1 : w5.cell? ⟨w.heap.size, 1, none⟩ = some (Value.int .i64 0) := (blk_cell HZ.out 1).trans rfl
  have fZ1 := blk_frozen HZ.out 1
  have lZ5 := blk_lt HZ.out
  have cG0 : w5.cell? ⟨w1.heap.size, 0, none⟩ = some (.bool neg) := (blk_cell HG.out 0).trans rfl
  have fG0 := blk_frozen HG.out 0
  have lG5 := blk_lt HG.out
  have cQ0 : w5.cell? ⟨w2.heap.size, 0, none⟩ = some (.slice A2 n2.length c2) := (blk_cell HQ.out 0).trans rfl
  have fQ0 := blk_frozen HQ.out 0
  have lQ5 := blk_lt HQ.out
  have cE0 : w5.cell? ⟨w2.heap.size + 1, 0, none⟩ = some (.int .i64 behind) := (blk_cell HE.out 0).trans rfl
  have fE0 := blk_frozen HE.out 0
  have lE5 := blk_lt HE.out
  have cX0 : w5.cell? ⟨w4.heap.size, 0, none⟩ = some (.int .i64 0) := (blk_cell HX.out 0).trans rfl
  have fX0 := blk_frozen HX.out 0
  have lX5 := blk_lt HX.out
  go_wp2_with fail
  refine (real_exponent.calls aft x true _ hx).mono ?_
  rintro e w6 ⟨rfl, hb⟩
  have nZ := Lib.hid (blk_below (HZ.out) hb)
  have nG := Lib.hid (blk_below (HG.out) hb)
  have nQ := Lib.hid (blk_below (HQ.out) hb)
  have nE := Lib.hid (blk_below (HE.out) hb)
  have nX := Lib.hid (blk_below (HX.out) hb)
  have nN := Lib.hid ((HN.out).below hb)
  have nB := Lib.hid ((HB.out).trans (hb.mono oz))
  have hs6 := hb.size
  try simp only [World.size_alloc, World.size_setCell] at hs6
  clear HB HZ HG HQ HE HX HN
  try clear cZ0 fZ0 cZ1 fZ1 cG0 fG0 cQ0 fQ0 cE0 fE0 cX0 fX0
  have HZ := nZ
  have HG := nG
  have HQ := nQ
  have HE := nE
  have HX := nX
  have HN := nN
  have HB := nB
  clear nB nZ nG nQ nE nX nN
  clear hb
  have cZ0 : w6.cell? ⟨w.heap.size, 0, none⟩ = some (Value.int .i64 0) := (blk_cell HZ.out 0).trans rfl
  have fZ0 := blk_frozen HZ.out 0
  have cZ1 : w6.cell? ⟨w.heap.size, 1, none⟩ = some (Value.int .i64 0) := (blk_cell HZ.out 1).trans rfl
  have fZ1 := blk_frozen HZ.out 1
  have lZ6 := blk_lt HZ.out
  have cG0 : w6.cell? ⟨w1.heap.size, 0, none⟩ = some (.bool neg) := (blk_cell HG.out 0).trans rfl
  have fG0 := blk_frozen HG.out 0
  have lG6 := blk_lt HG.out
  have cQ0 : w6.cell? ⟨w2.heap.size, 0, none⟩ = some (.slice A2 n2.length c2) := (blk_cell HQ.out 0).trans rfl
  have fQ0 := blk_frozen HQ.out 0
  have lQ6 := blk_lt HQ.out
  have cE0 : w6.cell? ⟨w2.heap.size + 1, 0, none⟩ = some (.int .i64 behind) := (blk_cell HE.out 0).trans rfl
  have fE0 := blk_frozen HE.out 0
  have lE6 := blk_lt HE.out
  have cX0 : w6.cell? ⟨w4.heap.size, 0, none⟩ = some (.int .i64 0) := (blk_cell HX.out 0).trans rfl
  have fX0 := blk_frozen HX.out 0
  have lX6 := blk_lt HX.out
  have hmf : ∀ (fn : Fn) (first cap : Array Value) (w : World), (Instr.makeFunc fn first cap).run Tryz.prog w = .ok (.func fn first cap) w := fun _ _ _ _ => rfl
  have HD1 := Lib.hid hd1
  have HS1 := Lib.hid hsg
  have HT1 := Lib.hid ht
  clear hd1 hsg ht
  skip
  go_wp2_with fail
  refine (caught_t 79 _ r1 r2 t0 t1 t2 HT1.out _ (fun args w => enters_ Tryz.func79 (by kernel_rfl) rfl args w) (fun w' h' => parse1_n k neg n2 A2 c2 x behind m y r1 r2 HD1.out HS1.out _ _ _ _ w' (blk_below ((heap_setCell_other _ _ _ _ (by simp only; omega)).trans (HG.out)) h') (blk_below ((heap_setCell_other _ _ _ _ (by simp only; omega)).trans (HQ.out)) h') (blk_below (heap_setCell_same _ _ 0 _ _ _ (HX.out)) h') (blk_below ((heap_setCell_other _ _ _ _ (by simp only; omega)).trans (HE.out)) h') ((nat32_set (HN.out) (HX.out) (fun _ h => by cases h)).below h'))).mono ?_
  rintro e w7 ⟨rfl, hb⟩
  have nZ := Lib.hid (blk_below ((heap_setCell_other _ _ _ _ (by simp only; omega)).trans (HZ.out)) hb)
  have nG := Lib.hid (blk_below ((heap_setCell_other _ _ _ _ (by simp only; omega)).trans (HG.out)) hb)
  have nQ := Lib.hid (blk_below ((heap_setCell_other _ _ _ _ (by simp only; omega)).trans (HQ.out)) hb)
  have nE := Lib.hid (blk_below ((heap_setCell_other _ _ _ _ (by simp only; omega)).trans (HE.out)) hb)
  have nX := Lib.hid (blk_below (heap_setCell_same _ _ 0 _ _ _ (HX.out)) hb)
  have nN := Lib.hid ((nat32_set (HN.out) (HX.out) (fun _ h => by cases h)).below hb)
  have nB := Lib.hid (((HB.out).setCell (p := ⟨w4.heap.size, 0, none⟩) (by simp only; omega) _).trans (hb.mono oz))
  have hs7 := hb.size
  try simp only [World.size_alloc, World.size_setCell] at hs7
  clear HB HZ HG HQ HE HX HN
  try clear cZ0 fZ0 cZ1 fZ1 cG0 fG0 cQ0 fQ0 cE0 fE0 cX0 fX0
  have HZ := nZ
  have HG := nG
  have HQ := nQ
  have HE := nE
  have HX := nX
  have HN := nN
  have HB := nB
  clear nB nZ nG nQ nE nX nN
  clear hb
  have cZ0 : w7.cell? ⟨w.heap.size, 0, none⟩ = some (Value.int .i64 0) := (blk_cell HZ.out 0).trans rfl
  have fZ0 := blk_frozen HZ.out 0
  have cZ1 : w7.cell? ⟨w.heap.size, 1, none⟩ = some (Value.int .i64 0) := (blk_cell HZ.out 1).trans rfl
  have fZ1 := blk_frozen HZ.out 1
  have lZ7 := blk_lt HZ.out
  have cG0 : w7.cell? ⟨w1.heap.size, 0, none⟩ = some (.bool neg) := (blk_cell HG.out 0).trans rfl
  have fG0 := blk_frozen HG.out 0
  have lG7 := blk_lt HG.out
  have cQ0 : w7.cell? ⟨w2.heap.size, 0, none⟩ = some (.slice A2 n2.length c2) := (blk_cell HQ.out 0).trans rfl
  have fQ0 := blk_frozen HQ.out 0
  have lQ7 := blk_lt HQ.out
  have cE0 : w7.cell? ⟨w2.heap.size + 1, 0, none⟩ = some (.int .i64 behind) := (blk_cell HE.out 0).trans rfl
  have fE0 := blk_frozen HE.out 0
  have lE7 := blk_lt HE.out
  have cX0 : w7.cell? ⟨w4.heap.size, 0, none⟩ = some (.int .i64 x) := (blk_cell HX.out 0).trans rfl
  have fX0 := blk_frozen HX.out 0
  have lX7 := blk_lt HX.out
  go_wp2
  have fz : ((w7.setCell ⟨w.heap.size, 0, none⟩ (.int .i64 t0)).setCell ⟨w.heap.size, 1, none⟩ (.int .i64 t1)).heap[w.heap.size]? = some (.cells #[Value.int .i64 t0, Value.int .i64 t1] 23 (0, 0)) := heap_setCell_same _ _ 1 _ _ _ (heap_setCell_same _ _ 0 _ _ _ (HZ.out))
  refine bodyPost_ret (results_ct rfl _ _ (w.heap.size) 23 #[.int .i64 t0, .int .i64 t1] (0, 0) _ rfl fz Tryz.underlying23 rfl (by kernel_rfl)) rfl ?_
  exact ⟨rfl, ((HB.out).setCell (p := ⟨w.heap.size, 0, none⟩) (by simp only; omega) _).setCell (p := ⟨w.heap.size, 1, none⟩) (by simp only; omega) _⟩
end Go.Proofs.YteigbokklclmbaaGreatDoor.Z
end
section
namespace Go.Proofs.YteigbokklclmbaaGreatDoor.Z
open Go Go.RowKit Go.Proofs.YteigbokklclmbaaGreatDoor.Given Go.Proofs.YteigbokklclmbaaGreatDoorW.PrintWords Go.Proofs.YteigbokklclmbaaGreatDoorW.PrintLast Go.Proofs.YteigbokklclmbaaGreatDoorW.PrintMore
set_option linter.unusedVariables false
set_option linter.unusedSimpArgs false
def parseFin (k : Nat) (neg : Bool) (n : List Int) (exp behind : Int) : Option (Int × Int × Int) :=
  (real_decimal.f k n (wrap64 (exp - behind))).bind fun d => (real_signed.f neg d.1 d.2).bind fun r => some (caughtS r.1 r.2)
def parseExp (k : Nat) (neg : Bool) (n : List Int) (behind : Int) (rest : ByteArray) : Option (Int × Int × Int) :=
  if rest.toList = [] then parseFin k neg n 0 behind else (strings_CutPrefix.f rest eS).bind fun a => (real_exponent.f a.1).bind fun x => if a.2 = true then (if x.2 = true then parseFin k neg n x.1 behind else some (0, 0, 7)) else some (0, 0, 7)
def real_Parse.f (k : Nat) (s : ByteArray) : Option (Int × Int × Int) :=
  if (s.size : Int) > 60 then some (0, 0, 7) else (strings_CutPrefix.f s minusS).bind fun a => (real_number.f k a.1 []).bind fun n => if n.2.1 = 0 then some (0, 0, 7) else
    (strings_CutPrefix.f n.2.2 dotS).bind fun b => if b.2 = true then ((real_number.f k b.1 n.1).bind fun m => if m.2.1 = 0 then some (0, 0, 7) else parseExp k a.2 m.1 m.2.1 m.2.2) else parseExp k a.2 n.1 0 n.2.2
theorem real_number.mono (s : ByteArray) (n : List Int) (k : Nat) : LeO (real_number.f k s n) (real_number.f (k + 1) s n) := LeO.ite (LeO.bind (numL_mono _ _ _) (fun _ => LeO.refl _)) (LeO.refl _)
theorem parseFin_mono (neg : Bool) (n : List Int) (exp behind : Int) (k : Nat) : LeO (parseFin k neg n exp behind) (parseFin (k + 1) neg n exp behind) := LeO.bind (real_decimal.mono _ _ _) (fun _ => LeO.refl _)
theorem parseExp_mono (neg : Bool) (n : List Int) (behind : Int) (rest : ByteArray) (k : Nat) : LeO (parseExp k neg n behind rest) (parseExp (k + 1) neg n behind rest) :=
  LeO.ite (parseFin_mono _ _ _ _ _) (LeO.bind (LeO.refl _) (fun _ => LeO.bind (LeO.refl _) (fun _ => LeO.ite (LeO.ite (parseFin_mono _ _ _ _ _) (LeO.refl _)) (LeO.refl _))))
theorem real_Parse.mono (s : ByteArray) (k : Nat) : LeO (real_Parse.f k s) (real_Parse.f (k + 1) s) :=
  LeO.ite (LeO.refl _) (LeO.bind (LeO.refl _) (fun _ => LeO.bind (real_number.mono _ _ _) (fun _ => LeO.ite (LeO.refl _) (LeO.bind (LeO.refl _) (fun _ => LeO.ite (LeO.bind (real_number.mono _ _ _) (fun _ => LeO.ite (LeO.refl _) (parseExp_mono _ _ _ _ _))) (parseExp_mono _ _ _ _ _))))))
theorem real_Parse.calls (k : Nat) (s : ByteArray) (r1 r2 r3 : Int) (w : World) (h : real_Parse.f k s = some (r1, r2, r3)) :
    Calls Tryz.prog 25 #[.string s] w fun e w' => e = .returned (.tuple #[.agg #[.int .i64 r1, .int .i64 r2], .int .i64 r3]) ∧ Below w.heap.size w w' := by
  unfold real_Parse.f at h
  by_cases hsz : (s.size : Int) > 60
  · rw [if_pos hsz] at h; cases h
    exact parse_E1 k s w hsz
  rw [if_neg hsz] at h
  obtain ⟨⟨rest, neg⟩, hc1, h⟩ := Option.bind_eq_some_iff.mp h
  obtain ⟨⟨n, many, rest2⟩, hn1, h⟩ := Option.bind_eq_some_iff.mp h
  simp only at hn1 h
  by_cases hm : many = 0
  · subst hm
    rw [if_pos rfl] at h; cases h
    exact parse_E2 k s w hsz rest neg hc1 n rest2 hn1
  rw [if_neg hm] at h
  obtain ⟨⟨after, point⟩, hc2, h⟩ := Option.bind_eq_some_iff.mp h
  simp only at hc2 h
  cases point with
  | true =>
    rw [if_pos rfl] at h
    obtain ⟨⟨n2, behind, rest3⟩, hn2, h⟩ := Option.bind_eq_some_iff.mp h
    simp only at hn2 h
    by_cases hb : behind = 0
    · subst hb
      rw [if_pos rfl] at h; cases h
      exact parse_PE3 k s w hsz rest neg hc1 n many rest2 hn1 hm after hc2 n2 rest3 hn2
    rw [if_neg hb] at h
    unfold parseExp at h
    by_cases hr : rest3.toList = []
    · rw [if_pos hr] at h
      obtain ⟨⟨m, y⟩, hd, h⟩ := Option.bind_eq_some_iff.mp h
      obtain ⟨⟨a, b⟩, hg, h⟩ := Option.bind_eq_some_iff.mp h
      exact parse_PZ k s w hsz rest neg hc1 n many rest2 hn1 hm after hc2 n2 behind rest3 hn2 hb hr m y a b r1 r2 r3 hd hg (Option.some.inj h)
    rw [if_neg hr] at h
    obtain ⟨⟨aft, is⟩, hc3, h⟩ := Option.bind_eq_some_iff.mp h
    obtain ⟨⟨x, ok⟩, hx, h⟩ := Option.bind_eq_some_iff.mp h
    simp only at hx h
    cases is with
    | false =>
      rw [if_neg (by decide)] at h; cases h
      exact parse_PB k s w hsz rest neg hc1 n many rest2 hn1 hm after hc2 n2 behind rest3 hn2 hb hr aft x ok hc3 hx
    | true =>
      rw [if_pos rfl] at h
      cases ok with
      | false =>
        rw [if_neg (by decide)] at h; cases h
        exact parse_PC k s w hsz rest neg hc1 n many rest2 hn1 hm after hc2 n2 behind rest3 hn2 hb hr aft x hc3 hx
      | true =>
        rw [if_pos rfl] at h
        obtain ⟨⟨m, y⟩, hd, h⟩ := Option.bind_eq_some_iff.mp h
        obtain ⟨⟨a, b⟩, hg, h⟩ := Option.bind_eq_some_iff.mp h
        exact parse_PF k s w hsz rest neg hc1 n many rest2 hn1 hm after hc2 n2 behind rest3 hn2 hb hr aft x hc3 hx m y a b r1 r2 r3 hd hg (Option.some.inj h)
  | false =>
    rw [if_neg (by decide)] at h
    unfold parseExp at h
    by_cases hr : rest2.toList = []
    · rw [if_pos hr] at h
      obtain ⟨⟨m, y⟩, hd, h⟩ := Option.bind_eq_some_iff.mp h
      obtain ⟨⟨a, b⟩, hg, h⟩ := Option.bind_eq_some_iff.mp h
      exact parse_Z k s w hsz rest neg hc1 n many rest2 hn1 hm after hc2 hr m y a b r1 r2 r3 hd hg (Option.some.inj h)
    rw [if_neg hr] at h
    obtain ⟨⟨aft, is⟩, hc3, h⟩ := Option.bind_eq_some_iff.mp h
    obtain ⟨⟨x, ok⟩, hx, h⟩ := Option.bind_eq_some_iff.mp h
    simp only at hx h
    cases is with
    | false =>
      rw [if_neg (by decide)] at h; cases h
      exact parse_B k s w hsz rest neg hc1 n many rest2 hn1 hm after hc2 hr aft x ok hc3 hx
    | true =>
      rw [if_pos rfl] at h
      cases ok with
      | false =>
        rw [if_neg (by decide)] at h; cases h
        exact parse_C k s w hsz rest neg hc1 n many rest2 hn1 hm after hc2 hr aft x hc3 hx
      | true =>
        rw [if_pos rfl] at h
        obtain ⟨⟨m, y⟩, hd, h⟩ := Option.bind_eq_some_iff.mp h
        obtain ⟨⟨a, b⟩, hg, h⟩ := Option.bind_eq_some_iff.mp h
        exact parse_F k s w hsz rest neg hc1 n many rest2 hn1 hm after hc2 hr aft x hc3 hx m y a b r1 r2 r3 hd hg (Option.some.inj h)
end Go.Proofs.YteigbokklclmbaaGreatDoor.Z
end
section
namespace Go.Proofs.YteigbokklclmbaaGreatDoor.Z
open Go Go.RowKit Go.Proofs.YteigbokklclmbaaGreatDoor.Given Go.Proofs.YteigbokklclmbaaGreatDoorW.PrintWords Go.Proofs.YteigbokklclmbaaGreatDoorW.PrintLast Go.Proofs.YteigbokklclmbaaGreatDoorW.PrintMore
set_option linter.unusedVariables false
set_option linter.unusedSimpArgs false
set_option maxRecDepth 100000
set_option maxHeartbeats 8000000
def real_FromIntN.f (k : Nat) (a0 : Int) : Option (Int × Int) := (real_FromInt.f k a0).bind fun r => if r.2 = 1000 then none else some r
theorem real_FromIntN.mono (a0 : Int) (k : Nat) : LeO (real_FromIntN.f k a0) (real_FromIntN.f (k + 1) a0) := LeO.bind (real_FromInt.mono _ _) (fun _ => LeO.refl _)
theorem real_FromIntN.calls (k : Nat) (a0 : Int) (r1 r2 : Int) (w : World) (h : real_FromIntN.f k a0 = some (r1, r2)) :
    Calls Tryz.prog 31 #[.int .i64 a0] w fun e w' => e = .returned (.agg #[.int .i64 r1, .int .i64 r2]) ∧ Below w.heap.size w w' := by
  obtain ⟨⟨m, x⟩, h1, h2⟩ := Option.bind_eq_some_iff.mp h
  by_cases hx : x = 1000
  · rw [if_pos hx] at h2; cases h2
  · rw [if_neg hx] at h2
    cases h2
    refine (real_FromInt.calls k a0 r1 r2 w h1).mono ?_
    rintro e w' ⟨rfl, hb⟩
    exact ⟨ending_at hx, hb⟩
theorem real_Add.mono (a0 a1 a2 a3 : Int) (k : Nat) : LeO (real_Add.f k a0 a1 a2 a3) (real_Add.f (k + 1) a0 a1 a2 a3) := LeO.bind (LeO.refl _) (fun _ => LeO.bind (LeO.refl _) (fun _ => LeO.ite (LeO.bind (real_sum.mono _ _ _ _ _) (fun _ => LeO.refl _)) (LeO.refl _)))
theorem real_Div.mono (a0 a1 a2 a3 : Int) (k : Nat) : LeO (real_Div.f k a0 a1 a2 a3) (real_Div.f (k + 1) a0 a1 a2 a3) := LeO.bind (LeO.refl _) (fun _ => LeO.bind (LeO.refl _) (fun _ => LeO.ite (LeO.ite (LeO.refl _) (LeO.bind (real_quotient.mono _ _ _ _ _) (fun _ => LeO.refl _))) (LeO.refl _)))
/-- Pow of 0 with an exponent below 0; whatever else it does is not told here. -/
def real_PowZ.f (a0_0 a0_1 a1 : Int) : Option (Int × Int × Int) := if a0_0 = 0 ∧ a0_1 = 0 ∧ a1 < 0 then some (0, 0, 5) else none
theorem real_PowZ.calls (a0_0 a0_1 a1 r1 r2 r3 : Int) (w : World) (h : real_PowZ.f a0_0 a0_1 a1 = some (r1, r2, r3)) :
    Calls Tryz.prog 17 #[.agg #[.int .i64 a0_0, .int .i64 a0_1], .int .i64 a1] w fun e w' => e = .returned (.tuple #[.agg #[.int .i64 r1, .int .i64 r2], .int .i64 r3]) ∧ Below w.heap.size w w' := by
  unfold real_PowZ.f at h
  by_cases hc : a0_0 = 0 ∧ a0_1 = 0 ∧ a1 < 0
  · rw [if_pos hc] at h
    cases h
    obtain ⟨rfl, rfl, hn⟩ := hc
    go_enter Tryz.func17, Tryz.ntmps17
    go_wp2_with fail
    refine (real_Valid.calls 0 0 true _ (by rfl)).mono ?_
    rintro e w1 ⟨rfl, hb⟩
    have hz : w1.heap[w.heap.size + 1 + 1]? = some (.cells #[.int .i64 0, .int .i64 0] 23 (0, 0)) := blk_below (new_at _ _ _ (by simp only [World.size_alloc])) hb
    have kx : w1.heap[w.heap.size]? = some (.cells #[.int .i64 0, .int .i64 0] 23 (0, 0)) := blk_below (blk_alloc (blk_alloc (new_at _ _ _ rfl) _) _) hb
    have kn : w1.heap[w.heap.size + 1]? = some (.cells #[.int .i64 a1] 3 (0, 0)) := blk_below (blk_alloc (new_at _ _ _ (by simp only [World.size_alloc])) _) hb
    have hB : Below w.heap.size w w1 := ((((Below.refl _ w).alloc (Nat.le_refl _) _).alloc (by simp only [World.size_alloc]; omega) _).alloc (by simp only [World.size_alloc]; omega) _).trans (hb.mono (by simp only [World.size_alloc]; omega))
    have x0 : w1.cell? ⟨w.heap.size, 0, none⟩ = some (.int .i64 0) := (blk_cell kx 0).trans rfl
    have n0 : w1.cell? ⟨w.heap.size + 1, 0, none⟩ = some (.int .i64 a1) := (blk_cell kn 0).trans rfl
    have z0 : w1.cell? ⟨w.heap.size + 1 + 1, 0, none⟩ = some (.int .i64 0) := (blk_cell hz 0).trans rfl
    have z1 : w1.cell? ⟨w.heap.size + 1 + 1, 1, none⟩ = some (.int .i64 0) := (blk_cell hz 1).trans rfl
    have f0 := blk_frozen hz 0
    have f1 := blk_frozen hz 1
    have lz := blk_lt hz
    have lx := blk_lt kx
    have ln := blk_lt kn
    clear hb
    go_wp2
    have fz := heap_setCell_same (w1.setCell ⟨w.heap.size + 1 + 1, 0, none⟩ (.int .i64 0)) (w.heap.size + 1 + 1) 1 _ _ (.int .i64 0) (heap_setCell_same w1 (w.heap.size + 1 + 1) 0 _ _ (.int .i64 0) hz)
    refine bodyPost_ret (results_ct rfl _ _ (w.heap.size + 1 + 1) 23 #[.int .i64 0, .int .i64 0] (0, 0) _ rfl fz Tryz.underlying23 rfl (by kernel_rfl)) rfl ?_
    exact ⟨rfl, (hB.setCell (by simp only; omega) _).setCell (by simp only; omega) _⟩
  · rw [if_neg hc] at h; cases h
end Go.Proofs.YteigbokklclmbaaGreatDoor.Z
end
section
namespace Go.Proofs.YteigbokklclmbaaGreatDoor.Z.Y
open Go.RowKit Go.Proofs.YteigbokklclmbaaGreatDoor.Given Go.Proofs.YteigbokklclmbaaGreatDoorW.PrintWords Go.Proofs.YteigbokklclmbaaGreatDoorW.PrintLast Go.Proofs.YteigbokklclmbaaGreatDoorW.PrintMore
attribute [local go_sem] max2_int min2_int max_two min_two max_three min_three max_four min_four   -- for this text's walks alone
set_option linter.unusedVariables false
set_option linter.unusedSimpArgs false



def errW : Option Int → Value
 | none => .nilIface
 | some c => .iface 0 (.int .i64 c)
theorem errW_none : errW none = .nilIface := rfl
theorem errW_some (c : Int) : errW (some c) = .iface 0 (.int .i64 c) := rfl

-- the values' own types

end Go.Proofs.YteigbokklclmbaaGreatDoor.Z.Y
end
section
namespace Go.Proofs.YteigbokklclmbaaGreatDoor.Z.Y
open Go.RowKit Go.Proofs.YteigbokklclmbaaGreatDoor.Given Go.Proofs.YteigbokklclmbaaGreatDoorW.PrintWords Go.Proofs.YteigbokklclmbaaGreatDoorW.PrintLast Go.Proofs.YteigbokklclmbaaGreatDoorW.PrintMore
attribute [local go_sem] max2_int min2_int max_two min_two max_three min_three max_four min_four   -- for this text's walks alone
set_option linter.unusedVariables false
set_option linter.unusedSimpArgs false

theorem eqA23 (d : Nat) (w : World) (x0 y0 : Int) (x1 y1 : Int) :
  (Op.equalIn (d + 2) 23 (.agg #[.int .i64 x0, .int .i64 x1]) (.agg #[.int .i64 y0, .int .i64 y1])).run Tryz.prog w = .ok (x0 == y0 && (x1 == y1)) w := by
 refine eqA_of Tryz.underlying23 (by kernel_rfl) ?_
 refine eqf_cons (by rfl) (by go_simp; rfl) (by go_simp; rfl) (by go_simp) ?_
 exact eqf_last (by rfl) (by go_simp; rfl) (by go_simp; rfl) (by go_simp)
end Go.Proofs.YteigbokklclmbaaGreatDoor.Z.Y
end
section
namespace Go.Proofs.YteigbokklclmbaaGreatDoor.Z.Y
open Go.RowKit Go.Proofs.YteigbokklclmbaaGreatDoor.Given Go.Proofs.YteigbokklclmbaaGreatDoorW.PrintWords Go.Proofs.YteigbokklclmbaaGreatDoorW.PrintLast Go.Proofs.YteigbokklclmbaaGreatDoorW.PrintMore
attribute [local go_sem] max2_int min2_int max_two min_two max_three min_three max_four min_four   -- for this text's walks alone
set_option linter.unusedVariables false
set_option linter.unusedSimpArgs false

def real_at.f (a0 : Int) : Option (Int × Int) := if (mx a0 (wrap64 (-a0))) < 16777216 then (if (mx a0 (wrap64 (-a0))) = 0 then (some (0, 0)) else ((real_signed.f (decide (a0 < 0)) (mx a0 (wrap64 (-a0))) (-150)).bind fun bt175 => (some (bt175.1, bt175.2)))) else ((real_signed.f (decide (a0 < 0)) (wrap64 ((Int.tmod (mx a0 (wrap64 (-a0))) 8388608) + 8388608)) (wrap64 ((wrap64 ((wrap64 (Int.tdiv (mx a0 (wrap64 (-a0))) 8388608)) - 1)) + (-150)))).bind fun bt177 => (some (bt177.1, bt177.2)))
set_option maxHeartbeats 8000000 in
set_option maxRecDepth 100000 in
theorem real_at.calls (a0 : Int) (r1 : Int) (r2 : Int) (w : World) (h : real_at.f a0 = some (r1, r2)) :
  Calls Tryz.prog 111 #[.int .i64 a0] w fun e w' => e = .returned (.agg #[.int .i64 r1, .int .i64 r2]) ∧ Below w.heap.size w w' := by
 have hu23 := Tryz.underlying23
 have HB := Aside0.mk (Below.refl w.heap.size w)
 have H : (if (mx a0 (wrap64 (-a0))) < 16777216 then (if (mx a0 (wrap64 (-a0))) = 0 then (some (0, 0)) else ((real_signed.f (decide (a0 < 0)) (mx a0 (wrap64 (-a0))) (-150)).bind fun bt175 => (some (bt175.1, bt175.2)))) else ((real_signed.f (decide (a0 < 0)) (wrap64 ((Int.tmod (mx a0 (wrap64 (-a0))) 8388608) + 8388608)) (wrap64 ((wrap64 ((wrap64 (Int.tdiv (mx a0 (wrap64 (-a0))) 8388608)) - 1)) + (-150)))).bind fun bt177 => (some (bt177.1, bt177.2)))) = some (r1, r2) := h
 clear h
 obtain ⟨ji2, hji2⟩ : ∃ j_ : Int, (mx a0 (wrap64 (-a0))) = j_ := ⟨_, rfl⟩
 replace H : (if (ji2) < 16777216 then (if (ji2) = 0 then (some (0, 0)) else ((real_signed.f (decide (a0 < 0)) (ji2) (-150)).bind fun bt175 => (some (bt175.1, bt175.2)))) else ((real_signed.f (decide (a0 < 0)) (wrap64 ((Int.tmod (ji2) 8388608) + 8388608)) (wrap64 ((wrap64 ((wrap64 (Int.tdiv (ji2) 8388608)) - 1)) + (-150)))).bind fun bt177 => (some (bt177.1, bt177.2)))) = some (r1, r2) := by first | (rw [hji2] at H; exact H) | (simp only [hji2] at H ⊢; exact H)
 have hji2_ : (if a0 < (wrap64 (-a0)) then (wrap64 (-a0)) else a0) = ji2 := hji2
 by_cases c3 : (ji2) < 16777216
 ·rw [if_pos c3] at H
  have c3b0 : decide ((ji2) < 16777216) = true := decide_eq_true c3
  clear c3
  by_cases c4 : (ji2) = 0
  ·rw [if_pos c4] at H
   have c4b0 : ((ji2) == 0) = true := beq_iff_eq.mpr c4
   have c4b1 : ((ji2) != 0) = false := bne_eq_false_iff_eq.mpr c4
   clear c4
   simp only [Option.some.injEq, Prod.mk.injEq] at H
   obtain ⟨rfl, rfl⟩ := H
   go_enter Tryz.func111, Tryz.ntmps111
   go_wp2_with (first | ((with_reducible refine gate_dst (N := 2) rfl ?_); refine box_event ?hg (N := 2) ?hd (cs := #[.int .i64 0, .int .i64 0]) (t := 23) ?hr ?_; (case hd => rfl); (case hg => rfl); (case hr => first | (go_simp; done) | (go_simp; rfl)); intro gb174 hg w5 hbox hb; have BK174 := Aside0.mk hbox; have GW174 := ge hg; have GE174 := ge hg; replace HB := bs hb; clear hb hbox hg; have hcz6_0 := c20 BK174; have hcz6_1 := c21 BK174; have hfz6_0 := blk_frozen BK174.out 0; have hfz6_1 := blk_frozen BK174.out 1))
   refine bodyPost_ret (results_cell_row rfl _ _ gb174 23 #[.int .i64 0, .int .i64 0] (0, 0) _ rfl (by (with_reducible repeat (first | refine blk_drewN ?_ _ | refine blk_drew ?_ | refine blk_alloc ?_ _)); refine blk_put (cs := #[.int .i64 0, .int .i64 0]) ?_ 1 _ rfl; (with_reducible repeat (first | refine blk_drewN ?_ _ | refine blk_drew ?_ | refine blk_alloc ?_ _)); refine blk_put (cs := #[.int .i64 0, .int .i64 0]) ?_ 0 _ rfl; (with_reducible repeat (first | refine blk_drewN ?_ _ | refine blk_drew ?_ | refine blk_alloc ?_ _)); exact BK174.out) Tryz.underlying23 rfl (by kernel_rfl)) rfl ?_
   exact ⟨by first | rfl | (simp [errW_none, errW_some] <;> rfl) | (simp only [← hji2]; first | rfl | (simp [errW_none, errW_some] <;> rfl)) | (simp [*, errW_none, errW_some] <;> rfl), bz⟩
  ·rw [if_neg c4] at H
   have c4b0 : ((ji2) == 0) = false := beq_eq_false_iff_ne.mpr c4
   have c4b1 : ((ji2) != 0) = true := bne_iff_ne.mpr c4
   replace H := Option.bind_eq_some_iff.mp H
   obtain ⟨⟨t175, t176⟩, A70, H⟩ := H
   replace H : (some (t175, t176)) = some (r1, r2) := H
   have A7 := Aside0.mk A70
   clear A70
   simp only [Option.some.injEq, Prod.mk.injEq] at H
   obtain ⟨rfl, rfl⟩ := H
   go_enter Tryz.func111, Tryz.ntmps111
   go_wp2_with (first | ((with_reducible refine gate_dst (N := 2) rfl ?_); refine box_event ?hg (N := 2) ?hd (cs := #[.int .i64 0, .int .i64 0]) (t := 23) ?hr ?_; (case hd => rfl); (case hg => rfl); (case hr => first | (go_simp; done) | (go_simp; rfl)); intro gb174 hg w8 hbox hb; have BK174 := Aside0.mk hbox; have GW174 := ge hg; have GE174 := ge hg; replace HB := bs hb; clear hb hbox hg) | ((with_reducible refine gate_callee (f := 80) rfl ?_); refine goesL_ (some 17) rfl rfl Tryz.func80 (by kernel_rfl) rfl #[.bool (decide (a0 < 0)), .agg #[.int .i64 ji2, .int .i64 (-150)]] rfl (by (try simp only [List.map_toArray, List.map_cons, List.map_nil]); first | done | (simp only [hji2]; rfl) | rfl | (simp only [List.length_drop, List.length_take]; rfl)) ?_; (with_reducible refine (real_signed.calls (decide (a0 < 0)) ji2 (-150) t175 t176 _ A7.out).mono ?_); rintro e w9 ⟨rfl, hb⟩; refine ⟨_, rfl, ?_⟩; replace BK174 := kb BK174 hb; replace HB := bs hb; (try clear hb); have hcz10_0 := c20 BK174; have hcz10_1 := c21 BK174; have hfz10_0 := blk_frozen BK174.out 0; have hfz10_1 := blk_frozen BK174.out 1))
   refine bodyPost_ret (results_cell_row rfl _ _ gb174 23 #[.int .i64 t175, .int .i64 t176] (0, 0) _ rfl (by (with_reducible repeat (first | refine blk_drewN ?_ _ | refine blk_drew ?_ | refine blk_alloc ?_ _)); refine blk_put (cs := #[.int .i64 t175, .int .i64 0]) ?_ 1 _ rfl; (with_reducible repeat (first | refine blk_drewN ?_ _ | refine blk_drew ?_ | refine blk_alloc ?_ _)); refine blk_put (cs := #[.int .i64 0, .int .i64 0]) ?_ 0 _ rfl; (with_reducible repeat (first | refine blk_drewN ?_ _ | refine blk_drew ?_ | refine blk_alloc ?_ _)); exact BK174.out) Tryz.underlying23 rfl (by kernel_rfl)) rfl ?_
   exact ⟨by first | rfl | (simp [errW_none, errW_some] <;> rfl) | (simp only [← hji2]; first | rfl | (simp [errW_none, errW_some] <;> rfl)) | (simp [*, errW_none, errW_some] <;> rfl), bz⟩
 ·rw [if_neg c3] at H
  have c3b0 : decide ((ji2) < 16777216) = false := decide_eq_false c3
  clear c3
  replace H := Option.bind_eq_some_iff.mp H
  obtain ⟨⟨t177, t178⟩, A110, H⟩ := H
  replace H : (some (t177, t178)) = some (r1, r2) := H
  have A11 := Aside0.mk A110
  clear A110
  simp only [Option.some.injEq, Prod.mk.injEq] at H
  obtain ⟨rfl, rfl⟩ := H
  go_enter Tryz.func111, Tryz.ntmps111
  go_wp2_with (first | ((with_reducible refine gate_dst (N := 2) rfl ?_); refine box_event ?hg (N := 2) ?hd (cs := #[.int .i64 0, .int .i64 0]) (t := 23) ?hr ?_; (case hd => rfl); (case hg => rfl); (case hr => first | (go_simp; done) | (go_simp; rfl)); intro gb174 hg w12 hbox hb; have BK174 := Aside0.mk hbox; have GW174 := ge hg; have GE174 := ge hg; replace HB := bs hb; clear hb hbox hg) | ((with_reducible refine gate_callee (f := 80) rfl ?_); refine goesL_ (some 28) rfl rfl Tryz.func80 (by kernel_rfl) rfl #[.bool (decide (a0 < 0)), .agg #[.int .i64 (wrap64 ((Int.tmod (ji2) 8388608) + 8388608)), .int .i64 (wrap64 ((wrap64 ((wrap64 (Int.tdiv (ji2) 8388608)) - 1)) + (-150)))]] rfl (by (try simp only [List.map_toArray, List.map_cons, List.map_nil]); first | done | (simp only [hji2]; rfl) | rfl | (simp only [List.length_drop, List.length_take]; rfl)) ?_; (with_reducible refine (real_signed.calls (decide (a0 < 0)) (wrap64 ((Int.tmod (ji2) 8388608) + 8388608)) (wrap64 ((wrap64 ((wrap64 (Int.tdiv (ji2) 8388608)) - 1)) + (-150))) t177 t178 _ A11.out).mono ?_); rintro e w13 ⟨rfl, hb⟩; refine ⟨_, rfl, ?_⟩; replace BK174 := kb BK174 hb; replace HB := bs hb; (try clear hb); have hcz14_0 := c20 BK174; have hcz14_1 := c21 BK174; have hfz14_0 := blk_frozen BK174.out 0; have hfz14_1 := blk_frozen BK174.out 1))
  refine bodyPost_ret (results_cell_row rfl _ _ gb174 23 #[.int .i64 t177, .int .i64 t178] (0, 0) _ rfl (by (with_reducible repeat (first | refine blk_drewN ?_ _ | refine blk_drew ?_ | refine blk_alloc ?_ _)); refine blk_put (cs := #[.int .i64 t177, .int .i64 0]) ?_ 1 _ rfl; (with_reducible repeat (first | refine blk_drewN ?_ _ | refine blk_drew ?_ | refine blk_alloc ?_ _)); refine blk_put (cs := #[.int .i64 0, .int .i64 0]) ?_ 0 _ rfl; (with_reducible repeat (first | refine blk_drewN ?_ _ | refine blk_drew ?_ | refine blk_alloc ?_ _)); exact BK174.out) Tryz.underlying23 rfl (by kernel_rfl)) rfl ?_
  exact ⟨by first | rfl | (simp [errW_none, errW_some] <;> rfl) | (simp only [← hji2]; first | rfl | (simp [errW_none, errW_some] <;> rfl)) | (simp [*, errW_none, errW_some] <;> rfl), bz⟩

def real_At.f (a0 : Int) : Option (Int × Int × Int) := if a0 < (-2533359615) then (some (0, 0, 1)) else (if a0 > 2533359615 then (some (0, 0, 1)) else ((real_at.f a0).bind fun bt180 => (some (bt180.1, bt180.2, 0))))
set_option maxHeartbeats 8000000 in
set_option maxRecDepth 100000 in
theorem real_At.calls (a0 : Int) (r1 : Int) (r2 : Int) (r3 : Int) (w : World) (h : real_At.f a0 = some (r1, r2, r3)) :
  Calls Tryz.prog 55 #[.int .i64 a0] w fun e w' => e = .returned (.tuple #[.agg #[.int .i64 r1, .int .i64 r2], .int .i64 r3]) ∧ Below w.heap.size w w' := by
 have hu23 := Tryz.underlying23
 have HB := Aside0.mk (Below.refl w.heap.size w)
 have H : (if a0 < (-2533359615) then (some (0, 0, 1)) else (if a0 > 2533359615 then (some (0, 0, 1)) else ((real_at.f a0).bind fun bt180 => (some (bt180.1, bt180.2, 0))))) = some (r1, r2, r3) := h
 clear h
 by_cases c2 : a0 < (-2533359615)
 ·rw [if_pos c2] at H
  have c2b0 : decide (a0 < (-2533359615)) = true := decide_eq_true c2
  clear c2
  simp only [Option.some.injEq, Prod.mk.injEq] at H
  obtain ⟨rfl, rfl, rfl⟩ := H
  go_enter Tryz.func55, Tryz.ntmps55
  go_wp2_with (first | ((with_reducible refine gate_dst (N := 2) rfl ?_); refine box_event ?hg (N := 2) ?hd (cs := #[.int .i64 0, .int .i64 0]) (t := 23) ?hr ?_; (case hd => rfl); (case hg => rfl); (case hr => first | (go_simp; done) | (go_simp; rfl)); intro gb179 hg w3 hbox hb; have BK179 := Aside0.mk hbox; have GW179 := ge hg; have GE179 := ge hg; replace HB := bs hb; clear hb hbox hg; have hcz4_0 := c20 BK179; have hcz4_1 := c21 BK179; have hfz4_0 := blk_frozen BK179.out 0; have hfz4_1 := blk_frozen BK179.out 1))
  refine bodyPost_ret (results_ct rfl _ _ gb179 23 #[.int .i64 0, .int .i64 0] (0, 0) _ rfl (by (with_reducible repeat (first | refine blk_drewN ?_ _ | refine blk_drew ?_ | refine blk_alloc ?_ _)); refine blk_put (cs := #[.int .i64 0, .int .i64 0]) ?_ 1 _ rfl; (with_reducible repeat (first | refine blk_drewN ?_ _ | refine blk_drew ?_ | refine blk_alloc ?_ _)); refine blk_put (cs := #[.int .i64 0, .int .i64 0]) ?_ 0 _ rfl; (with_reducible repeat (first | refine blk_drewN ?_ _ | refine blk_drew ?_ | refine blk_alloc ?_ _)); exact BK179.out) Tryz.underlying23 rfl (by kernel_rfl)) rfl ?_
  exact ⟨by first | rfl | (simp [errW_none, errW_some] <;> rfl) | (simp [*, errW_none, errW_some] <;> rfl), bz⟩
 ·rw [if_neg c2] at H
  have c2b0 : decide (a0 < (-2533359615)) = false := decide_eq_false c2
  clear c2
  by_cases c5 : a0 > 2533359615
  ·rw [if_pos c5] at H
   have c5b0 : decide (2533359615 < a0) = true := decide_eq_true c5
   clear c5
   simp only [Option.some.injEq, Prod.mk.injEq] at H
   obtain ⟨rfl, rfl, rfl⟩ := H
   go_enter Tryz.func55, Tryz.ntmps55
   go_wp2_with (first | ((with_reducible refine gate_dst (N := 2) rfl ?_); refine box_event ?hg (N := 2) ?hd (cs := #[.int .i64 0, .int .i64 0]) (t := 23) ?hr ?_; (case hd => rfl); (case hg => rfl); (case hr => first | (go_simp; done) | (go_simp; rfl)); intro gb179 hg w6 hbox hb; have BK179 := Aside0.mk hbox; have GW179 := ge hg; have GE179 := ge hg; replace HB := bs hb; clear hb hbox hg; have hcz7_0 := c20 BK179; have hcz7_1 := c21 BK179; have hfz7_0 := blk_frozen BK179.out 0; have hfz7_1 := blk_frozen BK179.out 1))
   refine bodyPost_ret (results_ct rfl _ _ gb179 23 #[.int .i64 0, .int .i64 0] (0, 0) _ rfl (by (with_reducible repeat (first | refine blk_drewN ?_ _ | refine blk_drew ?_ | refine blk_alloc ?_ _)); refine blk_put (cs := #[.int .i64 0, .int .i64 0]) ?_ 1 _ rfl; (with_reducible repeat (first | refine blk_drewN ?_ _ | refine blk_drew ?_ | refine blk_alloc ?_ _)); refine blk_put (cs := #[.int .i64 0, .int .i64 0]) ?_ 0 _ rfl; (with_reducible repeat (first | refine blk_drewN ?_ _ | refine blk_drew ?_ | refine blk_alloc ?_ _)); exact BK179.out) Tryz.underlying23 rfl (by kernel_rfl)) rfl ?_
   exact ⟨by first | rfl | (simp [errW_none, errW_some] <;> rfl) | (simp [*, errW_none, errW_some] <;> rfl), bz⟩
  ·rw [if_neg c5] at H
   have c5b0 : decide (2533359615 < a0) = false := decide_eq_false c5
   clear c5
   replace H := Option.bind_eq_some_iff.mp H
   obtain ⟨⟨t180, t181⟩, A80, H⟩ := H
   replace H : (some (t180, t181, 0)) = some (r1, r2, r3) := H
   have A8 := Aside0.mk A80
   clear A80
   simp only [Option.some.injEq, Prod.mk.injEq] at H
   obtain ⟨rfl, rfl, rfl⟩ := H
   go_enter Tryz.func55, Tryz.ntmps55
   go_wp2_with (first | ((with_reducible refine gate_dst (N := 2) rfl ?_); refine box_event ?hg (N := 2) ?hd (cs := #[.int .i64 0, .int .i64 0]) (t := 23) ?hr ?_; (case hd => rfl); (case hg => rfl); (case hr => first | (go_simp; done) | (go_simp; rfl)); intro gb179 hg w9 hbox hb; have BK179 := Aside0.mk hbox; have GW179 := ge hg; have GE179 := ge hg; replace HB := bs hb; clear hb hbox hg) | ((with_reducible refine gate_callee (f := 111) rfl ?_); refine goesL_ (some 12) rfl rfl Tryz.func111 (by kernel_rfl) rfl #[.int .i64 a0] rfl az ?_; (with_reducible refine (real_at.calls a0 t180 t181 _ A8.out).mono ?_); rintro e w10 ⟨rfl, hb⟩; refine ⟨_, rfl, ?_⟩; replace BK179 := kb BK179 hb; replace HB := bs hb; (try clear hb); have hcz11_0 := c20 BK179; have hcz11_1 := c21 BK179; have hfz11_0 := blk_frozen BK179.out 0; have hfz11_1 := blk_frozen BK179.out 1))
   refine bodyPost_ret (results_ct rfl _ _ gb179 23 #[.int .i64 t180, .int .i64 t181] (0, 0) _ rfl (by (with_reducible repeat (first | refine blk_drewN ?_ _ | refine blk_drew ?_ | refine blk_alloc ?_ _)); refine blk_put (cs := #[.int .i64 t180, .int .i64 0]) ?_ 1 _ rfl; (with_reducible repeat (first | refine blk_drewN ?_ _ | refine blk_drew ?_ | refine blk_alloc ?_ _)); refine blk_put (cs := #[.int .i64 0, .int .i64 0]) ?_ 0 _ rfl; (with_reducible repeat (first | refine blk_drewN ?_ _ | refine blk_drew ?_ | refine blk_alloc ?_ _)); exact BK179.out) Tryz.underlying23 rfl (by kernel_rfl)) rfl ?_
   exact ⟨by first | rfl | (simp [errW_none, errW_some] <;> rfl) | (simp [*, errW_none, errW_some] <;> rfl), bz⟩

def manorboylaw02_at.f (a0 : Int) : Option (Int × Int) := (real_At.f (Int.tmod a0 2533359616)).bind fun bt183 => (some (bt183.1, bt183.2.1))
set_option maxHeartbeats 8000000 in
set_option maxRecDepth 100000 in
theorem manorboylaw02_at.calls (a0 : Int) (r1 : Int) (r2 : Int) (w : World) (h : manorboylaw02_at.f a0 = some (r1, r2)) :
  Calls Tryz.prog 38 #[.int .i64 a0] w fun e w' => e = .returned (.agg #[.int .i64 r1, .int .i64 r2]) ∧ Below w.heap.size w w' := by
 have hu23 := Tryz.underlying23
 have HB := Aside0.mk (Below.refl w.heap.size w)
 have H : ((real_At.f (Int.tmod a0 2533359616)).bind fun bt183 => (some (bt183.1, bt183.2.1))) = some (r1, r2) := h
 clear h
 replace H := Option.bind_eq_some_iff.mp H
 obtain ⟨⟨t183, t184, t185⟩, A20, H⟩ := H
 replace H : (some (t183, t184)) = some (r1, r2) := H
 have A2 := Aside0.mk A20
 clear A20
 simp only [Option.some.injEq, Prod.mk.injEq] at H
 obtain ⟨rfl, rfl⟩ := H
 go_enter Tryz.func38, Tryz.ntmps38
 go_wp2_with (first | ((with_reducible refine gate_dst (N := 2) rfl ?_); refine box_event ?hg (N := 2) ?hd (cs := #[.int .i64 0, .int .i64 0]) (t := 23) ?hr ?_; (case hd => rfl); (case hg => rfl); (case hr => first | (go_simp; done) | (go_simp; rfl)); intro gb182 hg w3 hbox hb; have BK182 := Aside0.mk hbox; have GW182 := ge hg; have GE182 := ge hg; replace HB := bs hb; clear hb hbox hg) | ((with_reducible refine gate_callee (f := 55) rfl ?_); refine goesL_ (some 8) rfl rfl Tryz.func55 (by kernel_rfl) rfl #[.int .i64 (Int.tmod a0 2533359616)] rfl az ?_; (with_reducible refine (real_At.calls (Int.tmod a0 2533359616) t183 t184 t185 _ A2.out).mono ?_); rintro e w4 ⟨rfl, hb⟩; refine ⟨_, rfl, ?_⟩; replace BK182 := kb BK182 hb; replace HB := bs hb; (try clear hb)) | ((with_reducible refine gate_dst (N := 3) rfl ?_); refine box_event ?hg (N := 3) ?hd (cs := #[.int .i64 0, .int .i64 0]) (t := 23) ?hr ?_; (case hd => rfl); (case hg => rfl); (case hr => first | (go_simp; done) | (go_simp; rfl)); intro gb186 hg w5 hbox hb; have BK186 := Aside0.mk hbox; have GW186 := ge hg; have GE186 := ge hg; have NB182_186 := nl BK182 hg; have NB186_182 := nr BK182 hg; replace BK182 := kb BK182 hb; replace HB := bs hb; clear hb hbox hg; have hnb6 := NB186_182.out; have hnc6 := NB182_186.out; have hcz7_0 := c20 BK186; have hcz7_1 := c21 BK186; have hfz7_0 := blk_frozen BK186.out 0; have hfz7_1 := blk_frozen BK186.out 1; have hcz8_0 := c20 BK182; have hcz8_1 := c21 BK182; have hfz8_0 := blk_frozen BK182.out 0; have hfz8_1 := blk_frozen BK182.out 1))
 refine bodyPost_ret (results_cell_row rfl _ _ gb182 23 #[.int .i64 t183, .int .i64 t184] (0, 0) _ rfl (by (with_reducible repeat (first | refine blk_drewN ?_ _ | refine blk_drew ?_ | refine blk_alloc ?_ _)); refine blk_put (cs := #[.int .i64 t183, .int .i64 0]) ?_ 1 _ rfl; (with_reducible repeat (first | refine blk_drewN ?_ _ | refine blk_drew ?_ | refine blk_alloc ?_ _)); refine blk_put (cs := #[.int .i64 0, .int .i64 0]) ?_ 0 _ rfl; (with_reducible repeat (first | refine blk_drewN ?_ _ | refine blk_drew ?_ | refine blk_alloc ?_ _)); refine blk_far ?_ NB182_186.out _; (with_reducible repeat (first | refine blk_drewN ?_ _ | refine blk_drew ?_ | refine blk_alloc ?_ _)); refine blk_far ?_ NB182_186.out _; (with_reducible repeat (first | refine blk_drewN ?_ _ | refine blk_drew ?_ | refine blk_alloc ?_ _)); exact BK182.out) Tryz.underlying23 rfl (by kernel_rfl)) rfl ?_
 exact ⟨by first | rfl | (simp [errW_none, errW_some] <;> rfl) | (simp [*, errW_none, errW_some] <;> rfl), bz⟩

-- NOT PRINTED: function 163 (api_Real_163)

-- NOT PRINTED: function 143 (api_Real_143)

-- NOT PRINTED: function 99 (real_all)

def real_sign.f (a0 : Int) : Option (Int) := if a0 < 0 then (some (-1)) else (if a0 > 0 then (some 1) else (some 0))
set_option maxHeartbeats 8000000 in
set_option maxRecDepth 100000 in
theorem real_sign.calls (a0 : Int) (r : Int) (w : World) (h : real_sign.f a0 = some r) :
  Calls Tryz.prog 109 #[.int .i64 a0] w fun e w' => e = .returned (.int .i64 r) ∧ Drawn0 w w' := by
 have H : (if a0 < 0 then (some (-1)) else (if a0 > 0 then (some 1) else (some 0))) = some r := h
 clear h
 by_cases c2 : a0 < 0
 ·rw [if_pos c2] at H
  have c2b0 : decide (a0 < 0) = true := decide_eq_true c2
  clear c2
  obtain rfl := Option.some.inj H
  go_enter Tryz.func109, Tryz.ntmps109
  go_wp2
  go_ret
  exact ⟨by first | rfl | (simp; done) | (simp [*]; done) | (exfalso; simp at *; done), by repeat (first | exact Drawn0.refl _ | apply Drawn0.step)⟩
 ·rw [if_neg c2] at H
  have c2b0 : decide (a0 < 0) = false := decide_eq_false c2
  clear c2
  by_cases c3 : a0 > 0
  ·rw [if_pos c3] at H
   have c3b0 : decide (0 < a0) = true := decide_eq_true c3
   clear c3
   obtain rfl := Option.some.inj H
   go_enter Tryz.func109, Tryz.ntmps109
   go_wp2
   go_ret
   exact ⟨by first | rfl | (simp; done) | (simp [*]; done) | (exfalso; simp at *; done), by repeat (first | exact Drawn0.refl _ | apply Drawn0.step)⟩
  ·rw [if_neg c3] at H
   have c3b0 : decide (0 < a0) = false := decide_eq_false c3
   clear c3
   obtain rfl := Option.some.inj H
   go_enter Tryz.func109, Tryz.ntmps109
   go_wp2
   go_ret
   exact ⟨by first | rfl | (simp; done) | (simp [*]; done) | (exfalso; simp at *; done), by repeat (first | exact Drawn0.refl _ | apply Drawn0.step)⟩

def real_index.f (a0_0 : Int) (a0_1 : Int) : Option (Int) := if a0_0 = 0 then (some 0) else (if a0_0 < 0 then (some (wrap64 (-(wrap64 ((mx a0_0 (wrap64 (-a0_0))) + (wrap64 ((wrap64 (a0_1 - (-150))) * 8388608))))))) else (some (wrap64 ((mx a0_0 (wrap64 (-a0_0))) + (wrap64 ((wrap64 (a0_1 - (-150))) * 8388608))))))
set_option maxHeartbeats 8000000 in
set_option maxRecDepth 100000 in
theorem real_index.calls (a0_0 : Int) (a0_1 : Int) (r : Int) (w : World) (h : real_index.f a0_0 a0_1 = some r) :
  Calls Tryz.prog 110 #[.agg #[.int .i64 a0_0, .int .i64 a0_1]] w fun e w' => e = .returned (.int .i64 r) ∧ Below w.heap.size w w' := by
 have hu23 := Tryz.underlying23
 have HB := Aside0.mk (Below.refl w.heap.size w)
 have H : (if a0_0 = 0 then (some 0) else (if a0_0 < 0 then (some (wrap64 (-(wrap64 ((mx a0_0 (wrap64 (-a0_0))) + (wrap64 ((wrap64 (a0_1 - (-150))) * 8388608))))))) else (some (wrap64 ((mx a0_0 (wrap64 (-a0_0))) + (wrap64 ((wrap64 (a0_1 - (-150))) * 8388608))))))) = some r := h
 clear h
 by_cases c2 : a0_0 = 0
 ·rw [if_pos c2] at H
  have c2b0 : (a0_0 == 0) = true := beq_iff_eq.mpr c2
  have c2b1 : (a0_0 != 0) = false := bne_eq_false_iff_eq.mpr c2
  clear c2
  obtain rfl := Option.some.inj H
  go_enter Tryz.func110, Tryz.ntmps110
  go_wp2_with (first | ((with_reducible refine gate_dst (N := 1) rfl ?_); refine box_event ?hg (N := 1) ?hd (cs := #[.int .i64 a0_0, .int .i64 a0_1]) (t := 23) ?hr ?_; (case hd => rfl); (case hg => rfl); (case hr => first | (go_simp; done) | (go_simp; rfl)); intro gb187 hg w3 hbox hb; have BK187 := Aside0.mk hbox; have GW187 := ge hg; have GE187 := ge hg; replace HB := bs hb; clear hb hbox hg; have hcz4_0 := c20 BK187; have hcz4_1 := c21 BK187; have hfz4_0 := blk_frozen BK187.out 0; have hfz4_1 := blk_frozen BK187.out 1))
  go_ret
  exact ⟨by first | rfl | (simp [errW_none, errW_some] <;> rfl) | (simp [*, errW_none, errW_some] <;> rfl), bz⟩
 ·rw [if_neg c2] at H
  have c2b0 : (a0_0 == 0) = false := beq_eq_false_iff_ne.mpr c2
  have c2b1 : (a0_0 != 0) = true := bne_iff_ne.mpr c2
  obtain ⟨ji5, hji5⟩ : ∃ j_ : Int, (mx a0_0 (wrap64 (-a0_0))) = j_ := ⟨_, rfl⟩
  replace H : (if a0_0 < 0 then (some (wrap64 (-(wrap64 ((ji5) + (wrap64 ((wrap64 (a0_1 - (-150))) * 8388608))))))) else (some (wrap64 ((ji5) + (wrap64 ((wrap64 (a0_1 - (-150))) * 8388608)))))) = some r := by first | (rw [hji5] at H; exact H) | (simp only [hji5] at H ⊢; exact H)
  have hji5_ : (if a0_0 < (wrap64 (-a0_0)) then (wrap64 (-a0_0)) else a0_0) = ji5 := hji5
  by_cases c6 : a0_0 < 0
  ·rw [if_pos c6] at H
   have c6b0 : decide (a0_0 < 0) = true := decide_eq_true c6
   clear c6
   obtain rfl := Option.some.inj H
   go_enter Tryz.func110, Tryz.ntmps110
   go_wp2_with (first | ((with_reducible refine gate_dst (N := 1) rfl ?_); refine box_event ?hg (N := 1) ?hd (cs := #[.int .i64 a0_0, .int .i64 a0_1]) (t := 23) ?hr ?_; (case hd => rfl); (case hg => rfl); (case hr => first | (go_simp; done) | (go_simp; rfl)); intro gb187 hg w7 hbox hb; have BK187 := Aside0.mk hbox; have GW187 := ge hg; have GE187 := ge hg; replace HB := bs hb; clear hb hbox hg; have hcz8_0 := c20 BK187; have hcz8_1 := c21 BK187; have hfz8_0 := blk_frozen BK187.out 0; have hfz8_1 := blk_frozen BK187.out 1))
   go_ret
   exact ⟨by first | rfl | (simp [errW_none, errW_some] <;> rfl) | (simp only [← hji5]; first | rfl | (simp [errW_none, errW_some] <;> rfl)) | (simp [*, errW_none, errW_some] <;> rfl), bz⟩
  ·rw [if_neg c6] at H
   have c6b0 : decide (a0_0 < 0) = false := decide_eq_false c6
   clear c6
   obtain rfl := Option.some.inj H
   go_enter Tryz.func110, Tryz.ntmps110
   go_wp2_with (first | ((with_reducible refine gate_dst (N := 1) rfl ?_); refine box_event ?hg (N := 1) ?hd (cs := #[.int .i64 a0_0, .int .i64 a0_1]) (t := 23) ?hr ?_; (case hd => rfl); (case hg => rfl); (case hr => first | (go_simp; done) | (go_simp; rfl)); intro gb187 hg w9 hbox hb; have BK187 := Aside0.mk hbox; have GW187 := ge hg; have GE187 := ge hg; replace HB := bs hb; clear hb hbox hg; have hcz10_0 := c20 BK187; have hcz10_1 := c21 BK187; have hfz10_0 := blk_frozen BK187.out 0; have hfz10_1 := blk_frozen BK187.out 1))
   go_ret
   exact ⟨by first | rfl | (simp [errW_none, errW_some] <;> rfl) | (simp only [← hji5]; first | rfl | (simp [errW_none, errW_some] <;> rfl)) | (simp [*, errW_none, errW_some] <;> rfl), bz⟩

-- NOT PRINTED: function 48 (real_Cmp)

-- NOT PRINTED: function 13 (manorboylaw02_RealOrder)

end Go.Proofs.YteigbokklclmbaaGreatDoor.Z.Y
end
section
namespace Go.Proofs.YteigbokklclmbaaGreatDoor.Z.Y
open Go.RowKit Go.Proofs.YteigbokklclmbaaGreatDoor.Given Go.Proofs.YteigbokklclmbaaGreatDoorW.PrintWords Go.Proofs.YteigbokklclmbaaGreatDoorW.PrintLast Go.Proofs.YteigbokklclmbaaGreatDoorW.PrintMore
attribute [local go_sem] max2_int min2_int max_two min_two max_three min_three max_four min_four   -- for this text's walks alone
set_option linter.unusedVariables false
set_option linter.unusedSimpArgs false

attribute [local go_sem high] eqA23
def manorboylaw02_sanity.j0 : Nat → Bool → Option (Bool)
 | 0, _ => none
 | k + 1, x60 => if x60 = true then (some false) else ((real_Entier.f (-12582912) (-23)).bind fun bt127 => ((real_Round.f 10485760 (-22)).bind fun bt129 => ((real_Parse.f k (⟨#[49, 101, 54, 48]⟩ : ByteArray)).bind fun bt131 => ((real_PowZ.f 0 0 (-1)).bind fun bt134 => ((real_Print.f k 1 (-150)).bind fun bt137 => (if bt127.2 = 0 then (if bt129.2 = 0 then (if bt127.1 = (-2) then (if bt129.1 = 3 then (if bt131.2.2 = 3 then (if bt134.2.2 = 5 then (if bt137.2 = 0 then (if bt137.1.toList = ([55, 46, 48, 101, 45, 52, 54] : List UInt8) then ((real_FromIntN.f k 16777217).bind fun bt139 => ((manorboylaw02_two.f 24).bind fun bt141 => (some (bt139.1 == bt141.1 && (bt139.2 == bt141.2))))) else (some false)) else (some false)) else (some false)) else (some false)) else (some false)) else (some false)) else (some false)) else (some false)))))))
def manorboylaw02_sanity.f (k : Nat)  : Option (Bool) := (manorboylaw02_two.f 0).bind fun bt102 => ((manorboylaw02_two.f (-24)).bind fun bt104 => ((real_Add.f k bt102.1 bt102.2 bt104.1 bt104.2).bind fun bt106 => ((manorboylaw02_two.f 0).bind fun bt110 => ((real_Div.f k bt110.1 bt110.2 12582912 (-22)).bind fun bt112 => ((real_Parse.f k (⟨#[48, 46, 49]⟩ : ByteArray)).bind fun bt116 => ((real_Print.f k bt112.1 bt112.2.1).bind fun bt120 => ((manorboylaw02_two.f 0).bind fun bt122 => ((manorboylaw02_is.f bt106.1 bt106.2.1 bt106.2.2 bt122.1 bt122.2).bind fun t124 => (if t124 = true then ((manorboylaw02_is.f bt112.1 bt112.2.1 bt112.2.2 11184811 (-25)).bind fun t125 => (if t125 = true then ((manorboylaw02_is.f bt116.1 bt116.2.1 bt116.2.2 13421773 (-27)).bind fun t126 => (if t126 = true then (if bt120.2 = 0 then (manorboylaw02_sanity.j0 k (bt120.1.toList != ([48, 46, 51, 51, 51, 51, 51, 51, 51, 52] : List UInt8))) else (manorboylaw02_sanity.j0 k true)) else (manorboylaw02_sanity.j0 k true))) else (manorboylaw02_sanity.j0 k true))) else (manorboylaw02_sanity.j0 k true))))))))))
theorem manorboylaw02_sanity.mono_l : ∀ k, (∀ y0, LeO (manorboylaw02_sanity.j0 k y0) (manorboylaw02_sanity.j0 (k + 1) y0))
 | 0 => fun _ r h => by simp [manorboylaw02_sanity.j0] at h
 | k + 1 => by
  have ih0 := manorboylaw02_sanity.mono_l k
  ·intro y0
   unfold manorboylaw02_sanity.j0
   repeat' first
   | (with_reducible exact ih0 _)
   | (with_reducible exact real_Add.mono _ _ _ _ _)
   | (with_reducible exact real_Div.mono _ _ _ _ _)
   | (with_reducible exact real_FromIntN.mono _ _)
   | (with_reducible exact real_Parse.mono _ _)
   | (with_reducible exact real_Print.mono _ _ _)
   | (with_reducible exact LeO.refl _)
   | (with_reducible exact LeO.none _)
   | (with_reducible refine LeO.ite ?_ ?_)
   | (with_reducible refine LeO.bind ?_ (fun _ => ?_))
   | exact ih0 _
   | exact real_Add.mono _ _ _ _ _
   | exact real_Div.mono _ _ _ _ _
   | exact real_FromIntN.mono _ _
   | exact real_Parse.mono _ _
   | exact real_Print.mono _ _ _
   | exact LeO.none _
   | refine LeO.ite ?_ ?_
   | refine LeO.bind ?_ (fun _ => ?_)
theorem manorboylaw02_sanity.mono : ∀ k, LeO (manorboylaw02_sanity.f k ) (manorboylaw02_sanity.f (k + 1) ) := by
 intro  k
 have ih0 := manorboylaw02_sanity.mono_l k
 unfold manorboylaw02_sanity.f
 repeat' first
   | (with_reducible exact ih0 _)
   | (with_reducible exact real_Add.mono _ _ _ _ _)
   | (with_reducible exact real_Div.mono _ _ _ _ _)
   | (with_reducible exact real_FromIntN.mono _ _)
   | (with_reducible exact real_Parse.mono _ _)
   | (with_reducible exact real_Print.mono _ _ _)
   | (with_reducible exact LeO.refl _)
   | (with_reducible exact LeO.none _)
   | (with_reducible refine LeO.ite ?_ ?_)
   | (with_reducible refine LeO.bind ?_ (fun _ => ?_))
   | exact ih0 _
   | exact real_Add.mono _ _ _ _ _
   | exact real_Div.mono _ _ _ _ _
   | exact real_FromIntN.mono _ _
   | exact real_Parse.mono _ _
   | exact real_Print.mono _ _ _
   | exact LeO.none _
   | refine LeO.ite ?_ ?_
   | refine LeO.bind ?_ (fun _ => ?_)
def manorboylaw02_sanity.T5 : Bool × List (List Nat × List Nat) := (true, [([], []), ([], []), ([], []), ([0, 1, 2, 2], [0, 1, 2]), ([3], [3]), ([4, 3], [4]), ([5], [5]), ([5], [5]), ([5], [5]), ([6, 7, 8, 5, 5], [5, 6, 7, 8]), ([9, 5], [5, 9]), ([5, 10], [5, 10]), ([11, 9], [11]), ([12], [12]), ([12], [12]), ([12], [12]), ([13, 14, 15, 12, 12], [12, 13, 14, 15]), ([16, 12], [12, 16]), ([12, 17], [12, 17]), ([18, 16], [18]), ([19], [19]), ([20, 19], [19, 20]), ([19, 21], [19, 21]), ([22, 19], [22]), ([23], [23]), ([24, 23], [23, 24]), ([23, 25], [23, 25])])
def manorboylaw02_sanity.B5 : List Nat := [0, 0, 0, 7, 15, 31, 63, 63, 63, 511, 1023, 2047, 4095, 8191, 8191, 8191, 65535, 131071, 262143, 524287, 1048575, 2097151, 4194303, 8388607, 16777215, 33554431, 67108863]
theorem manorboylaw02_sanity.tab5 : rtab .any (opsOf Tryz.f19 5) = manorboylaw02_sanity.T5 := by kernel_rfl
theorem manorboylaw02_sanity.bits5 : waitsOk manorboylaw02_sanity.T5.2 manorboylaw02_sanity.B5 = true := by kernel_rfl
theorem manorboylaw02_sanity.no : ∀ k, manorboylaw02_sanity.j0 k true ≠ some true
 | 0, h => by simp [manorboylaw02_sanity.j0] at h
 | k + 1, h => by simp [manorboylaw02_sanity.j0] at h
set_option maxHeartbeats 8000000 in
set_option maxRecDepth 100000 in
theorem manorboylaw02_sanity.calls (k : Nat)  (r : Bool) (w : World) (h : manorboylaw02_sanity.f k  = some r) (hr : r = true) (ht : Table w) :
  Calls Tryz.prog 19 #[] w fun e w' => e = .returned (.bool r) ∧ Below w.heap.size w w' := by
 have hu23 := Tryz.underlying23
 have HB := Aside0.mk (Below.refl w.heap.size w)
 have HT := Aside0.mk (Lib.tabBelow_of_tabIs ht)
 clear ht
 have H : ((manorboylaw02_two.f 0).bind fun bt102 => ((manorboylaw02_two.f (-24)).bind fun bt104 => ((real_Add.f k bt102.1 bt102.2 bt104.1 bt104.2).bind fun bt106 => ((manorboylaw02_two.f 0).bind fun bt110 => ((real_Div.f k bt110.1 bt110.2 12582912 (-22)).bind fun bt112 => ((real_Parse.f k (⟨#[48, 46, 49]⟩ : ByteArray)).bind fun bt116 => ((real_Print.f k bt112.1 bt112.2.1).bind fun bt120 => ((manorboylaw02_two.f 0).bind fun bt122 => ((manorboylaw02_is.f bt106.1 bt106.2.1 bt106.2.2 bt122.1 bt122.2).bind fun t124 => (if t124 = true then ((manorboylaw02_is.f bt112.1 bt112.2.1 bt112.2.2 11184811 (-25)).bind fun t125 => (if t125 = true then ((manorboylaw02_is.f bt116.1 bt116.2.1 bt116.2.2 13421773 (-27)).bind fun t126 => (if t126 = true then (if bt120.2 = 0 then (manorboylaw02_sanity.j0 k (bt120.1.toList != ([48, 46, 51, 51, 51, 51, 51, 51, 51, 52] : List UInt8))) else (manorboylaw02_sanity.j0 k true)) else (manorboylaw02_sanity.j0 k true))) else (manorboylaw02_sanity.j0 k true))) else (manorboylaw02_sanity.j0 k true))))))))))) = some r := h
 clear h
 replace H := Option.bind_eq_some_iff.mp H
 obtain ⟨⟨t102, t103⟩, A10, H⟩ := H
 try dsimp only at H
 have A1 := Aside0.mk A10
 clear A10
 replace H := Option.bind_eq_some_iff.mp H
 obtain ⟨⟨t104, t105⟩, A20, H⟩ := H
 try dsimp only at H
 have A2 := Aside0.mk A20
 clear A20
 replace H := Option.bind_eq_some_iff.mp H
 obtain ⟨⟨t106, t107, t108⟩, A30, H⟩ := H
 try dsimp only at H
 have A3 := Aside0.mk A30
 clear A30
 replace H := Option.bind_eq_some_iff.mp H
 obtain ⟨⟨t110, t111⟩, A40, H⟩ := H
 try dsimp only at H
 have A4 := Aside0.mk A40
 clear A40
 replace H := Option.bind_eq_some_iff.mp H
 obtain ⟨⟨t112, t113, t114⟩, A50, H⟩ := H
 try dsimp only at H
 have A5 := Aside0.mk A50
 clear A50
 replace H := Option.bind_eq_some_iff.mp H
 obtain ⟨⟨t116, t117, t118⟩, A60, H⟩ := H
 try dsimp only at H
 have A6 := Aside0.mk A60
 clear A60
 replace H := Option.bind_eq_some_iff.mp H
 obtain ⟨⟨t120, t121⟩, A70, H⟩ := H
 try dsimp only at H
 have A7 := Aside0.mk A70
 clear A70
 have HC8 := Aside0.mk H
 clear H
 go_enter Tryz.func19, Tryz.ntmps19
 go_upto_region 5 with (first | ((with_reducible refine gate_callee (f := 49) rfl ?_); refine goesL_ (some 14) rfl rfl Tryz.func49 (by kernel_rfl) rfl #[.int .i64 0] rfl az ?_; (with_reducible refine (manorboylaw02_two.calls 0 t102 t103 _ A1.out).mono ?_); rintro e w9 ⟨rfl, hb⟩; refine ⟨_, rfl, ?_⟩; replace HB := bs hb; (try clear hb)) | ((with_reducible refine gate_callee (f := 49) rfl ?_); refine goesL_ (some 15) rfl rfl Tryz.func49 (by kernel_rfl) rfl #[.int .i64 (-24)] rfl az ?_; (with_reducible refine (manorboylaw02_two.calls (-24) t104 t105 _ A2.out).mono ?_); rintro e w10 ⟨rfl, hb⟩; refine ⟨_, rfl, ?_⟩; replace HB := bs hb; (try clear hb)) | ((with_reducible refine gate_callee (f := 33) rfl ?_); refine goesL_ (some 16) rfl rfl Tryz.func33 (by kernel_rfl) rfl #[.agg #[.int .i64 t102, .int .i64 t103], .agg #[.int .i64 t104, .int .i64 t105]] rfl az ?_; (with_reducible refine (real_Add.calls k t102 t103 t104 t105 t106 t107 t108 _ A3.out).mono ?_); rintro e w11 ⟨rfl, hb⟩; refine ⟨_, rfl, ?_⟩; replace HB := bs hb; (try clear hb)) | ((with_reducible refine gate_dst (N := 1) rfl ?_); refine box_event ?hg (N := 1) ?hd (cs := #[.int .i64 0, .int .i64 0]) (t := 23) ?hr ?_; (case hd => rfl); (case hg => rfl); (case hr => first | (go_simp; done) | (go_simp; rfl)); intro gb109 hg w12 hbox hb; have BK109 := Aside0.mk hbox; have GW109 := ge hg; have GE109 := ge hg; replace HB := bs hb; clear hb hbox hg; have hcz13_0 := c20 BK109; have hcz13_1 := c21 BK109; have hfz13_0 := blk_frozen BK109.out 0; have hfz13_1 := blk_frozen BK109.out 1) | ((with_reducible refine gate_callee (f := 49) rfl ?_); refine goesL_ (some 20) rfl rfl Tryz.func49 (by kernel_rfl) rfl #[.int .i64 0] rfl az ?_; (with_reducible refine (manorboylaw02_two.calls 0 t110 t111 _ A4.out).mono ?_); rintro e w14 ⟨rfl, hb⟩; refine ⟨_, rfl, ?_⟩; replace BK109 := Aside0.mk (blk_below (g := gb109) (o := .cells #[.int .i64 t106, .int .i64 t107] 23 (0, 0)) (by (with_reducible repeat (first | refine blk_drewN ?_ _ | refine blk_drew ?_ | refine blk_alloc ?_ _)); refine blk_put (cs := #[.int .i64 t106, .int .i64 0]) ?_ 1 _ rfl; (with_reducible repeat (first | refine blk_drewN ?_ _ | refine blk_drew ?_ | refine blk_alloc ?_ _)); refine blk_put (cs := #[.int .i64 0, .int .i64 0]) ?_ 0 _ rfl; (with_reducible repeat (first | refine blk_drewN ?_ _ | refine blk_drew ?_ | refine blk_alloc ?_ _)); exact BK109.out) hb); replace HB := bs hb; (try clear hb)) | ((with_reducible refine gate_callee (f := 32) rfl ?_); refine goesL_ (some 22) rfl rfl Tryz.func32 (by kernel_rfl) rfl #[.agg #[.int .i64 t110, .int .i64 t111], .agg #[.int .i64 12582912, .int .i64 (-22)]] rfl az ?_; (with_reducible refine (real_Div.calls k t110 t111 12582912 (-22) t112 t113 t114 _ A5.out).mono ?_); rintro e w15 ⟨rfl, hb⟩; refine ⟨_, rfl, ?_⟩; replace BK109 := kb BK109 hb; replace HB := bs hb; (try clear hb)) | ((with_reducible refine gate_dst (N := 3) rfl ?_); refine box_event ?hg (N := 3) ?hd (cs := #[.int .i64 0, .int .i64 0]) (t := 23) ?hr ?_; (case hd => rfl); (case hg => rfl); (case hr => first | (go_simp; done) | (go_simp; rfl)); intro gb115 hg w16 hbox hb; have BK115 := Aside0.mk hbox; have GW115 := ge hg; have GE115 := ge hg; have NB109_115 := nl BK109 hg; have NB115_109 := nr BK109 hg; replace BK109 := kb BK109 hb; replace HB := bs hb; clear hb hbox hg; have hnb17 := NB115_109.out; have hnc17 := NB109_115.out; have hcz18_0 := c20 BK115; have hcz18_1 := c21 BK115; have hfz18_0 := blk_frozen BK115.out 0; have hfz18_1 := blk_frozen BK115.out 1) | ((with_reducible refine gate_callee (f := 25) rfl ?_); refine goesL_ (some 26) rfl rfl Tryz.func25 (by kernel_rfl) rfl #[.string (⟨#[48, 46, 49]⟩ : ByteArray)] rfl az ?_; (with_reducible refine (real_Parse.calls k (⟨#[48, 46, 49]⟩ : ByteArray) t116 t117 t118 _ A6.out).mono ?_); rintro e w19 ⟨rfl, hb⟩; refine ⟨_, rfl, ?_⟩; replace BK109 := Aside0.mk (blk_below (g := gb109) (o := .cells #[.int .i64 t106, .int .i64 t107] 23 (0, 0)) (by (with_reducible repeat (first | refine blk_drewN ?_ _ | refine blk_drew ?_ | refine blk_alloc ?_ _)); refine blk_far ?_ NB109_115.out _; (with_reducible repeat (first | refine blk_drewN ?_ _ | refine blk_drew ?_ | refine blk_alloc ?_ _)); refine blk_far ?_ NB109_115.out _; (with_reducible repeat (first | refine blk_drewN ?_ _ | refine blk_drew ?_ | refine blk_alloc ?_ _)); exact BK109.out) hb); replace BK115 := Aside0.mk (blk_below (g := gb115) (o := .cells #[.int .i64 t112, .int .i64 t113] 23 (0, 0)) (by (with_reducible repeat (first | refine blk_drewN ?_ _ | refine blk_drew ?_ | refine blk_alloc ?_ _)); refine blk_put (cs := #[.int .i64 t112, .int .i64 0]) ?_ 1 _ rfl; (with_reducible repeat (first | refine blk_drewN ?_ _ | refine blk_drew ?_ | refine blk_alloc ?_ _)); refine blk_put (cs := #[.int .i64 0, .int .i64 0]) ?_ 0 _ rfl; (with_reducible repeat (first | refine blk_drewN ?_ _ | refine blk_drew ?_ | refine blk_alloc ?_ _)); exact BK115.out) hb); replace HB := bs hb; (try clear hb)) | ((with_reducible refine gate_dst (N := 5) rfl ?_); refine box_event ?hg (N := 5) ?hd (cs := #[.int .i64 0, .int .i64 0]) (t := 23) ?hr ?_; (case hd => rfl); (case hg => rfl); (case hr => first | (go_simp; done) | (go_simp; rfl)); intro gb119 hg w20 hbox hb; have BK119 := Aside0.mk hbox; have GW119 := ge hg; have GE119 := ge hg; have NB109_119 := nl BK109 hg; have NB119_109 := nr BK109 hg; have NB115_119 := nl BK115 hg; have NB119_115 := nr BK115 hg; replace BK109 := kb BK109 hb; replace BK115 := kb BK115 hb; replace HB := bs hb; clear hb hbox hg; have hnb21 := NB119_109.out; have hnc21 := NB109_119.out; have hnb22 := NB119_115.out; have hnc22 := NB115_119.out; have hcz23_0 := c20 BK119; have hcz23_1 := c21 BK119; have hfz23_0 := blk_frozen BK119.out 0; have hfz23_1 := blk_frozen BK119.out 1; have hcz24_0 := c20 BK115; have hcz24_1 := c21 BK115; have hfz24_0 := blk_frozen BK115.out 0; have hfz24_1 := blk_frozen BK115.out 1) | ((with_reducible refine gate_callee (f := 27) rfl ?_); refine goesL_ (some 31) rfl rfl Tryz.func27 (by kernel_rfl) rfl #[.agg #[.int .i64 t112, .int .i64 t113]] rfl az ?_; (with_reducible refine (real_Print.calls k t112 t113 t120 t121 _ A7.out (tabAt HT.out bz)).mono ?_); rintro e w25 ⟨rfl, hb⟩; refine ⟨_, rfl, ?_⟩; replace BK109 := Aside0.mk (blk_below (g := gb109) (o := .cells #[.int .i64 t106, .int .i64 t107] 23 (0, 0)) (by (with_reducible repeat (first | refine blk_drewN ?_ _ | refine blk_drew ?_ | refine blk_alloc ?_ _)); refine blk_far ?_ NB109_119.out _; (with_reducible repeat (first | refine blk_drewN ?_ _ | refine blk_drew ?_ | refine blk_alloc ?_ _)); refine blk_far ?_ NB109_119.out _; (with_reducible repeat (first | refine blk_drewN ?_ _ | refine blk_drew ?_ | refine blk_alloc ?_ _)); exact BK109.out) hb); replace BK115 := Aside0.mk (blk_below (g := gb115) (o := .cells #[.int .i64 t112, .int .i64 t113] 23 (0, 0)) (by (with_reducible repeat (first | refine blk_drewN ?_ _ | refine blk_drew ?_ | refine blk_alloc ?_ _)); refine blk_far ?_ NB115_119.out _; (with_reducible repeat (first | refine blk_drewN ?_ _ | refine blk_drew ?_ | refine blk_alloc ?_ _)); refine blk_far ?_ NB115_119.out _; (with_reducible repeat (first | refine blk_drewN ?_ _ | refine blk_drew ?_ | refine blk_alloc ?_ _)); exact BK115.out) hb); replace BK119 := Aside0.mk (blk_below (g := gb119) (o := .cells #[.int .i64 t116, .int .i64 t117] 23 (0, 0)) (by (with_reducible repeat (first | refine blk_drewN ?_ _ | refine blk_drew ?_ | refine blk_alloc ?_ _)); refine blk_put (cs := #[.int .i64 t116, .int .i64 0]) ?_ 1 _ rfl; (with_reducible repeat (first | refine blk_drewN ?_ _ | refine blk_drew ?_ | refine blk_alloc ?_ _)); refine blk_put (cs := #[.int .i64 0, .int .i64 0]) ?_ 0 _ rfl; (with_reducible repeat (first | refine blk_drewN ?_ _ | refine blk_drew ?_ | refine blk_alloc ?_ _)); exact BK119.out) hb); replace HB := bs hb; (try clear hb)))
 (try simp only [Act.put, List.setIfInBounds_toArray, List.set_cons_zero, List.set_cons_succ])
 go_cut [60] (fun v60 wc => ∃ (kq : Nat) (x60_7 : Bool), v60 = .bool x60_7 ∧ Aside0 (manorboylaw02_sanity.j0 kq x60_7 = some r) ∧ Aside0 (kq ≤ k) ∧ Aside0 (wc.heap[gb109]? = some (.cells #[.int .i64 t106, .int .i64 t107] 23 (0, 0))) ∧ Aside0 (wc.heap[gb115]? = some (.cells #[.int .i64 t112, .int .i64 t113] 23 (0, 0))) ∧ Aside0 (wc.heap[gb119]? = some (.cells #[.int .i64 t116, .int .i64 t117] 23 (0, 0))) ∧ Aside0 (Below w.heap.size w wc))
 case first => as_aux_lemma =>
  have H := HC8.out
  clear HC8
  replace H := Option.bind_eq_some_iff.mp H
  obtain ⟨⟨t122, t123⟩, A260, H⟩ := H
  try dsimp only at H
  have A26 := Aside0.mk A260
  clear A260
  replace H := Option.bind_eq_some_iff.mp H
  obtain ⟨t124, A270, H⟩ := H
  try dsimp only at H
  have A27 := Aside0.mk A270
  clear A270
  by_cases c28 : t124 = true
  ·subst c28
   have H1 : ((manorboylaw02_is.f t112 t113 t114 11184811 (-25)).bind fun t125 => (if t125 = true then ((manorboylaw02_is.f t116 t117 t118 13421773 (-27)).bind fun t126 => (if t126 = true then (if t121 = 0 then (manorboylaw02_sanity.j0 k (t120.toList != ([48, 46, 51, 51, 51, 51, 51, 51, 51, 52] : List UInt8))) else (manorboylaw02_sanity.j0 k true)) else (manorboylaw02_sanity.j0 k true))) else (manorboylaw02_sanity.j0 k true))) = some r := by rw [if_pos rfl] at H; exact H
   clear H
   have H := H1
   clear H1
   replace H := Option.bind_eq_some_iff.mp H
   obtain ⟨t125, A290, H⟩ := H
   try dsimp only at H
   have A29 := Aside0.mk A290
   clear A290
   by_cases c30 : t125 = true
   ·subst c30
    have H1 : ((manorboylaw02_is.f t116 t117 t118 13421773 (-27)).bind fun t126 => (if t126 = true then (if t121 = 0 then (manorboylaw02_sanity.j0 k (t120.toList != ([48, 46, 51, 51, 51, 51, 51, 51, 51, 52] : List UInt8))) else (manorboylaw02_sanity.j0 k true)) else (manorboylaw02_sanity.j0 k true))) = some r := by rw [if_pos rfl] at H; exact H
    clear H
    have H := H1
    clear H1
    replace H := Option.bind_eq_some_iff.mp H
    obtain ⟨t126, A310, H⟩ := H
    try dsimp only at H
    have A31 := Aside0.mk A310
    clear A310
    by_cases c32 : t126 = true
    ·subst c32
     have H1 : (if t121 = 0 then (manorboylaw02_sanity.j0 k (t120.toList != ([48, 46, 51, 51, 51, 51, 51, 51, 51, 52] : List UInt8))) else (manorboylaw02_sanity.j0 k true)) = some r := by rw [if_pos rfl] at H; exact H
     clear H
     have H := H1
     clear H1
     by_cases c33 : t121 = 0
     ·rw [if_pos c33] at H
      have c33b0 : (t121 == 0) = true := beq_iff_eq.mpr c33
      have c33b1 : (t121 != 0) = false := bne_eq_false_iff_eq.mpr c33
      clear c33
      (first | rw [c33b0] | (simp only [i64_w, i32_w]; rw [c33b0]) | skip)
      have H' := Aside0.mk H
      clear H
      try go_wp2
      replace BK109 := Aside0.mk (blk_drew BK109.out)
      replace BK115 := Aside0.mk (blk_drew BK115.out)
      replace BK119 := Aside0.mk (blk_drew BK119.out)
      replace HB := Aside0.mk (below_drew1 HB.out)
      refine start_ (n := 27) (S := fun w' => w'.cell? ⟨gb109, 0, none⟩ = some (.int .i64 t106) ∧ w'.cell? ⟨gb109, 1, none⟩ = some (.int .i64 t107) ∧ w'.cell? ⟨gb115, 0, none⟩ = some (.int .i64 t112) ∧ w'.cell? ⟨gb115, 1, none⟩ = some (.int .i64 t113) ∧ w'.cell? ⟨gb119, 0, none⟩ = some (.int .i64 t116) ∧ w'.cell? ⟨gb119, 1, none⟩ = some (.int .i64 t117)) (ds := []) #[false, false, false, false, false, false, false, false, false, false, false, false, false, false, false, false, false, false, false, false, false, false, false, false, false, false, false] (by kernel_rfl) rfl rfl ⟨(blk_cell BK109.out 0).trans rfl, (blk_cell BK109.out 1).trans rfl, (blk_cell BK115.out 0).trans rfl, (blk_cell BK115.out 1).trans rfl, (blk_cell BK119.out 0).trans rfl, (blk_cell BK119.out 1).trans rfl⟩ (fun hHeld => ?_); refine with_tabW manorboylaw02_sanity.tab5 manorboylaw02_sanity.bits5 (fun HT_ HW_ => ?_)
      generalize w25.drew = w34 at BK109 BK115 BK119 HB hHeld ⊢
      refine pur 1 (some 35) #[ff,tt,ff,ff,ff,ff,ff,ff,ff,ff,ff,ff,ff,ff,ff,ff,ff,ff,ff,ff,ff,ff,ff,ff,ff,ff,ff] ?_
      refine take_ (i := 0) (N := some 34) (v := ?_) (a' := ?_) #[true, true, false, false, false, false, false, false, false, false, false, false, false, false, false, false, false, false, false, false, false, false, false, false, false, false, false] rfl rfl (take_ofW HT_.out HW_.out (by kernel_rfl)) (fun _ _ _ h => h) (Or.inl ⟨by rfl, ?_⟩) hHeld ?_ ?_
      rotate_left
      ·rintro w' ⟨s0, s1, s2, s3, s4, s5⟩
       go_simp
       with_reducible rfl
      rotate_left
      ·simp only [Act.put, List.setIfInBounds_toArray, List.set_cons_zero, List.set_cons_succ, i64_w, i32_w]
       rfl
      refine one_ (i := 2) (N := some 36) #[true, true, true, false, false, false, false, false, false, false, false, false, false, false, false, false, false, false, false, false, false, false, false, false, false, false, false] rfl rfl (one_of HT_.out (by kernel_rfl)) (by decide) (fun K hK => ?_)
      refine goes_ Tryz.func49 (by kernel_rfl) rfl #[.int .i64 0] (by rfl) rfl rfl az ?_
      with_reducible refine (manorboylaw02_two.calls 0 t122 t123 _ A26.out).mono ?_
      rintro e w35 ⟨rfl, hb⟩
      refine ⟨_, rfl, ?_⟩
      replace BK109 := kb BK109 hb
      replace BK115 := kb BK115 hb
      replace BK119 := kb BK119 hb
      replace HB := bs hb
      (try clear hb)
      refine hK.out _ _ ⟨(blk_cell BK109.out 0).trans rfl, (blk_cell BK109.out 1).trans rfl, (blk_cell BK115.out 0).trans rfl, (blk_cell BK115.out 1).trans rfl, (blk_cell BK119.out 0).trans rfl, (blk_cell BK119.out 1).trans rfl⟩ (fun hHeld => ?_)
      clear hK K
      refine norm_ (a' := ?_) ?_ ?_
      rotate_left
      ·show Act.put _ (some 36) _ = _
       simp only [Act.put, List.setIfInBounds_toArray, List.set_cons_zero, List.set_cons_succ, i64_w, i32_w]
       rfl
      refine one_ (i := 3) (N := some 37) #[true, true, true, true, false, false, false, false, false, false, false, false, false, false, false, false, false, false, false, false, false, false, false, false, false, false, false] rfl rfl (one_of HT_.out (by kernel_rfl)) (by decide) (fun K hK => ?_)
      refine goes_ Tryz.func39 (by kernel_rfl) rfl #[.agg #[.int .i64 t106, .int .i64 t107], .int .i64 t108, .agg #[.int .i64 t122, .int .i64 t123]] (by rfl) rfl rfl az ?_
      with_reducible refine (manorboylaw02_is.calls t106 t107 t108 t122 t123 true _ A27.out).mono ?_
      rintro e w36 ⟨rfl, hb⟩
      refine ⟨_, rfl, ?_⟩
      replace BK109 := kb BK109 hb
      replace BK115 := kb BK115 hb
      replace BK119 := kb BK119 hb
      replace HB := bs hb
      (try clear hb)
      refine hK.out _ _ ⟨(blk_cell BK109.out 0).trans rfl, (blk_cell BK109.out 1).trans rfl, (blk_cell BK115.out 0).trans rfl, (blk_cell BK115.out 1).trans rfl, (blk_cell BK119.out 0).trans rfl, (blk_cell BK119.out 1).trans rfl⟩ (fun hHeld => ?_)
      clear hK K
      refine norm_ (a' := ?_) ?_ ?_
      rotate_left
      ·show Act.put _ (some 37) _ = _
       simp only [Act.put, List.setIfInBounds_toArray, List.set_cons_zero, List.set_cons_succ, i64_w, i32_w]
       rfl
      refine pur 4 (some 38) #[tt,tt,tt,tt,tt,ff,ff,ff,ff,ff,ff,ff,ff,ff,ff,ff,ff,ff,ff,ff,ff,ff,ff,ff,ff,ff,ff] ?_
      refine pur 5 (some 39) #[tt,tt,tt,tt,tt,tt,ff,ff,ff,ff,ff,ff,ff,ff,ff,ff,ff,ff,ff,ff,ff,ff,ff,ff,ff,ff,ff] ?_
      refine pur 7 (some 41) #[tt,tt,tt,tt,tt,tt,ff,tt,ff,ff,ff,ff,ff,ff,ff,ff,ff,ff,ff,ff,ff,ff,ff,ff,ff,ff,ff] ?_
      refine pur 8 (some 42) #[tt,tt,tt,tt,tt,tt,ff,tt,tt,ff,ff,ff,ff,ff,ff,ff,ff,ff,ff,ff,ff,ff,ff,ff,ff,ff,ff] ?_
      refine take_ (i := 6) (N := some 40) (v := ?_) (a' := ?_) #[true, true, true, true, true, true, true, true, true, false, false, false, false, false, false, false, false, false, false, false, false, false, false, false, false, false, false] rfl rfl (take_ofW HT_.out HW_.out (by kernel_rfl)) (fun _ _ _ h => h) (Or.inl ⟨by rfl, ?_⟩) hHeld ?_ ?_
      rotate_left
      ·rintro w' ⟨s0, s1, s2, s3, s4, s5⟩
       go_simp
       with_reducible rfl
      rotate_left
      ·simp only [Act.put, List.setIfInBounds_toArray, List.set_cons_zero, List.set_cons_succ, i64_w, i32_w]
       rfl
      refine one_ (i := 9) (N := some 43) #[true, true, true, true, true, true, true, true, true, true, false, false, false, false, false, false, false, false, false, false, false, false, false, false, false, false, false] rfl rfl (one_of HT_.out (by kernel_rfl)) (by decide) (fun K hK => ?_)
      refine goes_ Tryz.func39 (by kernel_rfl) rfl #[.agg #[.int .i64 t112, .int .i64 t113], .int .i64 t114, .agg #[.int .i64 11184811, .int .i64 (-25)]] (by rfl) rfl rfl az ?_
      with_reducible refine (manorboylaw02_is.calls t112 t113 t114 11184811 (-25) true _ A29.out).mono ?_
      rintro e w37 ⟨rfl, hb⟩
      refine ⟨_, rfl, ?_⟩
      replace BK109 := kb BK109 hb
      replace BK115 := kb BK115 hb
      replace BK119 := kb BK119 hb
      replace HB := bs hb
      (try clear hb)
      refine hK.out _ _ ⟨(blk_cell BK109.out 0).trans rfl, (blk_cell BK109.out 1).trans rfl, (blk_cell BK115.out 0).trans rfl, (blk_cell BK115.out 1).trans rfl, (blk_cell BK119.out 0).trans rfl, (blk_cell BK119.out 1).trans rfl⟩ (fun hHeld => ?_)
      clear hK K
      refine norm_ (a' := ?_) ?_ ?_
      rotate_left
      ·show Act.put _ (some 43) _ = _
       simp only [Act.put, List.setIfInBounds_toArray, List.set_cons_zero, List.set_cons_succ, i64_w, i32_w]
       rfl
      refine pur 10 (some 44) #[tt,tt,tt,tt,tt,tt,tt,tt,tt,tt,tt,ff,ff,ff,ff,ff,ff,ff,ff,ff,ff,ff,ff,ff,ff,ff,ff] ?_
      refine pur 11 (some 45) #[tt,tt,tt,tt,tt,tt,tt,tt,tt,tt,tt,tt,ff,ff,ff,ff,ff,ff,ff,ff,ff,ff,ff,ff,ff,ff,ff] ?_
      refine pur 12 (some 46) #[tt,tt,tt,tt,tt,tt,tt,tt,tt,tt,tt,tt,tt,ff,ff,ff,ff,ff,ff,ff,ff,ff,ff,ff,ff,ff,ff] ?_
      refine pur 14 (some 48) #[tt,tt,tt,tt,tt,tt,tt,tt,tt,tt,tt,tt,tt,ff,tt,ff,ff,ff,ff,ff,ff,ff,ff,ff,ff,ff,ff] ?_
      refine pur 15 (some 49) #[tt,tt,tt,tt,tt,tt,tt,tt,tt,tt,tt,tt,tt,ff,tt,tt,ff,ff,ff,ff,ff,ff,ff,ff,ff,ff,ff] ?_
      refine take_ (i := 13) (N := some 47) (v := ?_) (a' := ?_) #[true, true, true, true, true, true, true, true, true, true, true, true, true, true, true, true, false, false, false, false, false, false, false, false, false, false, false] rfl rfl (take_ofW HT_.out HW_.out (by kernel_rfl)) (fun _ _ _ h => h) (Or.inl ⟨by rfl, ?_⟩) hHeld ?_ ?_
      rotate_left
      ·rintro w' ⟨s0, s1, s2, s3, s4, s5⟩
       go_simp
       with_reducible rfl
      rotate_left
      ·simp only [Act.put, List.setIfInBounds_toArray, List.set_cons_zero, List.set_cons_succ, i64_w, i32_w]
       rfl
      refine one_ (i := 16) (N := some 50) #[true, true, true, true, true, true, true, true, true, true, true, true, true, true, true, true, true, false, false, false, false, false, false, false, false, false, false] rfl rfl (one_of HT_.out (by kernel_rfl)) (by decide) (fun K hK => ?_)
      refine goes_ Tryz.func39 (by kernel_rfl) rfl #[.agg #[.int .i64 t116, .int .i64 t117], .int .i64 t118, .agg #[.int .i64 13421773, .int .i64 (-27)]] (by rfl) rfl rfl az ?_
      with_reducible refine (manorboylaw02_is.calls t116 t117 t118 13421773 (-27) true _ A31.out).mono ?_
      rintro e w38 ⟨rfl, hb⟩
      refine ⟨_, rfl, ?_⟩
      replace BK109 := kb BK109 hb
      replace BK115 := kb BK115 hb
      replace BK119 := kb BK119 hb
      replace HB := bs hb
      (try clear hb)
      refine hK.out _ _ ⟨(blk_cell BK109.out 0).trans rfl, (blk_cell BK109.out 1).trans rfl, (blk_cell BK115.out 0).trans rfl, (blk_cell BK115.out 1).trans rfl, (blk_cell BK119.out 0).trans rfl, (blk_cell BK119.out 1).trans rfl⟩ (fun hHeld => ?_)
      clear hK K
      refine norm_ (a' := ?_) ?_ ?_
      rotate_left
      ·show Act.put _ (some 50) _ = _
       simp only [Act.put, List.setIfInBounds_toArray, List.set_cons_zero, List.set_cons_succ, i64_w, i32_w]
       rfl
      refine pur 17 (some 51) #[tt,tt,tt,tt,tt,tt,tt,tt,tt,tt,tt,tt,tt,tt,tt,tt,tt,tt,ff,ff,ff,ff,ff,ff,ff,ff,ff] ?_
      refine pur 18 (some 52) #[tt,tt,tt,tt,tt,tt,tt,tt,tt,tt,tt,tt,tt,tt,tt,tt,tt,tt,tt,ff,ff,ff,ff,ff,ff,ff,ff] ?_
      refine pur 19 (some 53) #[tt,tt,tt,tt,tt,tt,tt,tt,tt,tt,tt,tt,tt,tt,tt,tt,tt,tt,tt,tt,ff,ff,ff,ff,ff,ff,ff] ?_
      refine pur 20 (some 54) #[tt,tt,tt,tt,tt,tt,tt,tt,tt,tt,tt,tt,tt,tt,tt,tt,tt,tt,tt,tt,tt,ff,ff,ff,ff,ff,ff] ?_
      refine pur 21 (some 55) #[tt,tt,tt,tt,tt,tt,tt,tt,tt,tt,tt,tt,tt,tt,tt,tt,tt,tt,tt,tt,tt,tt,ff,ff,ff,ff,ff] ?_
      refine pur 22 (some 56) #[tt,tt,tt,tt,tt,tt,tt,tt,tt,tt,tt,tt,tt,tt,tt,tt,tt,tt,tt,tt,tt,tt,tt,ff,ff,ff,ff] ?_
      refine pur 23 (some 57) #[tt,tt,tt,tt,tt,tt,tt,tt,tt,tt,tt,tt,tt,tt,tt,tt,tt,tt,tt,tt,tt,tt,tt,tt,ff,ff,ff] ?_
      refine pur 24 (some 58) #[tt,tt,tt,tt,tt,tt,tt,tt,tt,tt,tt,tt,tt,tt,tt,tt,tt,tt,tt,tt,tt,tt,tt,tt,tt,ff,ff] ?_
      refine pur 25 (some 59) #[tt,tt,tt,tt,tt,tt,tt,tt,tt,tt,tt,tt,tt,tt,tt,tt,tt,tt,tt,tt,tt,tt,tt,tt,tt,tt,ff] ?_
      refine pur 26 (some 60) #[tt,tt,tt,tt,tt,tt,tt,tt,tt,tt,tt,tt,tt,tt,tt,tt,tt,tt,tt,tt,tt,tt,tt,tt,tt,tt,tt] ?_
      refine done_ (done_of HT_.out (by kernel_rfl)) ?_
      try go_wp2
      go_meet
      case rel => exact ⟨_, ((t120.toList != ([48, 46, 51, 51, 51, 51, 51, 51, 51, 52] : List UInt8))), (by first | rfl | (simp; done) | (simp [*]; done)), H', ⟨by first | omega | exact Nat.le_refl _⟩, ⟨kz BK109⟩, ⟨kz BK115⟩, ⟨kz BK119⟩, ⟨bz⟩⟩
     ·rw [if_neg c33] at H
      first | exact absurd (Option.some.inj H) (by rw [hr]; decide) | exact absurd H (by rw [hr]; exact manorboylaw02_sanity.no _)
    ·replace c32 := Bool.eq_false_iff.mpr c32
     subst c32
     have H1 : (manorboylaw02_sanity.j0 k true) = some r := by rw [if_neg (show ¬ (false = true) by decide)] at H; exact H
     clear H
     have H := H1
     clear H1
     first | exact absurd (Option.some.inj H) (by rw [hr]; decide) | exact absurd H (by rw [hr]; exact manorboylaw02_sanity.no _)
   ·replace c30 := Bool.eq_false_iff.mpr c30
    subst c30
    have H1 : (manorboylaw02_sanity.j0 k true) = some r := by rw [if_neg (show ¬ (false = true) by decide)] at H; exact H
    clear H
    have H := H1
    clear H1
    first | exact absurd (Option.some.inj H) (by rw [hr]; decide) | exact absurd H (by rw [hr]; exact manorboylaw02_sanity.no _)
  ·replace c28 := Bool.eq_false_iff.mpr c28
   subst c28
   have H1 : (manorboylaw02_sanity.j0 k true) = some r := by rw [if_neg (show ¬ (false = true) by decide)] at H; exact H
   clear H
   have H := H1
   clear H1
   first | exact absurd (Option.some.inj H) (by rw [hr]; decide) | exact absurd H (by rw [hr]; exact manorboylaw02_sanity.no _)
 case rest => as_aux_lemma =>
  clear HC8
  try clear c28
  try clear c30
  obtain ⟨kq, x60_7, rfl, HA, HJ7, BK109, BK115, BK119, HB⟩ := hcut
  cases kq with
  | zero => exact absurd HA.out (by simp [manorboylaw02_sanity.j0])
  | succ kj7 =>
   have H := HA.out
   clear HA
   simp only [manorboylaw02_sanity.j0] at H
   by_cases c56 : x60_7 = true
   ·subst c56
    have H1 : (some false) = some r := by rw [if_pos rfl] at H; exact H
    clear H
    have H := H1
    clear H1
    first | exact absurd (Option.some.inj H) (by rw [hr]; decide) | exact absurd H (by rw [hr]; exact manorboylaw02_sanity.no _)
   ·replace c56 := Bool.eq_false_iff.mpr c56
    subst c56
    have H1 : ((real_Entier.f (-12582912) (-23)).bind fun bt127 => ((real_Round.f 10485760 (-22)).bind fun bt129 => ((real_Parse.f kj7 (⟨#[49, 101, 54, 48]⟩ : ByteArray)).bind fun bt131 => ((real_PowZ.f 0 0 (-1)).bind fun bt134 => ((real_Print.f kj7 1 (-150)).bind fun bt137 => (if bt127.2 = 0 then (if bt129.2 = 0 then (if bt127.1 = (-2) then (if bt129.1 = 3 then (if bt131.2.2 = 3 then (if bt134.2.2 = 5 then (if bt137.2 = 0 then (if bt137.1.toList = ([55, 46, 48, 101, 45, 52, 54] : List UInt8) then ((real_FromIntN.f kj7 16777217).bind fun bt139 => ((manorboylaw02_two.f 24).bind fun bt141 => (some (bt139.1 == bt141.1 && (bt139.2 == bt141.2))))) else (some false)) else (some false)) else (some false)) else (some false)) else (some false)) else (some false)) else (some false)) else (some false))))))) = some r := by rw [if_neg (show ¬ (false = true) by decide)] at H; exact H
    clear H
    have H := H1
    clear H1
    replace H := Option.bind_eq_some_iff.mp H
    obtain ⟨⟨t127, t128⟩, A570, H⟩ := H
    try dsimp only at H
    have A57 := Aside0.mk A570
    clear A570
    replace H := Option.bind_eq_some_iff.mp H
    obtain ⟨⟨t129, t130⟩, A580, H⟩ := H
    try dsimp only at H
    have A58 := Aside0.mk A580
    clear A580
    replace H := Option.bind_eq_some_iff.mp H
    obtain ⟨⟨t131, t132, t133⟩, A590, H⟩ := H
    try dsimp only at H
    have A59 := Aside0.mk A590
    clear A590
    replace H := Option.bind_eq_some_iff.mp H
    obtain ⟨⟨t134, t135, t136⟩, A600, H⟩ := H
    try dsimp only at H
    have A60 := Aside0.mk A600
    clear A600
    replace H := Option.bind_eq_some_iff.mp H
    obtain ⟨⟨t137, t138⟩, A610, H⟩ := H
    try dsimp only at H
    have A61 := Aside0.mk A610
    clear A610
    by_cases c62 : t128 = 0
    ·rw [if_pos c62] at H
     have c62b0 : (t128 == 0) = true := beq_iff_eq.mpr c62
     have c62b1 : (t128 != 0) = false := bne_eq_false_iff_eq.mpr c62
     clear c62
     by_cases c63 : t130 = 0
     ·rw [if_pos c63] at H
      have c63b0 : (t130 == 0) = true := beq_iff_eq.mpr c63
      have c63b1 : (t130 != 0) = false := bne_eq_false_iff_eq.mpr c63
      clear c63
      by_cases c64 : t127 = (-2)
      ·rw [if_pos c64] at H
       have c64b0 : (t127 == (-2)) = true := beq_iff_eq.mpr c64
       have c64b1 : (t127 != (-2)) = false := bne_eq_false_iff_eq.mpr c64
       clear c64
       by_cases c65 : t129 = 3
       ·rw [if_pos c65] at H
        have c65b0 : (t129 == 3) = true := beq_iff_eq.mpr c65
        have c65b1 : (t129 != 3) = false := bne_eq_false_iff_eq.mpr c65
        clear c65
        by_cases c66 : t133 = 3
        ·rw [if_pos c66] at H
         have c66b0 : (t133 == 3) = true := beq_iff_eq.mpr c66
         have c66b1 : (t133 != 3) = false := bne_eq_false_iff_eq.mpr c66
         clear c66
         by_cases c67 : t136 = 5
         ·rw [if_pos c67] at H
          have c67b0 : (t136 == 5) = true := beq_iff_eq.mpr c67
          have c67b1 : (t136 != 5) = false := bne_eq_false_iff_eq.mpr c67
          clear c67
          by_cases c68 : t138 = 0
          ·rw [if_pos c68] at H
           have c68b0 : (t138 == 0) = true := beq_iff_eq.mpr c68
           have c68b1 : (t138 != 0) = false := bne_eq_false_iff_eq.mpr c68
           clear c68
           by_cases c69 : t137.toList = ([55, 46, 48, 101, 45, 52, 54] : List UInt8)
           ·rw [if_pos c69] at H
            have c69b0 : (t137.toList == ([55, 46, 48, 101, 45, 52, 54] : List UInt8)) = true := beq_iff_eq.mpr c69
            have c69b1 : (t137.toList != ([55, 46, 48, 101, 45, 52, 54] : List UInt8)) = false := bne_eq_false_iff_eq.mpr c69
            clear c69
            replace H := Option.bind_eq_some_iff.mp H
            obtain ⟨⟨t139, t140⟩, A700, H⟩ := H
            try dsimp only at H
            have A70 := Aside0.mk A700
            clear A700
            replace H := Option.bind_eq_some_iff.mp H
            obtain ⟨⟨t141, t142⟩, A710, H⟩ := H
            try dsimp only at H
            have A71 := Aside0.mk A710
            clear A710
            obtain rfl := Option.some.inj H
            go_wp2_with (first | ((with_reducible refine gate_callee (f := 21) rfl ?_); refine goesL_ (some 63) rfl rfl Tryz.func21 (by kernel_rfl) rfl #[.agg #[.int .i64 (-12582912), .int .i64 (-23)]] rfl az ?_; (with_reducible refine (real_Entier.calls (-12582912) (-23) t127 t128 _ A57.out).mono ?_); rintro e w72 ⟨rfl, hb⟩; refine ⟨_, rfl, ?_⟩; replace BK109 := kb BK109 hb; replace BK115 := kb BK115 hb; replace BK119 := kb BK119 hb; replace HB := bs hb; (try clear hb)) | ((with_reducible refine gate_callee (f := 22) rfl ?_); refine goesL_ (some 68) rfl rfl Tryz.func22 (by kernel_rfl) rfl #[.agg #[.int .i64 10485760, .int .i64 (-22)]] rfl az ?_; (with_reducible refine (real_Round.calls 10485760 (-22) t129 t130 _ A58.out).mono ?_); rintro e w73 ⟨rfl, hb⟩; refine ⟨_, rfl, ?_⟩; replace BK109 := kb BK109 hb; replace BK115 := kb BK115 hb; replace BK119 := kb BK119 hb; replace HB := bs hb; (try clear hb)) | ((with_reducible refine gate_callee (f := 25) rfl ?_); refine goesL_ (some 72) rfl rfl Tryz.func25 (by kernel_rfl) rfl #[.string (⟨#[49, 101, 54, 48]⟩ : ByteArray)] rfl az ?_; (with_reducible refine (real_Parse.calls kj7 (⟨#[49, 101, 54, 48]⟩ : ByteArray) t131 t132 t133 _ A59.out).mono ?_); rintro e w74 ⟨rfl, hb⟩; refine ⟨_, rfl, ?_⟩; replace BK109 := kb BK109 hb; replace BK115 := kb BK115 hb; replace BK119 := kb BK119 hb; replace HB := bs hb; (try clear hb)) | ((with_reducible refine gate_callee (f := 17) rfl ?_); refine goesL_ (some 77) rfl rfl Tryz.func17 (by kernel_rfl) rfl #[.agg #[.int .i64 0, .int .i64 0], .int .i64 (-1)] rfl az ?_; (with_reducible refine (real_PowZ.calls 0 0 (-1) t134 t135 t136 _ A60.out).mono ?_); rintro e w75 ⟨rfl, hb⟩; refine ⟨_, rfl, ?_⟩; replace BK109 := kb BK109 hb; replace BK115 := kb BK115 hb; replace BK119 := kb BK119 hb; replace HB := bs hb; (try clear hb)) | ((with_reducible refine gate_callee (f := 27) rfl ?_); refine goesL_ (some 82) rfl rfl Tryz.func27 (by kernel_rfl) rfl #[.agg #[.int .i64 1, .int .i64 (-150)]] rfl az ?_; (with_reducible refine (real_Print.calls kj7 1 (-150) t137 t138 _ A61.out (tabAt HT.out bz)).mono ?_); rintro e w76 ⟨rfl, hb⟩; refine ⟨_, rfl, ?_⟩; replace BK109 := kb BK109 hb; replace BK115 := kb BK115 hb; replace BK119 := kb BK119 hb; replace HB := bs hb; (try clear hb)) | (go_at_call 31; (with_reducible refine (real_FromIntN.calls kj7 16777217 t139 t140 _ A70.out).mono ?_); rintro e w77 ⟨rfl, hb⟩; replace BK109 := kb BK109 hb; replace BK115 := kb BK115 hb; replace BK119 := kb BK119 hb; replace HB := bs hb; (try clear hb)) | (go_at_call 49; (with_reducible refine (manorboylaw02_two.calls 24 t141 t142 _ A71.out).mono ?_); rintro e w78 ⟨rfl, hb⟩; replace BK109 := kb BK109 hb; replace BK115 := kb BK115 hb; replace BK119 := kb BK119 hb; replace HB := bs hb; (try clear hb)))
            go_ret
            exact ⟨by first | rfl | (simp [errW_none, errW_some] <;> rfl) | (simp [*, errW_none, errW_some] <;> rfl), bz⟩
           ·rw [if_neg c69] at H
            first | exact absurd (Option.some.inj H) (by rw [hr]; decide) | exact absurd H (by rw [hr]; exact manorboylaw02_sanity.no _)
          ·rw [if_neg c68] at H
           first | exact absurd (Option.some.inj H) (by rw [hr]; decide) | exact absurd H (by rw [hr]; exact manorboylaw02_sanity.no _)
         ·rw [if_neg c67] at H
          first | exact absurd (Option.some.inj H) (by rw [hr]; decide) | exact absurd H (by rw [hr]; exact manorboylaw02_sanity.no _)
        ·rw [if_neg c66] at H
         first | exact absurd (Option.some.inj H) (by rw [hr]; decide) | exact absurd H (by rw [hr]; exact manorboylaw02_sanity.no _)
       ·rw [if_neg c65] at H
        first | exact absurd (Option.some.inj H) (by rw [hr]; decide) | exact absurd H (by rw [hr]; exact manorboylaw02_sanity.no _)
      ·rw [if_neg c64] at H
       first | exact absurd (Option.some.inj H) (by rw [hr]; decide) | exact absurd H (by rw [hr]; exact manorboylaw02_sanity.no _)
     ·rw [if_neg c63] at H
      first | exact absurd (Option.some.inj H) (by rw [hr]; decide) | exact absurd H (by rw [hr]; exact manorboylaw02_sanity.no _)
    ·rw [if_neg c62] at H
     first | exact absurd (Option.some.inj H) (by rw [hr]; decide) | exact absurd H (by rw [hr]; exact manorboylaw02_sanity.no _)
end Go.Proofs.YteigbokklclmbaaGreatDoor.Z.Y
end
section
namespace Go.Proofs.YteigbokklclmbaaGreatDoor.Z.Y
open Go Go.RowKit Go.Proofs.YteigbokklclmbaaGreatDoor.Given Go.Proofs.YteigbokklclmbaaGreatDoorW.PrintWords Go.Proofs.YteigbokklclmbaaGreatDoorW.PrintLast Go.Proofs.YteigbokklclmbaaGreatDoorW.PrintMore
theorem sanity_ok : manorboylaw02_sanity.f 400 = some true := by kernel_rfl
end Go.Proofs.YteigbokklclmbaaGreatDoor.Z.Y
end
section
namespace Go.Proofs.YteigbokklclmbaaGreatDoor.Z.Y.V
open Go.RowKit Go.Proofs.YteigbokklclmbaaGreatDoor.Given Go.Proofs.YteigbokklclmbaaGreatDoorW.PrintWords Go.Proofs.YteigbokklclmbaaGreatDoorW.PrintLast Go.Proofs.YteigbokklclmbaaGreatDoorW.PrintMore
attribute [local go_sem] max2_int min2_int max_two min_two max_three min_three max_four min_four   -- for this text's walks alone
set_option linter.unusedVariables false
set_option linter.unusedSimpArgs false



def errW : Option Int → Value
 | none => .nilIface
 | some c => .iface 0 (.int .i64 c)
theorem errW_none : errW none = .nilIface := rfl
theorem errW_some (c : Int) : errW (some c) = .iface 0 (.int .i64 c) := rfl

-- the values' own types

end Go.Proofs.YteigbokklclmbaaGreatDoor.Z.Y.V
end
section
namespace Go.Proofs.YteigbokklclmbaaGreatDoor.Z.Y.V
open Go.RowKit Go.Proofs.YteigbokklclmbaaGreatDoor.Given Go.Proofs.YteigbokklclmbaaGreatDoorW.PrintWords Go.Proofs.YteigbokklclmbaaGreatDoorW.PrintLast Go.Proofs.YteigbokklclmbaaGreatDoorW.PrintMore
attribute [local go_sem] max2_int min2_int max_two min_two max_three min_three max_four min_four   -- for this text's walks alone
set_option linter.unusedVariables false
set_option linter.unusedSimpArgs false

theorem eqA23 (d : Nat) (w : World) (x0 y0 : Int) (x1 y1 : Int) :
  (Op.equalIn (d + 2) 23 (.agg #[.int .i64 x0, .int .i64 x1]) (.agg #[.int .i64 y0, .int .i64 y1])).run Tryz.prog w = .ok (x0 == y0 && (x1 == y1)) w := by
 refine eqA_of Tryz.underlying23 (by kernel_rfl) ?_
 refine eqf_cons (by rfl) (by go_simp; rfl) (by go_simp; rfl) (by go_simp) ?_
 exact eqf_last (by rfl) (by go_simp; rfl) (by go_simp; rfl) (by go_simp)
end Go.Proofs.YteigbokklclmbaaGreatDoor.Z.Y.V
end
section
namespace Go.Proofs.YteigbokklclmbaaGreatDoor.Given
open Go
theorem field23_0 (a b : Int) (w : World) : Sem.run Tryz.prog (Instr.field 23 (Value.agg #[Value.int .i64 a, Value.int .i64 b]) 0) w = .ok (Value.int .i64 a) w := by kernel_rfl
theorem field23_1 (a b : Int) (w : World) : Sem.run Tryz.prog (Instr.field 23 (Value.agg #[Value.int .i64 a, Value.int .i64 b]) 1) w = .ok (Value.int .i64 b) w := by kernel_rfl
theorem field50_0 (a b : Int) (c : Bool) (w : World) : Sem.run Tryz.prog (Instr.field 50 (Value.agg #[Value.int .i64 a, Value.int .i64 b, Value.bool c]) 0) w = .ok (Value.agg #[Value.int .i64 a, Value.int .i64 b]) w := by kernel_rfl
theorem field50_1 (a b : Int) (c : Bool) (w : World) : Sem.run Tryz.prog (Instr.field 50 (Value.agg #[Value.int .i64 a, Value.int .i64 b, Value.bool c]) 1) w = .ok (Value.bool c) w := by kernel_rfl
end Go.Proofs.YteigbokklclmbaaGreatDoor.Given
end
section
namespace Go.Proofs.YteigbokklclmbaaGreatDoor.Z.Y.V
open Go.RowKit Go.Proofs.YteigbokklclmbaaGreatDoor.Given Go.Proofs.YteigbokklclmbaaGreatDoorW.PrintWords Go.Proofs.YteigbokklclmbaaGreatDoorW.PrintLast Go.Proofs.YteigbokklclmbaaGreatDoorW.PrintMore
attribute [local go_sem] max2_int min2_int max_two min_two max_three min_three max_four min_four   -- for this text's walks alone
attribute [local go_sem high] field23_0 field23_1
set_option linter.unusedVariables false
set_option linter.unusedSimpArgs false

def manorboyref02_Quotient_Round.T6 : Bool × List (List Nat × List Nat) := (true, [([], []), ([0], [0]), ([], []), ([2], [2]), ([1, 3, 1], [1, 3]), ([], []), ([4, 5, 4], [4, 5]), ([6], [6])])
def manorboyref02_Quotient_Round.B6 : List Nat := [0, 1, 0, 4, 15, 0, 63, 127]
theorem manorboyref02_Quotient_Round.tab6 : rtab .any (opsOf Tryz.f88 6) = manorboyref02_Quotient_Round.T6 := by kernel_rfl
theorem manorboyref02_Quotient_Round.bits6 : waitsOk manorboyref02_Quotient_Round.T6.2 manorboyref02_Quotient_Round.B6 = true := by kernel_rfl
def manorboyref02_Quotient_Round.T11 : Bool × List (List Nat × List Nat) := (true, [([], []), ([0], [0]), ([], []), ([2], [2]), ([1, 3, 1], [1, 3]), ([], []), ([4, 5, 4], [4, 5]), ([6], [6]), ([7, 6], [7]), ([8], [8]), ([9, 8, 8], [8, 9]), ([10, 8], [8, 10]), ([11, 8], [8, 11]), ([12, 8], [8, 12]), ([8, 13], [8, 13])])
def manorboyref02_Quotient_Round.B11 : List Nat := [0, 1, 0, 4, 15, 0, 63, 127, 255, 511, 1023, 2047, 4095, 8191, 16383]
theorem manorboyref02_Quotient_Round.tab11 : rtab .any (opsOf Tryz.f88 11) = manorboyref02_Quotient_Round.T11 := by kernel_rfl
theorem manorboyref02_Quotient_Round.bits11 : waitsOk manorboyref02_Quotient_Round.T11.2 manorboyref02_Quotient_Round.B11 = true := by kernel_rfl
end Go.Proofs.YteigbokklclmbaaGreatDoor.Z.Y.V
end
section
namespace Go.Proofs.YteigbokklclmbaaGreatDoor.Z.Y.V
open Go.RowKit Go.Proofs.YteigbokklclmbaaGreatDoor.Given Go.Proofs.YteigbokklclmbaaGreatDoorW.PrintWords Go.Proofs.YteigbokklclmbaaGreatDoorW.PrintLast Go.Proofs.YteigbokklclmbaaGreatDoorW.PrintMore
attribute [local go_sem] max2_int min2_int max_two min_two max_three min_three max_four min_four   -- for this text's walks alone
attribute [local go_sem high] field23_0 field23_1 field50_0 field50_1
set_option linter.unusedVariables false
set_option linter.unusedSimpArgs false

def real_Neg.f (a0_0 : Int) (a0_1 : Int) : Option (Int × Int × Int) := (real_Valid.f a0_0 a0_1).bind fun t286 => (if t286 = true then ((real_signed.f true a0_0 a0_1).bind fun bt287 => (some (bt287.1, bt287.2, 0))) else (some (0, 0, 1)))
set_option maxHeartbeats 8000000 in
set_option maxRecDepth 100000 in
theorem real_Neg.calls (a0_0 : Int) (a0_1 : Int) (r1 : Int) (r2 : Int) (r3 : Int) (w : World) (h : real_Neg.f a0_0 a0_1 = some (r1, r2, r3)) :
  Calls Tryz.prog 47 #[.agg #[.int .i64 a0_0, .int .i64 a0_1]] w fun e w' => e = .returned (.tuple #[.agg #[.int .i64 r1, .int .i64 r2], .int .i64 r3]) ∧ Below w.heap.size w w' := by
 have hu23 := Tryz.underlying23
 have HB := Aside0.mk (Below.refl w.heap.size w)
 have H : ((real_Valid.f a0_0 a0_1).bind fun t286 => (if t286 = true then ((real_signed.f true a0_0 a0_1).bind fun bt287 => (some (bt287.1, bt287.2, 0))) else (some (0, 0, 1)))) = some (r1, r2, r3) := h
 clear h
 replace H := Option.bind_eq_some_iff.mp H
 obtain ⟨t286, A20, H⟩ := H
 replace H : (if t286 = true then ((real_signed.f true a0_0 a0_1).bind fun bt287 => (some (bt287.1, bt287.2, 0))) else (some (0, 0, 1))) = some (r1, r2, r3) := H
 have A2 := Aside0.mk A20
 clear A20
 by_cases c3 : t286 = true
 ·subst c3
  have H1 : ((real_signed.f true a0_0 a0_1).bind fun bt287 => (some (bt287.1, bt287.2, 0))) = some (r1, r2, r3) := by rw [if_pos rfl] at H; exact H
  clear H
  have H := H1
  clear H1
  replace H := Option.bind_eq_some_iff.mp H
  obtain ⟨⟨t287, t288⟩, A40, H⟩ := H
  replace H : (some (t287, t288, 0)) = some (r1, r2, r3) := H
  have A4 := Aside0.mk A40
  clear A40
  simp only [Option.some.injEq, Prod.mk.injEq] at H
  obtain ⟨rfl, rfl, rfl⟩ := H
  go_enter Tryz.func47, Tryz.ntmps47
  go_wp2_with (first | ((with_reducible refine gate_dst (N := 1) rfl ?_); refine box_event ?hg (N := 1) ?hd (cs := #[.int .i64 a0_0, .int .i64 a0_1]) (t := 23) ?hr ?_; (case hd => rfl); (case hg => rfl); (case hr => first | (go_simp; done) | (go_simp; rfl)); intro gb284 hg w5 hbox hb; have BK284 := Aside0.mk hbox; have GW284 := ge hg; have GE284 := ge hg; replace HB := bs hb; clear hb hbox hg) | ((with_reducible refine gate_dst (N := 2) rfl ?_); refine box_event ?hg (N := 2) ?hd (cs := #[.int .i64 0, .int .i64 0]) (t := 23) ?hr ?_; (case hd => rfl); (case hg => rfl); (case hr => first | (go_simp; done) | (go_simp; rfl)); intro gb285 hg w6 hbox hb; have BK285 := Aside0.mk hbox; have GW285 := ge hg; have GE285 := ge hg; have NB284_285 := nl BK284 hg; have NB285_284 := nr BK284 hg; replace BK284 := kb BK284 hb; replace HB := bs hb; clear hb hbox hg; have hnb7 := NB284_285.out; have hnc7 := NB285_284.out; have hcz8_0 := c20 BK284; have hcz8_1 := c21 BK284; have hfz8_0 := blk_frozen BK284.out 0; have hfz8_1 := blk_frozen BK284.out 1) | ((with_reducible refine gate_callee (f := 53) rfl ?_); refine goesL_ (some 5) rfl rfl Tryz.func53 (by kernel_rfl) rfl #[.agg #[.int .i64 a0_0, .int .i64 a0_1]] rfl az ?_; (with_reducible refine (real_Valid.calls a0_0 a0_1 true _ A2.out).mono ?_); rintro e w9 ⟨rfl, hb⟩; refine ⟨_, rfl, ?_⟩; replace BK284 := kb BK284 hb; replace BK285 := kb BK285 hb; replace HB := bs hb; (try clear hb); have hcz10_0 := c20 BK284; have hcz10_1 := c21 BK284; have hfz10_0 := blk_frozen BK284.out 0; have hfz10_1 := blk_frozen BK284.out 1) | ((with_reducible refine gate_callee (f := 80) rfl ?_); refine goesL_ (some 9) rfl rfl Tryz.func80 (by kernel_rfl) rfl #[.bool true, .agg #[.int .i64 a0_0, .int .i64 a0_1]] rfl az ?_; (with_reducible refine (real_signed.calls true a0_0 a0_1 t287 t288 _ A4.out).mono ?_); rintro e w11 ⟨rfl, hb⟩; refine ⟨_, rfl, ?_⟩; replace BK284 := kb BK284 hb; replace BK285 := kb BK285 hb; replace HB := bs hb; (try clear hb); have hcz12_0 := c20 BK285; have hcz12_1 := c21 BK285; have hfz12_0 := blk_frozen BK285.out 0; have hfz12_1 := blk_frozen BK285.out 1))
  refine bodyPost_ret (results_ct rfl _ _ gb285 23 #[.int .i64 t287, .int .i64 t288] (0, 0) _ rfl (by (with_reducible repeat (first | refine blk_drewN ?_ _ | refine blk_drew ?_ | refine blk_alloc ?_ _)); refine blk_put (cs := #[.int .i64 t287, .int .i64 0]) ?_ 1 _ rfl; (with_reducible repeat (first | refine blk_drewN ?_ _ | refine blk_drew ?_ | refine blk_alloc ?_ _)); refine blk_put (cs := #[.int .i64 0, .int .i64 0]) ?_ 0 _ rfl; (with_reducible repeat (first | refine blk_drewN ?_ _ | refine blk_drew ?_ | refine blk_alloc ?_ _)); exact BK285.out) Tryz.underlying23 rfl (by kernel_rfl)) rfl ?_
  exact ⟨by first | rfl | (simp [errW_none, errW_some] <;> rfl) | (simp [*, errW_none, errW_some] <;> rfl), bz⟩
 ·replace c3 := Bool.eq_false_iff.mpr c3
  subst c3
  have H1 : (some (0, 0, 1)) = some (r1, r2, r3) := by rw [if_neg (show ¬ (false = true) by decide)] at H; exact H
  clear H
  have H := H1
  clear H1
  simp only [Option.some.injEq, Prod.mk.injEq] at H
  obtain ⟨rfl, rfl, rfl⟩ := H
  go_enter Tryz.func47, Tryz.ntmps47
  go_wp2_with (first | ((with_reducible refine gate_dst (N := 1) rfl ?_); refine box_event ?hg (N := 1) ?hd (cs := #[.int .i64 a0_0, .int .i64 a0_1]) (t := 23) ?hr ?_; (case hd => rfl); (case hg => rfl); (case hr => first | (go_simp; done) | (go_simp; rfl)); intro gb284 hg w13 hbox hb; have BK284 := Aside0.mk hbox; have GW284 := ge hg; have GE284 := ge hg; replace HB := bs hb; clear hb hbox hg) | ((with_reducible refine gate_dst (N := 2) rfl ?_); refine box_event ?hg (N := 2) ?hd (cs := #[.int .i64 0, .int .i64 0]) (t := 23) ?hr ?_; (case hd => rfl); (case hg => rfl); (case hr => first | (go_simp; done) | (go_simp; rfl)); intro gb285 hg w14 hbox hb; have BK285 := Aside0.mk hbox; have GW285 := ge hg; have GE285 := ge hg; have NB284_285 := nl BK284 hg; have NB285_284 := nr BK284 hg; replace BK284 := kb BK284 hb; replace HB := bs hb; clear hb hbox hg; have hnb15 := NB284_285.out; have hnc15 := NB285_284.out; have hcz16_0 := c20 BK284; have hcz16_1 := c21 BK284; have hfz16_0 := blk_frozen BK284.out 0; have hfz16_1 := blk_frozen BK284.out 1) | ((with_reducible refine gate_callee (f := 53) rfl ?_); refine goesL_ (some 5) rfl rfl Tryz.func53 (by kernel_rfl) rfl #[.agg #[.int .i64 a0_0, .int .i64 a0_1]] rfl az ?_; (with_reducible refine (real_Valid.calls a0_0 a0_1 false _ A2.out).mono ?_); rintro e w17 ⟨rfl, hb⟩; refine ⟨_, rfl, ?_⟩; replace BK284 := kb BK284 hb; replace BK285 := kb BK285 hb; replace HB := bs hb; (try clear hb); have hcz18_0 := c20 BK285; have hcz18_1 := c21 BK285; have hfz18_0 := blk_frozen BK285.out 0; have hfz18_1 := blk_frozen BK285.out 1))
  refine bodyPost_ret (results_ct rfl _ _ gb285 23 #[.int .i64 0, .int .i64 0] (0, 0) _ rfl (by (with_reducible repeat (first | refine blk_drewN ?_ _ | refine blk_drew ?_ | refine blk_alloc ?_ _)); refine blk_put (cs := #[.int .i64 0, .int .i64 0]) ?_ 1 _ rfl; (with_reducible repeat (first | refine blk_drewN ?_ _ | refine blk_drew ?_ | refine blk_alloc ?_ _)); refine blk_put (cs := #[.int .i64 0, .int .i64 0]) ?_ 0 _ rfl; (with_reducible repeat (first | refine blk_drewN ?_ _ | refine blk_drew ?_ | refine blk_alloc ?_ _)); exact BK285.out) Tryz.underlying23 rfl (by kernel_rfl)) rfl ?_
  exact ⟨by first | rfl | (simp [errW_none, errW_some] <;> rfl) | (simp [*, errW_none, errW_some] <;> rfl), bz⟩

-- NOT PRINTED: function 15 (manorboylaw02_RealNumbers)

end Go.Proofs.YteigbokklclmbaaGreatDoor.Z.Y.V
end
section
namespace Go.Proofs.YteigbokklclmbaaGreatDoor.Z
open Go Go.RowKit Go.Proofs.YteigbokklclmbaaGreatDoor.Given Go.Proofs.YteigbokklclmbaaGreatDoorW.PrintWords Go.Proofs.YteigbokklclmbaaGreatDoorW.PrintLast Go.Proofs.YteigbokklclmbaaGreatDoorW.PrintMore
set_option linter.unusedVariables false
set_option linter.unusedSimpArgs false
set_option maxRecDepth 100000
set_option maxHeartbeats 8000000
theorem cell_below {w W : World} {a : Addr} {v : Value} (hB : Below w.heap.size w W) (h : w.cell? a = some v) : W.cell? a = some v := (hB.cell (World.block_lt_of_cell? w _ h)).trans h
theorem index2g_c (ad : Addr) (c : Nat) (m0 e0 m1 e1 : Int) (v0 v1 : Bool) (h0 : real_Valid.f m0 e0 = some v0) (h1 : real_Valid.f m1 e1 = some v1) (w : World)
    (hb : w.cell? (ad.add 0) = some (.int .i64 m0) ∧ w.cell? (ad.add 1) = some (.int .i64 e0) ∧ w.cell? (ad.add 2) = some (.int .i64 m1) ∧ w.cell? (ad.add 3) = some (.int .i64 e1)) :
    Calls Tryz.prog 163 #[.slice (some ad) 2 c, .func (.func 144) #[] #[]] w fun en w' => en = .returned (.int .i64 (if v0 then (if v1 then -1 else 1) else 0)) ∧ Below w.heap.size w w' := by
  have H0 := Lib.hid h0
  have H1 := Lib.hid h1
  have HB := Lib.hid hb
  clear h0 h1 hb
  go_enter Tryz.func163, Tryz.ntmps163
  go_wp2
  go_loopg [5, 8] (3 : Nat) (fun kq v5 v8 wr => ∃ j : Nat, kq + j = 3 ∧ v8 = .int .i64 (j : Int) ∧ Below w.heap.size w wr ∧ (1 ≤ j → v0 = true) ∧ (2 ≤ j → v1 = true))
  case atStart => exact ⟨0, rfl, rfl, Below.refl _ w, by omega, by omega⟩
  case round =>
    obtain ⟨j, hj, rfl, hB, hv0, hv1⟩ := hrel
    have HB2 := Lib.hid hB
    have hbr : wr.cell? (ad.add 0) = some (.int .i64 m0) ∧ wr.cell? (ad.add 1) = some (.int .i64 e0) ∧ wr.cell? (ad.add 2) = some (.int .i64 m1) ∧ wr.cell? (ad.add 3) = some (.int .i64 e1) :=
      ⟨cell_below hB HB.out.1, cell_below hB HB.out.2.1, cell_below hB HB.out.2.2.1, cell_below hB HB.out.2.2.2⟩
    rcases (by omega : j = 0 ∨ j = 1 ∨ j = 2 ∨ j = 3) with h | h | h | h
    · subst h
      have c0 := hbr.1
      have c0' : wr.cell? ad = some (.int .i64 m0) := c0
      have c1 : wr.cell? ⟨ad.block, ad.off + 1, none⟩ = some (.int .i64 e0) := hbr.2.1
      clear hB hbr hv0 hv1
      cases v0
      · go_wp2_with fail
        refine (notValid_c m0 e0 _ H0.out _).mono ?_
        rintro en w1 ⟨rfl, hb⟩
        have hB : Below w.heap.size w w1 := HB2.out.trans (hb.mono HB2.out.size)
        clear hb
        go_wp2
        go_ret
        exact ⟨rfl, hB⟩
      · go_wp2_with fail
        refine (notValid_c m0 e0 _ H0.out _).mono ?_
        rintro en w1 ⟨rfl, hb⟩
        have hB : Below w.heap.size w w1 := HB2.out.trans (hb.mono HB2.out.size)
        clear hb
        go_wp2
        go_roundg (gk - 1)
        case measure => omega
        case rel => exact ⟨1, by omega, rfl, hB, fun _ => trivial, by omega⟩
    · subst h
      have c0 : wr.cell? ⟨ad.block, ad.off + 2, none⟩ = some (.int .i64 m1) := hbr.2.2.1
      have c1 : wr.cell? ⟨ad.block, ad.off + 2 + 1, none⟩ = some (.int .i64 e1) := hbr.2.2.2
      have hv := hv0 (Nat.le_refl _)
      subst hv
      clear hB hbr hv0 hv1
      cases v1
      · go_wp2_with fail
        refine (notValid_c m1 e1 _ H1.out _).mono ?_
        rintro en w1 ⟨rfl, hb⟩
        have hB : Below w.heap.size w w1 := HB2.out.trans (hb.mono HB2.out.size)
        clear hb
        go_wp2
        go_ret
        exact ⟨rfl, hB⟩
      · go_wp2_with fail
        refine (notValid_c m1 e1 _ H1.out _).mono ?_
        rintro en w1 ⟨rfl, hb⟩
        have hB : Below w.heap.size w w1 := HB2.out.trans (hb.mono HB2.out.size)
        clear hb
        go_wp2
        go_roundg (gk - 1)
        case measure => omega
        case rel => exact ⟨2, by omega, rfl, hB, fun _ => trivial, fun _ => trivial⟩
    · subst h
      have hva := hv0 (by omega)
      have hvb := hv1 (by omega)
      subst hva hvb
      clear hbr hv0 hv1
      go_wp2
      go_ret
      exact ⟨rfl, hB⟩
    · subst h
      have hva := hv0 (by omega)
      have hvb := hv1 (by omega)
      subst hva hvb
      clear hbr hv0 hv1
      go_wp2
      go_ret
      exact ⟨rfl, hB⟩
theorem contains2g_c (ad : Addr) (c : Nat) (m0 e0 m1 e1 : Int) (v0 v1 : Bool) (h0 : real_Valid.f m0 e0 = some v0) (h1 : real_Valid.f m1 e1 = some v1) (w : World)
    (hb : w.cell? (ad.add 0) = some (.int .i64 m0) ∧ w.cell? (ad.add 1) = some (.int .i64 e0) ∧ w.cell? (ad.add 2) = some (.int .i64 m1) ∧ w.cell? (ad.add 3) = some (.int .i64 e1)) :
    Calls Tryz.prog 143 #[.slice (some ad) 2 c, .func (.func 144) #[] #[]] w fun en w' => en = .returned (.bool (!(v0 && v1))) ∧ Below w.heap.size w w' := by
  have H := Lib.hid (index2g_c ad c m0 e0 m1 e1 v0 v1 h0 h1 w hb)
  clear h0 h1 hb
  go_enter Tryz.func143, Tryz.ntmps143
  go_wp2_with fail
  refine H.out.mono ?_
  rintro en w1 ⟨rfl, hB⟩
  clear H
  rcases v0 with _ | _ <;> rcases v1 with _ | _ <;> (go_wp2; go_ret; exact ⟨rfl, hB⟩)
theorem all2g_c (ad : Addr) (c : Nat) (m0 e0 m1 e1 : Int) (v0 v1 : Bool) (h0 : real_Valid.f m0 e0 = some v0) (h1 : real_Valid.f m1 e1 = some v1) (w : World)
    (hb : w.cell? (ad.add 0) = some (.int .i64 m0) ∧ w.cell? (ad.add 1) = some (.int .i64 e0) ∧ w.cell? (ad.add 2) = some (.int .i64 m1) ∧ w.cell? (ad.add 3) = some (.int .i64 e1)) :
    Calls Tryz.prog 99 #[.slice (some ad) 2 c] w fun en w' => en = .returned (.bool (v0 && v1)) ∧ Below w.heap.size w w' := by
  have H := Lib.hid (contains2g_c ad c m0 e0 m1 e1 v0 v1 h0 h1 w hb)
  clear h0 h1 hb
  go_enter Tryz.func99, Tryz.ntmps99
  go_wp2_with fail
  refine H.out.mono ?_
  rintro en w1 ⟨rfl, hB⟩
  clear H
  rcases v0 with _ | _ <;> rcases v1 with _ | _ <;> (go_wp2; go_ret; exact ⟨rfl, hB⟩)
end Go.Proofs.YteigbokklclmbaaGreatDoor.Z
end
section
namespace Go.Proofs.YteigbokklclmbaaGreatDoor.Z.Y.Q
open Go.RowKit Go.Proofs.YteigbokklclmbaaGreatDoor.Given Go.Proofs.YteigbokklclmbaaGreatDoorW.PrintWords Go.Proofs.YteigbokklclmbaaGreatDoorW.PrintLast Go.Proofs.YteigbokklclmbaaGreatDoorW.PrintMore
attribute [local go_sem] max2_int min2_int max_two min_two max_three min_three max_four min_four   -- for this text's walks alone
set_option linter.unusedVariables false
set_option linter.unusedSimpArgs false



def errW : Option Int → Value
  | none => .nilIface
  | some c => .iface 0 (.int .i64 c)
theorem errW_none : errW none = .nilIface := rfl
theorem errW_some (c : Int) : errW (some c) = .iface 0 (.int .i64 c) := rfl

-- the values' own types
structure S23 where
  f0 : Int
  f1 : Int
def z23 : S23 := ⟨(0 : Int), (0 : Int)⟩
def k23 : Kd S23 := Kd.iso (Kd.pair (Kd.int .i64) (Kd.int .i64)) (fun x : S23 => (x.f0, x.f1))
theorem k23_open {w : World} {x : S23} {cs : List Value} (h : k23.K w x cs) : cs = [.int .i64 x.f0, .int .i64 x.f1] := by
  obtain ⟨_, _, rfl, rfl, rfl⟩ := h
  exact rfl
theorem k23_mkM (w : World) (base : Nat) (ok : Nat → Prop) (x : S23)  : k23.M w base ok x [.int .i64 x.f0, .int .i64 x.f1] := ⟨[.int .i64 x.f0], [.int .i64 x.f1], rfl, rfl, rfl⟩
def rd_T23 (xs : List S23) (i : Int) : S23 := xs.getD i.toNat z23
theorem at_T23 {w : World} {A : Option Addr} {n : Nat} {xs : List S23} (h : Kd.C k23 w A n xs) (i : Int) (h0 : 0 ≤ i) (h1 : i < n) : ∃ ad , A = some ad ∧ w.cell? (ad.add (i.toNat * 2)) = some (.int .i64 (rd_T23 xs i).f0) ∧ w.cell? ⟨(ad.add (i.toNat * 2)).block, (ad.add (i.toNat * 2)).off + 1, none⟩ = some (.int .i64 (rd_T23 xs i).f1) := by
  obtain ⟨ad, c, e, _, hK, hc0⟩ := Kd.C_get h z23 i h0 h1
  have hc : ∀ j u, c[j]? = some u → w.cell? (ad.add (i.toNat * 2 + j)) = some u := hc0
  obtain rfl := k23_open hK
  exact ⟨ad, e, hc 0 _ rfl, by rw [← add_field _ _ 1 (by omega)]; exact hc 1 _ rfl⟩

end Go.Proofs.YteigbokklclmbaaGreatDoor.Z.Y.Q
end
section
namespace Go.Proofs.YteigbokklclmbaaGreatDoor.Z.Y.Q
open Go Go.RowKit Go.Proofs.YteigbokklclmbaaGreatDoor.Given Go.Proofs.YteigbokklclmbaaGreatDoorW.PrintWords Go.Proofs.YteigbokklclmbaaGreatDoorW.PrintLast Go.Proofs.YteigbokklclmbaaGreatDoorW.PrintMore
set_option linter.unusedVariables false
def real_all.f : List S23 → Option Bool
  | [a, b] => (real_Valid.f a.f0 a.f1).bind fun v0 => (real_Valid.f b.f0 b.f1).bind fun v1 => some (v0 && v1)
  | _ => none
theorem real_all.calls (A : Option Addr) (c : Nat) (xs : List S23) (r : Bool) (w : World) (HC : Kd.C k23 w A xs.length xs) (hc : xs.length ≤ c) (h : real_all.f xs = some r) :
    Calls Tryz.prog 99 #[.slice A xs.length c] w fun e w' => e = .returned (.bool r) ∧ Below w.heap.size w w' := by
  match xs, HC, hc, h with
  | [a, b], HC, hc, h =>
    obtain ⟨v0, h0, h⟩ := Option.bind_eq_some_iff.mp h
    obtain ⟨v1, h1, h⟩ := Option.bind_eq_some_iff.mp h
    obtain ⟨ad, e, c0, c1⟩ := at_T23 HC 0 (by decide) (by simp)
    obtain ⟨ad', e', c2, c3⟩ := at_T23 HC 1 (by decide) (by simp)
    subst e
    cases e'
    cases h
    exact all2g_c ad c a.f0 a.f1 b.f0 b.f1 v0 v1 h0 h1 w ⟨c0, c1, c2, c3⟩
  | [], _, _, h => cases h
  | [_], _, _, h => cases h
  | _ :: _ :: _ :: _, _, _, h => cases h
end Go.Proofs.YteigbokklclmbaaGreatDoor.Z.Y.Q
end
section
namespace Go.Proofs.YteigbokklclmbaaGreatDoor.Z.Y.Q
open Go.RowKit Go.Proofs.YteigbokklclmbaaGreatDoor.Given Go.Proofs.YteigbokklclmbaaGreatDoorW.PrintWords Go.Proofs.YteigbokklclmbaaGreatDoorW.PrintLast Go.Proofs.YteigbokklclmbaaGreatDoorW.PrintMore
attribute [local go_sem] max2_int min2_int max_two min_two max_three min_three max_four min_four   -- for this text's walks alone
set_option linter.unusedVariables false
set_option linter.unusedSimpArgs false

def real_Cmp.f (a0_0 : Int) (a0_1 : Int) (a1_0 : Int) (a1_1 : Int) : Option (Int × Int) := (real_all.f (([(⟨a0_0, a0_1⟩ : S23), (⟨a1_0, a1_1⟩ : S23)] : List (S23)))).bind fun t106 => (if t106 = true then ((real_index.f a0_0 a0_1).bind fun t107 => ((real_index.f a1_0 a1_1).bind fun t108 => ((real_sign.f (wrap64 (t107 - t108))).bind fun t109 => (some (t109, 0))))) else (some (0, 1)))
def real_Cmp.T3 : Bool × List (List Nat × List Nat) := (true, [([], []), ([0], [0]), ([], []), ([2, 1], [2]), ([1, 3], [1, 3]), ([4, 3], [4]), ([5, 5, 0, 1, 2, 3, 4, 5], [5]), ([6, 0, 1, 2, 3, 4, 5, 6], [])])
def real_Cmp.B3 : List Nat := [0, 1, 0, 7, 15, 31, 63, 127]
theorem real_Cmp.tab3 : rtab .any (opsOf Tryz.f48 3) = real_Cmp.T3 := by kernel_rfl
theorem real_Cmp.bits3 : waitsOk real_Cmp.T3.2 real_Cmp.B3 = true := by kernel_rfl
set_option maxHeartbeats 8000000 in
set_option maxRecDepth 100000 in
theorem real_Cmp.calls (a0_0 : Int) (a0_1 : Int) (a1_0 : Int) (a1_1 : Int) (r1 : Int) (r2 : Int) (w : World) (h : real_Cmp.f a0_0 a0_1 a1_0 a1_1 = some (r1, r2)) :
  Calls Tryz.prog 48 #[.agg #[.int .i64 a0_0, .int .i64 a0_1], .agg #[.int .i64 a1_0, .int .i64 a1_1]] w fun e w' => e = .returned (.tuple #[.int .i64 r1, .int .i64 r2]) ∧ Below w.heap.size w w' := by
 have hu23 := Tryz.underlying23
 have HB := Aside0.mk (Below.refl w.heap.size w)
 have H : ((real_all.f (([(⟨a0_0, a0_1⟩ : S23), (⟨a1_0, a1_1⟩ : S23)] : List (S23)))).bind fun t106 => (if t106 = true then ((real_index.f a0_0 a0_1).bind fun t107 => ((real_index.f a1_0 a1_1).bind fun t108 => ((real_sign.f (wrap64 (t107 - t108))).bind fun t109 => (some (t109, 0))))) else (some (0, 1)))) = some (r1, r2) := h
 clear h
 obtain ⟨y103, hy103⟩ : ∃ y_ : List (S23), y_ = (([(⟨a0_0, a0_1⟩ : S23), (⟨a1_0, a1_1⟩ : S23)] : List (S23))) := ⟨_, rfl⟩
 replace H : ((real_all.f y103).bind fun t106 => (if t106 = true then ((real_index.f a0_0 a0_1).bind fun t107 => ((real_index.f a1_0 a1_1).bind fun t108 => ((real_sign.f (wrap64 (t107 - t108))).bind fun t109 => (some (t109, 0))))) else (some (0, 1)))) = some (r1, r2) := by first | (rw [hy103]; with_reducible exact H) | (have H2_ := (Option.bind_some _ _).symm.trans H; rw [hy103]; with_reducible exact H2_) | (have H2_ := (Option.bind_some _ _).symm.trans H; with_reducible exact H2_) | with_reducible exact H | (rw [hy103]; exact H) | exact H
 have Ny103 := Aside0.mk hy103
 clear hy103
 replace H := Option.bind_eq_some_iff.mp H
 obtain ⟨t106, A30, H⟩ := H
 replace H : (if t106 = true then ((real_index.f a0_0 a0_1).bind fun t107 => ((real_index.f a1_0 a1_1).bind fun t108 => ((real_sign.f (wrap64 (t107 - t108))).bind fun t109 => (some (t109, 0))))) else (some (0, 1))) = some (r1, r2) := H
 have A3 := Aside0.mk A30
 clear A30
 by_cases c4 : t106 = true
 ·subst c4
  have H1 : ((real_index.f a0_0 a0_1).bind fun t107 => ((real_index.f a1_0 a1_1).bind fun t108 => ((real_sign.f (wrap64 (t107 - t108))).bind fun t109 => (some (t109, 0))))) = some (r1, r2) := by rw [if_pos rfl] at H; exact H
  clear H
  have H := H1
  clear H1
  replace H := Option.bind_eq_some_iff.mp H
  obtain ⟨t107, A50, H⟩ := H
  replace H : ((real_index.f a1_0 a1_1).bind fun t108 => ((real_sign.f (wrap64 (t107 - t108))).bind fun t109 => (some (t109, 0)))) = some (r1, r2) := H
  have A5 := Aside0.mk A50
  clear A50
  replace H := Option.bind_eq_some_iff.mp H
  obtain ⟨t108, A60, H⟩ := H
  replace H : ((real_sign.f (wrap64 (t107 - t108))).bind fun t109 => (some (t109, 0))) = some (r1, r2) := H
  have A6 := Aside0.mk A60
  clear A60
  replace H := Option.bind_eq_some_iff.mp H
  obtain ⟨t109, A70, H⟩ := H
  replace H : (some (t109, 0)) = some (r1, r2) := H
  have A7 := Aside0.mk A70
  clear A70
  simp only [Option.some.injEq, Prod.mk.injEq] at H
  obtain ⟨rfl, rfl⟩ := H
  go_enter Tryz.func48, Tryz.ntmps48
  try go_wp2_with (first | ((with_reducible refine gate_dst (N := 2) rfl ?_); refine box_event ?hg (N := 2) ?hd (cs := #[.int .i64 a0_0, .int .i64 a0_1]) (t := 23) ?hr ?_; (case hd => rfl); (case hg => rfl); (case hr => first | (go_simp; done) | (go_simp; rfl)); intro gb101 hg w8 hbox hb; have BK101 := Aside0.mk hbox; have GW101 := ge hg; have GE101 := ge hg; replace HB := bs hb; clear hb hbox hg) | ((with_reducible refine gate_dst (N := 3) rfl ?_); refine box_event ?hg (N := 3) ?hd (cs := #[.int .i64 a1_0, .int .i64 a1_1]) (t := 23) ?hr ?_; (case hd => rfl); (case hg => rfl); (case hr => first | (go_simp; done) | (go_simp; rfl)); intro gb102 hg w9 hbox hb; have BK102 := Aside0.mk hbox; have GW102 := ge hg; have GE102 := ge hg; have NB101_102 := nl BK101 hg; have NB102_101 := nr BK101 hg; replace BK101 := kb BK101 hb; replace HB := bs hb; clear hb hbox hg; have hnb10 := NB101_102.out; have hnc10 := NB102_101.out; have hcz11_0 := Given.c20 BK101; have hcz11_1 := Given.c21 BK101; have hfz11_0 := blk_frozen BK101.out 0; have hfz11_1 := blk_frozen BK101.out 1; have hcz12_0 := Given.c20 BK102; have hcz12_1 := Given.c21 BK102; have hfz12_0 := blk_frozen BK102.out 0; have hfz12_1 := blk_frozen BK102.out 1) | ((with_reducible refine gate_dst (N := 8) rfl ?_); refine Kd.R_lit k23 _ 23 ?hg (N := 8) ?hd (xs := ([(⟨a0_0, a0_1⟩ : S23), (⟨a1_0, a1_1⟩ : S23)] : List (S23))) (inner := [.int .i64 a0_0, .int .i64 a0_1, .int .i64 a1_0, .int .i64 a1_1]) (ok := fun _ => True) (okp := fun _ => True) ?hr ?hp (fun _ hk => hk) trivial (Below.refl _ _) (Nat.le_refl _) (by simp) ?_; (case hd => rfl); (case hg => rfl); (case hr => first | (go_simp; done) | (go_simp; rfl)); (case hp => exact (Reps.c2 (show Kd.M k23 _ _ _ (⟨a0_0, a0_1⟩ : S23) [.int .i64 a0_0, .int .i64 a0_1] from (k23_mkM _ _ _ (⟨a0_0, a0_1⟩ : S23) )) (Reps.c2 (show Kd.M k23 _ _ _ (⟨a1_0, a1_1⟩ : S23) [.int .i64 a1_0, .int .i64 a1_1] from (k23_mkM _ _ _ (⟨a1_0, a1_1⟩ : S23) )) (Reps.none _ _)))); intro v104 w13 ho14 hb hg_ hnew_; clear hg_ hnew_; (first | rw [← Ny103.out] at ho14 | (simp only [Int.reduceToNat] at ho14; rw [← Ny103.out] at ho14)); have HO105 := Aside0.mk (Kd.R_lower (Kd.R_newB (Kd.R_newB ho14 (g := gb101) (o := .cells #[.int .i64 a0_0, .int .i64 a0_1] 23 (0, 0)) (kz BK101)) (g := gb102) (o := .cells #[.int .i64 a1_0, .int .i64 a1_1] 23 (0, 0)) (kz BK102)) (below_size bz)); replace BK101 := kb BK101 hb; replace BK102 := kb BK102 hb; replace HB := bs hb; clear hb ho14; obtain ⟨Ao15, co15, eo15⟩ := Kd.R_slice HO105.out; subst eo15) | ((with_reducible refine gate_callee (f := 99) rfl ?_); refine goesL_ (some 9) rfl rfl Tryz.func99 (by kernel_rfl) rfl #[.slice Ao15 y103.length co15] rfl az ?_; (with_reducible refine (real_all.calls _ _ y103 true _ ?side1 ?side2 A3.out).mono ?_); (case side1 => exact ccz (Kd.R_reads' HO105.out).2.2); (case side2 => exact (Kd.R_reads' HO105.out).2.1); rintro e w16 ⟨rfl, hb⟩; refine ⟨_, rfl, ?_⟩; replace HO105 := rb HO105 hb; replace BK101 := kb BK101 hb; replace BK102 := kb BK102 hb; replace HB := bs hb; (try clear hb); (try clear hk)))
  replace HO105 := Aside0.mk (Kd.R_drew HO105.out)
  replace BK101 := Aside0.mk (blk_drew BK101.out)
  replace BK102 := Aside0.mk (blk_drew BK102.out)
  replace HB := Aside0.mk (below_drew1 HB.out)
  refine start_ (n := 8) (S := fun w' => w'.cell? ⟨gb101, 0, none⟩ = some (.int .i64 a0_0) ∧ w'.cell? ⟨gb101, 1, none⟩ = some (.int .i64 a0_1) ∧ w'.cell? ⟨gb102, 0, none⟩ = some (.int .i64 a1_0) ∧ w'.cell? ⟨gb102, 1, none⟩ = some (.int .i64 a1_1)) (ds := []) #[false, false, false, false, false, false, false, false] (by kernel_rfl) rfl rfl ⟨(blk_cell BK101.out 0).trans rfl, (blk_cell BK101.out 1).trans rfl, (blk_cell BK102.out 0).trans rfl, (blk_cell BK102.out 1).trans rfl⟩ (fun hHeld => ?_); refine with_tabW real_Cmp.tab3 real_Cmp.bits3 (fun HT_ HW_ => ?_)
  generalize w16.drew = w17 at HO105 BK101 BK102 HB hHeld ⊢
  refine tk4 0 (some 11) #[tt,ff,ff,ff,ff,ff,ff,ff] ?_
  refine tk4 2 (some 13) #[tt,ff,tt,ff,ff,ff,ff,ff] ?_
  refine one_ (i := 1) (N := some 12) #[true, true, true, false, false, false, false, false] rfl rfl (one_of HT_.out (by kernel_rfl)) (by decide) (fun K hK => ?_)
  refine goes_ Tryz.func110 (by kernel_rfl) rfl #[.agg #[.int .i64 a0_0, .int .i64 a0_1]] (by rfl) rfl rfl az ?_
  with_reducible refine (real_index.calls a0_0 a0_1 t107 _ A5.out).mono ?_
  rintro e w18 ⟨rfl, hb⟩
  refine ⟨_, rfl, ?_⟩
  replace HO105 := rb HO105 hb
  replace BK101 := kb BK101 hb
  replace BK102 := kb BK102 hb
  replace HB := bs hb
  (try clear hb)
  (try clear hk)
  refine hK.out _ _ ⟨(blk_cell BK101.out 0).trans rfl, (blk_cell BK101.out 1).trans rfl, (blk_cell BK102.out 0).trans rfl, (blk_cell BK102.out 1).trans rfl⟩ (fun hHeld => ?_)
  clear hK K
  refine norm_ (a' := ?_) ?_ ?_
  rotate_left
  ·show Act.put _ (some 12) _ = _
   simp only [Act.put, List.setIfInBounds_toArray, List.set_cons_zero, List.set_cons_succ, i64_w, i32_w]
   rfl
  refine one_ (i := 3) (N := some 14) #[true, true, true, true, false, false, false, false] rfl rfl (one_of HT_.out (by kernel_rfl)) (by decide) (fun K hK => ?_)
  refine goes_ Tryz.func110 (by kernel_rfl) rfl #[.agg #[.int .i64 a1_0, .int .i64 a1_1]] (by rfl) rfl rfl az ?_
  with_reducible refine (real_index.calls a1_0 a1_1 t108 _ A6.out).mono ?_
  rintro e w19 ⟨rfl, hb⟩
  refine ⟨_, rfl, ?_⟩
  replace HO105 := rb HO105 hb
  replace BK101 := kb BK101 hb
  replace BK102 := kb BK102 hb
  replace HB := bs hb
  (try clear hb)
  (try clear hk)
  refine hK.out _ _ ⟨(blk_cell BK101.out 0).trans rfl, (blk_cell BK101.out 1).trans rfl, (blk_cell BK102.out 0).trans rfl, (blk_cell BK102.out 1).trans rfl⟩ (fun hHeld => ?_)
  clear hK K
  refine norm_ (a' := ?_) ?_ ?_
  rotate_left
  ·show Act.put _ (some 14) _ = _
   simp only [Act.put, List.setIfInBounds_toArray, List.set_cons_zero, List.set_cons_succ, i64_w, i32_w]
   rfl
  refine pur 4 (some 15) #[tt,tt,tt,tt,tt,ff,ff,ff] ?_
  refine one_ (i := 5) (N := some 16) #[true, true, true, true, true, true, false, false] rfl rfl (one_of HT_.out (by kernel_rfl)) (by decide) (fun K hK => ?_)
  refine goes_ Tryz.func109 (by kernel_rfl) rfl #[.int .i64 (wrap64 (t107 - t108))] (by rfl) rfl rfl az ?_
  with_reducible refine (real_sign.calls (wrap64 (t107 - t108)) t109 _ A7.out).mono ?_
  rintro e w' ⟨rfl, ⟨nd, rfl⟩⟩
  refine ⟨_, rfl, ?_⟩
  refine hK.out _ _ ⟨(blk_cell BK101.out 0).trans rfl, (blk_cell BK101.out 1).trans rfl, (blk_cell BK102.out 0).trans rfl, (blk_cell BK102.out 1).trans rfl⟩ (fun hHeld => ?_)
  clear hK K
  refine norm_ (a' := ?_) ?_ ?_
  rotate_left
  ·show Act.put _ (some 16) _ = _
   simp only [Act.put, List.setIfInBounds_toArray, List.set_cons_zero, List.set_cons_succ, i64_w, i32_w]
   rfl
  refine pur 6 (some 4) #[tt,tt,tt,tt,tt,tt,tt,ff] ?_
  refine pur 7 (some 5) #[tt,tt,tt,tt,tt,tt,tt,tt] ?_
  refine done_ (done_of HT_.out (by kernel_rfl)) ?_
  try go_wp2
  go_ret2
  exact ⟨by first | rfl | (simp [errW_none, errW_some] <;> rfl) | (simp [*, errW_none, errW_some] <;> rfl), bz⟩
 ·replace c4 := Bool.eq_false_iff.mpr c4
  subst c4
  have H1 : (some (0, 1)) = some (r1, r2) := by rw [if_neg (show ¬ (false = true) by decide)] at H; exact H
  clear H
  have H := H1
  clear H1
  simp only [Option.some.injEq, Prod.mk.injEq] at H
  obtain ⟨rfl, rfl⟩ := H
  go_enter Tryz.func48, Tryz.ntmps48
  go_wp2_with (first | ((with_reducible refine gate_dst (N := 2) rfl ?_); refine box_event ?hg (N := 2) ?hd (cs := #[.int .i64 a0_0, .int .i64 a0_1]) (t := 23) ?hr ?_; (case hd => rfl); (case hg => rfl); (case hr => first | (go_simp; done) | (go_simp; rfl)); intro gb101 hg w20 hbox hb; have BK101 := Aside0.mk hbox; have GW101 := ge hg; have GE101 := ge hg; replace HB := bs hb; clear hb hbox hg) | ((with_reducible refine gate_dst (N := 3) rfl ?_); refine box_event ?hg (N := 3) ?hd (cs := #[.int .i64 a1_0, .int .i64 a1_1]) (t := 23) ?hr ?_; (case hd => rfl); (case hg => rfl); (case hr => first | (go_simp; done) | (go_simp; rfl)); intro gb102 hg w21 hbox hb; have BK102 := Aside0.mk hbox; have GW102 := ge hg; have GE102 := ge hg; have NB101_102 := nl BK101 hg; have NB102_101 := nr BK101 hg; replace BK101 := kb BK101 hb; replace HB := bs hb; clear hb hbox hg; have hnb22 := NB101_102.out; have hnc22 := NB102_101.out; have hcz23_0 := Given.c20 BK101; have hcz23_1 := Given.c21 BK101; have hfz23_0 := blk_frozen BK101.out 0; have hfz23_1 := blk_frozen BK101.out 1; have hcz24_0 := Given.c20 BK102; have hcz24_1 := Given.c21 BK102; have hfz24_0 := blk_frozen BK102.out 0; have hfz24_1 := blk_frozen BK102.out 1) | ((with_reducible refine gate_dst (N := 8) rfl ?_); refine Kd.R_lit k23 _ 23 ?hg (N := 8) ?hd (xs := ([(⟨a0_0, a0_1⟩ : S23), (⟨a1_0, a1_1⟩ : S23)] : List (S23))) (inner := [.int .i64 a0_0, .int .i64 a0_1, .int .i64 a1_0, .int .i64 a1_1]) (ok := fun _ => True) (okp := fun _ => True) ?hr ?hp (fun _ hk => hk) trivial (Below.refl _ _) (Nat.le_refl _) (by simp) ?_; (case hd => rfl); (case hg => rfl); (case hr => first | (go_simp; done) | (go_simp; rfl)); (case hp => exact (Reps.c2 (show Kd.M k23 _ _ _ (⟨a0_0, a0_1⟩ : S23) [.int .i64 a0_0, .int .i64 a0_1] from (k23_mkM _ _ _ (⟨a0_0, a0_1⟩ : S23) )) (Reps.c2 (show Kd.M k23 _ _ _ (⟨a1_0, a1_1⟩ : S23) [.int .i64 a1_0, .int .i64 a1_1] from (k23_mkM _ _ _ (⟨a1_0, a1_1⟩ : S23) )) (Reps.none _ _)))); intro v104 w25 ho26 hb hg_ hnew_; clear hg_ hnew_; (first | rw [← Ny103.out] at ho26 | (simp only [Int.reduceToNat] at ho26; rw [← Ny103.out] at ho26)); have HO105 := Aside0.mk (Kd.R_lower (Kd.R_newB (Kd.R_newB ho26 (g := gb101) (o := .cells #[.int .i64 a0_0, .int .i64 a0_1] 23 (0, 0)) (kz BK101)) (g := gb102) (o := .cells #[.int .i64 a1_0, .int .i64 a1_1] 23 (0, 0)) (kz BK102)) (below_size bz)); replace BK101 := kb BK101 hb; replace BK102 := kb BK102 hb; replace HB := bs hb; clear hb ho26; obtain ⟨Ao27, co27, eo27⟩ := Kd.R_slice HO105.out; subst eo27) | ((with_reducible refine gate_callee (f := 99) rfl ?_); refine goesL_ (some 9) rfl rfl Tryz.func99 (by kernel_rfl) rfl #[.slice Ao27 y103.length co27] rfl az ?_; (with_reducible refine (real_all.calls _ _ y103 false _ ?side1 ?side2 A3.out).mono ?_); (case side1 => exact ccz (Kd.R_reads' HO105.out).2.2); (case side2 => exact (Kd.R_reads' HO105.out).2.1); rintro e w28 ⟨rfl, hb⟩; refine ⟨_, rfl, ?_⟩; replace HO105 := rb HO105 hb; replace BK101 := kb BK101 hb; replace BK102 := kb BK102 hb; replace HB := bs hb; (try clear hb); (try clear hk)))
  go_ret2
  exact ⟨by first | rfl | (simp [errW_none, errW_some] <;> rfl) | (simp [*, errW_none, errW_some] <;> rfl), bz⟩

end Go.Proofs.YteigbokklclmbaaGreatDoor.Z.Y.Q
end
