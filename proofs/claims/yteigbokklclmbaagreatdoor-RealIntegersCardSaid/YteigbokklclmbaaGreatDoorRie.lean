/- Contracts and lemmas that the law's row leans on, joined by program (pack.py) out of the session's texts; no condition of its own. -/
import Derived.Test.YteigbokklclmbaaGreatDoorProg
import Derived.Below
import Derived.Deep.Draws
import Derived.Deep.AppendLies
import Derived.Maps.AppendAt
import Derived.OwnWalk
import Derived.Laws.BytesArg
import Derived.Laws.MakeOwn
import Derived.Laws.OwnMore
import Derived.Deep.OwnRows
import Derived.Tactics
import Derived.Lib.ConvBytes
import Derived.Laws.Slices
import Derived.WalkKit
import Derived.KernelRfl
import Derived.RowKit3
import Derived.Deep.LoopGhost
import Derived.Deep.QuietTactic
import Derived.BigQuiet
import Derived.WideLaws
import Derived.Deep.DeepCutAuto
import Derived.Deep.CutBlock
import Derived.Deep.RegionHeld3
import Derived.Laws.Rows
import Derived.Lib.AppendStr
import Derived.ArgAppend
import Derived.Laws.IdiomCopy
import Derived.OrdersHeld
import Derived.Laws.BitsLemmas
import Derived.RowKit
import Derived.Test.YteigbokklclmbaaGreatDoorRows
import Derived.Test.YteigbokklclmbaaGreatDoorRia
import Derived.Test.YteigbokklclmbaaGreatDoorRib
import Derived.Test.YteigbokklclmbaaGreatDoorRic
import Derived.Test.YteigbokklclmbaaGreatDoorRid
section
namespace Go.Proofs.YteigbokklclmbaaGreatDoor.Z
open Go Go.RowKit Go.Proofs.YteigbokklclmbaaGreatDoor.Given Go.Proofs.YteigbokklclmbaaGreatDoorW.PrintWords Go.Proofs.YteigbokklclmbaaGreatDoorW.PrintLast Go.Proofs.YteigbokklclmbaaGreatDoorW.PrintMore
set_option linter.unusedVariables false
set_option linter.unusedSimpArgs false
def dotS : ByteArray := { data := #[46] }
def eS : ByteArray := { data := #[101] }
theorem nil_C (w : World) : Kd.C (Kd.int .u32) w none ([] : List Int).length [] := Kd.C_of_reads (enc := Value.int .u32) (d := (0 : Int)) (h1 := fun _ => rfl) ⟨rfl, by simp, fun h => absurd h (by simp)⟩
theorem parse1_n (k : Nat) (neg : Bool) (l : List Int) (A : Option Addr) (c : Nat) (exp behind m x r1 r2 : Int) (hd : real_decimal.f k l (wrap64 (exp - behind)) = some (m, x)) (hs : real_signed.f neg m x = some (r1, r2)) (b0 b1 b2 b3 : Nat) (w : World)
    (h0 : w.heap[b0]? = some (.cells #[.bool neg] 4 (0, 0))) (h1 : w.heap[b1]? = some (.cells #[.slice A l.length c] 87 (0, 0))) (h2 : w.heap[b2]? = some (.cells #[.int .i64 exp] 3 (0, 0))) (h3 : w.heap[b3]? = some (.cells #[.int .i64 behind] 3 (0, 0)))
    (hN : Nat32 w (.slice A l.length c) l) :
    Calls Tryz.prog 79 #[.pointer (some ⟨b0, 0, none⟩), .pointer (some ⟨b1, 0, none⟩), .pointer (some ⟨b2, 0, none⟩), .pointer (some ⟨b3, 0, none⟩)] w fun e w' => e = ending r1 r2 ∧ Below w.heap.size w w' := by
  obtain ⟨A', c', heq, hc, hC⟩ := hN
  cases heq
  exact parse1_c k neg l A c exp behind m x r1 r2 hd hs b0 b1 b2 b3 w h0 h1 h2 h3 hC hc
set_option maxRecDepth 100000 in
set_option maxHeartbeats 8000000 in
theorem parse_E1 (k : Nat) (s : ByteArray) (w : World) (hsz : (s.size : Int) > 60) :
    Calls Tryz.prog 25 #[.string s] w fun e w' => e = .returned (.tuple #[.agg #[.int .i64 0, .int .i64 0], .int .i64 7]) ∧ Below w.heap.size w w' := by
  have HB := Lib.hid (Below.refl w.heap.size w)
  go_enter Tryz.func25, Tryz.ntmps25
  go_wp2
  refine bodyPost_ret (results_ct rfl _ _ (w.heap.size) 23 #[.int .i64 0, .int .i64 0] (0, 0) _ rfl (new_at _ _ _ rfl) Tryz.underlying23 rfl (by kernel_rfl)) rfl ?_
  exact ⟨rfl, (HB.out).alloc (by first | omega | (simp only [World.size_alloc, World.size_setCell]; done) | (simp only [World.size_alloc, World.size_setCell]; omega)) _⟩
set_option maxRecDepth 100000 in
set_option maxHeartbeats 8000000 in
theorem parse_E2 (k : Nat) (s : ByteArray) (w : World) (hsz : ¬ (s.size : Int) > 60) (rest : ByteArray) (neg : Bool) (hc1 : strings_CutPrefix.f s minusS = some (rest, neg)) (n : List Int) (rest2 : ByteArray) (hn1 : real_number.f k rest [] = some (n, 0, rest2)) :
    Calls Tryz.prog 25 #[.string s] w fun e w' => e = .returned (.tuple #[.agg #[.int .i64 0, .int .i64 0], .int .i64 7]) ∧ Below w.heap.size w w' := by
  have HB := Lib.hid (Below.refl w.heap.size w)
  go_enter Tryz.func25, Tryz.ntmps25
  go_wp2_with fail
  refine (strings_CutPrefix.calls s minusS rest neg _ hc1).mono ?_
  rintro e w1 ⟨rfl, hd⟩
  have hb := hd.below
  have nZ := Lib.hid (blk_below (new_at _ _ (w.heap.size) (by first | omega | (simp only [World.size_alloc, World.size_setCell]; done) | (simp only [World.size_alloc, World.size_setCell]; omega))) hb)
  have nB := Lib.hid (((HB.out).alloc (by first | omega | (simp only [World.size_alloc, World.size_setCell]; done) | (simp only [World.size_alloc, World.size_setCell]; omega)) _).trans (hb.mono (by first | omega | (simp only [World.size_alloc, World.size_setCell]; done) | (simp only [World.size_alloc, World.size_setCell]; omega))))
  have hs1 := hb.size
  try simp only [World.size_alloc, World.size_setCell] at hs1
  clear HB
  have HZ := nZ
  have HB := nB
  clear nB nZ
  clear hb hd
  have cZ0 : w1.cell? ⟨w.heap.size, 0, none⟩ = some (Value.int .i64 0) := (blk_cell HZ.out 0).trans rfl
  have fZ0 := blk_frozen HZ.out 0
  have cZ1 : w1.cell? ⟨w.heap.size, 1, none⟩ = some (Value.int .i64 0) := (blk_cell HZ.out 1).trans rfl
  have fZ1 := blk_frozen HZ.out 1
  have lZ1 := blk_lt HZ.out
  go_wp2_with fail
  refine (number_c k rest none 0 [] n 0 rest2 _ (nil_C _) (Nat.zero_le _) hn1).mono ?_
  rintro e w2 ⟨⟨v, hv, rfl⟩, hb⟩
  have nZ := Lib.hid (blk_below (blk_alloc (HZ.out) _) hb)
  have nG := Lib.hid (blk_below (new_at _ _ (w1.heap.size) (by first | omega | (simp only [World.size_alloc, World.size_setCell]; done) | (simp only [World.size_alloc, World.size_setCell]; omega))) hb)
  have nB := Lib.hid (((HB.out).alloc (by first | omega | (simp only [World.size_alloc, World.size_setCell]; done) | (simp only [World.size_alloc, World.size_setCell]; omega)) _).trans (hb.mono (by first | omega | (simp only [World.size_alloc, World.size_setCell]; done) | (simp only [World.size_alloc, World.size_setCell]; omega))))
  have hs2 := hb.size
  try simp only [World.size_alloc, World.size_setCell] at hs2
  clear HB HZ
  try clear cZ0 fZ0 cZ1 fZ1
  have HZ := nZ
  have HG := nG
  have HB := nB
  clear nB nZ nG
  clear hb
  have cZ0 : w2.cell? ⟨w.heap.size, 0, none⟩ = some (Value.int .i64 0) := (blk_cell HZ.out 0).trans rfl
  have fZ0 := blk_frozen HZ.out 0
  have cZ1 : w2.cell? ⟨w.heap.size, 1, none⟩ = some (Value.int .i64 0) := (blk_cell HZ.out 1).trans rfl
  have fZ1 := blk_frozen HZ.out 1
  have lZ2 := blk_lt HZ.out
  have cG0 : w2.cell? ⟨w1.heap.size, 0, none⟩ = some (.bool neg) := (blk_cell HG.out 0).trans rfl
  have fG0 := blk_frozen HG.out 0
  have lG2 := blk_lt HG.out
  obtain ⟨A, c, rfl, hc, hC⟩ := hv
  have HN := Lib.hid (show Nat32 w2 (.slice A n.length c) n from ⟨A, c, rfl, hc, hC⟩)
  clear hC
  go_wp2
  have fz : (((w2.setCell ⟨w.heap.size, 0, none⟩ (.int .i64 0)).setCell ⟨w.heap.size, 1, none⟩ (.int .i64 0)).alloc (.cells #[.slice A n.length c] 87)).heap[w.heap.size]? = some (.cells #[Value.int .i64 0, Value.int .i64 0] 23 (0, 0)) := blk_alloc (heap_setCell_same _ _ 1 _ _ _ (heap_setCell_same _ _ 0 _ _ _ (HZ.out))) _
  refine bodyPost_ret (results_ct rfl _ _ (w.heap.size) 23 #[.int .i64 0, .int .i64 0] (0, 0) _ rfl fz Tryz.underlying23 rfl (by kernel_rfl)) rfl ?_
  exact ⟨rfl, (((HB.out).setCell (p := ⟨w.heap.size, 0, none⟩) (by simp only; omega) _).setCell (p := ⟨w.heap.size, 1, none⟩) (by simp only; omega) _).alloc (by first | omega | (simp only [World.size_alloc, World.size_setCell]; done) | (simp only [World.size_alloc, World.size_setCell]; omega)) _⟩
set_option maxRecDepth 100000 in
set_option maxHeartbeats 8000000 in
theorem parse_Z (k : Nat) (s : ByteArray) (w : World) (hsz : ¬ (s.size : Int) > 60) (rest : ByteArray) (neg : Bool) (hc1 : strings_CutPrefix.f s minusS = some (rest, neg)) (n : List Int) (many : Int) (rest2 : ByteArray) (hn1 : real_number.f k rest [] = some (n, many, rest2)) (hmany : ¬ many = 0) (after : ByteArray) (hc2 : strings_CutPrefix.f rest2 dotS = some (after, false)) (hrest : rest2.toList = []) (m y r1 r2 t0 t1 t2 : Int) (hd1 : real_decimal.f k n (wrap64 (0 - 0)) = some (m, y)) (hsg : real_signed.f neg m y = some (r1, r2)) (ht : caughtS r1 r2 = (t0, t1, t2)) :
    Calls Tryz.prog 25 #[.string s] w fun e w' => e = .returned (.tuple #[.agg #[.int .i64 t0, .int .i64 t1], .int .i64 t2]) ∧ Below w.heap.size w w' := by
  have HB := Lib.hid (Below.refl w.heap.size w)
  go_enter Tryz.func25, Tryz.ntmps25
  go_wp2_with fail
  refine (strings_CutPrefix.calls s minusS rest neg _ hc1).mono ?_
  rintro e w1 ⟨rfl, hd⟩
  have hb := hd.below
  have nZ := Lib.hid (blk_below (new_at _ _ (w.heap.size) (by first | omega | (simp only [World.size_alloc, World.size_setCell]; done) | (simp only [World.size_alloc, World.size_setCell]; omega))) hb)
  have nB := Lib.hid (((HB.out).alloc (by first | omega | (simp only [World.size_alloc, World.size_setCell]; done) | (simp only [World.size_alloc, World.size_setCell]; omega)) _).trans (hb.mono (by first | omega | (simp only [World.size_alloc, World.size_setCell]; done) | (simp only [World.size_alloc, World.size_setCell]; omega))))
  have hs1 := hb.size
  try simp only [World.size_alloc, World.size_setCell] at hs1
  clear HB
  have HZ := nZ
  have HB := nB
  clear nB nZ
  clear hb hd
  have cZ0 : w1.cell? ⟨w.heap.size, 0, none⟩ = some (Value.int .i64 0) := (blk_cell HZ.out 0).trans rfl
  have fZ0 := blk_frozen HZ.out 0
  have cZ1 : w1.cell? ⟨w.heap.size, 1, none⟩ = some (Value.int .i64 0) := (blk_cell HZ.out 1).trans rfl
  have fZ1 := blk_frozen HZ.out 1
  have lZ1 := blk_lt HZ.out
  go_wp2_with fail
  refine (number_c k rest none 0 [] n many rest2 _ (nil_C _) (Nat.zero_le _) hn1).mono ?_
  rintro e w2 ⟨⟨v, hv, rfl⟩, hb⟩
  have nZ := Lib.hid (blk_below (blk_alloc (HZ.out) _) hb)
  have nG := Lib.hid (blk_below (new_at _ _ (w1.heap.size) (by first | omega | (simp only [World.size_alloc, World.size_setCell]; done) | (simp only [World.size_alloc, World.size_setCell]; omega))) hb)
  have nB := Lib.hid (((HB.out).alloc (by first | omega | (simp only [World.size_alloc, World.size_setCell]; done) | (simp only [World.size_alloc, World.size_setCell]; omega)) _).trans (hb.mono (by first | omega | (simp only [World.size_alloc, World.size_setCell]; done) | (simp only [World.size_alloc, World.size_setCell]; omega))))
  have hs2 := hb.size
  try simp only [World.size_alloc, World.size_setCell] at hs2
  clear HB HZ
  try clear cZ0 fZ0 cZ1 fZ1
  have HZ := nZ
  have HG := nG
  have HB := nB
  clear nB nZ nG
  clear hb
  have cZ0 : w2.cell? ⟨w.heap.size, 0, none⟩ = some (Value.int .i64 0) := (blk_cell HZ.out 0).trans rfl
  have fZ0 := blk_frozen HZ.out 0
  have cZ1 : w2.cell? ⟨w.heap.size, 1, none⟩ = some (Value.int .i64 0) := (blk_cell HZ.out 1).trans rfl
  have fZ1 := blk_frozen HZ.out 1
  have lZ2 := blk_lt HZ.out
  have cG0 : w2.cell? ⟨w1.heap.size, 0, none⟩ = some (.bool neg) := (blk_cell HG.out 0).trans rfl
  have fG0 := blk_frozen HG.out 0
  have lG2 := blk_lt HG.out
  obtain ⟨A, c, rfl, hc, hC⟩ := hv
  have HN := Lib.hid (show Nat32 w2 (.slice A n.length c) n from ⟨A, c, rfl, hc, hC⟩)
  clear hC
  go_wp2_with fail
  refine (strings_CutPrefix.calls rest2 dotS after false _ hc2).mono ?_
  rintro e w3 ⟨rfl, hd⟩
  have hb := hd.below
  have nZ := Lib.hid (blk_below (blk_alloc (blk_alloc (HZ.out) _) _) hb)
  have nG := Lib.hid (blk_below (blk_alloc (blk_alloc (HG.out) _) _) hb)
  have nQ := Lib.hid (blk_below (blk_alloc (new_at _ _ (w2.heap.size) (by first | omega | (simp only [World.size_alloc, World.size_setCell]; done) | (simp only [World.size_alloc, World.size_setCell]; omega))) _) hb)
  have nE := Lib.hid (blk_below (new_at _ _ (w2.heap.size + 1) (by first | omega | (simp only [World.size_alloc, World.size_setCell]; done) | (simp only [World.size_alloc, World.size_setCell]; omega))) hb)
  have nN := Lib.hid ((((HN.out).below ((Below.refl _ _).alloc (Nat.le_refl _) _)).below ((Below.refl _ _).alloc (Nat.le_refl _) _)).below hb)
  have nB := Lib.hid ((((HB.out).alloc (by first | omega | (simp only [World.size_alloc, World.size_setCell]; done) | (simp only [World.size_alloc, World.size_setCell]; omega)) _).alloc (by first | omega | (simp only [World.size_alloc, World.size_setCell]; done) | (simp only [World.size_alloc, World.size_setCell]; omega)) _).trans (hb.mono (by first | omega | (simp only [World.size_alloc, World.size_setCell]; done) | (simp only [World.size_alloc, World.size_setCell]; omega))))
  have hs3 := hb.size
  try simp only [World.size_alloc, World.size_setCell] at hs3
  clear HB HZ HG HN
  try clear cZ0 fZ0 cZ1 fZ1 cG0 fG0
  have HZ := nZ
  have HG := nG
  have HQ := nQ
  have HE := nE
  have HN := nN
  have HB := nB
  clear nB nZ nG nQ nE nN
  clear hb hd
  have cZ0 : w3.cell? ⟨w.heap.size, 0, none⟩ = some (Value.int .i64 0) := (blk_cell HZ.out 0).trans rfl
  have fZ0 := blk_frozen HZ.out 0
  have cZ1 : w3.cell? ⟨w.heap.size, 1, none⟩ = some (Value.int .i64 0) := (blk_cell HZ.out 1).trans rfl
  have fZ1 := blk_frozen HZ.out 1
  have lZ3 := blk_lt HZ.out
  have cG0 : w3.cell? ⟨w1.heap.size, 0, none⟩ = some (.bool neg) := (blk_cell HG.out 0).trans rfl
  have fG0 := blk_frozen HG.out 0
  have lG3 := blk_lt HG.out
  have cQ0 : w3.cell? ⟨w2.heap.size, 0, none⟩ = some (.slice A n.length c) := (blk_cell HQ.out 0).trans rfl
  have fQ0 := blk_frozen HQ.out 0
  have lQ3 := blk_lt HQ.out
  have cE0 : w3.cell? ⟨w2.heap.size + 1, 0, none⟩ = some (.int .i64 0) := (blk_cell HE.out 0).trans rfl
  have fE0 := blk_frozen HE.out 0
  have lE3 := blk_lt HE.out
  have hre : (rest2.toList == []) = true := by simp [hrest]
  have hri : rest2.toList.isEmpty = true := by simp [hrest]
  have hmf : ∀ (fn : Fn) (first cap : Array Value) (w : World), (Instr.makeFunc fn first cap).run Tryz.prog w = .ok (.func fn first cap) w := fun _ _ _ _ => rfl
  have HD1 := Lib.hid hd1
  have HS1 := Lib.hid hsg
  have HT1 := Lib.hid ht
  clear hd1 hsg ht
  skip
  go_wp2_with fail
  refine (caught_t 79 _ r1 r2 t0 t1 t2 HT1.out _ (fun args w => enters_ Tryz.func79 (by kernel_rfl) rfl args w) (fun w' h' => parse1_n k neg n A c 0 0 m y r1 r2 HD1.out HS1.out _ _ _ _ w' (blk_below (blk_alloc (HG.out) _) h') (blk_below (blk_alloc (HQ.out) _) h') (blk_below (new_at _ _ (w3.heap.size) (by first | omega | (simp only [World.size_alloc, World.size_setCell]; done) | (simp only [World.size_alloc, World.size_setCell]; omega))) h') (blk_below (blk_alloc (HE.out) _) h') (((HN.out).below ((Below.refl _ _).alloc (Nat.le_refl _) _)).below h'))).mono ?_
  rintro e w4 ⟨rfl, hb⟩
  have nZ := Lib.hid (blk_below (blk_alloc (HZ.out) _) hb)
  have nG := Lib.hid (blk_below (blk_alloc (HG.out) _) hb)
  have nQ := Lib.hid (blk_below (blk_alloc (HQ.out) _) hb)
  have nE := Lib.hid (blk_below (blk_alloc (HE.out) _) hb)
  have nX := Lib.hid (blk_below (new_at _ _ (w3.heap.size) (by first | omega | (simp only [World.size_alloc, World.size_setCell]; done) | (simp only [World.size_alloc, World.size_setCell]; omega))) hb)
  have nN := Lib.hid (((HN.out).below ((Below.refl _ _).alloc (Nat.le_refl _) _)).below hb)
  have nB := Lib.hid (((HB.out).alloc (by first | omega | (simp only [World.size_alloc, World.size_setCell]; done) | (simp only [World.size_alloc, World.size_setCell]; omega)) _).trans (hb.mono (by first | omega | (simp only [World.size_alloc, World.size_setCell]; done) | (simp only [World.size_alloc, World.size_setCell]; omega))))
  have hs4 := hb.size
  try simp only [World.size_alloc, World.size_setCell] at hs4
  clear HB HZ HG HQ HE HN
  try clear cZ0 fZ0 cZ1 fZ1 cG0 fG0 cQ0 fQ0 cE0 fE0
  have HZ := nZ
  have HG := nG
  have HQ := nQ
  have HE := nE
  have HX := nX
  have HN := nN
  have HB := nB
  clear nB nZ nG nQ nE nX nN
  clear hb
  have cZ0 : w4.cell? ⟨w.heap.size, 0, none⟩ = some (Value.int .i64 0) := (blk_cell HZ.out 0).trans rfl
  have fZ0 := blk_frozen HZ.out 0
  have cZ1 : w4.cell? ⟨w.heap.size, 1, none⟩ = some (Value.int .i64 0) := (blk_cell HZ.out 1).trans rfl
  have fZ1 := blk_frozen HZ.out 1
  have lZ4 := blk_lt HZ.out
  have cG0 : w4.cell? ⟨w1.heap.size, 0, none⟩ = some (.bool neg) := (blk_cell HG.out 0).trans rfl
  have fG0 := blk_frozen HG.out 0
  have lG4 := blk_lt HG.out
  have cQ0 : w4.cell? ⟨w2.heap.size, 0, none⟩ = some (.slice A n.length c) := (blk_cell HQ.out 0).trans rfl
  have fQ0 := blk_frozen HQ.out 0
  have lQ4 := blk_lt HQ.out
  have cE0 : w4.cell? ⟨w2.heap.size + 1, 0, none⟩ = some (.int .i64 0) := (blk_cell HE.out 0).trans rfl
  have fE0 := blk_frozen HE.out 0
  have lE4 := blk_lt HE.out
  have cX0 : w4.cell? ⟨w3.heap.size, 0, none⟩ = some (.int .i64 0) := (blk_cell HX.out 0).trans rfl
  have fX0 := blk_frozen HX.out 0
  have lX4 := blk_lt HX.out
  go_wp2
  have fz : ((w4.setCell ⟨w.heap.size, 0, none⟩ (.int .i64 t0)).setCell ⟨w.heap.size, 1, none⟩ (.int .i64 t1)).heap[w.heap.size]? = some (.cells #[Value.int .i64 t0, Value.int .i64 t1] 23 (0, 0)) := heap_setCell_same _ _ 1 _ _ _ (heap_setCell_same _ _ 0 _ _ _ (HZ.out))
  refine bodyPost_ret (results_ct rfl _ _ (w.heap.size) 23 #[.int .i64 t0, .int .i64 t1] (0, 0) _ rfl fz Tryz.underlying23 rfl (by kernel_rfl)) rfl ?_
  exact ⟨rfl, ((HB.out).setCell (p := ⟨w.heap.size, 0, none⟩) (by simp only; omega) _).setCell (p := ⟨w.heap.size, 1, none⟩) (by simp only; omega) _⟩
set_option maxRecDepth 100000 in
set_option maxHeartbeats 8000000 in
theorem parse_B (k : Nat) (s : ByteArray) (w : World) (hsz : ¬ (s.size : Int) > 60) (rest : ByteArray) (neg : Bool) (hc1 : strings_CutPrefix.f s minusS = some (rest, neg)) (n : List Int) (many : Int) (rest2 : ByteArray) (hn1 : real_number.f k rest [] = some (n, many, rest2)) (hmany : ¬ many = 0) (after : ByteArray) (hc2 : strings_CutPrefix.f rest2 dotS = some (after, false)) (hrest : rest2.toList ≠ []) (aft : ByteArray) (x : Int) (ok : Bool) (hc3 : strings_CutPrefix.f rest2 eS = some (aft, false)) (hx : real_exponent.f aft = some (x, ok)) :
    Calls Tryz.prog 25 #[.string s] w fun e w' => e = .returned (.tuple #[.agg #[.int .i64 0, .int .i64 0], .int .i64 7]) ∧ Below w.heap.size w w' := by
  have HB := Lib.hid (Below.refl w.heap.size w)
  go_enter Tryz.func25, Tryz.ntmps25
  go_wp2_with fail
  refine (strings_CutPrefix.calls s minusS rest neg _ hc1).mono ?_
  rintro e w1 ⟨rfl, hd⟩
  have hb := hd.below
  have nZ := Lib.hid (blk_below (new_at _ _ (w.heap.size) (by first | omega | (simp only [World.size_alloc, World.size_setCell]; done) | (simp only [World.size_alloc, World.size_setCell]; omega))) hb)
  have nB := Lib.hid (((HB.out).alloc (by first | omega | (simp only [World.size_alloc, World.size_setCell]; done) | (simp only [World.size_alloc, World.size_setCell]; omega)) _).trans (hb.mono (by first | omega | (simp only [World.size_alloc, World.size_setCell]; done) | (simp only [World.size_alloc, World.size_setCell]; omega))))
  have hs1 := hb.size
  try simp only [World.size_alloc, World.size_setCell] at hs1
  clear HB
  have HZ := nZ
  have HB := nB
  clear nB nZ
  clear hb hd
  have cZ0 : w1.cell? ⟨w.heap.size, 0, none⟩ = some (Value.int .i64 0) := (blk_cell HZ.out 0).trans rfl
  have fZ0 := blk_frozen HZ.out 0
  have cZ1 : w1.cell? ⟨w.heap.size, 1, none⟩ = some (Value.int .i64 0) := (blk_cell HZ.out 1).trans rfl
  have fZ1 := blk_frozen HZ.out 1
  have lZ1 := blk_lt HZ.out
  go_wp2_with fail
  refine (number_c k rest none 0 [] n many rest2 _ (nil_C _) (Nat.zero_le _) hn1).mono ?_
  rintro e w2 ⟨⟨v, hv, rfl⟩, hb⟩
  have nZ := Lib.hid (blk_below (blk_alloc (HZ.out) _) hb)
  have nG := Lib.hid (blk_below (new_at _ _ (w1.heap.size) (by first | omega | (simp only [World.size_alloc, World.size_setCell]; done) | (simp only [World.size_alloc, World.size_setCell]; omega))) hb)
  have nB := Lib.hid (((HB.out).alloc (by first | omega | (simp only [World.size_alloc, World.size_setCell]; done) | (simp only [World.size_alloc, World.size_setCell]; omega)) _).trans (hb.mono (by first | omega | (simp only [World.size_alloc, World.size_setCell]; done) | (simp only [World.size_alloc, World.size_setCell]; omega))))
  have hs2 := hb.size
  try simp only [World.size_alloc, World.size_setCell] at hs2
  clear HB HZ
  try clear cZ0 fZ0 cZ1 fZ1
  have HZ := nZ
  have HG := nG
  have HB := nB
  clear nB nZ nG
  clear hb
  have cZ0 : w2.cell? ⟨w.heap.size, 0, none⟩ = some (Value.int .i64 0) := (blk_cell HZ.out 0).trans rfl
  have fZ0 := blk_frozen HZ.out 0
  have cZ1 : w2.cell? ⟨w.heap.size, 1, none⟩ = some (Value.int .i64 0) := (blk_cell HZ.out 1).trans rfl
  have fZ1 := blk_frozen HZ.out 1
  have lZ2 := blk_lt HZ.out
  have cG0 : w2.cell? ⟨w1.heap.size, 0, none⟩ = some (.bool neg) := (blk_cell HG.out 0).trans rfl
  have fG0 := blk_frozen HG.out 0
  have lG2 := blk_lt HG.out
  obtain ⟨A, c, rfl, hc, hC⟩ := hv
  have HN := Lib.hid (show Nat32 w2 (.slice A n.length c) n from ⟨A, c, rfl, hc, hC⟩)
  clear hC
  go_wp2_with fail
  refine (strings_CutPrefix.calls rest2 dotS after false _ hc2).mono ?_
  rintro e w3 ⟨rfl, hd⟩
  have hb := hd.below
  have nZ := Lib.hid (blk_below (blk_alloc (blk_alloc (HZ.out) _) _) hb)
  have nG := Lib.hid (blk_below (blk_alloc (blk_alloc (HG.out) _) _) hb)
  have nQ := Lib.hid (blk_below (blk_alloc (new_at _ _ (w2.heap.size) (by first | omega | (simp only [World.size_alloc, World.size_setCell]; done) | (simp only [World.size_alloc, World.size_setCell]; omega))) _) hb)
  have nE := Lib.hid (blk_below (new_at _ _ (w2.heap.size + 1) (by first | omega | (simp only [World.size_alloc, World.size_setCell]; done) | (simp only [World.size_alloc, World.size_setCell]; omega))) hb)
  have nN := Lib.hid ((((HN.out).below ((Below.refl _ _).alloc (Nat.le_refl _) _)).below ((Below.refl _ _).alloc (Nat.le_refl _) _)).below hb)
  have nB := Lib.hid ((((HB.out).alloc (by first | omega | (simp only [World.size_alloc, World.size_setCell]; done) | (simp only [World.size_alloc, World.size_setCell]; omega)) _).alloc (by first | omega | (simp only [World.size_alloc, World.size_setCell]; done) | (simp only [World.size_alloc, World.size_setCell]; omega)) _).trans (hb.mono (by first | omega | (simp only [World.size_alloc, World.size_setCell]; done) | (simp only [World.size_alloc, World.size_setCell]; omega))))
  have hs3 := hb.size
  try simp only [World.size_alloc, World.size_setCell] at hs3
  clear HB HZ HG HN
  try clear cZ0 fZ0 cZ1 fZ1 cG0 fG0
  have HZ := nZ
  have HG := nG
  have HQ := nQ
  have HE := nE
  have HN := nN
  have HB := nB
  clear nB nZ nG nQ nE nN
  clear hb hd
  have cZ0 : w3.cell? ⟨w.heap.size, 0, none⟩ = some (Value.int .i64 0) := (blk_cell HZ.out 0).trans rfl
  have fZ0 := blk_frozen HZ.out 0
  have cZ1 : w3.cell? ⟨w.heap.size, 1, none⟩ = some (Value.int .i64 0) := (blk_cell HZ.out 1).trans rfl
  have fZ1 := blk_frozen HZ.out 1
  have lZ3 := blk_lt HZ.out
  have cG0 : w3.cell? ⟨w1.heap.size, 0, none⟩ = some (.bool neg) := (blk_cell HG.out 0).trans rfl
  have fG0 := blk_frozen HG.out 0
  have lG3 := blk_lt HG.out
  have cQ0 : w3.cell? ⟨w2.heap.size, 0, none⟩ = some (.slice A n.length c) := (blk_cell HQ.out 0).trans rfl
  have fQ0 := blk_frozen HQ.out 0
  have lQ3 := blk_lt HQ.out
  have cE0 : w3.cell? ⟨w2.heap.size + 1, 0, none⟩ = some (.int .i64 0) := (blk_cell HE.out 0).trans rfl
  have fE0 := blk_frozen HE.out 0
  have lE3 := blk_lt HE.out
  have hre : (rest2.toList == []) = false := by simpa using hrest
  have hri : rest2.toList.isEmpty = false := by simpa using hrest
  go_wp2_with fail
  refine (strings_CutPrefix.calls rest2 eS aft false _ hc3).mono ?_
  rintro e w4 ⟨rfl, hd⟩
  have hb := hd.below
  have nZ := Lib.hid (blk_below (blk_alloc (HZ.out) _) hb)
  have nG := Lib.hid (blk_below (blk_alloc (HG.out) _) hb)
  have nQ := Lib.hid (blk_below (blk_alloc (HQ.out) _) hb)
  have nE := Lib.hid (blk_below (blk_alloc (HE.out) _) hb)
  have nX := Lib.hid (blk_below (new_at _ _ (w3.heap.size) (by first | omega | (simp only [World.size_alloc, World.size_setCell]; done) | (simp only [World.size_alloc, World.size_setCell]; omega))) hb)
  have nN := Lib.hid (((HN.out).below ((Below.refl _ _).alloc (Nat.le_refl _) _)).below hb)
  have nB := Lib.hid (((HB.out).alloc (by first | omega | (simp only [World.size_alloc, World.size_setCell]; done) | (simp only [World.size_alloc, World.size_setCell]; omega)) _).trans (hb.mono (by first | omega | (simp only [World.size_alloc, World.size_setCell]; done) | (simp only [World.size_alloc, World.size_setCell]; omega))))
  have hs4 := hb.size
  try simp only [World.size_alloc, World.size_setCell] at hs4
  clear HB HZ HG HQ HE HN
  try clear cZ0 fZ0 cZ1 fZ1 cG0 fG0 cQ0 fQ0 cE0 fE0
  have HZ := nZ
  have HG := nG
  have HQ := nQ
  have HE := nE
  have HX := nX
  have HN := nN
  have HB := nB
  clear nB nZ nG nQ nE nX nN
  clear hb hd
  have cZ0 : w4.cell? ⟨w.heap.size, 0, none⟩ = some (Value.int .i64 0) := (blk_cell HZ.out 0).trans rfl
  have fZ0 := blk_frozen HZ.out 0
  have cZ1 : w4.cell? ⟨w.heap.size, 1, none⟩ = some (Value.int .i64 0) := (blk_cell HZ.out 1).trans rfl
  have fZ1 := blk_frozen HZ.out 1
  have lZ4 := blk_lt HZ.out
  have cG0 : w4.cell? ⟨w1.heap.size, 0, none⟩ = some (.bool neg) := (blk_cell HG.out 0).trans rfl
  have fG0 := blk_frozen HG.out 0
  have lG4 := blk_lt HG.out
  have cQ0 : w4.cell? ⟨w2.heap.size, 0, none⟩ = some (.slice A n.length c) := (blk_cell HQ.out 0).trans rfl
  have fQ0 := blk_frozen HQ.out 0
  have lQ4 := blk_lt HQ.out
  have cE0 : w4.cell? ⟨w2.heap.size + 1, 0, none⟩ = some (.int .i64 0) := (blk_cell HE.out 0).trans rfl
  have fE0 := blk_frozen HE.out 0
  have lE4 := blk_lt HE.out
  have cX0 : w4.cell? ⟨w3.heap.size, 0, none⟩ = some (.int .i64 0) := (blk_cell HX.out 0).trans rfl
  have fX0 := blk_frozen HX.out 0
  have lX4 := blk_lt HX.out
  go_wp2_with fail
  refine (real_exponent.calls aft x ok _ hx).mono ?_
  rintro e w5 ⟨rfl, hb⟩
  have nZ := Lib.hid (blk_below (HZ.out) hb)
  have nG := Lib.hid (blk_below (HG.out) hb)
  have nQ := Lib.hid (blk_below (HQ.out) hb)
  have nE := Lib.hid (blk_below (HE.out) hb)
  have nX := Lib.hid (blk_below (HX.out) hb)
  have nN := Lib.hid ((HN.out).below hb)
  have nB := Lib.hid ((HB.out).trans (hb.mono (by first | omega | (simp only [World.size_alloc, World.size_setCell]; done) | (simp only [World.size_alloc, World.size_setCell]; omega))))
  have hs5 := hb.size
  try simp only [World.size_alloc, World.size_setCell] at hs5
  clear HB HZ HG HQ HE HX HN
  try clear cZ0 fZ0 cZ1 fZ1 cG0 fG0 cQ0 fQ0 cE0 fE0 cX0 fX0
  have HZ := nZ
  have HG := nG
  have HQ := nQ
  have HE := nE
  have HX := nX
  have HN := nN
  have HB := nB
  clear nB nZ nG nQ nE nX nN
  clear hb
  have cZ0 : w5.cell? ⟨w.heap.size, 0, none⟩ = some (Value.int .i64 0) := (blk_cell HZ.out 0).trans rfl
  have fZ0 := blk_frozen HZ.out 0
  have cZ1 : w5.cell? ⟨w.heap.size, 1, none⟩ = some (Value.int .i64 0) := (blk_cell HZ.out 1).trans rfl
  have fZ1 := blk_frozen HZ.out 1
  have lZ5 := blk_lt HZ.out
  have cG0 : w5.cell? ⟨w1.heap.size, 0, none⟩ = some (.bool neg) := (blk_cell HG.out 0).trans rfl
  have fG0 := blk_frozen HG.out 0
  have lG5 := blk_lt HG.out
  have cQ0 : w5.cell? ⟨w2.heap.size, 0, none⟩ = some (.slice A n.length c) := (blk_cell HQ.out 0).trans rfl
  have fQ0 := blk_frozen HQ.out 0
  have lQ5 := blk_lt HQ.out
  have cE0 : w5.cell? ⟨w2.heap.size + 1, 0, none⟩ = some (.int .i64 0) := (blk_cell HE.out 0).trans rfl
  have fE0 := blk_frozen HE.out 0
  have lE5 := blk_lt HE.out
  have cX0 : w5.cell? ⟨w3.heap.size, 0, none⟩ = some (.int .i64 0) := (blk_cell HX.out 0).trans rfl
  have fX0 := blk_frozen HX.out 0
  have lX5 := blk_lt HX.out
  go_wp2
  have fz : ((w5.setCell ⟨w.heap.size, 0, none⟩ (.int .i64 0)).setCell ⟨w.heap.size, 1, none⟩ (.int .i64 0)).heap[w.heap.size]? = some (.cells #[Value.int .i64 0, Value.int .i64 0] 23 (0, 0)) := heap_setCell_same _ _ 1 _ _ _ (heap_setCell_same _ _ 0 _ _ _ (HZ.out))
  refine bodyPost_ret (results_ct rfl _ _ (w.heap.size) 23 #[.int .i64 0, .int .i64 0] (0, 0) _ rfl fz Tryz.underlying23 rfl (by kernel_rfl)) rfl ?_
  exact ⟨rfl, ((HB.out).setCell (p := ⟨w.heap.size, 0, none⟩) (by simp only; omega) _).setCell (p := ⟨w.heap.size, 1, none⟩) (by simp only; omega) _⟩
set_option maxRecDepth 100000 in
set_option maxHeartbeats 8000000 in
theorem parse_C (k : Nat) (s : ByteArray) (w : World) (hsz : ¬ (s.size : Int) > 60) (rest : ByteArray) (neg : Bool) (hc1 : strings_CutPrefix.f s minusS = some (rest, neg)) (n : List Int) (many : Int) (rest2 : ByteArray) (hn1 : real_number.f k rest [] = some (n, many, rest2)) (hmany : ¬ many = 0) (after : ByteArray) (hc2 : strings_CutPrefix.f rest2 dotS = some (after, false)) (hrest : rest2.toList ≠ []) (aft : ByteArray) (x : Int) (hc3 : strings_CutPrefix.f rest2 eS = some (aft, true)) (hx : real_exponent.f aft = some (x, false)) :
    Calls Tryz.prog 25 #[.string s] w fun e w' => e = .returned (.tuple #[.agg #[.int .i64 0, .int .i64 0], .int .i64 7]) ∧ Below w.heap.size w w' := by
  have HB := Lib.hid (Below.refl w.heap.size w)
  go_enter Tryz.func25, Tryz.ntmps25
  go_wp2_with fail
  refine (strings_CutPrefix.calls s minusS rest neg _ hc1).mono ?_
  rintro e w1 ⟨rfl, hd⟩
  have hb := hd.below
  have nZ := Lib.hid (blk_below (new_at _ _ (w.heap.size) (by first | omega | (simp only [World.size_alloc, World.size_setCell]; done) | (simp only [World.size_alloc, World.size_setCell]; omega))) hb)
  have nB := Lib.hid (((HB.out).alloc (by first | omega | (simp only [World.size_alloc, World.size_setCell]; done) | (simp only [World.size_alloc, World.size_setCell]; omega)) _).trans (hb.mono (by first | omega | (simp only [World.size_alloc, World.size_setCell]; done) | (simp only [World.size_alloc, World.size_setCell]; omega))))
  have hs1 := hb.size
  try simp only [World.size_alloc, World.size_setCell] at hs1
  clear HB
  have HZ := nZ
  have HB := nB
  clear nB nZ
  clear hb hd
  have cZ0 : w1.cell? ⟨w.heap.size, 0, none⟩ = some (Value.int .i64 0) := (blk_cell HZ.out 0).trans rfl
  have fZ0 := blk_frozen HZ.out 0
  have cZ1 : w1.cell? ⟨w.heap.size, 1, none⟩ = some (Value.int .i64 0) := (blk_cell HZ.out 1).trans rfl
  have fZ1 := blk_frozen HZ.out 1
  have lZ1 := blk_lt HZ.out
  go_wp2_with fail
  refine (number_c k rest none 0 [] n many rest2 _ (nil_C _) (Nat.zero_le _) hn1).mono ?_
  rintro e w2 ⟨⟨v, hv, rfl⟩, hb⟩
  have nZ := Lib.hid (blk_below (blk_alloc (HZ.out) _) hb)
  have nG := Lib.hid (blk_below (new_at _ _ (w1.heap.size) (by first | omega | (simp only [World.size_alloc, World.size_setCell]; done) | (simp only [World.size_alloc, World.size_setCell]; omega))) hb)
  have nB := Lib.hid (((HB.out).alloc (by first | omega | (simp only [World.size_alloc, World.size_setCell]; done) | (simp only [World.size_alloc, World.size_setCell]; omega)) _).trans (hb.mono (by first | omega | (simp only [World.size_alloc, World.size_setCell]; done) | (simp only [World.size_alloc, World.size_setCell]; omega))))
  have hs2 := hb.size
  try simp only [World.size_alloc, World.size_setCell] at hs2
  clear HB HZ
  try clear cZ0 fZ0 cZ1 fZ1
  have HZ := nZ
  have HG := nG
  have HB := nB
  clear nB nZ nG
  clear hb
  have cZ0 : w2.cell? ⟨w.heap.size, 0, none⟩ = some (Value.int .i64 0) := (blk_cell HZ.out 0).trans rfl
  have fZ0 := blk_frozen HZ.out 0
  have cZ1 : w2.cell? ⟨w.heap.size, 1, none⟩ = some (Value.int .i64 0) := (blk_cell HZ.out 1).trans rfl
  have fZ1 := blk_frozen HZ.out 1
  have lZ2 := blk_lt HZ.out
  have cG0 : w2.cell? ⟨w1.heap.size, 0, none⟩ = some (.bool neg) := (blk_cell HG.out 0).trans rfl
  have fG0 := blk_frozen HG.out 0
  have lG2 := blk_lt HG.out
  obtain ⟨A, c, rfl, hc, hC⟩ := hv
  have HN := Lib.hid (show Nat32 w2 (.slice A n.length c) n from ⟨A, c, rfl, hc, hC⟩)
  clear hC
  go_wp2_with fail
  refine (strings_CutPrefix.calls rest2 dotS after false _ hc2).mono ?_
  rintro e w3 ⟨rfl, hd⟩
  have hb := hd.below
  have nZ := Lib.hid (blk_below (blk_alloc (blk_alloc (HZ.out) _) _) hb)
  have nG := Lib.hid (blk_below (blk_alloc (blk_alloc (HG.out) _) _) hb)
  have nQ := Lib.hid (blk_below (blk_alloc (new_at _ _ (w2.heap.size) (by first | omega | (simp only [World.size_alloc, World.size_setCell]; done) | (simp only [World.size_alloc, World.size_setCell]; omega))) _) hb)
  have nE := Lib.hid (blk_below (new_at _ _ (w2.heap.size + 1) (by first | omega | (simp only [World.size_alloc, World.size_setCell]; done) | (simp only [World.size_alloc, World.size_setCell]; omega))) hb)
  have nN := Lib.hid ((((HN.out).below ((Below.refl _ _).alloc (Nat.le_refl _) _)).below ((Below.refl _ _).alloc (Nat.le_refl _) _)).below hb)
  have nB := Lib.hid ((((HB.out).alloc (by first | omega | (simp only [World.size_alloc, World.size_setCell]; done) | (simp only [World.size_alloc, World.size_setCell]; omega)) _).alloc (by first | omega | (simp only [World.size_alloc, World.size_setCell]; done) | (simp only [World.size_alloc, World.size_setCell]; omega)) _).trans (hb.mono (by first | omega | (simp only [World.size_alloc, World.size_setCell]; done) | (simp only [World.size_alloc, World.size_setCell]; omega))))
  have hs3 := hb.size
  try simp only [World.size_alloc, World.size_setCell] at hs3
  clear HB HZ HG HN
  try clear cZ0 fZ0 cZ1 fZ1 cG0 fG0
  have HZ := nZ
  have HG := nG
  have HQ := nQ
  have HE := nE
  have HN := nN
  have HB := nB
  clear nB nZ nG nQ nE nN
  clear hb hd
  have cZ0 : w3.cell? ⟨w.heap.size, 0, none⟩ = some (Value.int .i64 0) := (blk_cell HZ.out 0).trans rfl
  have fZ0 := blk_frozen HZ.out 0
  have cZ1 : w3.cell? ⟨w.heap.size, 1, none⟩ = some (Value.int .i64 0) := (blk_cell HZ.out 1).trans rfl
  have fZ1 := blk_frozen HZ.out 1
  have lZ3 := blk_lt HZ.out
  have cG0 : w3.cell? ⟨w1.heap.size, 0, none⟩ = some (.bool neg) := (blk_cell HG.out 0).trans rfl
  have fG0 := blk_frozen HG.out 0
  have lG3 := blk_lt HG.out
  have cQ0 : w3.cell? ⟨w2.heap.size, 0, none⟩ = some (.slice A n.length c) := (blk_cell HQ.out 0).trans rfl
  have fQ0 := blk_frozen HQ.out 0
  have lQ3 := blk_lt HQ.out
  have cE0 : w3.cell? ⟨w2.heap.size + 1, 0, none⟩ = some (.int .i64 0) := (blk_cell HE.out 0).trans rfl
  have fE0 := blk_frozen HE.out 0
  have lE3 := blk_lt HE.out
  have hre : (rest2.toList == []) = false := by simpa using hrest
  have hri : rest2.toList.isEmpty = false := by simpa using hrest
  go_wp2_with fail
  refine (strings_CutPrefix.calls rest2 eS aft true _ hc3).mono ?_
  rintro e w4 ⟨rfl, hd⟩
  have hb := hd.below
  have nZ := Lib.hid (blk_below (blk_alloc (HZ.out) _) hb)
  have nG := Lib.hid (blk_below (blk_alloc (HG.out) _) hb)
  have nQ := Lib.hid (blk_below (blk_alloc (HQ.out) _) hb)
  have nE := Lib.hid (blk_below (blk_alloc (HE.out) _) hb)
  have nX := Lib.hid (blk_below (new_at _ _ (w3.heap.size) (by first | omega | (simp only [World.size_alloc, World.size_setCell]; done) | (simp only [World.size_alloc, World.size_setCell]; omega))) hb)
  have nN := Lib.hid (((HN.out).below ((Below.refl _ _).alloc (Nat.le_refl _) _)).below hb)
  have nB := Lib.hid (((HB.out).alloc (by first | omega | (simp only [World.size_alloc, World.size_setCell]; done) | (simp only [World.size_alloc, World.size_setCell]; omega)) _).trans (hb.mono (by first | omega | (simp only [World.size_alloc, World.size_setCell]; done) | (simp only [World.size_alloc, World.size_setCell]; omega))))
  have hs4 := hb.size
  try simp only [World.size_alloc, World.size_setCell] at hs4
  clear HB HZ HG HQ HE HN
  try clear cZ0 fZ0 cZ1 fZ1 cG0 fG0 cQ0 fQ0 cE0 fE0
  have HZ := nZ
  have HG := nG
  have HQ := nQ
  have HE := nE
  have HX := nX
  have HN := nN
  have HB := nB
  clear nB nZ nG nQ nE nX nN
  clear hb hd
  have cZ0 : w4.cell? ⟨w.heap.size, 0, none⟩ = some (Value.int .i64 0) := (blk_cell HZ.out 0).trans rfl
  have fZ0 := blk_frozen HZ.out 0
  have cZ1 : w4.cell? ⟨w.heap.size, 1, none⟩ = some (Value.int .i64 0) := (blk_cell HZ.out 1).trans rfl
  have fZ1 := blk_frozen HZ.out 1
  have lZ4 := blk_lt HZ.out
  have cG0 : w4.cell? ⟨w1.heap.size, 0, none⟩ = some (.bool neg) := (blk_cell HG.out 0).trans rfl
  have fG0 := blk_frozen HG.out 0
  have lG4 := blk_lt HG.out
  have cQ0 : w4.cell? ⟨w2.heap.size, 0, none⟩ = some (.slice A n.length c) := (blk_cell HQ.out 0).trans rfl
  have fQ0 := blk_frozen HQ.out 0
  have lQ4 := blk_lt HQ.out
  have cE0 : w4.cell? ⟨w2.heap.size + 1, 0, none⟩ = some (.int .i64 0) := (blk_cell HE.out 0).trans rfl
  have fE0 := blk_frozen HE.out 0
  have lE4 := blk_lt HE.out
  have cX0 : w4.cell? ⟨w3.heap.size, 0, none⟩ = some (.int .i64 0) := (blk_cell HX.out 0).trans rfl
  have fX0 := blk_frozen HX.out 0
  have lX4 := blk_lt HX.out
  go_wp2_with fail
  refine (real_exponent.calls aft x false _ hx).mono ?_
  rintro e w5 ⟨rfl, hb⟩
  have nZ := Lib.hid (blk_below (HZ.out) hb)
  have nG := Lib.hid (blk_below (HG.out) hb)
  have nQ := Lib.hid (blk_below (HQ.out) hb)
  have nE := Lib.hid (blk_below (HE.out) hb)
  have nX := Lib.hid (blk_below (HX.out) hb)
  have nN := Lib.hid ((HN.out).below hb)
  have nB := Lib.hid ((HB.out).trans (hb.mono (by first | omega | (simp only [World.size_alloc, World.size_setCell]; done) | (simp only [World.size_alloc, World.size_setCell]; omega))))
  have hs5 := hb.size
  try simp only [World.size_alloc, World.size_setCell] at hs5
  clear HB HZ HG HQ HE HX HN
  try clear cZ0 fZ0 cZ1 fZ1 cG0 fG0 cQ0 fQ0 cE0 fE0 cX0 fX0
  have HZ := nZ
  have HG := nG
  have HQ := nQ
  have HE := nE
  have HX := nX
  have HN := nN
  have HB := nB
  clear nB nZ nG nQ nE nX nN
  clear hb
  have cZ0 : w5.cell? ⟨w.heap.size, 0, none⟩ = some (Value.int .i64 0) := (blk_cell HZ.out 0).trans rfl
  have fZ0 := blk_frozen HZ.out 0
  have cZ1 : w5.cell? ⟨w.heap.size, 1, none⟩ = some (Value.int .i64 0) := (blk_cell HZ.out 1).trans rfl
  have fZ1 := blk_frozen HZ.out 1
  have lZ5 := blk_lt HZ.out
  have cG0 : w5.cell? ⟨w1.heap.size, 0, none⟩ = some (.bool neg) := (blk_cell HG.out 0).trans rfl
  have fG0 := blk_frozen HG.out 0
  have lG5 := blk_lt HG.out
  have cQ0 : w5.cell? ⟨w2.heap.size, 0, none⟩ = some (.slice A n.length c) := (blk_cell HQ.out 0).trans rfl
  have fQ0 := blk_frozen HQ.out 0
  have lQ5 := blk_lt HQ.out
  have cE0 : w5.cell? ⟨w2.heap.size + 1, 0, none⟩ = some (.int .i64 0) := (blk_cell HE.out 0).trans rfl
  have fE0 := blk_frozen HE.out 0
  have lE5 := blk_lt HE.out
  have cX0 : w5.cell? ⟨w3.heap.size, 0, none⟩ = some (.int .i64 0) := (blk_cell HX.out 0).trans rfl
  have fX0 := blk_frozen HX.out 0
  have lX5 := blk_lt HX.out
  go_wp2
  have fz : ((w5.setCell ⟨w.heap.size, 0, none⟩ (.int .i64 0)).setCell ⟨w.heap.size, 1, none⟩ (.int .i64 0)).heap[w.heap.size]? = some (.cells #[Value.int .i64 0, Value.int .i64 0] 23 (0, 0)) := heap_setCell_same _ _ 1 _ _ _ (heap_setCell_same _ _ 0 _ _ _ (HZ.out))
  refine bodyPost_ret (results_ct rfl _ _ (w.heap.size) 23 #[.int .i64 0, .int .i64 0] (0, 0) _ rfl fz Tryz.underlying23 rfl (by kernel_rfl)) rfl ?_
  exact ⟨rfl, ((HB.out).setCell (p := ⟨w.heap.size, 0, none⟩) (by simp only; omega) _).setCell (p := ⟨w.heap.size, 1, none⟩) (by simp only; omega) _⟩
set_option maxRecDepth 100000 in
set_option maxHeartbeats 8000000 in
theorem parse_F (k : Nat) (s : ByteArray) (w : World) (hsz : ¬ (s.size : Int) > 60) (rest : ByteArray) (neg : Bool) (hc1 : strings_CutPrefix.f s minusS = some (rest, neg)) (n : List Int) (many : Int) (rest2 : ByteArray) (hn1 : real_number.f k rest [] = some (n, many, rest2)) (hmany : ¬ many = 0) (after : ByteArray) (hc2 : strings_CutPrefix.f rest2 dotS = some (after, false)) (hrest : rest2.toList ≠ []) (aft : ByteArray) (x : Int) (hc3 : strings_CutPrefix.f rest2 eS = some (aft, true)) (hx : real_exponent.f aft = some (x, true)) (m y r1 r2 t0 t1 t2 : Int) (hd1 : real_decimal.f k n (wrap64 (x - 0)) = some (m, y)) (hsg : real_signed.f neg m y = some (r1, r2)) (ht : caughtS r1 r2 = (t0, t1, t2)) :
    Calls Tryz.prog 25 #[.string s] w fun e w' => e = .returned (.tuple #[.agg #[.int .i64 t0, .int .i64 t1], .int .i64 t2]) ∧ Below w.heap.size w w' := by
  have HB := Lib.hid (Below.refl w.heap.size w)
  go_enter Tryz.func25, Tryz.ntmps25
  go_wp2_with fail
  refine (strings_CutPrefix.calls s minusS rest neg _ hc1).mono ?_
  rintro e w1 ⟨rfl, hd⟩
  have hb := hd.below
  have nZ := Lib.hid (blk_below (new_at _ _ (w.heap.size) (by first | omega | (simp only [World.size_alloc, World.size_setCell]; done) | (simp only [World.size_alloc, World.size_setCell]; omega))) hb)
  have nB := Lib.hid (((HB.out).alloc (by first | omega | (simp only [World.size_alloc, World.size_setCell]; done) | (simp only [World.size_alloc, World.size_setCell]; omega)) _).trans (hb.mono (by first | omega | (simp only [World.size_alloc, World.size_setCell]; done) | (simp only [World.size_alloc, World.size_setCell]; omega))))
  have hs1 := hb.size
  try simp only [World.size_alloc, World.size_setCell] at hs1
  clear HB
  have HZ := nZ
  have HB := nB
  clear nB nZ
  clear hb hd
  have cZ0 : w1.cell? ⟨w.heap.size, 0, none⟩ = some (Value.int .i64 0) := (blk_cell HZ.out 0).trans rfl
  have fZ0 := blk_frozen HZ.out 0
  have cZ1 : w1.cell? ⟨w.heap.size, 1, none⟩ = some (Value.int .i64 0) := (blk_cell HZ.out 1).trans rfl
  have fZ1 := blk_frozen HZ.out 1
  have lZ1 := blk_lt HZ.out
  go_wp2_with fail
  refine (number_c k rest none 0 [] n many rest2 _ (nil_C _) (Nat.zero_le _) hn1).mono ?_
  rintro e w2 ⟨⟨v, hv, rfl⟩, hb⟩
  have nZ := Lib.hid (blk_below (blk_alloc (HZ.out) _) hb)
  have nG := Lib.hid (blk_below (new_at _ _ (w1.heap.size) (by first | omega | (simp only [World.size_alloc, World.size_setCell]; done) | (simp only [World.size_alloc, World.size_setCell]; omega))) hb)
  have nB := Lib.hid (((HB.out).alloc (by first | omega | (simp only [World.size_alloc, World.size_setCell]; done) | (simp only [World.size_alloc, World.size_setCell]; omega)) _).trans (hb.mono (by first | omega | (simp only [World.size_alloc, World.size_setCell]; done) | (simp only [World.size_alloc, World.size_setCell]; omega))))
  have hs2 := hb.size
  try simp only [World.size_alloc, World.size_setCell] at hs2
  clear HB HZ
  try clear cZ0 fZ0 cZ1 fZ1
  have HZ := nZ
  have HG := nG
  have HB := nB
  clear nB nZ nG
  clear hb
  have cZ0 : w2.cell? ⟨w.heap.size, 0, none⟩ = some (Value.int .i64 0) := (blk_cell HZ.out 0).trans rfl
  have fZ0 := blk_frozen HZ.out 0
  have cZ1 : w2.cell? ⟨w.heap.size, 1, none⟩ = some (Value.int .i64 0) := (blk_cell HZ.out 1).trans rfl
  have fZ1 := blk_frozen HZ.out 1
  have lZ2 := blk_lt HZ.out
  have cG0 : w2.cell? ⟨w1.heap.size, 0, none⟩ = some (.bool neg) := (blk_cell HG.out 0).trans rfl
  have fG0 := blk_frozen HG.out 0
  have lG2 := blk_lt HG.out
  obtain ⟨A, c, rfl, hc, hC⟩ := hv
  have HN := Lib.hid (show Nat32 w2 (.slice A n.length c) n from ⟨A, c, rfl, hc, hC⟩)
  clear hC
  go_wp2_with fail
  refine (strings_CutPrefix.calls rest2 dotS after false _ hc2).mono ?_
  rintro e w3 ⟨rfl, hd⟩
  have hb := hd.below
  have nZ := Lib.hid (blk_below (blk_alloc (blk_alloc (HZ.out) _) _) hb)
  have nG := Lib.hid (blk_below (blk_alloc (blk_alloc (HG.out) _) _) hb)
  have nQ := Lib.hid (blk_below (blk_alloc (new_at _ _ (w2.heap.size) (by first | omega | (simp only [World.size_alloc, World.size_setCell]; done) | (simp only [World.size_alloc, World.size_setCell]; omega))) _) hb)
  have nE := Lib.hid (blk_below (new_at _ _ (w2.heap.size + 1) (by first | omega | (simp only [World.size_alloc, World.size_setCell]; done) | (simp only [World.size_alloc, World.size_setCell]; omega))) hb)
  have nN := Lib.hid ((((HN.out).below ((Below.refl _ _).alloc (Nat.le_refl _) _)).below ((Below.refl _ _).alloc (Nat.le_refl _) _)).below hb)
  have nB := Lib.hid ((((HB.out).alloc (by first | omega | (simp only [World.size_alloc, World.size_setCell]; done) | (simp only [World.size_alloc, World.size_setCell]; omega)) _).alloc (by first | omega | (simp only [World.size_alloc, World.size_setCell]; done) | (simp only [World.size_alloc, World.size_setCell]; omega)) _).trans (hb.mono (by first | omega | (simp only [World.size_alloc, World.size_setCell]; done) | (simp only [World.size_alloc, World.size_setCell]; omega))))
  have hs3 := hb.size
  try simp only [World.size_alloc, World.size_setCell] at hs3
  clear HB HZ HG HN
  try clear cZ0 fZ0 cZ1 fZ1 cG0 fG0
  have HZ := nZ
  have HG := nG
  have HQ := nQ
  have HE := nE
  have HN := nN
  have HB := nB
  clear nB nZ nG nQ nE nN
  clear hb hd
  have cZ0 : w3.cell? ⟨w.heap.size, 0, none⟩ = some (Value.int .i64 0) := (blk_cell HZ.out 0).trans rfl
  have fZ0 := blk_frozen HZ.out 0
  have cZ1 : w3.cell? ⟨w.heap.size, 1, none⟩ = some (Value.int .i64 0) := (blk_cell HZ.out 1).trans rfl
  have fZ1 := blk_frozen HZ.out 1
  have lZ3 := blk_lt HZ.out
  have cG0 : w3.cell? ⟨w1.heap.size, 0, none⟩ = some (.bool neg) := (blk_cell HG.out 0).trans rfl
  have fG0 := blk_frozen HG.out 0
  have lG3 := blk_lt HG.out
  have cQ0 : w3.cell? ⟨w2.heap.size, 0, none⟩ = some (.slice A n.length c) := (blk_cell HQ.out 0).trans rfl
  have fQ0 := blk_frozen HQ.out 0
  have lQ3 := blk_lt HQ.out
  have cE0 : w3.cell? ⟨w2.heap.size + 1, 0, none⟩ = some (.int .i64 0) := (blk_cell HE.out 0).trans rfl
  have fE0 := blk_frozen HE.out 0
  have lE3 := blk_lt HE.out
  have hre : (rest2.toList == []) = false := by simpa using hrest
  have hri : rest2.toList.isEmpty = false := by simpa using hrest
  go_wp2_with fail
  refine (strings_CutPrefix.calls rest2 eS aft true _ hc3).mono ?_
  rintro e w4 ⟨rfl, hd⟩
  have hb := hd.below
  have nZ := Lib.hid (blk_below (blk_alloc (HZ.out) _) hb)
  have nG := Lib.hid (blk_below (blk_alloc (HG.out) _) hb)
  have nQ := Lib.hid (blk_below (blk_alloc (HQ.out) _) hb)
  have nE := Lib.hid (blk_below (blk_alloc (HE.out) _) hb)
  have nX := Lib.hid (blk_below (new_at _ _ (w3.heap.size) (by first | omega | (simp only [World.size_alloc, World.size_setCell]; done) | (simp only [World.size_alloc, World.size_setCell]; omega))) hb)
  have nN := Lib.hid (((HN.out).below ((Below.refl _ _).alloc (Nat.le_refl _) _)).below hb)
  have nB := Lib.hid (((HB.out).alloc (by first | omega | (simp only [World.size_alloc, World.size_setCell]; done) | (simp only [World.size_alloc, World.size_setCell]; omega)) _).trans (hb.mono (by first | omega | (simp only [World.size_alloc, World.size_setCell]; done) | (simp only [World.size_alloc, World.size_setCell]; omega))))
  have hs4 := hb.size
  try simp only [World.size_alloc, World.size_setCell] at hs4
  clear HB HZ HG HQ HE HN
  try clear cZ0 fZ0 cZ1 fZ1 cG0 fG0 cQ0 fQ0 cE0 fE0
  have HZ := nZ
  have HG := nG
  have HQ := nQ
  have HE := nE
  have HX := nX
  have HN := nN
  have HB := nB
  clear nB nZ nG nQ nE nX nN
  clear hb hd
  have cZ0 : w4.cell? ⟨w.heap.size, 0, none⟩ = some (Value.int .i64 0) := (blk_cell HZ.out 0).trans rfl
  have fZ0 := blk_frozen HZ.out 0
  have cZ1 : w4.cell? ⟨w.heap.size, 1, none⟩ = some (Value.int .i64 0) := (blk_cell HZ.out 1).trans rfl
  have fZ1 := blk_frozen HZ.out 1
  have lZ4 := blk_lt HZ.out
  have cG0 : w4.cell? ⟨w1.heap.size, 0, none⟩ = some (.bool neg) := (blk_cell HG.out 0).trans rfl
  have fG0 := blk_frozen HG.out 0
  have lG4 := blk_lt HG.out
  have cQ0 : w4.cell? ⟨w2.heap.size, 0, none⟩ = some (.slice A n.length c) := (blk_cell HQ.out 0).trans rfl
  have fQ0 := blk_frozen HQ.out 0
  have lQ4 := blk_lt HQ.out
  have cE0 : w4.cell? ⟨w2.heap.size + 1, 0, none⟩ = some (.int .i64 0) := (blk_cell HE.out 0).trans rfl
  have fE0 := blk_frozen HE.out 0
  have lE4 := blk_lt HE.out
  have cX0 : w4.cell? ⟨w3.heap.size, 0, none⟩ = some (.int .i64 0) := (blk_cell HX.out 0).trans rfl
  have fX0 := blk_frozen HX.out 0
  have lX4 := blk_lt HX.out
  go_wp2_with fail
  refine (real_exponent.calls aft x true _ hx).mono ?_
  rintro e w5 ⟨rfl, hb⟩
  have nZ := Lib.hid (blk_below (HZ.out) hb)
  have nG := Lib.hid (blk_below (HG.out) hb)
  have nQ := Lib.hid (blk_below (HQ.out) hb)
  have nE := Lib.hid (blk_below (HE.out) hb)
  have nX := Lib.hid (blk_below (HX.out) hb)
  have nN := Lib.hid ((HN.out).below hb)
  have nB := Lib.hid ((HB.out).trans (hb.mono (by first | omega | (simp only [World.size_alloc, World.size_setCell]; done) | (simp only [World.size_alloc, World.size_setCell]; omega))))
  have hs5 := hb.size
  try simp only [World.size_alloc, World.size_setCell] at hs5
  clear HB HZ HG HQ HE HX HN
  try clear cZ0 fZ0 cZ1 fZ1 cG0 fG0 cQ0 fQ0 cE0 fE0 cX0 fX0
  have HZ := nZ
  have HG := nG
  have HQ := nQ
  have HE := nE
  have HX := nX
  have HN := nN
  have HB := nB
  clear nB nZ nG nQ nE nX nN
  clear hb
  have cZ0 : w5.cell? ⟨w.heap.size, 0, none⟩ = some (Value.int .i64 0) := (blk_cell HZ.out 0).trans rfl
  have fZ0 := blk_frozen HZ.out 0
  have cZ1 : w5.cell? ⟨w.heap.size, 1, none⟩ = some (Value.int .i64 0) := (blk_cell HZ.out 1).trans rfl
  have fZ1 := blk_frozen HZ.out 1
  have lZ5 := blk_lt HZ.out
  have cG0 : w5.cell? ⟨w1.heap.size, 0, none⟩ = some (.bool neg) := (blk_cell HG.out 0).trans rfl
  have fG0 := blk_frozen HG.out 0
  have lG5 := blk_lt HG.out
  have cQ0 : w5.cell? ⟨w2.heap.size, 0, none⟩ = some (.slice A n.length c) := (blk_cell HQ.out 0).trans rfl
  have fQ0 := blk_frozen HQ.out 0
  have lQ5 := blk_lt HQ.out
  have cE0 : w5.cell? ⟨w2.heap.size + 1, 0, none⟩ = some (.int .i64 0) := (blk_cell HE.out 0).trans rfl
  have fE0 := blk_frozen HE.out 0
  have lE5 := blk_lt HE.out
  have cX0 : w5.cell? ⟨w3.heap.size, 0, none⟩ = some (.int .i64 0) := (blk_cell HX.out 0).trans rfl
  have fX0 := blk_frozen HX.out 0
  have lX5 := blk_lt HX.out
  have hmf : ∀ (fn : Fn) (first cap : Array Value) (w : World), (Instr.makeFunc fn first cap).run Tryz.prog w = .ok (.func fn first cap) w := fun _ _ _ _ => rfl
  have HD1 := Lib.hid hd1
  have HS1 := Lib.hid hsg
  have HT1 := Lib.hid ht
  clear hd1 hsg ht
  skip
  go_wp2_with fail
  refine (caught_t 79 _ r1 r2 t0 t1 t2 HT1.out _ (fun args w => enters_ Tryz.func79 (by kernel_rfl) rfl args w) (fun w' h' => parse1_n k neg n A c x 0 m y r1 r2 HD1.out HS1.out _ _ _ _ w' (blk_below ((heap_setCell_other _ _ _ _ (by simp only; omega)).trans (HG.out)) h') (blk_below ((heap_setCell_other _ _ _ _ (by simp only; omega)).trans (HQ.out)) h') (blk_below (heap_setCell_same _ _ 0 _ _ _ (HX.out)) h') (blk_below ((heap_setCell_other _ _ _ _ (by simp only; omega)).trans (HE.out)) h') ((nat32_set (HN.out) (HX.out) (fun _ h => by cases h)).below h'))).mono ?_
  rintro e w6 ⟨rfl, hb⟩
  have nZ := Lib.hid (blk_below ((heap_setCell_other _ _ _ _ (by simp only; omega)).trans (HZ.out)) hb)
  have nG := Lib.hid (blk_below ((heap_setCell_other _ _ _ _ (by simp only; omega)).trans (HG.out)) hb)
  have nQ := Lib.hid (blk_below ((heap_setCell_other _ _ _ _ (by simp only; omega)).trans (HQ.out)) hb)
  have nE := Lib.hid (blk_below ((heap_setCell_other _ _ _ _ (by simp only; omega)).trans (HE.out)) hb)
  have nX := Lib.hid (blk_below (heap_setCell_same _ _ 0 _ _ _ (HX.out)) hb)
  have nN := Lib.hid ((nat32_set (HN.out) (HX.out) (fun _ h => by cases h)).below hb)
  have nB := Lib.hid (((HB.out).setCell (p := ⟨w3.heap.size, 0, none⟩) (by simp only; omega) _).trans (hb.mono (by first | omega | (simp only [World.size_alloc, World.size_setCell]; done) | (simp only [World.size_alloc, World.size_setCell]; omega))))
  have hs6 := hb.size
  try simp only [World.size_alloc, World.size_setCell] at hs6
  clear HB HZ HG HQ HE HX HN
  try clear cZ0 fZ0 cZ1 fZ1 cG0 fG0 cQ0 fQ0 cE0 fE0 cX0 fX0
  have HZ := nZ
  have HG := nG
  have HQ := nQ
  have HE := nE
  have HX := nX
  have HN := nN
  have HB := nB
  clear nB nZ nG nQ nE nX nN
  clear hb
  have cZ0 : w6.cell? ⟨w.heap.size, 0, none⟩ = some (Value.int .i64 0) := (blk_cell HZ.out 0).trans rfl
  have fZ0 := blk_frozen HZ.out 0
  have cZ1 : w6.cell? ⟨w.heap.size, 1, none⟩ = some (Value.int .i64 0) := (blk_cell HZ.out 1).trans rfl
  have fZ1 := blk_frozen HZ.out 1
  have lZ6 := blk_lt HZ.out
  have cG0 : w6.cell? ⟨w1.heap.size, 0, none⟩ = some (.bool neg) := (blk_cell HG.out 0).trans rfl
  have fG0 := blk_frozen HG.out 0
  have lG6 := blk_lt HG.out
  have cQ0 : w6.cell? ⟨w2.heap.size, 0, none⟩ = some (.slice A n.length c) := (blk_cell HQ.out 0).trans rfl
  have fQ0 := blk_frozen HQ.out 0
  have lQ6 := blk_lt HQ.out
  have cE0 : w6.cell? ⟨w2.heap.size + 1, 0, none⟩ = some (.int .i64 0) := (blk_cell HE.out 0).trans rfl
  have fE0 := blk_frozen HE.out 0
  have lE6 := blk_lt HE.out
  have cX0 : w6.cell? ⟨w3.heap.size, 0, none⟩ = some (.int .i64 x) := (blk_cell HX.out 0).trans rfl
  have fX0 := blk_frozen HX.out 0
  have lX6 := blk_lt HX.out
  go_wp2
  have fz : ((w6.setCell ⟨w.heap.size, 0, none⟩ (.int .i64 t0)).setCell ⟨w.heap.size, 1, none⟩ (.int .i64 t1)).heap[w.heap.size]? = some (.cells #[Value.int .i64 t0, Value.int .i64 t1] 23 (0, 0)) := heap_setCell_same _ _ 1 _ _ _ (heap_setCell_same _ _ 0 _ _ _ (HZ.out))
  refine bodyPost_ret (results_ct rfl _ _ (w.heap.size) 23 #[.int .i64 t0, .int .i64 t1] (0, 0) _ rfl fz Tryz.underlying23 rfl (by kernel_rfl)) rfl ?_
  exact ⟨rfl, ((HB.out).setCell (p := ⟨w.heap.size, 0, none⟩) (by simp only; omega) _).setCell (p := ⟨w.heap.size, 1, none⟩) (by simp only; omega) _⟩
set_option maxRecDepth 100000 in
set_option maxHeartbeats 8000000 in
theorem parse_PE3 (k : Nat) (s : ByteArray) (w : World) (hsz : ¬ (s.size : Int) > 60) (rest : ByteArray) (neg : Bool) (hc1 : strings_CutPrefix.f s minusS = some (rest, neg)) (n : List Int) (many : Int) (rest2 : ByteArray) (hn1 : real_number.f k rest [] = some (n, many, rest2)) (hmany : ¬ many = 0) (after : ByteArray) (hc2 : strings_CutPrefix.f rest2 dotS = some (after, true)) (n2 : List Int) (rest3 : ByteArray) (hn2 : real_number.f k after n = some (n2, 0, rest3)) :
    Calls Tryz.prog 25 #[.string s] w fun e w' => e = .returned (.tuple #[.agg #[.int .i64 0, .int .i64 0], .int .i64 7]) ∧ Below w.heap.size w w' := by
  have HB := Lib.hid (Below.refl w.heap.size w)
  go_enter Tryz.func25, Tryz.ntmps25
  go_wp2_with fail
  refine (strings_CutPrefix.calls s minusS rest neg _ hc1).mono ?_
  rintro e w1 ⟨rfl, hd⟩
  have hb := hd.below
  have nZ := Lib.hid (blk_below (new_at _ _ (w.heap.size) (by first | omega | (simp only [World.size_alloc, World.size_setCell]; done) | (simp only [World.size_alloc, World.size_setCell]; omega))) hb)
  have nB := Lib.hid (((HB.out).alloc (by first | omega | (simp only [World.size_alloc, World.size_setCell]; done) | (simp only [World.size_alloc, World.size_setCell]; omega)) _).trans (hb.mono (by first | omega | (simp only [World.size_alloc, World.size_setCell]; done) | (simp only [World.size_alloc, World.size_setCell]; omega))))
  have hs1 := hb.size
  try simp only [World.size_alloc, World.size_setCell] at hs1
  clear HB
  have HZ := nZ
  have HB := nB
  clear nB nZ
  clear hb hd
  have cZ0 : w1.cell? ⟨w.heap.size, 0, none⟩ = some (Value.int .i64 0) := (blk_cell HZ.out 0).trans rfl
  have fZ0 := blk_frozen HZ.out 0
  have cZ1 : w1.cell? ⟨w.heap.size, 1, none⟩ = some (Value.int .i64 0) := (blk_cell HZ.out 1).trans rfl
  have fZ1 := blk_frozen HZ.out 1
  have lZ1 := blk_lt HZ.out
  go_wp2_with fail
  refine (number_c k rest none 0 [] n many rest2 _ (nil_C _) (Nat.zero_le _) hn1).mono ?_
  rintro e w2 ⟨⟨v, hv, rfl⟩, hb⟩
  have nZ := Lib.hid (blk_below (blk_alloc (HZ.out) _) hb)
  have nG := Lib.hid (blk_below (new_at _ _ (w1.heap.size) (by first | omega | (simp only [World.size_alloc, World.size_setCell]; done) | (simp only [World.size_alloc, World.size_setCell]; omega))) hb)
  have nB := Lib.hid (((HB.out).alloc (by first | omega | (simp only [World.size_alloc, World.size_setCell]; done) | (simp only [World.size_alloc, World.size_setCell]; omega)) _).trans (hb.mono (by first | omega | (simp only [World.size_alloc, World.size_setCell]; done) | (simp only [World.size_alloc, World.size_setCell]; omega))))
  have hs2 := hb.size
  try simp only [World.size_alloc, World.size_setCell] at hs2
  clear HB HZ
  try clear cZ0 fZ0 cZ1 fZ1
  have HZ := nZ
  have HG := nG
  have HB := nB
  clear nB nZ nG
  clear hb
  have cZ0 : w2.cell? ⟨w.heap.size, 0, none⟩ = some (Value.int .i64 0) := (blk_cell HZ.out 0).trans rfl
  have fZ0 := blk_frozen HZ.out 0
  have cZ1 : w2.cell? ⟨w.heap.size, 1, none⟩ = some (Value.int .i64 0) := (blk_cell HZ.out 1).trans rfl
  have fZ1 := blk_frozen HZ.out 1
  have lZ2 := blk_lt HZ.out
  have cG0 : w2.cell? ⟨w1.heap.size, 0, none⟩ = some (.bool neg) := (blk_cell HG.out 0).trans rfl
  have fG0 := blk_frozen HG.out 0
  have lG2 := blk_lt HG.out
  obtain ⟨A, c, rfl, hc, hC⟩ := hv
  have HN := Lib.hid (show Nat32 w2 (.slice A n.length c) n from ⟨A, c, rfl, hc, hC⟩)
  clear hC
  go_wp2_with fail
  refine (strings_CutPrefix.calls rest2 dotS after true _ hc2).mono ?_
  rintro e w3 ⟨rfl, hd⟩
  have hb := hd.below
  have nZ := Lib.hid (blk_below (blk_alloc (blk_alloc (HZ.out) _) _) hb)
  have nG := Lib.hid (blk_below (blk_alloc (blk_alloc (HG.out) _) _) hb)
  have nQ := Lib.hid (blk_below (blk_alloc (new_at _ _ (w2.heap.size) (by first | omega | (simp only [World.size_alloc, World.size_setCell]; done) | (simp only [World.size_alloc, World.size_setCell]; omega))) _) hb)
  have nE := Lib.hid (blk_below (new_at _ _ (w2.heap.size + 1) (by first | omega | (simp only [World.size_alloc, World.size_setCell]; done) | (simp only [World.size_alloc, World.size_setCell]; omega))) hb)
  have nN := Lib.hid ((((HN.out).below ((Below.refl _ _).alloc (Nat.le_refl _) _)).below ((Below.refl _ _).alloc (Nat.le_refl _) _)).below hb)
  have nB := Lib.hid ((((HB.out).alloc (by first | omega | (simp only [World.size_alloc, World.size_setCell]; done) | (simp only [World.size_alloc, World.size_setCell]; omega)) _).alloc (by first | omega | (simp only [World.size_alloc, World.size_setCell]; done) | (simp only [World.size_alloc, World.size_setCell]; omega)) _).trans (hb.mono (by first | omega | (simp only [World.size_alloc, World.size_setCell]; done) | (simp only [World.size_alloc, World.size_setCell]; omega))))
  have hs3 := hb.size
  try simp only [World.size_alloc, World.size_setCell] at hs3
  clear HB HZ HG HN
  try clear cZ0 fZ0 cZ1 fZ1 cG0 fG0
  have HZ := nZ
  have HG := nG
  have HQ := nQ
  have HE := nE
  have HN := nN
  have HB := nB
  clear nB nZ nG nQ nE nN
  clear hb hd
  have cZ0 : w3.cell? ⟨w.heap.size, 0, none⟩ = some (Value.int .i64 0) := (blk_cell HZ.out 0).trans rfl
  have fZ0 := blk_frozen HZ.out 0
  have cZ1 : w3.cell? ⟨w.heap.size, 1, none⟩ = some (Value.int .i64 0) := (blk_cell HZ.out 1).trans rfl
  have fZ1 := blk_frozen HZ.out 1
  have lZ3 := blk_lt HZ.out
  have cG0 : w3.cell? ⟨w1.heap.size, 0, none⟩ = some (.bool neg) := (blk_cell HG.out 0).trans rfl
  have fG0 := blk_frozen HG.out 0
  have lG3 := blk_lt HG.out
  have cQ0 : w3.cell? ⟨w2.heap.size, 0, none⟩ = some (.slice A n.length c) := (blk_cell HQ.out 0).trans rfl
  have fQ0 := blk_frozen HQ.out 0
  have lQ3 := blk_lt HQ.out
  have cE0 : w3.cell? ⟨w2.heap.size + 1, 0, none⟩ = some (.int .i64 0) := (blk_cell HE.out 0).trans rfl
  have fE0 := blk_frozen HE.out 0
  have lE3 := blk_lt HE.out
  have HN32 := HN.out
  obtain ⟨A', c', heq, hcc, hCC⟩ := HN32
  cases heq
  go_wp2_with fail
  refine (number_c k after A c n n2 0 rest3 _ hCC hcc hn2).mono ?_
  rintro e w4 ⟨⟨v, hv, rfl⟩, hb⟩
  have nZ := Lib.hid (blk_below (HZ.out) hb)
  have nG := Lib.hid (blk_below (HG.out) hb)
  have nQ := Lib.hid (blk_below (HQ.out) hb)
  have nE := Lib.hid (blk_below (HE.out) hb)
  have nN := Lib.hid ((HN.out).below hb)
  have nB := Lib.hid ((HB.out).trans (hb.mono (by first | omega | (simp only [World.size_alloc, World.size_setCell]; done) | (simp only [World.size_alloc, World.size_setCell]; omega))))
  have hs4 := hb.size
  try simp only [World.size_alloc, World.size_setCell] at hs4
  clear HB HZ HG HQ HE HN
  try clear cZ0 fZ0 cZ1 fZ1 cG0 fG0 cQ0 fQ0 cE0 fE0
  have HZ := nZ
  have HG := nG
  have HQ := nQ
  have HE := nE
  have HN := nN
  have HB := nB
  clear nB nZ nG nQ nE nN
  clear hb
  have cZ0 : w4.cell? ⟨w.heap.size, 0, none⟩ = some (Value.int .i64 0) := (blk_cell HZ.out 0).trans rfl
  have fZ0 := blk_frozen HZ.out 0
  have cZ1 : w4.cell? ⟨w.heap.size, 1, none⟩ = some (Value.int .i64 0) := (blk_cell HZ.out 1).trans rfl
  have fZ1 := blk_frozen HZ.out 1
  have lZ4 := blk_lt HZ.out
  have cG0 : w4.cell? ⟨w1.heap.size, 0, none⟩ = some (.bool neg) := (blk_cell HG.out 0).trans rfl
  have fG0 := blk_frozen HG.out 0
  have lG4 := blk_lt HG.out
  have cQ0 : w4.cell? ⟨w2.heap.size, 0, none⟩ = some (.slice A n.length c) := (blk_cell HQ.out 0).trans rfl
  have fQ0 := blk_frozen HQ.out 0
  have lQ4 := blk_lt HQ.out
  have cE0 : w4.cell? ⟨w2.heap.size + 1, 0, none⟩ = some (.int .i64 0) := (blk_cell HE.out 0).trans rfl
  have fE0 := blk_frozen HE.out 0
  have lE4 := blk_lt HE.out
  clear HN hCC
  obtain ⟨A2, c2, rfl, hc2', hC2⟩ := hv
  have HN := Lib.hid (show Nat32 w4 (.slice A2 n2.length c2) n2 from ⟨A2, c2, rfl, hc2', hC2⟩)
  clear hC2
  go_wp2
  have fz : ((((w4.setCell ⟨w2.heap.size, 0, none⟩ (.slice A2 n2.length c2)).setCell ⟨w2.heap.size + 1, 0, none⟩ (.int .i64 0)).setCell ⟨w.heap.size, 0, none⟩ (.int .i64 0)).setCell ⟨w.heap.size, 1, none⟩ (.int .i64 0)).heap[w.heap.size]? = some (.cells #[Value.int .i64 0, Value.int .i64 0] 23 (0, 0)) := heap_setCell_same _ _ 1 _ _ _ (heap_setCell_same _ _ 0 _ _ _ ((heap_setCell_other _ _ _ _ (by simp only; omega)).trans ((heap_setCell_other _ _ _ _ (by simp only; omega)).trans (HZ.out))))
  refine bodyPost_ret (results_ct rfl _ _ (w.heap.size) 23 #[.int .i64 0, .int .i64 0] (0, 0) _ rfl fz Tryz.underlying23 rfl (by kernel_rfl)) rfl ?_
  exact ⟨rfl, ((((HB.out).setCell (p := ⟨w2.heap.size, 0, none⟩) (by simp only; omega) _).setCell (p := ⟨w2.heap.size + 1, 0, none⟩) (by simp only; omega) _).setCell (p := ⟨w.heap.size, 0, none⟩) (by simp only; omega) _).setCell (p := ⟨w.heap.size, 1, none⟩) (by simp only; omega) _⟩
set_option maxRecDepth 100000 in
set_option maxHeartbeats 8000000 in
theorem parse_PZ (k : Nat) (s : ByteArray) (w : World) (hsz : ¬ (s.size : Int) > 60) (rest : ByteArray) (neg : Bool) (hc1 : strings_CutPrefix.f s minusS = some (rest, neg)) (n : List Int) (many : Int) (rest2 : ByteArray) (hn1 : real_number.f k rest [] = some (n, many, rest2)) (hmany : ¬ many = 0) (after : ByteArray) (hc2 : strings_CutPrefix.f rest2 dotS = some (after, true)) (n2 : List Int) (behind : Int) (rest3 : ByteArray) (hn2 : real_number.f k after n = some (n2, behind, rest3)) (hbeh : ¬ behind = 0) (hrest : rest3.toList = []) (m y r1 r2 t0 t1 t2 : Int) (hd1 : real_decimal.f k n2 (wrap64 (0 - behind)) = some (m, y)) (hsg : real_signed.f neg m y = some (r1, r2)) (ht : caughtS r1 r2 = (t0, t1, t2)) :
    Calls Tryz.prog 25 #[.string s] w fun e w' => e = .returned (.tuple #[.agg #[.int .i64 t0, .int .i64 t1], .int .i64 t2]) ∧ Below w.heap.size w w' := by
  have HB := Lib.hid (Below.refl w.heap.size w)
  go_enter Tryz.func25, Tryz.ntmps25
  go_wp2_with fail
  refine (strings_CutPrefix.calls s minusS rest neg _ hc1).mono ?_
  rintro e w1 ⟨rfl, hd⟩
  have hb := hd.below
  have nZ := Lib.hid (blk_below (new_at _ _ (w.heap.size) (by first | omega | (simp only [World.size_alloc, World.size_setCell]; done) | (simp only [World.size_alloc, World.size_setCell]; omega))) hb)
  have nB := Lib.hid (((HB.out).alloc (by first | omega | (simp only [World.size_alloc, World.size_setCell]; done) | (simp only [World.size_alloc, World.size_setCell]; omega)) _).trans (hb.mono (by first | omega | (simp only [World.size_alloc, World.size_setCell]; done) | (simp only [World.size_alloc, World.size_setCell]; omega))))
  have hs1 := hb.size
  try simp only [World.size_alloc, World.size_setCell] at hs1
  clear HB
  have HZ := nZ
  have HB := nB
  clear nB nZ
  clear hb hd
  have cZ0 : w1.cell? ⟨w.heap.size, 0, none⟩ = some (Value.int .i64 0) := (blk_cell HZ.out 0).trans rfl
  have fZ0 := blk_frozen HZ.out 0
  have cZ1 : w1.cell? ⟨w.heap.size, 1, none⟩ = some (Value.int .i64 0) := (blk_cell HZ.out 1).trans rfl
  have fZ1 := blk_frozen HZ.out 1
  have lZ1 := blk_lt HZ.out
  go_wp2_with fail
  refine (number_c k rest none 0 [] n many rest2 _ (nil_C _) (Nat.zero_le _) hn1).mono ?_
  rintro e w2 ⟨⟨v, hv, rfl⟩, hb⟩
  have nZ := Lib.hid (blk_below (blk_alloc (HZ.out) _) hb)
  have nG := Lib.hid (blk_below (new_at _ _ (w1.heap.size) (by first | omega | (simp only [World.size_alloc, World.size_setCell]; done) | (simp only [World.size_alloc, World.size_setCell]; omega))) hb)
  have nB := Lib.hid (((HB.out).alloc (by first | omega | (simp only [World.size_alloc, World.size_setCell]; done) | (simp only [World.size_alloc, World.size_setCell]; omega)) _).trans (hb.mono (by first | omega | (simp only [World.size_alloc, World.size_setCell]; done) | (simp only [World.size_alloc, World.size_setCell]; omega))))
  have hs2 := hb.size
  try simp only [World.size_alloc, World.size_setCell] at hs2
  clear HB HZ
  try clear cZ0 fZ0 cZ1 fZ1
  have HZ := nZ
  have HG := nG
  have HB := nB
  clear nB nZ nG
  clear hb
  have cZ0 : w2.cell? ⟨w.heap.size, 0, none⟩ = some (Value.int .i64 0) := (blk_cell HZ.out 0).trans rfl
  have fZ0 := blk_frozen HZ.out 0
  have cZ1 : w2.cell? ⟨w.heap.size, 1, none⟩ = some (Value.int .i64 0) := (blk_cell HZ.out 1).trans rfl
  have fZ1 := blk_frozen HZ.out 1
  have lZ2 := blk_lt HZ.out
  have cG0 : w2.cell? ⟨w1.heap.size, 0, none⟩ = some (.bool neg) := (blk_cell HG.out 0).trans rfl
  have fG0 := blk_frozen HG.out 0
  have lG2 := blk_lt HG.out
  obtain ⟨A, c, rfl, hc, hC⟩ := hv
  have HN := Lib.hid (show Nat32 w2 (.slice A n.length c) n from ⟨A, c, rfl, hc, hC⟩)
  clear hC
  go_wp2_with fail
  refine (strings_CutPrefix.calls rest2 dotS after true _ hc2).mono ?_
  rintro e w3 ⟨rfl, hd⟩
  have hb := hd.below
  have nZ := Lib.hid (blk_below (blk_alloc (blk_alloc (HZ.out) _) _) hb)
  have nG := Lib.hid (blk_below (blk_alloc (blk_alloc (HG.out) _) _) hb)
  have nQ := Lib.hid (blk_below (blk_alloc (new_at _ _ (w2.heap.size) (by first | omega | (simp only [World.size_alloc, World.size_setCell]; done) | (simp only [World.size_alloc, World.size_setCell]; omega))) _) hb)
  have nE := Lib.hid (blk_below (new_at _ _ (w2.heap.size + 1) (by first | omega | (simp only [World.size_alloc, World.size_setCell]; done) | (simp only [World.size_alloc, World.size_setCell]; omega))) hb)
  have nN := Lib.hid ((((HN.out).below ((Below.refl _ _).alloc (Nat.le_refl _) _)).below ((Below.refl _ _).alloc (Nat.le_refl _) _)).below hb)
  have nB := Lib.hid ((((HB.out).alloc (by first | omega | (simp only [World.size_alloc, World.size_setCell]; done) | (simp only [World.size_alloc, World.size_setCell]; omega)) _).alloc (by first | omega | (simp only [World.size_alloc, World.size_setCell]; done) | (simp only [World.size_alloc, World.size_setCell]; omega)) _).trans (hb.mono (by first | omega | (simp only [World.size_alloc, World.size_setCell]; done) | (simp only [World.size_alloc, World.size_setCell]; omega))))
  have hs3 := hb.size
  try simp only [World.size_alloc, World.size_setCell] at hs3
  clear HB HZ HG HN
  try clear cZ0 fZ0 cZ1 fZ1 cG0 fG0
  have HZ := nZ
  have HG := nG
  have HQ := nQ
  have HE := nE
  have HN := nN
  have HB := nB
  clear nB nZ nG nQ nE nN
  clear hb hd
  have cZ0 : w3.cell? ⟨w.heap.size, 0, none⟩ = some (Value.int .i64 0) := (blk_cell HZ.out 0).trans rfl
  have fZ0 := blk_frozen HZ.out 0
  have cZ1 : w3.cell? ⟨w.heap.size, 1, none⟩ = some (Value.int .i64 0) := (blk_cell HZ.out 1).trans rfl
  have fZ1 := blk_frozen HZ.out 1
  have lZ3 := blk_lt HZ.out
  have cG0 : w3.cell? ⟨w1.heap.size, 0, none⟩ = some (.bool neg) := (blk_cell HG.out 0).trans rfl
  have fG0 := blk_frozen HG.out 0
  have lG3 := blk_lt HG.out
  have cQ0 : w3.cell? ⟨w2.heap.size, 0, none⟩ = some (.slice A n.length c) := (blk_cell HQ.out 0).trans rfl
  have fQ0 := blk_frozen HQ.out 0
  have lQ3 := blk_lt HQ.out
  have cE0 : w3.cell? ⟨w2.heap.size + 1, 0, none⟩ = some (.int .i64 0) := (blk_cell HE.out 0).trans rfl
  have fE0 := blk_frozen HE.out 0
  have lE3 := blk_lt HE.out
  have HN32 := HN.out
  obtain ⟨A', c', heq, hcc, hCC⟩ := HN32
  cases heq
  go_wp2_with fail
  refine (number_c k after A c n n2 behind rest3 _ hCC hcc hn2).mono ?_
  rintro e w4 ⟨⟨v, hv, rfl⟩, hb⟩
  have nZ := Lib.hid (blk_below (HZ.out) hb)
  have nG := Lib.hid (blk_below (HG.out) hb)
  have nQ := Lib.hid (blk_below (HQ.out) hb)
  have nE := Lib.hid (blk_below (HE.out) hb)
  have nN := Lib.hid ((HN.out).below hb)
  have nB := Lib.hid ((HB.out).trans (hb.mono (by first | omega | (simp only [World.size_alloc, World.size_setCell]; done) | (simp only [World.size_alloc, World.size_setCell]; omega))))
  have hs4 := hb.size
  try simp only [World.size_alloc, World.size_setCell] at hs4
  clear HB HZ HG HQ HE HN
  try clear cZ0 fZ0 cZ1 fZ1 cG0 fG0 cQ0 fQ0 cE0 fE0
  have HZ := nZ
  have HG := nG
  have HQ := nQ
  have HE := nE
  have HN := nN
  have HB := nB
  clear nB nZ nG nQ nE nN
  clear hb
  have cZ0 : w4.cell? ⟨w.heap.size, 0, none⟩ = some (Value.int .i64 0) := (blk_cell HZ.out 0).trans rfl
  have fZ0 := blk_frozen HZ.out 0
  have cZ1 : w4.cell? ⟨w.heap.size, 1, none⟩ = some (Value.int .i64 0) := (blk_cell HZ.out 1).trans rfl
  have fZ1 := blk_frozen HZ.out 1
  have lZ4 := blk_lt HZ.out
  have cG0 : w4.cell? ⟨w1.heap.size, 0, none⟩ = some (.bool neg) := (blk_cell HG.out 0).trans rfl
  have fG0 := blk_frozen HG.out 0
  have lG4 := blk_lt HG.out
  have cQ0 : w4.cell? ⟨w2.heap.size, 0, none⟩ = some (.slice A n.length c) := (blk_cell HQ.out 0).trans rfl
  have fQ0 := blk_frozen HQ.out 0
  have lQ4 := blk_lt HQ.out
  have cE0 : w4.cell? ⟨w2.heap.size + 1, 0, none⟩ = some (.int .i64 0) := (blk_cell HE.out 0).trans rfl
  have fE0 := blk_frozen HE.out 0
  have lE4 := blk_lt HE.out
  clear HN hCC
  obtain ⟨A2, c2, rfl, hc2', hC2⟩ := hv
  have HN := Lib.hid (show Nat32 w4 (.slice A2 n2.length c2) n2 from ⟨A2, c2, rfl, hc2', hC2⟩)
  clear hC2
  have hre : (rest3.toList == []) = true := by simp [hrest]
  have hri : rest3.toList.isEmpty = true := by simp [hrest]
  have hmf : ∀ (fn : Fn) (first cap : Array Value) (w : World), (Instr.makeFunc fn first cap).run Tryz.prog w = .ok (.func fn first cap) w := fun _ _ _ _ => rfl
  have HD1 := Lib.hid hd1
  have HS1 := Lib.hid hsg
  have HT1 := Lib.hid ht
  clear hd1 hsg ht
  skip
  go_wp2_with fail
  refine (caught_t 79 _ r1 r2 t0 t1 t2 HT1.out _ (fun args w => enters_ Tryz.func79 (by kernel_rfl) rfl args w) (fun w' h' => parse1_n k neg n2 A2 c2 0 behind m y r1 r2 HD1.out HS1.out _ _ _ _ w' (blk_below (blk_alloc ((heap_setCell_other _ _ _ _ (by simp only; omega)).trans ((heap_setCell_other _ _ _ _ (by simp only; omega)).trans (HG.out))) _) h') (blk_below (blk_alloc ((heap_setCell_other _ _ _ _ (by simp only; omega)).trans (heap_setCell_same _ _ 0 _ _ _ (HQ.out))) _) h') (blk_below (new_at _ _ (w4.heap.size) (by first | omega | (simp only [World.size_alloc, World.size_setCell]; done) | (simp only [World.size_alloc, World.size_setCell]; omega))) h') (blk_below (blk_alloc (heap_setCell_same _ _ 0 _ _ _ ((heap_setCell_other _ _ _ _ (by simp only; omega)).trans (HE.out))) _) h') (((nat32_set (nat32_set (HN.out) (HQ.out) (fun _ h => by cases h)) ((heap_setCell_other _ _ _ _ (by simp only; omega)).trans (HE.out)) (fun _ h => by cases h)).below ((Below.refl _ _).alloc (Nat.le_refl _) _)).below h'))).mono ?_
  rintro e w5 ⟨rfl, hb⟩
  have nZ := Lib.hid (blk_below (blk_alloc ((heap_setCell_other _ _ _ _ (by simp only; omega)).trans ((heap_setCell_other _ _ _ _ (by simp only; omega)).trans (HZ.out))) _) hb)
  have nG := Lib.hid (blk_below (blk_alloc ((heap_setCell_other _ _ _ _ (by simp only; omega)).trans ((heap_setCell_other _ _ _ _ (by simp only; omega)).trans (HG.out))) _) hb)
  have nQ := Lib.hid (blk_below (blk_alloc ((heap_setCell_other _ _ _ _ (by simp only; omega)).trans (heap_setCell_same _ _ 0 _ _ _ (HQ.out))) _) hb)
  have nE := Lib.hid (blk_below (blk_alloc (heap_setCell_same _ _ 0 _ _ _ ((heap_setCell_other _ _ _ _ (by simp only; omega)).trans (HE.out))) _) hb)
  have nX := Lib.hid (blk_below (new_at _ _ (w4.heap.size) (by first | omega | (simp only [World.size_alloc, World.size_setCell]; done) | (simp only [World.size_alloc, World.size_setCell]; omega))) hb)
  have nN := Lib.hid (((nat32_set (nat32_set (HN.out) (HQ.out) (fun _ h => by cases h)) ((heap_setCell_other _ _ _ _ (by simp only; omega)).trans (HE.out)) (fun _ h => by cases h)).below ((Below.refl _ _).alloc (Nat.le_refl _) _)).below hb)
  have nB := Lib.hid (((((HB.out).setCell (p := ⟨w2.heap.size, 0, none⟩) (by simp only; omega) _).setCell (p := ⟨w2.heap.size + 1, 0, none⟩) (by simp only; omega) _).alloc (by first | omega | (simp only [World.size_alloc, World.size_setCell]; done) | (simp only [World.size_alloc, World.size_setCell]; omega)) _).trans (hb.mono (by first | omega | (simp only [World.size_alloc, World.size_setCell]; done) | (simp only [World.size_alloc, World.size_setCell]; omega))))
  have hs5 := hb.size
  try simp only [World.size_alloc, World.size_setCell] at hs5
  clear HB HZ HG HQ HE HN
  try clear cZ0 fZ0 cZ1 fZ1 cG0 fG0 cQ0 fQ0 cE0 fE0
  have HZ := nZ
  have HG := nG
  have HQ := nQ
  have HE := nE
  have HX := nX
  have HN := nN
  have HB := nB
  clear nB nZ nG nQ nE nX nN
  clear hb
  have cZ0 : w5.cell? ⟨w.heap.size, 0, none⟩ = some (Value.int .i64 0) := (blk_cell HZ.out 0).trans rfl
  have fZ0 := blk_frozen HZ.out 0
  have cZ1 : w5.cell? ⟨w.heap.size, 1, none⟩ = some (Value.int .i64 0) := (blk_cell HZ.out 1).trans rfl
  have fZ1 := blk_frozen HZ.out 1
  have lZ5 := blk_lt HZ.out
  have cG0 : w5.cell? ⟨w1.heap.size, 0, none⟩ = some (.bool neg) := (blk_cell HG.out 0).trans rfl
  have fG0 := blk_frozen HG.out 0
  have lG5 := blk_lt HG.out
  have cQ0 : w5.cell? ⟨w2.heap.size, 0, none⟩ = some (.slice A2 n2.length c2) := (blk_cell HQ.out 0).trans rfl
  have fQ0 := blk_frozen HQ.out 0
  have lQ5 := blk_lt HQ.out
  have cE0 : w5.cell? ⟨w2.heap.size + 1, 0, none⟩ = some (.int .i64 behind) := (blk_cell HE.out 0).trans rfl
  have fE0 := blk_frozen HE.out 0
  have lE5 := blk_lt HE.out
  have cX0 : w5.cell? ⟨w4.heap.size, 0, none⟩ = some (.int .i64 0) := (blk_cell HX.out 0).trans rfl
  have fX0 := blk_frozen HX.out 0
  have lX5 := blk_lt HX.out
  go_wp2
  have fz : ((w5.setCell ⟨w.heap.size, 0, none⟩ (.int .i64 t0)).setCell ⟨w.heap.size, 1, none⟩ (.int .i64 t1)).heap[w.heap.size]? = some (.cells #[Value.int .i64 t0, Value.int .i64 t1] 23 (0, 0)) := heap_setCell_same _ _ 1 _ _ _ (heap_setCell_same _ _ 0 _ _ _ (HZ.out))
  refine bodyPost_ret (results_ct rfl _ _ (w.heap.size) 23 #[.int .i64 t0, .int .i64 t1] (0, 0) _ rfl fz Tryz.underlying23 rfl (by kernel_rfl)) rfl ?_
  exact ⟨rfl, ((HB.out).setCell (p := ⟨w.heap.size, 0, none⟩) (by simp only; omega) _).setCell (p := ⟨w.heap.size, 1, none⟩) (by simp only; omega) _⟩
set_option maxRecDepth 100000 in
set_option maxHeartbeats 8000000 in
theorem parse_PB (k : Nat) (s : ByteArray) (w : World) (hsz : ¬ (s.size : Int) > 60) (rest : ByteArray) (neg : Bool) (hc1 : strings_CutPrefix.f s minusS = some (rest, neg)) (n : List Int) (many : Int) (rest2 : ByteArray) (hn1 : real_number.f k rest [] = some (n, many, rest2)) (hmany : ¬ many = 0) (after : ByteArray) (hc2 : strings_CutPrefix.f rest2 dotS = some (after, true)) (n2 : List Int) (behind : Int) (rest3 : ByteArray) (hn2 : real_number.f k after n = some (n2, behind, rest3)) (hbeh : ¬ behind = 0) (hrest : rest3.toList ≠ []) (aft : ByteArray) (x : Int) (ok : Bool) (hc3 : strings_CutPrefix.f rest3 eS = some (aft, false)) (hx : real_exponent.f aft = some (x, ok)) :
    Calls Tryz.prog 25 #[.string s] w fun e w' => e = .returned (.tuple #[.agg #[.int .i64 0, .int .i64 0], .int .i64 7]) ∧ Below w.heap.size w w' := by
  have HB := Lib.hid (Below.refl w.heap.size w)
  go_enter Tryz.func25, Tryz.ntmps25
  go_wp2_with fail
  refine (strings_CutPrefix.calls s minusS rest neg _ hc1).mono ?_
  rintro e w1 ⟨rfl, hd⟩
  have hb := hd.below
  have nZ := Lib.hid (blk_below (new_at _ _ (w.heap.size) (by first | omega | (simp only [World.size_alloc, World.size_setCell]; done) | (simp only [World.size_alloc, World.size_setCell]; omega))) hb)
  have nB := Lib.hid (((HB.out).alloc (by first | omega | (simp only [World.size_alloc, World.size_setCell]; done) | (simp only [World.size_alloc, World.size_setCell]; omega)) _).trans (hb.mono (by first | omega | (simp only [World.size_alloc, World.size_setCell]; done) | (simp only [World.size_alloc, World.size_setCell]; omega))))
  have hs1 := hb.size
  try simp only [World.size_alloc, World.size_setCell] at hs1
  clear HB
  have HZ := nZ
  have HB := nB
  clear nB nZ
  clear hb hd
  have cZ0 : w1.cell? ⟨w.heap.size, 0, none⟩ = some (Value.int .i64 0) := (blk_cell HZ.out 0).trans rfl
  have fZ0 := blk_frozen HZ.out 0
  have cZ1 : w1.cell? ⟨w.heap.size, 1, none⟩ = some (Value.int .i64 0) := (blk_cell HZ.out 1).trans rfl
  have fZ1 := blk_frozen HZ.out 1
  have lZ1 := blk_lt HZ.out
  go_wp2_with fail
  refine (number_c k rest none 0 [] n many rest2 _ (nil_C _) (Nat.zero_le _) hn1).mono ?_
  rintro e w2 ⟨⟨v, hv, rfl⟩, hb⟩
  have nZ := Lib.hid (blk_below (blk_alloc (HZ.out) _) hb)
  have nG := Lib.hid (blk_below (new_at _ _ (w1.heap.size) (by first | omega | (simp only [World.size_alloc, World.size_setCell]; done) | (simp only [World.size_alloc, World.size_setCell]; omega))) hb)
  have nB := Lib.hid (((HB.out).alloc (by first | omega | (simp only [World.size_alloc, World.size_setCell]; done) | (simp only [World.size_alloc, World.size_setCell]; omega)) _).trans (hb.mono (by first | omega | (simp only [World.size_alloc, World.size_setCell]; done) | (simp only [World.size_alloc, World.size_setCell]; omega))))
  have hs2 := hb.size
  try simp only [World.size_alloc, World.size_setCell] at hs2
  clear HB HZ
  try clear cZ0 fZ0 cZ1 fZ1
  have HZ := nZ
  have HG := nG
  have HB := nB
  clear nB nZ nG
  clear hb
  have cZ0 : w2.cell? ⟨w.heap.size, 0, none⟩ = some (Value.int .i64 0) := (blk_cell HZ.out 0).trans rfl
  have fZ0 := blk_frozen HZ.out 0
  have cZ1 : w2.cell? ⟨w.heap.size, 1, none⟩ = some (Value.int .i64 0) := (blk_cell HZ.out 1).trans rfl
  have fZ1 := blk_frozen HZ.out 1
  have lZ2 := blk_lt HZ.out
  have cG0 : w2.cell? ⟨w1.heap.size, 0, none⟩ = some (.bool neg) := (blk_cell HG.out 0).trans rfl
  have fG0 := blk_frozen HG.out 0
  have lG2 := blk_lt HG.out
  obtain ⟨A, c, rfl, hc, hC⟩ := hv
  have HN := Lib.hid (show Nat32 w2 (.slice A n.length c) n from ⟨A, c, rfl, hc, hC⟩)
  clear hC
  go_wp2_with fail
  refine (strings_CutPrefix.calls rest2 dotS after true _ hc2).mono ?_
  rintro e w3 ⟨rfl, hd⟩
  have hb := hd.below
  have nZ := Lib.hid (blk_below (blk_alloc (blk_alloc (HZ.out) _) _) hb)
  have nG := Lib.hid (blk_below (blk_alloc (blk_alloc (HG.out) _) _) hb)
  have nQ := Lib.hid (blk_below (blk_alloc (new_at _ _ (w2.heap.size) (by first | omega | (simp only [World.size_alloc, World.size_setCell]; done) | (simp only [World.size_alloc, World.size_setCell]; omega))) _) hb)
  have nE := Lib.hid (blk_below (new_at _ _ (w2.heap.size + 1) (by first | omega | (simp only [World.size_alloc, World.size_setCell]; done) | (simp only [World.size_alloc, World.size_setCell]; omega))) hb)
  have nN := Lib.hid ((((HN.out).below ((Below.refl _ _).alloc (Nat.le_refl _) _)).below ((Below.refl _ _).alloc (Nat.le_refl _) _)).below hb)
  have nB := Lib.hid ((((HB.out).alloc (by first | omega | (simp only [World.size_alloc, World.size_setCell]; done) | (simp only [World.size_alloc, World.size_setCell]; omega)) _).alloc (by first | omega | (simp only [World.size_alloc, World.size_setCell]; done) | (simp only [World.size_alloc, World.size_setCell]; omega)) _).trans (hb.mono (by first | omega | (simp only [World.size_alloc, World.size_setCell]; done) | (simp only [World.size_alloc, World.size_setCell]; omega))))
  have hs3 := hb.size
  try simp only [World.size_alloc, World.size_setCell] at hs3
  clear HB HZ HG HN
  try clear cZ0 fZ0 cZ1 fZ1 cG0 fG0
  have HZ := nZ
  have HG := nG
  have HQ := nQ
  have HE := nE
  have HN := nN
  have HB := nB
  clear nB nZ nG nQ nE nN
  clear hb hd
  have cZ0 : w3.cell? ⟨w.heap.size, 0, none⟩ = some (Value.int .i64 0) := (blk_cell HZ.out 0).trans rfl
  have fZ0 := blk_frozen HZ.out 0
  have cZ1 : w3.cell? ⟨w.heap.size, 1, none⟩ = some (Value.int .i64 0) := (blk_cell HZ.out 1).trans rfl
  have fZ1 := blk_frozen HZ.out 1
  have lZ3 := blk_lt HZ.out
  have cG0 : w3.cell? ⟨w1.heap.size, 0, none⟩ = some (.bool neg) := (blk_cell HG.out 0).trans rfl
  have fG0 := blk_frozen HG.out 0
  have lG3 := blk_lt HG.out
  have cQ0 : w3.cell? ⟨w2.heap.size, 0, none⟩ = some (.slice A n.length c) := (blk_cell HQ.out 0).trans rfl
  have fQ0 := blk_frozen HQ.out 0
  have lQ3 := blk_lt HQ.out
  have cE0 : w3.cell? ⟨w2.heap.size + 1, 0, none⟩ = some (.int .i64 0) := (blk_cell HE.out 0).trans rfl
  have fE0 := blk_frozen HE.out 0
  have lE3 := blk_lt HE.out
  have HN32 := HN.out
  obtain ⟨A', c', heq, hcc, hCC⟩ := HN32
  cases heq
  go_wp2_with fail
  refine (number_c k after A c n n2 behind rest3 _ hCC hcc hn2).mono ?_
  rintro e w4 ⟨⟨v, hv, rfl⟩, hb⟩
  have nZ := Lib.hid (blk_below (HZ.out) hb)
  have nG := Lib.hid (blk_below (HG.out) hb)
  have nQ := Lib.hid (blk_below (HQ.out) hb)
  have nE := Lib.hid (blk_below (HE.out) hb)
  have nN := Lib.hid ((HN.out).below hb)
  have nB := Lib.hid ((HB.out).trans (hb.mono (by first | omega | (simp only [World.size_alloc, World.size_setCell]; done) | (simp only [World.size_alloc, World.size_setCell]; omega))))
  have hs4 := hb.size
  try simp only [World.size_alloc, World.size_setCell] at hs4
  clear HB HZ HG HQ HE HN
  try clear cZ0 fZ0 cZ1 fZ1 cG0 fG0 cQ0 fQ0 cE0 fE0
  have HZ := nZ
  have HG := nG
  have HQ := nQ
  have HE := nE
  have HN := nN
  have HB := nB
  clear nB nZ nG nQ nE nN
  clear hb
  have cZ0 : w4.cell? ⟨w.heap.size, 0, none⟩ = some (Value.int .i64 0) := (blk_cell HZ.out 0).trans rfl
  have fZ0 := blk_frozen HZ.out 0
  have cZ1 : w4.cell? ⟨w.heap.size, 1, none⟩ = some (Value.int .i64 0) := (blk_cell HZ.out 1).trans rfl
  have fZ1 := blk_frozen HZ.out 1
  have lZ4 := blk_lt HZ.out
  have cG0 : w4.cell? ⟨w1.heap.size, 0, none⟩ = some (.bool neg) := (blk_cell HG.out 0).trans rfl
  have fG0 := blk_frozen HG.out 0
  have lG4 := blk_lt HG.out
  have cQ0 : w4.cell? ⟨w2.heap.size, 0, none⟩ = some (.slice A n.length c) := (blk_cell HQ.out 0).trans rfl
  have fQ0 := blk_frozen HQ.out 0
  have lQ4 := blk_lt HQ.out
  have cE0 : w4.cell? ⟨w2.heap.size + 1, 0, none⟩ = some (.int .i64 0) := (blk_cell HE.out 0).trans rfl
  have fE0 := blk_frozen HE.out 0
  have lE4 := blk_lt HE.out
  clear HN hCC
  obtain ⟨A2, c2, rfl, hc2', hC2⟩ := hv
  have HN := Lib.hid (show Nat32 w4 (.slice A2 n2.length c2) n2 from ⟨A2, c2, rfl, hc2', hC2⟩)
  clear hC2
  have hre : (rest3.toList == []) = false := by simpa using hrest
  have hri : rest3.toList.isEmpty = false := by simpa using hrest
  go_wp2_with fail
  refine (strings_CutPrefix.calls rest3 eS aft false _ hc3).mono ?_
  rintro e w5 ⟨rfl, hd⟩
  have hb := hd.below
  have nZ := Lib.hid (blk_below (blk_alloc ((heap_setCell_other _ _ _ _ (by simp only; omega)).trans ((heap_setCell_other _ _ _ _ (by simp only; omega)).trans (HZ.out))) _) hb)
  have nG := Lib.hid (blk_below (blk_alloc ((heap_setCell_other _ _ _ _ (by simp only; omega)).trans ((heap_setCell_other _ _ _ _ (by simp only; omega)).trans (HG.out))) _) hb)
  have nQ := Lib.hid (blk_below (blk_alloc ((heap_setCell_other _ _ _ _ (by simp only; omega)).trans (heap_setCell_same _ _ 0 _ _ _ (HQ.out))) _) hb)
  have nE := Lib.hid (blk_below (blk_alloc (heap_setCell_same _ _ 0 _ _ _ ((heap_setCell_other _ _ _ _ (by simp only; omega)).trans (HE.out))) _) hb)
  have nX := Lib.hid (blk_below (new_at _ _ (w4.heap.size) (by first | omega | (simp only [World.size_alloc, World.size_setCell]; done) | (simp only [World.size_alloc, World.size_setCell]; omega))) hb)
  have nN := Lib.hid (((nat32_set (nat32_set (HN.out) (HQ.out) (fun _ h => by cases h)) ((heap_setCell_other _ _ _ _ (by simp only; omega)).trans (HE.out)) (fun _ h => by cases h)).below ((Below.refl _ _).alloc (Nat.le_refl _) _)).below hb)
  have nB := Lib.hid (((((HB.out).setCell (p := ⟨w2.heap.size, 0, none⟩) (by simp only; omega) _).setCell (p := ⟨w2.heap.size + 1, 0, none⟩) (by simp only; omega) _).alloc (by first | omega | (simp only [World.size_alloc, World.size_setCell]; done) | (simp only [World.size_alloc, World.size_setCell]; omega)) _).trans (hb.mono (by first | omega | (simp only [World.size_alloc, World.size_setCell]; done) | (simp only [World.size_alloc, World.size_setCell]; omega))))
  have hs5 := hb.size
  try simp only [World.size_alloc, World.size_setCell] at hs5
  clear HB HZ HG HQ HE HN
  try clear cZ0 fZ0 cZ1 fZ1 cG0 fG0 cQ0 fQ0 cE0 fE0
  have HZ := nZ
  have HG := nG
  have HQ := nQ
  have HE := nE
  have HX := nX
  have HN := nN
  have HB := nB
  clear nB nZ nG nQ nE nX nN
  clear hb hd
  have cZ0 : w5.cell? ⟨w.heap.size, 0, none⟩ = some (Value.int .i64 0) := (blk_cell HZ.out 0).trans rfl
  have fZ0 := blk_frozen HZ.out 0
  have cZ1 : w5.cell? ⟨w.heap.size, 1, none⟩ = some (Value.int .i64 0) := (blk_cell HZ.out 1).trans rfl
  have fZ1 := blk_frozen HZ.out 1
  have lZ5 := blk_lt HZ.out
  have cG0 : w5.cell? ⟨w1.heap.size, 0, none⟩ = some (.bool neg) := (blk_cell HG.out 0).trans rfl
  have fG0 := blk_frozen HG.out 0
  have lG5 := blk_lt HG.out
  have cQ0 : w5.cell? ⟨w2.heap.size, 0, none⟩ = some (.slice A2 n2.length c2) := (blk_cell HQ.out 0).trans rfl
  have fQ0 := blk_frozen HQ.out 0
  have lQ5 := blk_lt HQ.out
  have cE0 : w5.cell? ⟨w2.heap.size + 1, 0, none⟩ = some (.int .i64 behind) := (blk_cell HE.out 0).trans rfl
  have fE0 := blk_frozen HE.out 0
  have lE5 := blk_lt HE.out
  have cX0 : w5.cell? ⟨w4.heap.size, 0, none⟩ = some (.int .i64 0) := (blk_cell HX.out 0).trans rfl
  have fX0 := blk_frozen HX.out 0
  have lX5 := blk_lt HX.out
  go_wp2_with fail
  refine (real_exponent.calls aft x ok _ hx).mono ?_
  rintro e w6 ⟨rfl, hb⟩
  have nZ := Lib.hid (blk_below (HZ.out) hb)
  have nG := Lib.hid (blk_below (HG.out) hb)
  have nQ := Lib.hid (blk_below (HQ.out) hb)
  have nE := Lib.hid (blk_below (HE.out) hb)
  have nX := Lib.hid (blk_below (HX.out) hb)
  have nN := Lib.hid ((HN.out).below hb)
  have nB := Lib.hid ((HB.out).trans (hb.mono (by first | omega | (simp only [World.size_alloc, World.size_setCell]; done) | (simp only [World.size_alloc, World.size_setCell]; omega))))
  have hs6 := hb.size
  try simp only [World.size_alloc, World.size_setCell] at hs6
  clear HB HZ HG HQ HE HX HN
  try clear cZ0 fZ0 cZ1 fZ1 cG0 fG0 cQ0 fQ0 cE0 fE0 cX0 fX0
  have HZ := nZ
  have HG := nG
  have HQ := nQ
  have HE := nE
  have HX := nX
  have HN := nN
  have HB := nB
  clear nB nZ nG nQ nE nX nN
  clear hb
  have cZ0 : w6.cell? ⟨w.heap.size, 0, none⟩ = some (Value.int .i64 0) := (blk_cell HZ.out 0).trans rfl
  have fZ0 := blk_frozen HZ.out 0
  have cZ1 : w6.cell? ⟨w.heap.size, 1, none⟩ = some (Value.int .i64 0) := (blk_cell HZ.out 1).trans rfl
  have fZ1 := blk_frozen HZ.out 1
  have lZ6 := blk_lt HZ.out
  have cG0 : w6.cell? ⟨w1.heap.size, 0, none⟩ = some (.bool neg) := (blk_cell HG.out 0).trans rfl
  have fG0 := blk_frozen HG.out 0
  have lG6 := blk_lt HG.out
  have cQ0 : w6.cell? ⟨w2.heap.size, 0, none⟩ = some (.slice A2 n2.length c2) := (blk_cell HQ.out 0).trans rfl
  have fQ0 := blk_frozen HQ.out 0
  have lQ6 := blk_lt HQ.out
  have cE0 : w6.cell? ⟨w2.heap.size + 1, 0, none⟩ = some (.int .i64 behind) := (blk_cell HE.out 0).trans rfl
  have fE0 := blk_frozen HE.out 0
  have lE6 := blk_lt HE.out
  have cX0 : w6.cell? ⟨w4.heap.size, 0, none⟩ = some (.int .i64 0) := (blk_cell HX.out 0).trans rfl
  have fX0 := blk_frozen HX.out 0
  have lX6 := blk_lt HX.out
  go_wp2
  have fz : ((w6.setCell ⟨w.heap.size, 0, none⟩ (.int .i64 0)).setCell ⟨w.heap.size, 1, none⟩ (.int .i64 0)).heap[w.heap.size]? = some (.cells #[Value.int .i64 0, Value.int .i64 0] 23 (0, 0)) := heap_setCell_same _ _ 1 _ _ _ (heap_setCell_same _ _ 0 _ _ _ (HZ.out))
  refine bodyPost_ret (results_ct rfl _ _ (w.heap.size) 23 #[.int .i64 0, .int .i64 0] (0, 0) _ rfl fz Tryz.underlying23 rfl (by kernel_rfl)) rfl ?_
  exact ⟨rfl, ((HB.out).setCell (p := ⟨w.heap.size, 0, none⟩) (by simp only; omega) _).setCell (p := ⟨w.heap.size, 1, none⟩) (by simp only; omega) _⟩
set_option maxRecDepth 100000 in
set_option maxHeartbeats 8000000 in
theorem parse_PC (k : Nat) (s : ByteArray) (w : World) (hsz : ¬ (s.size : Int) > 60) (rest : ByteArray) (neg : Bool) (hc1 : strings_CutPrefix.f s minusS = some (rest, neg)) (n : List Int) (many : Int) (rest2 : ByteArray) (hn1 : real_number.f k rest [] = some (n, many, rest2)) (hmany : ¬ many = 0) (after : ByteArray) (hc2 : strings_CutPrefix.f rest2 dotS = some (after, true)) (n2 : List Int) (behind : Int) (rest3 : ByteArray) (hn2 : real_number.f k after n = some (n2, behind, rest3)) (hbeh : ¬ behind = 0) (hrest : rest3.toList ≠ []) (aft : ByteArray) (x : Int) (hc3 : strings_CutPrefix.f rest3 eS = some (aft, true)) (hx : real_exponent.f aft = some (x, false)) :
    Calls Tryz.prog 25 #[.string s] w fun e w' => e = .returned (.tuple #[.agg #[.int .i64 0, .int .i64 0], .int .i64 7]) ∧ Below w.heap.size w w' := by
  have HB := Lib.hid (Below.refl w.heap.size w)
  go_enter Tryz.func25, Tryz.ntmps25
  go_wp2_with fail
  refine (strings_CutPrefix.calls s minusS rest neg _ hc1).mono ?_
  rintro e w1 ⟨rfl, hd⟩
  have hb := hd.below
  have nZ := Lib.hid (blk_below (new_at _ _ (w.heap.size) (by first | omega | (simp only [World.size_alloc, World.size_setCell]; done) | (simp only [World.size_alloc, World.size_setCell]; omega))) hb)
  have nB := Lib.hid (((HB.out).alloc (by first | omega | (simp only [World.size_alloc, World.size_setCell]; done) | (simp only [World.size_alloc, World.size_setCell]; omega)) _).trans (hb.mono (by first | omega | (simp only [World.size_alloc, World.size_setCell]; done) | (simp only [World.size_alloc, World.size_setCell]; omega))))
  have hs1 := hb.size
  try simp only [World.size_alloc, World.size_setCell] at hs1
  clear HB
  have HZ := nZ
  have HB := nB
  clear nB nZ
  clear hb hd
  have cZ0 : w1.cell? ⟨w.heap.size, 0, none⟩ = some (Value.int .i64 0) := (blk_cell HZ.out 0).trans rfl
  have fZ0 := blk_frozen HZ.out 0
  have cZ1 : w1.cell? ⟨w.heap.size, 1, none⟩ = some (Value.int .i64 0) := (blk_cell HZ.out 1).trans rfl
  have fZ1 := blk_frozen HZ.out 1
  have lZ1 := blk_lt HZ.out
  go_wp2_with fail
  refine (number_c k rest none 0 [] n many rest2 _ (nil_C _) (Nat.zero_le _) hn1).mono ?_
  rintro e w2 ⟨⟨v, hv, rfl⟩, hb⟩
  have nZ := Lib.hid (blk_below (blk_alloc (HZ.out) _) hb)
  have nG := Lib.hid (blk_below (new_at _ _ (w1.heap.size) (by first | omega | (simp only [World.size_alloc, World.size_setCell]; done) | (simp only [World.size_alloc, World.size_setCell]; omega))) hb)
  have nB := Lib.hid (((HB.out).alloc (by first | omega | (simp only [World.size_alloc, World.size_setCell]; done) | (simp only [World.size_alloc, World.size_setCell]; omega)) _).trans (hb.mono (by first | omega | (simp only [World.size_alloc, World.size_setCell]; done) | (simp only [World.size_alloc, World.size_setCell]; omega))))
  have hs2 := hb.size
  try simp only [World.size_alloc, World.size_setCell] at hs2
  clear HB HZ
  try clear cZ0 fZ0 cZ1 fZ1
  have HZ := nZ
  have HG := nG
  have HB := nB
  clear nB nZ nG
  clear hb
  have cZ0 : w2.cell? ⟨w.heap.size, 0, none⟩ = some (Value.int .i64 0) := (blk_cell HZ.out 0).trans rfl
  have fZ0 := blk_frozen HZ.out 0
  have cZ1 : w2.cell? ⟨w.heap.size, 1, none⟩ = some (Value.int .i64 0) := (blk_cell HZ.out 1).trans rfl
  have fZ1 := blk_frozen HZ.out 1
  have lZ2 := blk_lt HZ.out
  have cG0 : w2.cell? ⟨w1.heap.size, 0, none⟩ = some (.bool neg) := (blk_cell HG.out 0).trans rfl
  have fG0 := blk_frozen HG.out 0
  have lG2 := blk_lt HG.out
  obtain ⟨A, c, rfl, hc, hC⟩ := hv
  have HN := Lib.hid (show Nat32 w2 (.slice A n.length c) n from ⟨A, c, rfl, hc, hC⟩)
  clear hC
  go_wp2_with fail
  refine (strings_CutPrefix.calls rest2 dotS after true _ hc2).mono ?_
  rintro e w3 ⟨rfl, hd⟩
  have hb := hd.below
  have nZ := Lib.hid (blk_below (blk_alloc (blk_alloc (HZ.out) _) _) hb)
  have nG := Lib.hid (blk_below (blk_alloc (blk_alloc (HG.out) _) _) hb)
  have nQ := Lib.hid (blk_below (blk_alloc (new_at _ _ (w2.heap.size) (by first | omega | (simp only [World.size_alloc, World.size_setCell]; done) | (simp only [World.size_alloc, World.size_setCell]; omega))) _) hb)
  have nE := Lib.hid (blk_below (new_at _ _ (w2.heap.size + 1) (by first | omega | (simp only [World.size_alloc, World.size_setCell]; done) | (simp only [World.size_alloc, World.size_setCell]; omega))) hb)
  have nN := Lib.hid ((((HN.out).below ((Below.refl _ _).alloc (Nat.le_refl _) _)).below ((Below.refl _ _).alloc (Nat.le_refl _) _)).below hb)
  have nB := Lib.hid ((((HB.out).alloc (by first | omega | (simp only [World.size_alloc, World.size_setCell]; done) | (simp only [World.size_alloc, World.size_setCell]; omega)) _).alloc (by first | omega | (simp only [World.size_alloc, World.size_setCell]; done) | (simp only [World.size_alloc, World.size_setCell]; omega)) _).trans (hb.mono (by first | omega | (simp only [World.size_alloc, World.size_setCell]; done) | (simp only [World.size_alloc, World.size_setCell]; omega))))
  have hs3 := hb.size
  try simp only [World.size_alloc, World.size_setCell] at hs3
  clear HB HZ HG HN
  try clear cZ0 fZ0 cZ1 fZ1 cG0 fG0
  have HZ := nZ
  have HG := nG
  have HQ := nQ
  have HE := nE
  have HN := nN
  have HB := nB
  clear nB nZ nG nQ nE nN
  clear hb hd
  have cZ0 : w3.cell? ⟨w.heap.size, 0, none⟩ = some (Value.int .i64 0) := (blk_cell HZ.out 0).trans rfl
  have fZ0 := blk_frozen HZ.out 0
  have cZ1 : w3.cell? ⟨w.heap.size, 1, none⟩ = some (Value.int .i64 0) := (blk_cell HZ.out 1).trans rfl
  have fZ1 := blk_frozen HZ.out 1
  have lZ3 := blk_lt HZ.out
  have cG0 : w3.cell? ⟨w1.heap.size, 0, none⟩ = some (.bool neg) := (blk_cell HG.out 0).trans rfl
  have fG0 := blk_frozen HG.out 0
  have lG3 := blk_lt HG.out
  have cQ0 : w3.cell? ⟨w2.heap.size, 0, none⟩ = some (.slice A n.length c) := (blk_cell HQ.out 0).trans rfl
  have fQ0 := blk_frozen HQ.out 0
  have lQ3 := blk_lt HQ.out
  have cE0 : w3.cell? ⟨w2.heap.size + 1, 0, none⟩ = some (.int .i64 0) := (blk_cell HE.out 0).trans rfl
  have fE0 := blk_frozen HE.out 0
  have lE3 := blk_lt HE.out
  have HN32 := HN.out
  obtain ⟨A', c', heq, hcc, hCC⟩ := HN32
  cases heq
  go_wp2_with fail
  refine (number_c k after A c n n2 behind rest3 _ hCC hcc hn2).mono ?_
  rintro e w4 ⟨⟨v, hv, rfl⟩, hb⟩
  have nZ := Lib.hid (blk_below (HZ.out) hb)
  have nG := Lib.hid (blk_below (HG.out) hb)
  have nQ := Lib.hid (blk_below (HQ.out) hb)
  have nE := Lib.hid (blk_below (HE.out) hb)
  have nN := Lib.hid ((HN.out).below hb)
  have nB := Lib.hid ((HB.out).trans (hb.mono (by first | omega | (simp only [World.size_alloc, World.size_setCell]; done) | (simp only [World.size_alloc, World.size_setCell]; omega))))
  have hs4 := hb.size
  try simp only [World.size_alloc, World.size_setCell] at hs4
  clear HB HZ HG HQ HE HN
  try clear cZ0 fZ0 cZ1 fZ1 cG0 fG0 cQ0 fQ0 cE0 fE0
  have HZ := nZ
  have HG := nG
  have HQ := nQ
  have HE := nE
  have HN := nN
  have HB := nB
  clear nB nZ nG nQ nE nN
  clear hb
  have cZ0 : w4.cell? ⟨w.heap.size, 0, none⟩ = some (Value.int .i64 0) := (blk_cell HZ.out 0).trans rfl
  have fZ0 := blk_frozen HZ.out 0
  have cZ1 : w4.cell? ⟨w.heap.size, 1, none⟩ = some (Value.int .i64 0) := (blk_cell HZ.out 1).trans rfl
  have fZ1 := blk_frozen HZ.out 1
  have lZ4 := blk_lt HZ.out
  have cG0 : w4.cell? ⟨w1.heap.size, 0, none⟩ = some (.bool neg) := (blk_cell HG.out 0).trans rfl
  have fG0 := blk_frozen HG.out 0
  have lG4 := blk_lt HG.out
  have cQ0 : w4.cell? ⟨w2.heap.size, 0, none⟩ = some (.slice A n.length c) := (blk_cell HQ.out 0).trans rfl
  have fQ0 := blk_frozen HQ.out 0
  have lQ4 := blk_lt HQ.out
  have cE0 : w4.cell? ⟨w2.heap.size + 1, 0, none⟩ = some (.int .i64 0) := (blk_cell HE.out 0).trans rfl
  have fE0 := blk_frozen HE.out 0
  have lE4 := blk_lt HE.out
  clear HN hCC
  obtain ⟨A2, c2, rfl, hc2', hC2⟩ := hv
  have HN := Lib.hid (show Nat32 w4 (.slice A2 n2.length c2) n2 from ⟨A2, c2, rfl, hc2', hC2⟩)
  clear hC2
  have hre : (rest3.toList == []) = false := by simpa using hrest
  have hri : rest3.toList.isEmpty = false := by simpa using hrest
  go_wp2_with fail
  refine (strings_CutPrefix.calls rest3 eS aft true _ hc3).mono ?_
  rintro e w5 ⟨rfl, hd⟩
  have hb := hd.below
  have nZ := Lib.hid (blk_below (blk_alloc ((heap_setCell_other _ _ _ _ (by simp only; omega)).trans ((heap_setCell_other _ _ _ _ (by simp only; omega)).trans (HZ.out))) _) hb)
  have nG := Lib.hid (blk_below (blk_alloc ((heap_setCell_other _ _ _ _ (by simp only; omega)).trans ((heap_setCell_other _ _ _ _ (by simp only; omega)).trans (HG.out))) _) hb)
  have nQ := Lib.hid (blk_below (blk_alloc ((heap_setCell_other _ _ _ _ (by simp only; omega)).trans (heap_setCell_same _ _ 0 _ _ _ (HQ.out))) _) hb)
  have nE := Lib.hid (blk_below (blk_alloc (heap_setCell_same _ _ 0 _ _ _ ((heap_setCell_other _ _ _ _ (by simp only; omega)).trans (HE.out))) _) hb)
  have nX := Lib.hid (blk_below (new_at _ _ (w4.heap.size) (by first | omega | (simp only [World.size_alloc, World.size_setCell]; done) | (simp only [World.size_alloc, World.size_setCell]; omega))) hb)
  have nN := Lib.hid (((nat32_set (nat32_set (HN.out) (HQ.out) (fun _ h => by cases h)) ((heap_setCell_other _ _ _ _ (by simp only; omega)).trans (HE.out)) (fun _ h => by cases h)).below ((Below.refl _ _).alloc (Nat.le_refl _) _)).below hb)
  have nB := Lib.hid (((((HB.out).setCell (p := ⟨w2.heap.size, 0, none⟩) (by simp only; omega) _).setCell (p := ⟨w2.heap.size + 1, 0, none⟩) (by simp only; omega) _).alloc (by first | omega | (simp only [World.size_alloc, World.size_setCell]; done) | (simp only [World.size_alloc, World.size_setCell]; omega)) _).trans (hb.mono (by first | omega | (simp only [World.size_alloc, World.size_setCell]; done) | (simp only [World.size_alloc, World.size_setCell]; omega))))
  have hs5 := hb.size
  try simp only [World.size_alloc, World.size_setCell] at hs5
  clear HB HZ HG HQ HE HN
  try clear cZ0 fZ0 cZ1 fZ1 cG0 fG0 cQ0 fQ0 cE0 fE0
  have HZ := nZ
  have HG := nG
  have HQ := nQ
  have HE := nE
  have HX := nX
  have HN := nN
  have HB := nB
  clear nB nZ nG nQ nE nX nN
  clear hb hd
  have cZ0 : w5.cell? ⟨w.heap.size, 0, none⟩ = some (Value.int .i64 0) := (blk_cell HZ.out 0).trans rfl
  have fZ0 := blk_frozen HZ.out 0
  have cZ1 : w5.cell? ⟨w.heap.size, 1, none⟩ = some (Value.int .i64 0) := (blk_cell HZ.out 1).trans rfl
  have fZ1 := blk_frozen HZ.out 1
  have lZ5 := blk_lt HZ.out
  have cG0 : w5.cell? ⟨w1.heap.size, 0, none⟩ = some (.bool neg) := (blk_cell HG.out 0).trans rfl
  have fG0 := blk_frozen HG.out 0
  have lG5 := blk_lt HG.out
  have cQ0 : w5.cell? ⟨w2.heap.size, 0, none⟩ = some (.slice A2 n2.length c2) := (blk_cell HQ.out 0).trans rfl
  have fQ0 := blk_frozen HQ.out 0
  have lQ5 := blk_lt HQ.out
  have cE0 : w5.cell? ⟨w2.heap.size + 1, 0, none⟩ = some (.int .i64 behind) := (blk_cell HE.out 0).trans rfl
  have fE0 := blk_frozen HE.out 0
  have lE5 := blk_lt HE.out
  have cX0 : w5.cell? ⟨w4.heap.size, 0, none⟩ = some (.int .i64 0) := (blk_cell HX.out 0).trans rfl
  have fX0 := blk_frozen HX.out 0
  have lX5 := blk_lt HX.out
  go_wp2_with fail
  refine (real_exponent.calls aft x false _ hx).mono ?_
  rintro e w6 ⟨rfl, hb⟩
  have nZ := Lib.hid (blk_below (HZ.out) hb)
  have nG := Lib.hid (blk_below (HG.out) hb)
  have nQ := Lib.hid (blk_below (HQ.out) hb)
  have nE := Lib.hid (blk_below (HE.out) hb)
  have nX := Lib.hid (blk_below (HX.out) hb)
  have nN := Lib.hid ((HN.out).below hb)
  have nB := Lib.hid ((HB.out).trans (hb.mono (by first | omega | (simp only [World.size_alloc, World.size_setCell]; done) | (simp only [World.size_alloc, World.size_setCell]; omega))))
  have hs6 := hb.size
  try simp only [World.size_alloc, World.size_setCell] at hs6
  clear HB HZ HG HQ HE HX HN
  try clear cZ0 fZ0 cZ1 fZ1 cG0 fG0 cQ0 fQ0 cE0 fE0 cX0 fX0
  have HZ := nZ
  have HG := nG
  have HQ := nQ
  have HE := nE
  have HX := nX
  have HN := nN
  have HB := nB
  clear nB nZ nG nQ nE nX nN
  clear hb
  have cZ0 : w6.cell? ⟨w.heap.size, 0, none⟩ = some (Value.int .i64 0) := (blk_cell HZ.out 0).trans rfl
  have fZ0 := blk_frozen HZ.out 0
  have cZ1 : w6.cell? ⟨w.heap.size, 1, none⟩ = some (Value.int .i64 0) := (blk_cell HZ.out 1).trans rfl
  have fZ1 := blk_frozen HZ.out 1
  have lZ6 := blk_lt HZ.out
  have cG0 : w6.cell? ⟨w1.heap.size, 0, none⟩ = some (.bool neg) := (blk_cell HG.out 0).trans rfl
  have fG0 := blk_frozen HG.out 0
  have lG6 := blk_lt HG.out
  have cQ0 : w6.cell? ⟨w2.heap.size, 0, none⟩ = some (.slice A2 n2.length c2) := (blk_cell HQ.out 0).trans rfl
  have fQ0 := blk_frozen HQ.out 0
  have lQ6 := blk_lt HQ.out
  have cE0 : w6.cell? ⟨w2.heap.size + 1, 0, none⟩ = some (.int .i64 behind) := (blk_cell HE.out 0).trans rfl
  have fE0 := blk_frozen HE.out 0
  have lE6 := blk_lt HE.out
  have cX0 : w6.cell? ⟨w4.heap.size, 0, none⟩ = some (.int .i64 0) := (blk_cell HX.out 0).trans rfl
  have fX0 := blk_frozen HX.out 0
  have lX6 := blk_lt HX.out
  go_wp2
  have fz : ((w6.setCell ⟨w.heap.size, 0, none⟩ (.int .i64 0)).setCell ⟨w.heap.size, 1, none⟩ (.int .i64 0)).heap[w.heap.size]? = some (.cells #[Value.int .i64 0, Value.int .i64 0] 23 (0, 0)) := heap_setCell_same _ _ 1 _ _ _ (heap_setCell_same _ _ 0 _ _ _ (HZ.out))
  refine bodyPost_ret (results_ct rfl _ _ (w.heap.size) 23 #[.int .i64 0, .int .i64 0] (0, 0) _ rfl fz Tryz.underlying23 rfl (by kernel_rfl)) rfl ?_
  exact ⟨rfl, ((HB.out).setCell (p := ⟨w.heap.size, 0, none⟩) (by simp only; omega) _).setCell (p := ⟨w.heap.size, 1, none⟩) (by simp only; omega) _⟩
set_option maxRecDepth 100000 in
set_option maxHeartbeats 8000000 in
theorem parse_PF (k : Nat) (s : ByteArray) (w : World) (hsz : ¬ (s.size : Int) > 60) (rest : ByteArray) (neg : Bool) (hc1 : strings_CutPrefix.f s minusS = some (rest, neg)) (n : List Int) (many : Int) (rest2 : ByteArray) (hn1 : real_number.f k rest [] = some (n, many, rest2)) (hmany : ¬ many = 0) (after : ByteArray) (hc2 : strings_CutPrefix.f rest2 dotS = some (after, true)) (n2 : List Int) (behind : Int) (rest3 : ByteArray) (hn2 : real_number.f k after n = some (n2, behind, rest3)) (hbeh : ¬ behind = 0) (hrest : rest3.toList ≠ []) (aft : ByteArray) (x : Int) (hc3 : strings_CutPrefix.f rest3 eS = some (aft, true)) (hx : real_exponent.f aft = some (x, true)) (m y r1 r2 t0 t1 t2 : Int) (hd1 : real_decimal.f k n2 (wrap64 (x - behind)) = some (m, y)) (hsg : real_signed.f neg m y = some (r1, r2)) (ht : caughtS r1 r2 = (t0, t1, t2)) :
    Calls Tryz.prog 25 #[.string s] w fun e w' => e = .returned (.tuple #[.agg #[.int .i64 t0, .int .i64 t1], .int .i64 t2]) ∧ Below w.heap.size w w' := by
  have HB := Lib.hid (Below.refl w.heap.size w)
  go_enter Tryz.func25, Tryz.ntmps25
  go_wp2_with fail
  refine (strings_CutPrefix.calls s minusS rest neg _ hc1).mono ?_
  rintro e w1 ⟨rfl, hd⟩
  have hb := hd.below
  have nZ := Lib.hid (blk_below (new_at _ _ (w.heap.size) (by first | omega | (simp only [World.size_alloc, World.size_setCell]; done) | (simp only [World.size_alloc, World.size_setCell]; omega))) hb)
  have nB := Lib.hid (((HB.out).alloc (by first | omega | (simp only [World.size_alloc, World.size_setCell]; done) | (simp only [World.size_alloc, World.size_setCell]; omega)) _).trans (hb.mono (by first | omega | (simp only [World.size_alloc, World.size_setCell]; done) | (simp only [World.size_alloc, World.size_setCell]; omega))))
  have hs1 := hb.size
  try simp only [World.size_alloc, World.size_setCell] at hs1
  clear HB
  have HZ := nZ
  have HB := nB
  clear nB nZ
  clear hb hd
  have cZ0 : w1.cell? ⟨w.heap.size, 0, none⟩ = some (Value.int .i64 0) := (blk_cell HZ.out 0).trans rfl
  have fZ0 := blk_frozen HZ.out 0
  have cZ1 : w1.cell? ⟨w.heap.size, 1, none⟩ = some (Value.int .i64 0) := (blk_cell HZ.out 1).trans rfl
  have fZ1 := blk_frozen HZ.out 1
  have lZ1 := blk_lt HZ.out
  go_wp2_with fail
  refine (number_c k rest none 0 [] n many rest2 _ (nil_C _) (Nat.zero_le _) hn1).mono ?_
  rintro e w2 ⟨⟨v, hv, rfl⟩, hb⟩
  have nZ := Lib.hid (blk_below (blk_alloc (HZ.out) _) hb)
  have nG := Lib.hid (blk_below (new_at _ _ (w1.heap.size) (by first | omega | (simp only [World.size_alloc, World.size_setCell]; done) | (simp only [World.size_alloc, World.size_setCell]; omega))) hb)
  have nB := Lib.hid (((HB.out).alloc (by first | omega | (simp only [World.size_alloc, World.size_setCell]; done) | (simp only [World.size_alloc, World.size_setCell]; omega)) _).trans (hb.mono (by first | omega | (simp only [World.size_alloc, World.size_setCell]; done) | (simp only [World.size_alloc, World.size_setCell]; omega))))
  have hs2 := hb.size
  try simp only [World.size_alloc, World.size_setCell] at hs2
  clear HB HZ
  try clear cZ0 fZ0 cZ1 fZ1
  have HZ := nZ
  have HG := nG
  have HB := nB
  clear nB nZ nG
  clear hb
  have cZ0 : w2.cell? ⟨w.heap.size, 0, none⟩ = some (Value.int .i64 0) := (blk_cell HZ.out 0).trans rfl
  have fZ0 := blk_frozen HZ.out 0
  have cZ1 : w2.cell? ⟨w.heap.size, 1, none⟩ = some (Value.int .i64 0) := (blk_cell HZ.out 1).trans rfl
  have fZ1 := blk_frozen HZ.out 1
  have lZ2 := blk_lt HZ.out
  have cG0 : w2.cell? ⟨w1.heap.size, 0, none⟩ = some (.bool neg) := (blk_cell HG.out 0).trans rfl
  have fG0 := blk_frozen HG.out 0
  have lG2 := blk_lt HG.out
  obtain ⟨A, c, rfl, hc, hC⟩ := hv
  have HN := Lib.hid (show Nat32 w2 (.slice A n.length c) n from ⟨A, c, rfl, hc, hC⟩)
  clear hC
  go_wp2_with fail
  refine (strings_CutPrefix.calls rest2 dotS after true _ hc2).mono ?_
  rintro e w3 ⟨rfl, hd⟩
  have hb := hd.below
  have nZ := Lib.hid (blk_below (blk_alloc (blk_alloc (HZ.out) _) _) hb)
  have nG := Lib.hid (blk_below (blk_alloc (blk_alloc (HG.out) _) _) hb)
  have nQ := Lib.hid (blk_below (blk_alloc (new_at _ _ (w2.heap.size) (by first | omega | (simp only [World.size_alloc, World.size_setCell]; done) | (simp only [World.size_alloc, World.size_setCell]; omega))) _) hb)
  have nE := Lib.hid (blk_below (new_at _ _ (w2.heap.size + 1) (by first | omega | (simp only [World.size_alloc, World.size_setCell]; done) | (simp only [World.size_alloc, World.size_setCell]; omega))) hb)
  have nN := Lib.hid ((((HN.out).below ((Below.refl _ _).alloc (Nat.le_refl _) _)).below ((Below.refl _ _).alloc (Nat.le_refl _) _)).below hb)
  have nB := Lib.hid ((((HB.out).alloc (by first | omega | (simp only [World.size_alloc, World.size_setCell]; done) | (simp only [World.size_alloc, World.size_setCell]; omega)) _).alloc (by first | omega | (simp only [World.size_alloc, World.size_setCell]; done) | (simp only [World.size_alloc, World.size_setCell]; omega)) _).trans (hb.mono (by first | omega | (simp only [World.size_alloc, World.size_setCell]; done) | (simp only [World.size_alloc, World.size_setCell]; omega))))
  have hs3 := hb.size
  try simp only [World.size_alloc, World.size_setCell] at hs3
  clear HB HZ HG HN
  try clear cZ0 fZ0 cZ1 fZ1 cG0 fG0
  have HZ := nZ
  have HG := nG
  have HQ := nQ
  have HE := nE
  have HN := nN
  have HB := nB
  clear nB nZ nG nQ nE nN
  clear hb hd
  have cZ0 : w3.cell? ⟨w.heap.size, 0, none⟩ = some (Value.int .i64 0) := (blk_cell HZ.out 0).trans rfl
  have fZ0 := blk_frozen HZ.out 0
  have cZ1 : w3.cell? ⟨w.heap.size, 1, none⟩ = some (Value.int .i64 0) := (blk_cell HZ.out 1).trans rfl
  have fZ1 := blk_frozen HZ.out 1
  have lZ3 := blk_lt HZ.out
  have cG0 : w3.cell? ⟨w1.heap.size, 0, none⟩ = some (.bool neg) := (blk_cell HG.out 0).trans rfl
  have fG0 := blk_frozen HG.out 0
  have lG3 := blk_lt HG.out
  have cQ0 : w3.cell? ⟨w2.heap.size, 0, none⟩ = some (.slice A n.length c) := (blk_cell HQ.out 0).trans rfl
  have fQ0 := blk_frozen HQ.out 0
  have lQ3 := blk_lt HQ.out
  have cE0 : w3.cell? ⟨w2.heap.size + 1, 0, none⟩ = some (.int .i64 0) := (blk_cell HE.out 0).trans rfl
  have fE0 := blk_frozen HE.out 0
  have lE3 := blk_lt HE.out
  have HN32 := HN.out
  obtain ⟨A', c', heq, hcc, hCC⟩ := HN32
  cases heq
  go_wp2_with fail
  refine (number_c k after A c n n2 behind rest3 _ hCC hcc hn2).mono ?_
  rintro e w4 ⟨⟨v, hv, rfl⟩, hb⟩
  have nZ := Lib.hid (blk_below (HZ.out) hb)
  have nG := Lib.hid (blk_below (HG.out) hb)
  have nQ := Lib.hid (blk_below (HQ.out) hb)
  have nE := Lib.hid (blk_below (HE.out) hb)
  have nN := Lib.hid ((HN.out).below hb)
  have nB := Lib.hid ((HB.out).trans (hb.mono (by first | omega | (simp only [World.size_alloc, World.size_setCell]; done) | (simp only [World.size_alloc, World.size_setCell]; omega))))
  have hs4 := hb.size
  try simp only [World.size_alloc, World.size_setCell] at hs4
  clear HB HZ HG HQ HE HN
  try clear cZ0 fZ0 cZ1 fZ1 cG0 fG0 cQ0 fQ0 cE0 fE0
  have HZ := nZ
  have HG := nG
  have HQ := nQ
  have HE := nE
  have HN := nN
  have HB := nB
  clear nB nZ nG nQ nE nN
  clear hb
  have cZ0 : w4.cell? ⟨w.heap.size, 0, none⟩ = some (Value.int .i64 0) := (blk_cell HZ.out 0).trans rfl
  have fZ0 := blk_frozen HZ.out 0
  have cZ1 : w4.cell? ⟨w.heap.size, 1, none⟩ = some (Value.int .i64 0) := (blk_cell HZ.out 1).trans rfl
  have fZ1 := blk_frozen HZ.out 1
  have lZ4 := blk_lt HZ.out
  have cG0 : w4.cell? ⟨w1.heap.size, 0, none⟩ = some (.bool neg) := (blk_cell HG.out 0).trans rfl
  have fG0 := blk_frozen HG.out 0
  have lG4 := blk_lt HG.out
  have cQ0 : w4.cell? ⟨w2.heap.size, 0, none⟩ = some (.slice A n.length c) := (blk_cell HQ.out 0).trans rfl
  have fQ0 := blk_frozen HQ.out 0
  have lQ4 := blk_lt HQ.out
  have cE0 : w4.cell? ⟨w2.heap.size + 1, 0, none⟩ = some (.int .i64 0) := (blk_cell HE.out 0).trans rfl
  have fE0 := blk_frozen HE.out 0
  have lE4 := blk_lt HE.out
  clear HN hCC
  obtain ⟨A2, c2, rfl, hc2', hC2⟩ := hv
  have HN := Lib.hid (show Nat32 w4 (.slice A2 n2.length c2) n2 from ⟨A2, c2, rfl, hc2', hC2⟩)
  clear hC2
  have hre : (rest3.toList == []) = false := by simpa using hrest
  have hri : rest3.toList.isEmpty = false := by simpa using hrest
  go_wp2_with fail
  refine (strings_CutPrefix.calls rest3 eS aft true _ hc3).mono ?_
  rintro e w5 ⟨rfl, hd⟩
  have hb := hd.below
  have nZ := Lib.hid (blk_below (blk_alloc ((heap_setCell_other _ _ _ _ (by simp only; omega)).trans ((heap_setCell_other _ _ _ _ (by simp only; omega)).trans (HZ.out))) _) hb)
  have nG := Lib.hid (blk_below (blk_alloc ((heap_setCell_other _ _ _ _ (by simp only; omega)).trans ((heap_setCell_other _ _ _ _ (by simp only; omega)).trans (HG.out))) _) hb)
  have nQ := Lib.hid (blk_below (blk_alloc ((heap_setCell_other _ _ _ _ (by simp only; omega)).trans (heap_setCell_same _ _ 0 _ _ _ (HQ.out))) _) hb)
  have nE := Lib.hid (blk_below (blk_alloc (heap_setCell_same _ _ 0 _ _ _ ((heap_setCell_other _ _ _ _ (by simp only; omega)).trans (HE.out))) _) hb)
  have nX := Lib.hid (blk_below (new_at _ _ (w4.heap.size) (by first | omega | (simp only [World.size_alloc, World.size_setCell]; done) | (simp only [World.size_alloc, World.size_setCell]; omega))) hb)
  have nN := Lib.hid (((nat32_set (nat32_set (HN.out) (HQ.out) (fun _ h => by cases h)) ((heap_setCell_other _ _ _ _ (by simp only; omega)).trans (HE.out)) (fun _ h => by cases h)).below ((Below.refl _ _).alloc (Nat.le_refl _) _)).below hb)
  have nB := Lib.hid (((((HB.out).setCell (p := ⟨w2.heap.size, 0, none⟩) (by simp only; omega) _).setCell (p := ⟨w2.heap.size + 1, 0, none⟩) (by simp only; omega) _).alloc (by first | omega | (simp only [World.size_alloc, World.size_setCell]; done) | (simp only [World.size_alloc, World.size_setCell]; omega)) _).trans (hb.mono (by first | omega | (simp only [World.size_alloc, World.size_setCell]; done) | (simp only [World.size_alloc, World.size_setCell]; omega))))
  have hs5 := hb.size
  try simp only [World.size_alloc, World.size_setCell] at hs5
  clear HB HZ HG HQ HE HN
  try clear cZ0 fZ0 cZ1 fZ1 cG0 fG0 cQ0 fQ0 cE0 fE0
  have HZ := nZ
  have HG := nG
  have HQ := nQ
  have HE := nE
  have HX := nX
  have HN := nN
  have HB := nB
  clear nB nZ nG nQ nE nX nN
  clear hb hd
  have cZ0 : w5.cell? ⟨w.heap.size, 0, none⟩ = some (Value.int .i64 0) := (blk_cell HZ.out 0).trans rfl
  have fZ0 := blk_frozen HZ.out 0
  have cZ1 : w5.cell? ⟨w.heap.size, 1, none⟩ = some (Value.int .i64 0) := (blk_cell HZ.out 1).trans rfl
  have fZ1 := blk_frozen HZ.out 1
  have lZ5 := blk_lt HZ.out
  have cG0 : w5.cell? ⟨w1.heap.size, 0, none⟩ = some (.bool neg) := (blk_cell HG.out 0).trans rfl
  have fG0 := blk_frozen HG.out 0
  have lG5 := blk_lt HG.out
  have cQ0 : w5.cell? ⟨w2.heap.size, 0, none⟩ = some (.slice A2 n2.length c2) := (blk_cell HQ.out 0).trans rfl
  have fQ0 := blk_frozen HQ.out 0
  have lQ5 := blk_lt HQ.out
  have cE0 : w5.cell? ⟨w2.heap.size + 1, 0, none⟩ = some (.int .i64 behind) := (blk_cell HE.out 0).trans rfl
  have fE0 := blk_frozen HE.out 0
  have lE5 := blk_lt HE.out
  have cX0 : w5.cell? ⟨w4.heap.size, 0, none⟩ = some (.int .i64 0) := (blk_cell HX.out 0).trans rfl
  have fX0 := blk_frozen HX.out 0
  have lX5 := blk_lt HX.out
  go_wp2_with fail
  refine (real_exponent.calls aft x true _ hx).mono ?_
  rintro e w6 ⟨rfl, hb⟩
  have nZ := Lib.hid (blk_below (HZ.out) hb)
  have nG := Lib.hid (blk_below (HG.out) hb)
  have nQ := Lib.hid (blk_below (HQ.out) hb)
  have nE := Lib.hid (blk_below (HE.out) hb)
  have nX := Lib.hid (blk_below (HX.out) hb)
  have nN := Lib.hid ((HN.out).below hb)
  have nB := Lib.hid ((HB.out).trans (hb.mono (by first | omega | (simp only [World.size_alloc, World.size_setCell]; done) | (simp only [World.size_alloc, World.size_setCell]; omega))))
  have hs6 := hb.size
  try simp only [World.size_alloc, World.size_setCell] at hs6
  clear HB HZ HG HQ HE HX HN
  try clear cZ0 fZ0 cZ1 fZ1 cG0 fG0 cQ0 fQ0 cE0 fE0 cX0 fX0
  have HZ := nZ
  have HG := nG
  have HQ := nQ
  have HE := nE
  have HX := nX
  have HN := nN
  have HB := nB
  clear nB nZ nG nQ nE nX nN
  clear hb
  have cZ0 : w6.cell? ⟨w.heap.size, 0, none⟩ = some (Value.int .i64 0) := (blk_cell HZ.out 0).trans rfl
  have fZ0 := blk_frozen HZ.out 0
  have cZ1 : w6.cell? ⟨w.heap.size, 1, none⟩ = some (Value.int .i64 0) := (blk_cell HZ.out 1).trans rfl
  have fZ1 := blk_frozen HZ.out 1
  have lZ6 := blk_lt HZ.out
  have cG0 : w6.cell? ⟨w1.heap.size, 0, none⟩ = some (.bool neg) := (blk_cell HG.out 0).trans rfl
  have fG0 := blk_frozen HG.out 0
  have lG6 := blk_lt HG.out
  have cQ0 : w6.cell? ⟨w2.heap.size, 0, none⟩ = some (.slice A2 n2.length c2) := (blk_cell HQ.out 0).trans rfl
  have fQ0 := blk_frozen HQ.out 0
  have lQ6 := blk_lt HQ.out
  have cE0 : w6.cell? ⟨w2.heap.size + 1, 0, none⟩ = some (.int .i64 behind) := (blk_cell HE.out 0).trans rfl
  have fE0 := blk_frozen HE.out 0
  have lE6 := blk_lt HE.out
  have cX0 : w6.cell? ⟨w4.heap.size, 0, none⟩ = some (.int .i64 0) := (blk_cell HX.out 0).trans rfl
  have fX0 := blk_frozen HX.out 0
  have lX6 := blk_lt HX.out
  have hmf : ∀ (fn : Fn) (first cap : Array Value) (w : World), (Instr.makeFunc fn first cap).run Tryz.prog w = .ok (.func fn first cap) w := fun _ _ _ _ => rfl
  have HD1 := Lib.hid hd1
  have HS1 := Lib.hid hsg
  have HT1 := Lib.hid ht
  clear hd1 hsg ht
  skip
  go_wp2_with fail
  refine (caught_t 79 _ r1 r2 t0 t1 t2 HT1.out _ (fun args w => enters_ Tryz.func79 (by kernel_rfl) rfl args w) (fun w' h' => parse1_n k neg n2 A2 c2 x behind m y r1 r2 HD1.out HS1.out _ _ _ _ w' (blk_below ((heap_setCell_other _ _ _ _ (by simp only; omega)).trans (HG.out)) h') (blk_below ((heap_setCell_other _ _ _ _ (by simp only; omega)).trans (HQ.out)) h') (blk_below (heap_setCell_same _ _ 0 _ _ _ (HX.out)) h') (blk_below ((heap_setCell_other _ _ _ _ (by simp only; omega)).trans (HE.out)) h') ((nat32_set (HN.out) (HX.out) (fun _ h => by cases h)).below h'))).mono ?_
  rintro e w7 ⟨rfl, hb⟩
  have nZ := Lib.hid (blk_below ((heap_setCell_other _ _ _ _ (by simp only; omega)).trans (HZ.out)) hb)
  have nG := Lib.hid (blk_below ((heap_setCell_other _ _ _ _ (by simp only; omega)).trans (HG.out)) hb)
  have nQ := Lib.hid (blk_below ((heap_setCell_other _ _ _ _ (by simp only; omega)).trans (HQ.out)) hb)
  have nE := Lib.hid (blk_below ((heap_setCell_other _ _ _ _ (by simp only; omega)).trans (HE.out)) hb)
  have nX := Lib.hid (blk_below (heap_setCell_same _ _ 0 _ _ _ (HX.out)) hb)
  have nN := Lib.hid ((nat32_set (HN.out) (HX.out) (fun _ h => by cases h)).below hb)
  have nB := Lib.hid (((HB.out).setCell (p := ⟨w4.heap.size, 0, none⟩) (by simp only; omega) _).trans (hb.mono (by first | omega | (simp only [World.size_alloc, World.size_setCell]; done) | (simp only [World.size_alloc, World.size_setCell]; omega))))
  have hs7 := hb.size
  try simp only [World.size_alloc, World.size_setCell] at hs7
  clear HB HZ HG HQ HE HX HN
  try clear cZ0 fZ0 cZ1 fZ1 cG0 fG0 cQ0 fQ0 cE0 fE0 cX0 fX0
  have HZ := nZ
  have HG := nG
  have HQ := nQ
  have HE := nE
  have HX := nX
  have HN := nN
  have HB := nB
  clear nB nZ nG nQ nE nX nN
  clear hb
  have cZ0 : w7.cell? ⟨w.heap.size, 0, none⟩ = some (Value.int .i64 0) := (blk_cell HZ.out 0).trans rfl
  have fZ0 := blk_frozen HZ.out 0
  have cZ1 : w7.cell? ⟨w.heap.size, 1, none⟩ = some (Value.int .i64 0) := (blk_cell HZ.out 1).trans rfl
  have fZ1 := blk_frozen HZ.out 1
  have lZ7 := blk_lt HZ.out
  have cG0 : w7.cell? ⟨w1.heap.size, 0, none⟩ = some (.bool neg) := (blk_cell HG.out 0).trans rfl
  have fG0 := blk_frozen HG.out 0
  have lG7 := blk_lt HG.out
  have cQ0 : w7.cell? ⟨w2.heap.size, 0, none⟩ = some (.slice A2 n2.length c2) := (blk_cell HQ.out 0).trans rfl
  have fQ0 := blk_frozen HQ.out 0
  have lQ7 := blk_lt HQ.out
  have cE0 : w7.cell? ⟨w2.heap.size + 1, 0, none⟩ = some (.int .i64 behind) := (blk_cell HE.out 0).trans rfl
  have fE0 := blk_frozen HE.out 0
  have lE7 := blk_lt HE.out
  have cX0 : w7.cell? ⟨w4.heap.size, 0, none⟩ = some (.int .i64 x) := (blk_cell HX.out 0).trans rfl
  have fX0 := blk_frozen HX.out 0
  have lX7 := blk_lt HX.out
  go_wp2
  have fz : ((w7.setCell ⟨w.heap.size, 0, none⟩ (.int .i64 t0)).setCell ⟨w.heap.size, 1, none⟩ (.int .i64 t1)).heap[w.heap.size]? = some (.cells #[Value.int .i64 t0, Value.int .i64 t1] 23 (0, 0)) := heap_setCell_same _ _ 1 _ _ _ (heap_setCell_same _ _ 0 _ _ _ (HZ.out))
  refine bodyPost_ret (results_ct rfl _ _ (w.heap.size) 23 #[.int .i64 t0, .int .i64 t1] (0, 0) _ rfl fz Tryz.underlying23 rfl (by kernel_rfl)) rfl ?_
  exact ⟨rfl, ((HB.out).setCell (p := ⟨w.heap.size, 0, none⟩) (by simp only; omega) _).setCell (p := ⟨w.heap.size, 1, none⟩) (by simp only; omega) _⟩
end Go.Proofs.YteigbokklclmbaaGreatDoor.Z
end
section
namespace Go.Proofs.YteigbokklclmbaaGreatDoor.Z
open Go Go.RowKit Go.Proofs.YteigbokklclmbaaGreatDoor.Given Go.Proofs.YteigbokklclmbaaGreatDoorW.PrintWords Go.Proofs.YteigbokklclmbaaGreatDoorW.PrintLast Go.Proofs.YteigbokklclmbaaGreatDoorW.PrintMore
set_option linter.unusedVariables false
set_option linter.unusedSimpArgs false
def parseFin (k : Nat) (neg : Bool) (n : List Int) (exp behind : Int) : Option (Int × Int × Int) :=
  (real_decimal.f k n (wrap64 (exp - behind))).bind fun d => (real_signed.f neg d.1 d.2).bind fun r => some (caughtS r.1 r.2)
def parseExp (k : Nat) (neg : Bool) (n : List Int) (behind : Int) (rest : ByteArray) : Option (Int × Int × Int) :=
  if rest.toList = [] then parseFin k neg n 0 behind else (strings_CutPrefix.f rest eS).bind fun a => (real_exponent.f a.1).bind fun x => if a.2 = true then (if x.2 = true then parseFin k neg n x.1 behind else some (0, 0, 7)) else some (0, 0, 7)
def real_Parse.f (k : Nat) (s : ByteArray) : Option (Int × Int × Int) :=
  if (s.size : Int) > 60 then some (0, 0, 7) else (strings_CutPrefix.f s minusS).bind fun a => (real_number.f k a.1 []).bind fun n => if n.2.1 = 0 then some (0, 0, 7) else
    (strings_CutPrefix.f n.2.2 dotS).bind fun b => if b.2 = true then ((real_number.f k b.1 n.1).bind fun m => if m.2.1 = 0 then some (0, 0, 7) else parseExp k a.2 m.1 m.2.1 m.2.2) else parseExp k a.2 n.1 0 n.2.2
theorem real_Parse.calls (k : Nat) (s : ByteArray) (r1 r2 r3 : Int) (w : World) (h : real_Parse.f k s = some (r1, r2, r3)) :
    Calls Tryz.prog 25 #[.string s] w fun e w' => e = .returned (.tuple #[.agg #[.int .i64 r1, .int .i64 r2], .int .i64 r3]) ∧ Below w.heap.size w w' := by
  unfold real_Parse.f at h
  by_cases hsz : (s.size : Int) > 60
  · rw [if_pos hsz] at h; cases h
    exact parse_E1 k s w hsz
  rw [if_neg hsz] at h
  obtain ⟨⟨rest, neg⟩, hc1, h⟩ := Option.bind_eq_some_iff.mp h
  obtain ⟨⟨n, many, rest2⟩, hn1, h⟩ := Option.bind_eq_some_iff.mp h
  simp only at hn1 h
  by_cases hm : many = 0
  · subst hm
    rw [if_pos rfl] at h; cases h
    exact parse_E2 k s w hsz rest neg hc1 n rest2 hn1
  rw [if_neg hm] at h
  obtain ⟨⟨after, point⟩, hc2, h⟩ := Option.bind_eq_some_iff.mp h
  simp only at hc2 h
  cases point with
  | true =>
    rw [if_pos rfl] at h
    obtain ⟨⟨n2, behind, rest3⟩, hn2, h⟩ := Option.bind_eq_some_iff.mp h
    simp only at hn2 h
    by_cases hb : behind = 0
    · subst hb
      rw [if_pos rfl] at h; cases h
      exact parse_PE3 k s w hsz rest neg hc1 n many rest2 hn1 hm after hc2 n2 rest3 hn2
    rw [if_neg hb] at h
    unfold parseExp at h
    by_cases hr : rest3.toList = []
    · rw [if_pos hr] at h
      obtain ⟨⟨m, y⟩, hd, h⟩ := Option.bind_eq_some_iff.mp h
      obtain ⟨⟨a, b⟩, hg, h⟩ := Option.bind_eq_some_iff.mp h
      exact parse_PZ k s w hsz rest neg hc1 n many rest2 hn1 hm after hc2 n2 behind rest3 hn2 hb hr m y a b r1 r2 r3 hd hg (Option.some.inj h)
    rw [if_neg hr] at h
    obtain ⟨⟨aft, is⟩, hc3, h⟩ := Option.bind_eq_some_iff.mp h
    obtain ⟨⟨x, ok⟩, hx, h⟩ := Option.bind_eq_some_iff.mp h
    simp only at hx h
    cases is with
    | false =>
      rw [if_neg (by decide)] at h; cases h
      exact parse_PB k s w hsz rest neg hc1 n many rest2 hn1 hm after hc2 n2 behind rest3 hn2 hb hr aft x ok hc3 hx
    | true =>
      rw [if_pos rfl] at h
      cases ok with
      | false =>
        rw [if_neg (by decide)] at h; cases h
        exact parse_PC k s w hsz rest neg hc1 n many rest2 hn1 hm after hc2 n2 behind rest3 hn2 hb hr aft x hc3 hx
      | true =>
        rw [if_pos rfl] at h
        obtain ⟨⟨m, y⟩, hd, h⟩ := Option.bind_eq_some_iff.mp h
        obtain ⟨⟨a, b⟩, hg, h⟩ := Option.bind_eq_some_iff.mp h
        exact parse_PF k s w hsz rest neg hc1 n many rest2 hn1 hm after hc2 n2 behind rest3 hn2 hb hr aft x hc3 hx m y a b r1 r2 r3 hd hg (Option.some.inj h)
  | false =>
    rw [if_neg (by decide)] at h
    unfold parseExp at h
    by_cases hr : rest2.toList = []
    · rw [if_pos hr] at h
      obtain ⟨⟨m, y⟩, hd, h⟩ := Option.bind_eq_some_iff.mp h
      obtain ⟨⟨a, b⟩, hg, h⟩ := Option.bind_eq_some_iff.mp h
      exact parse_Z k s w hsz rest neg hc1 n many rest2 hn1 hm after hc2 hr m y a b r1 r2 r3 hd hg (Option.some.inj h)
    rw [if_neg hr] at h
    obtain ⟨⟨aft, is⟩, hc3, h⟩ := Option.bind_eq_some_iff.mp h
    obtain ⟨⟨x, ok⟩, hx, h⟩ := Option.bind_eq_some_iff.mp h
    simp only at hx h
    cases is with
    | false =>
      rw [if_neg (by decide)] at h; cases h
      exact parse_B k s w hsz rest neg hc1 n many rest2 hn1 hm after hc2 hr aft x ok hc3 hx
    | true =>
      rw [if_pos rfl] at h
      cases ok with
      | false =>
        rw [if_neg (by decide)] at h; cases h
        exact parse_C k s w hsz rest neg hc1 n many rest2 hn1 hm after hc2 hr aft x hc3 hx
      | true =>
        rw [if_pos rfl] at h
        obtain ⟨⟨m, y⟩, hd, h⟩ := Option.bind_eq_some_iff.mp h
        obtain ⟨⟨a, b⟩, hg, h⟩ := Option.bind_eq_some_iff.mp h
        exact parse_F k s w hsz rest neg hc1 n many rest2 hn1 hm after hc2 hr aft x hc3 hx m y a b r1 r2 r3 hd hg (Option.some.inj h)
end Go.Proofs.YteigbokklclmbaaGreatDoor.Z
end
section
namespace Go.Proofs.YteigbokklclmbaaGreatDoor.Z
open Go Go.RowKit Go.Proofs.YteigbokklclmbaaGreatDoor.Given Go.Proofs.YteigbokklclmbaaGreatDoorW.PrintWords Go.Proofs.YteigbokklclmbaaGreatDoorW.PrintLast Go.Proofs.YteigbokklclmbaaGreatDoorW.PrintMore
set_option linter.unusedVariables false
set_option linter.unusedSimpArgs false
set_option maxRecDepth 100000
set_option maxHeartbeats 8000000
def real_FromIntN.f (k : Nat) (a0 : Int) : Option (Int × Int) := (real_FromInt.f k a0).bind fun r => if r.2 = 1000 then none else some r
theorem real_FromIntN.calls (k : Nat) (a0 : Int) (r1 r2 : Int) (w : World) (h : real_FromIntN.f k a0 = some (r1, r2)) :
    Calls Tryz.prog 31 #[.int .i64 a0] w fun e w' => e = .returned (.agg #[.int .i64 r1, .int .i64 r2]) ∧ Below w.heap.size w w' := by
  obtain ⟨⟨m, x⟩, h1, h2⟩ := Option.bind_eq_some_iff.mp h
  by_cases hx : x = 1000
  · rw [if_pos hx] at h2; cases h2
  · rw [if_neg hx] at h2
    cases h2
    refine (real_FromInt.calls k a0 r1 r2 w h1).mono ?_
    rintro e w' ⟨rfl, hb⟩
    exact ⟨ending_at hx, hb⟩
/-- Pow of 0 with an exponent below 0; whatever else it does is not told here. -/
def real_PowZ.f (a0_0 a0_1 a1 : Int) : Option (Int × Int × Int) := if a0_0 = 0 ∧ a0_1 = 0 ∧ a1 < 0 then some (0, 0, 5) else none
theorem real_PowZ.calls (a0_0 a0_1 a1 r1 r2 r3 : Int) (w : World) (h : real_PowZ.f a0_0 a0_1 a1 = some (r1, r2, r3)) :
    Calls Tryz.prog 17 #[.agg #[.int .i64 a0_0, .int .i64 a0_1], .int .i64 a1] w fun e w' => e = .returned (.tuple #[.agg #[.int .i64 r1, .int .i64 r2], .int .i64 r3]) ∧ Below w.heap.size w w' := by
  unfold real_PowZ.f at h
  by_cases hc : a0_0 = 0 ∧ a0_1 = 0 ∧ a1 < 0
  · rw [if_pos hc] at h
    cases h
    obtain ⟨rfl, rfl, hn⟩ := hc
    go_enter Tryz.func17, Tryz.ntmps17
    go_wp2_with fail
    refine (real_Valid.calls 0 0 true _ (by rfl)).mono ?_
    rintro e w1 ⟨rfl, hb⟩
    have hz : w1.heap[w.heap.size + 1 + 1]? = some (.cells #[.int .i64 0, .int .i64 0] 23 (0, 0)) := blk_below (new_at _ _ _ (by simp only [World.size_alloc])) hb
    have kx : w1.heap[w.heap.size]? = some (.cells #[.int .i64 0, .int .i64 0] 23 (0, 0)) := blk_below (blk_alloc (blk_alloc (new_at _ _ _ rfl) _) _) hb
    have kn : w1.heap[w.heap.size + 1]? = some (.cells #[.int .i64 a1] 3 (0, 0)) := blk_below (blk_alloc (new_at _ _ _ (by simp only [World.size_alloc])) _) hb
    have hB : Below w.heap.size w w1 := ((((Below.refl _ w).alloc (Nat.le_refl _) _).alloc (by simp only [World.size_alloc]; omega) _).alloc (by simp only [World.size_alloc]; omega) _).trans (hb.mono (by simp only [World.size_alloc]; omega))
    have x0 : w1.cell? ⟨w.heap.size, 0, none⟩ = some (.int .i64 0) := (blk_cell kx 0).trans rfl
    have n0 : w1.cell? ⟨w.heap.size + 1, 0, none⟩ = some (.int .i64 a1) := (blk_cell kn 0).trans rfl
    have z0 : w1.cell? ⟨w.heap.size + 1 + 1, 0, none⟩ = some (.int .i64 0) := (blk_cell hz 0).trans rfl
    have z1 : w1.cell? ⟨w.heap.size + 1 + 1, 1, none⟩ = some (.int .i64 0) := (blk_cell hz 1).trans rfl
    have f0 := blk_frozen hz 0
    have f1 := blk_frozen hz 1
    have lz := blk_lt hz
    have lx := blk_lt kx
    have ln := blk_lt kn
    clear hb
    go_wp2
    have fz := heap_setCell_same (w1.setCell ⟨w.heap.size + 1 + 1, 0, none⟩ (.int .i64 0)) (w.heap.size + 1 + 1) 1 _ _ (.int .i64 0) (heap_setCell_same w1 (w.heap.size + 1 + 1) 0 _ _ (.int .i64 0) hz)
    refine bodyPost_ret (results_ct rfl _ _ (w.heap.size + 1 + 1) 23 #[.int .i64 0, .int .i64 0] (0, 0) _ rfl fz Tryz.underlying23 rfl (by kernel_rfl)) rfl ?_
    exact ⟨rfl, (hB.setCell (by simp only; omega) _).setCell (by simp only; omega) _⟩
  · rw [if_neg hc] at h; cases h
end Go.Proofs.YteigbokklclmbaaGreatDoor.Z
end
section
namespace Go.Proofs.YteigbokklclmbaaGreatDoor.Z.Y
open Go.RowKit Go.Proofs.YteigbokklclmbaaGreatDoor.Given Go.Proofs.YteigbokklclmbaaGreatDoorW.PrintWords Go.Proofs.YteigbokklclmbaaGreatDoorW.PrintLast Go.Proofs.YteigbokklclmbaaGreatDoorW.PrintMore
attribute [local go_sem] max2_int min2_int max_two min_two max_three min_three max_four min_four   -- for this text's walks alone
set_option linter.unusedVariables false
set_option linter.unusedSimpArgs false



def errW : Option Int → Value
 | none => .nilIface
 | some c => .iface 0 (.int .i64 c)
theorem errW_none : errW none = .nilIface := rfl
theorem errW_some (c : Int) : errW (some c) = .iface 0 (.int .i64 c) := rfl

-- the values' own types

end Go.Proofs.YteigbokklclmbaaGreatDoor.Z.Y
end
section
namespace Go.Proofs.YteigbokklclmbaaGreatDoor.Z.Y
open Go.RowKit Go.Proofs.YteigbokklclmbaaGreatDoor.Given Go.Proofs.YteigbokklclmbaaGreatDoorW.PrintWords Go.Proofs.YteigbokklclmbaaGreatDoorW.PrintLast Go.Proofs.YteigbokklclmbaaGreatDoorW.PrintMore
attribute [local go_sem] max2_int min2_int max_two min_two max_three min_three max_four min_four   -- for this text's walks alone
set_option linter.unusedVariables false
set_option linter.unusedSimpArgs false

mutual
def manorboyref02_Valid.j0 : Nat → Int → Int → Int → Option (Bool)
 | 0, _, _, _ => none
 | k + 1, x3, x102000, x102001 => if x3 = 0 then (if x102000 = 0 then (some (x102001 == 0)) else (some false)) else (if x3 < 0 then (manorboyref02_Valid.j1 k x3 true x102000 x102001) else (if x3 ≥ 16777216 then (manorboyref02_Valid.j1 k x3 true x102000 x102001) else (if x102001 < (-150) then (manorboyref02_Valid.j1 k x3 true x102000 x102001) else (manorboyref02_Valid.j1 k x3 (decide (x102001 > 150)) x102000 x102001))))
def manorboyref02_Valid.j1 : Nat → Int → Bool → Int → Int → Option (Bool)
 | 0, _, _, _, _ => none
 | k + 1, x3, x35, x102000, x102001 => if x35 = true then (some false) else (if x3 ≥ 8388608 then (some true) else (some (x102001 == (-150))))
end
def manorboyref02_Valid.f (k : Nat) (a0_0 : Int) (a0_1 : Int) : Option (Bool) := if a0_0 < 0 then (manorboyref02_Valid.j0 k (wrap64 (-a0_0)) a0_0 a0_1) else (manorboyref02_Valid.j0 k a0_0 a0_0 a0_1)
theorem manorboyref02_Valid.mono_l : ∀ k, (∀ y0 y1 y2, LeO (manorboyref02_Valid.j0 k y0 y1 y2) (manorboyref02_Valid.j0 (k + 1) y0 y1 y2)) ∧ (∀ y0 y1 y2 y3, LeO (manorboyref02_Valid.j1 k y0 y1 y2 y3) (manorboyref02_Valid.j1 (k + 1) y0 y1 y2 y3))
 | 0 => ⟨fun _ _ _ r h => by simp [manorboyref02_Valid.j0] at h, fun _ _ _ _ r h => by simp [manorboyref02_Valid.j1] at h⟩
 | k + 1 => by
  obtain ⟨ih0, ih1⟩ := manorboyref02_Valid.mono_l k
  refine ⟨?_, ?_⟩
  ·intro y0 y1 y2
   unfold manorboyref02_Valid.j0
   repeat' first
   | (with_reducible exact ih0 _ _ _)
   | (with_reducible exact ih1 _ _ _ _)
   | (with_reducible exact LeO.refl _)
   | (with_reducible exact LeO.none _)
   | (with_reducible refine LeO.ite ?_ ?_)
   | (with_reducible refine LeO.bind ?_ (fun _ => ?_))
   | exact ih0 _ _ _
   | exact ih1 _ _ _ _
   | exact LeO.none _
   | refine LeO.ite ?_ ?_
   | refine LeO.bind ?_ (fun _ => ?_)
  ·intro y0 y1 y2 y3
   unfold manorboyref02_Valid.j1
   repeat' first
   | (with_reducible exact ih0 _ _ _)
   | (with_reducible exact ih1 _ _ _ _)
   | (with_reducible exact LeO.refl _)
   | (with_reducible exact LeO.none _)
   | (with_reducible refine LeO.ite ?_ ?_)
   | (with_reducible refine LeO.bind ?_ (fun _ => ?_))
   | exact ih0 _ _ _
   | exact ih1 _ _ _ _
   | exact LeO.none _
   | refine LeO.ite ?_ ?_
   | refine LeO.bind ?_ (fun _ => ?_)
theorem manorboyref02_Valid.mono : ∀ a0 a1 k, LeO (manorboyref02_Valid.f k a0 a1) (manorboyref02_Valid.f (k + 1) a0 a1) := by
 intro a0 a1 k
 obtain ⟨ih0, ih1⟩ := manorboyref02_Valid.mono_l k
 unfold manorboyref02_Valid.f
 repeat' first
   | (with_reducible exact ih0 _ _ _)
   | (with_reducible exact ih1 _ _ _ _)
   | (with_reducible exact LeO.refl _)
   | (with_reducible exact LeO.none _)
   | (with_reducible refine LeO.ite ?_ ?_)
   | (with_reducible refine LeO.bind ?_ (fun _ => ?_))
   | exact ih0 _ _ _
   | exact ih1 _ _ _ _
   | exact LeO.none _
   | refine LeO.ite ?_ ?_
   | refine LeO.bind ?_ (fun _ => ?_)
set_option maxHeartbeats 8000000 in
set_option maxRecDepth 100000 in
theorem manorboyref02_Valid.calls (k : Nat) (a0_0 : Int) (a0_1 : Int) (r : Bool) (w : World) (h : manorboyref02_Valid.f k a0_0 a0_1 = some r) :
  Calls Tryz.prog 18 #[.agg #[.int .i64 a0_0, .int .i64 a0_1]] w fun e w' => e = .returned (.bool r) ∧ Below w.heap.size w w' := by
 have hu23 := Tryz.underlying23
 have HB := Aside0.mk (Below.refl w.heap.size w)
 have H : (if a0_0 < 0 then (manorboyref02_Valid.j0 k (wrap64 (-a0_0)) a0_0 a0_1) else (manorboyref02_Valid.j0 k a0_0 a0_0 a0_1)) = some r := h
 clear h
 have HC2 := Aside0.mk H
 clear H
 go_enter Tryz.func18, Tryz.ntmps18
 go_upto_if 7 with (first | ((with_reducible refine gate_dst (N := 1) rfl ?_); refine box_event ?hg (N := 1) ?hd (cs := #[.int .i64 a0_0, .int .i64 a0_1]) (t := 23) ?hr ?_; (case hd => rfl); (case hg => rfl); (case hr => first | (go_simp; done) | (go_simp; rfl)); intro gb101 hg w3 hbox hb; have BK101 := Aside0.mk hbox; have GW101 := ge hg; have GE101 := ge hg; replace HB := bs hb; clear hb hbox hg; have hcz4_0 := c20 BK101; have hcz4_1 := c21 BK101; have hfz4_0 := blk_frozen BK101.out 0; have hfz4_1 := blk_frozen BK101.out 1))
 (try simp only [Act.put, List.setIfInBounds_toArray, List.set_cons_zero, List.set_cons_succ])
 go_cut [3] (fun v3 wc => ∃ (kq : Nat) (x3_1 : Int), v3 = .int .i64 x3_1 ∧ Aside0 (manorboyref02_Valid.j0 kq x3_1 a0_0 a0_1 = some r) ∧ Aside0 (kq ≤ k) ∧ Aside0 (wc.heap[gb101]? = some (.cells #[.int .i64 a0_0, .int .i64 a0_1] 23 (0, 0))) ∧ Aside0 (Below w.heap.size w wc))
 case first => as_aux_lemma =>
  have H := HC2.out
  clear HC2
  by_cases c5 : a0_0 < 0
  ·rw [if_pos c5] at H
   have c5b0 : decide (a0_0 < 0) = true := decide_eq_true c5
   clear c5
   (first | rw [c5b0] | (simp only [i64_w, i32_w]; rw [c5b0]) | skip)
   have H' := Aside0.mk H
   clear H
   go_wp2
   go_meet
   case rel => exact ⟨_, (wrap64 (-a0_0)), (by first | rfl | (simp; done) | (simp [*]; done)), H', ⟨by first | omega | exact Nat.le_refl _⟩, ⟨kz BK101⟩, ⟨bz⟩⟩
  ·rw [if_neg c5] at H
   have c5b0 : decide (a0_0 < 0) = false := decide_eq_false c5
   clear c5
   (first | rw [c5b0] | (simp only [i64_w, i32_w]; rw [c5b0]) | skip)
   have H' := Aside0.mk H
   clear H
   go_wp2
   go_meet
   case rel => exact ⟨_, (a0_0), (by first | rfl | (simp; done) | (simp [*]; done)), H', ⟨by first | omega | exact Nat.le_refl _⟩, ⟨kz BK101⟩, ⟨bz⟩⟩
 case rest => as_aux_lemma =>
  clear HC2
  try clear c1
  try clear p2
  try clear c5
  try clear c5b0
  try clear hcz4_0
  try clear hcz4_1
  try clear hfz4_0
  try clear hfz4_1
  obtain ⟨kq, x3_1, rfl, HA, HJ1, BK101, HB⟩ := hcut
  cases kq with
  | zero => exact absurd HA.out (by simp [manorboyref02_Valid.j0])
  | succ kj1 =>
   have H := HA.out
   clear HA
   simp only [manorboyref02_Valid.j0] at H
   by_cases c6 : x3_1 = 0
   ·rw [if_pos c6] at H
    have c6b0 : (x3_1 == 0) = true := beq_iff_eq.mpr c6
    have c6b1 : (x3_1 != 0) = false := bne_eq_false_iff_eq.mpr c6
    clear c6
    by_cases c7 : a0_0 = 0
    ·rw [if_pos c7] at H
     have c7b0 : (a0_0 == 0) = true := beq_iff_eq.mpr c7
     have c7b1 : (a0_0 != 0) = false := bne_eq_false_iff_eq.mpr c7
     clear c7
     obtain rfl := Option.some.inj H
     have hcz8_0 := c20 BK101
     have hcz8_1 := c21 BK101
     have hfz8_0 := blk_frozen BK101.out 0
     have hfz8_1 := blk_frozen BK101.out 1
     go_wp2
     go_ret
     exact ⟨by first | rfl | (simp [errW_none, errW_some] <;> rfl) | (simp [*, errW_none, errW_some] <;> rfl), bz⟩
    ·rw [if_neg c7] at H
     have c7b0 : (a0_0 == 0) = false := beq_eq_false_iff_ne.mpr c7
     have c7b1 : (a0_0 != 0) = true := bne_iff_ne.mpr c7
     obtain rfl := Option.some.inj H
     have hcz9_0 := c20 BK101
     have hcz9_1 := c21 BK101
     have hfz9_0 := blk_frozen BK101.out 0
     have hfz9_1 := blk_frozen BK101.out 1
     go_wp2
     go_ret
     exact ⟨by first | rfl | (simp [errW_none, errW_some] <;> rfl) | (simp [*, errW_none, errW_some] <;> rfl), bz⟩
   ·rw [if_neg c6] at H
    have c6b0 : (x3_1 == 0) = false := beq_eq_false_iff_ne.mpr c6
    have c6b1 : (x3_1 != 0) = true := bne_iff_ne.mpr c6
    have HC10 := Aside0.mk H
    clear H
    go_upto_region 6 with (fail)
    go_cut [35] (fun v35 wc => ∃ (kq : Nat) (x35_9 : Bool), v35 = .bool x35_9 ∧ Aside0 (manorboyref02_Valid.j1 kq x3_1 x35_9 a0_0 a0_1 = some r) ∧ Aside0 (kq ≤ kj1) ∧ Aside0 (wc.heap[gb101]? = some (.cells #[.int .i64 a0_0, .int .i64 a0_1] 23 (0, 0))) ∧ Aside0 (Below w.heap.size w wc))
    case first => as_aux_lemma =>
     have H := HC10.out
     clear HC10
     by_cases c11 : x3_1 < 0
     ·rw [if_pos c11] at H
      have c11b0 : decide (x3_1 < 0) = true := decide_eq_true c11
      clear c11
      (first | rw [c11b0] | (simp only [i64_w, i32_w]; rw [c11b0]) | skip)
      have H' := Aside0.mk H
      clear H
      go_wp2
      go_meet
      case rel => exact ⟨_, (true), (by first | rfl | (simp; done) | (simp [*]; done)), H', ⟨by have := HJ1.out; first | omega | exact Nat.le_refl _⟩, ⟨kz BK101⟩, ⟨bz⟩⟩
     ·rw [if_neg c11] at H
      have c11b0 : decide (x3_1 < 0) = false := decide_eq_false c11
      clear c11
      (first | rw [c11b0] | (simp only [i64_w, i32_w]; rw [c11b0]) | skip)
      by_cases c12 : x3_1 ≥ 16777216
      ·rw [if_pos c12] at H
       have c12b0 : decide (16777216 ≤ x3_1) = true := decide_eq_true c12
       clear c12
       have H' := Aside0.mk H
       clear H
       go_wp2
       go_meet
       case rel => exact ⟨_, (true), (by first | rfl | (simp; done) | (simp [*]; done)), H', ⟨by have := HJ1.out; first | omega | exact Nat.le_refl _⟩, ⟨kz BK101⟩, ⟨bz⟩⟩
      ·rw [if_neg c12] at H
       have c12b0 : decide (16777216 ≤ x3_1) = false := decide_eq_false c12
       clear c12
       by_cases c13 : a0_1 < (-150)
       ·rw [if_pos c13] at H
        have c13b0 : decide (a0_1 < (-150)) = true := decide_eq_true c13
        clear c13
        have H' := Aside0.mk H
        clear H
        have hcz14_0 := c20 BK101
        have hcz14_1 := c21 BK101
        have hfz14_0 := blk_frozen BK101.out 0
        have hfz14_1 := blk_frozen BK101.out 1
        go_wp2
        go_meet
        case rel => exact ⟨_, (true), (by first | rfl | (simp; done) | (simp [*]; done)), H', ⟨by have := HJ1.out; first | omega | exact Nat.le_refl _⟩, ⟨kz BK101⟩, ⟨bz⟩⟩
       ·rw [if_neg c13] at H
        have c13b0 : decide (a0_1 < (-150)) = false := decide_eq_false c13
        clear c13
        have H' := Aside0.mk H
        clear H
        have hcz15_0 := c20 BK101
        have hcz15_1 := c21 BK101
        have hfz15_0 := blk_frozen BK101.out 0
        have hfz15_1 := blk_frozen BK101.out 1
        go_wp2
        go_meet
        case rel => exact ⟨_, (decide (a0_1 > 150)), (by first | rfl | (simp; done) | (simp [*]; done)), H', ⟨by have := HJ1.out; first | omega | exact Nat.le_refl _⟩, ⟨kz BK101⟩, ⟨bz⟩⟩
    case rest => as_aux_lemma =>
     clear HC10
     try clear c1
     try clear p2
     try clear c5
     try clear c5b0
     try clear c6
     try clear c6b0
     try clear c6b1
     try clear p6
     try clear c7
     try clear c7b0
     try clear c7b1
     try clear c11
     try clear c11b0
     try clear c12
     try clear c12b0
     try clear c13
     try clear c13b0
     try clear hcz14_0
     try clear hcz14_1
     try clear hcz15_0
     try clear hcz15_1
     try clear hcz4_0
     try clear hcz4_1
     try clear hcz8_0
     try clear hcz8_1
     try clear hcz9_0
     try clear hcz9_1
     try clear hfz14_0
     try clear hfz14_1
     try clear hfz15_0
     try clear hfz15_1
     try clear hfz4_0
     try clear hfz4_1
     try clear hfz8_0
     try clear hfz8_1
     try clear hfz9_0
     try clear hfz9_1
     try clear p2
     obtain ⟨kq, x35_9, rfl, HA, HJ9, BK101, HB⟩ := hcut
     cases kq with
     | zero => exact absurd HA.out (by simp [manorboyref02_Valid.j1])
     | succ kj9 =>
      have H := HA.out
      clear HA
      simp only [manorboyref02_Valid.j1] at H
      by_cases c16 : x35_9 = true
      ·subst c16
       have H1 : (some false) = some r := by rw [if_pos rfl] at H; exact H
       clear H
       have H := H1
       clear H1
       obtain rfl := Option.some.inj H
       go_wp2
       go_ret
       exact ⟨by first | rfl | (simp [errW_none, errW_some] <;> rfl) | (simp [*, errW_none, errW_some] <;> rfl), bz⟩
      ·replace c16 := Bool.eq_false_iff.mpr c16
       subst c16
       have H1 : (if x3_1 ≥ 8388608 then (some true) else (some (a0_1 == (-150)))) = some r := by rw [if_neg (show ¬ (false = true) by decide)] at H; exact H
       clear H
       have H := H1
       clear H1
       by_cases c17 : x3_1 ≥ 8388608
       ·rw [if_pos c17] at H
        have c17b0 : decide (8388608 ≤ x3_1) = true := decide_eq_true c17
        clear c17
        obtain rfl := Option.some.inj H
        go_wp2
        go_ret
        exact ⟨by first | rfl | (simp [errW_none, errW_some] <;> rfl) | (simp [*, errW_none, errW_some] <;> rfl), bz⟩
       ·rw [if_neg c17] at H
        have c17b0 : decide (8388608 ≤ x3_1) = false := decide_eq_false c17
        clear c17
        obtain rfl := Option.some.inj H
        have hcz18_0 := c20 BK101
        have hcz18_1 := c21 BK101
        have hfz18_0 := blk_frozen BK101.out 0
        have hfz18_1 := blk_frozen BK101.out 1
        go_wp2
        go_ret
        exact ⟨by first | rfl | (simp [errW_none, errW_some] <;> rfl) | (simp [*, errW_none, errW_some] <;> rfl), bz⟩

end Go.Proofs.YteigbokklclmbaaGreatDoor.Z.Y
end
section
namespace Go.Proofs.YteigbokklclmbaaGreatDoor.Z.Y
open Go.RowKit Go.Proofs.YteigbokklclmbaaGreatDoor.Given Go.Proofs.YteigbokklclmbaaGreatDoorW.PrintWords Go.Proofs.YteigbokklclmbaaGreatDoorW.PrintLast Go.Proofs.YteigbokklclmbaaGreatDoorW.PrintMore
attribute [local go_sem] max2_int min2_int max_two min_two max_three min_three max_four min_four   -- for this text's walks alone
set_option linter.unusedVariables false
set_option linter.unusedSimpArgs false

theorem eqA23 (d : Nat) (w : World) (x0 y0 : Int) (x1 y1 : Int) :
  (Op.equalIn (d + 2) 23 (.agg #[.int .i64 x0, .int .i64 x1]) (.agg #[.int .i64 y0, .int .i64 y1])).run Tryz.prog w = .ok (x0 == y0 && (x1 == y1)) w := by
 refine eqA_of Tryz.underlying23 (by kernel_rfl) ?_
 refine eqf_cons (by rfl) (by go_simp; rfl) (by go_simp; rfl) (by go_simp) ?_
 exact eqf_last (by rfl) (by go_simp; rfl) (by go_simp; rfl) (by go_simp)
end Go.Proofs.YteigbokklclmbaaGreatDoor.Z.Y
end
section
namespace Go.Proofs.YteigbokklclmbaaGreatDoor.Z.Y
open Go.RowKit Go.Proofs.YteigbokklclmbaaGreatDoor.Given Go.Proofs.YteigbokklclmbaaGreatDoorW.PrintWords Go.Proofs.YteigbokklclmbaaGreatDoorW.PrintLast Go.Proofs.YteigbokklclmbaaGreatDoorW.PrintMore
attribute [local go_sem] max2_int min2_int max_two min_two max_three min_three max_four min_four   -- for this text's walks alone
set_option linter.unusedVariables false
set_option linter.unusedSimpArgs false

attribute [local go_sem high] eqA23
def manorboylaw02_sanity.j0 : Nat → Bool → Option (Bool)
 | 0, _ => none
 | k + 1, x60 => if x60 = true then (some false) else ((real_Entier.f (-12582912) (-23)).bind fun bt127 => ((real_Round.f 10485760 (-22)).bind fun bt129 => ((real_Parse.f k (⟨#[49, 101, 54, 48]⟩ : ByteArray)).bind fun bt131 => ((real_PowZ.f 0 0 (-1)).bind fun bt134 => ((real_Print.f k 1 (-150)).bind fun bt137 => (if bt127.2 = 0 then (if bt129.2 = 0 then (if bt127.1 = (-2) then (if bt129.1 = 3 then (if bt131.2.2 = 3 then (if bt134.2.2 = 5 then (if bt137.2 = 0 then (if bt137.1.toList = ([55, 46, 48, 101, 45, 52, 54] : List UInt8) then ((real_FromIntN.f k 16777217).bind fun bt139 => ((manorboylaw02_two.f 24).bind fun bt141 => (some (bt139.1 == bt141.1 && (bt139.2 == bt141.2))))) else (some false)) else (some false)) else (some false)) else (some false)) else (some false)) else (some false)) else (some false)) else (some false)))))))
def manorboylaw02_sanity.f (k : Nat)  : Option (Bool) := (manorboylaw02_two.f 0).bind fun bt102 => ((manorboylaw02_two.f (-24)).bind fun bt104 => ((real_Add.f k bt102.1 bt102.2 bt104.1 bt104.2).bind fun bt106 => ((manorboylaw02_two.f 0).bind fun bt110 => ((real_Div.f k bt110.1 bt110.2 12582912 (-22)).bind fun bt112 => ((real_Parse.f k (⟨#[48, 46, 49]⟩ : ByteArray)).bind fun bt116 => ((real_Print.f k bt112.1 bt112.2.1).bind fun bt120 => ((manorboylaw02_two.f 0).bind fun bt122 => ((manorboylaw02_is.f bt106.1 bt106.2.1 bt106.2.2 bt122.1 bt122.2).bind fun t124 => (if t124 = true then ((manorboylaw02_is.f bt112.1 bt112.2.1 bt112.2.2 11184811 (-25)).bind fun t125 => (if t125 = true then ((manorboylaw02_is.f bt116.1 bt116.2.1 bt116.2.2 13421773 (-27)).bind fun t126 => (if t126 = true then (if bt120.2 = 0 then (manorboylaw02_sanity.j0 k (bt120.1.toList != ([48, 46, 51, 51, 51, 51, 51, 51, 51, 52] : List UInt8))) else (manorboylaw02_sanity.j0 k true)) else (manorboylaw02_sanity.j0 k true))) else (manorboylaw02_sanity.j0 k true))) else (manorboylaw02_sanity.j0 k true))))))))))
def manorboylaw02_sanity.T5 : Bool × List (List Nat × List Nat) := (true, [([], []), ([], []), ([], []), ([0, 1, 2, 2], [0, 1, 2]), ([3], [3]), ([4, 3], [4]), ([5], [5]), ([5], [5]), ([5], [5]), ([6, 7, 8, 5, 5], [5, 6, 7, 8]), ([9, 5], [5, 9]), ([5, 10], [5, 10]), ([11, 9], [11]), ([12], [12]), ([12], [12]), ([12], [12]), ([13, 14, 15, 12, 12], [12, 13, 14, 15]), ([16, 12], [12, 16]), ([12, 17], [12, 17]), ([18, 16], [18]), ([19], [19]), ([20, 19], [19, 20]), ([19, 21], [19, 21]), ([22, 19], [22]), ([23], [23]), ([24, 23], [23, 24]), ([23, 25], [23, 25])])
def manorboylaw02_sanity.B5 : List Nat := [0, 0, 0, 7, 15, 31, 63, 63, 63, 511, 1023, 2047, 4095, 8191, 8191, 8191, 65535, 131071, 262143, 524287, 1048575, 2097151, 4194303, 8388607, 16777215, 33554431, 67108863]
theorem manorboylaw02_sanity.tab5 : rtab .any (opsOf Tryz.f19 5) = manorboylaw02_sanity.T5 := by kernel_rfl
theorem manorboylaw02_sanity.bits5 : waitsOk manorboylaw02_sanity.T5.2 manorboylaw02_sanity.B5 = true := by kernel_rfl
theorem manorboylaw02_sanity.no : ∀ k, manorboylaw02_sanity.j0 k true ≠ some true
 | 0, h => by simp [manorboylaw02_sanity.j0] at h
 | k + 1, h => by simp [manorboylaw02_sanity.j0] at h
set_option maxHeartbeats 8000000 in
set_option maxRecDepth 100000 in
theorem manorboylaw02_sanity.calls (k : Nat)  (r : Bool) (w : World) (h : manorboylaw02_sanity.f k  = some r) (hr : r = true) (ht : Table w) :
  Calls Tryz.prog 19 #[] w fun e w' => e = .returned (.bool r) ∧ Below w.heap.size w w' := by
 have hu23 := Tryz.underlying23
 have HB := Aside0.mk (Below.refl w.heap.size w)
 have HT := Aside0.mk (Lib.tabBelow_of_tabIs ht)
 clear ht
 have H : ((manorboylaw02_two.f 0).bind fun bt102 => ((manorboylaw02_two.f (-24)).bind fun bt104 => ((real_Add.f k bt102.1 bt102.2 bt104.1 bt104.2).bind fun bt106 => ((manorboylaw02_two.f 0).bind fun bt110 => ((real_Div.f k bt110.1 bt110.2 12582912 (-22)).bind fun bt112 => ((real_Parse.f k (⟨#[48, 46, 49]⟩ : ByteArray)).bind fun bt116 => ((real_Print.f k bt112.1 bt112.2.1).bind fun bt120 => ((manorboylaw02_two.f 0).bind fun bt122 => ((manorboylaw02_is.f bt106.1 bt106.2.1 bt106.2.2 bt122.1 bt122.2).bind fun t124 => (if t124 = true then ((manorboylaw02_is.f bt112.1 bt112.2.1 bt112.2.2 11184811 (-25)).bind fun t125 => (if t125 = true then ((manorboylaw02_is.f bt116.1 bt116.2.1 bt116.2.2 13421773 (-27)).bind fun t126 => (if t126 = true then (if bt120.2 = 0 then (manorboylaw02_sanity.j0 k (bt120.1.toList != ([48, 46, 51, 51, 51, 51, 51, 51, 51, 52] : List UInt8))) else (manorboylaw02_sanity.j0 k true)) else (manorboylaw02_sanity.j0 k true))) else (manorboylaw02_sanity.j0 k true))) else (manorboylaw02_sanity.j0 k true))))))))))) = some r := h
 clear h
 replace H := Option.bind_eq_some_iff.mp H
 obtain ⟨⟨t102, t103⟩, A10, H⟩ := H
 try dsimp only at H
 have A1 := Aside0.mk A10
 clear A10
 replace H := Option.bind_eq_some_iff.mp H
 obtain ⟨⟨t104, t105⟩, A20, H⟩ := H
 try dsimp only at H
 have A2 := Aside0.mk A20
 clear A20
 replace H := Option.bind_eq_some_iff.mp H
 obtain ⟨⟨t106, t107, t108⟩, A30, H⟩ := H
 try dsimp only at H
 have A3 := Aside0.mk A30
 clear A30
 replace H := Option.bind_eq_some_iff.mp H
 obtain ⟨⟨t110, t111⟩, A40, H⟩ := H
 try dsimp only at H
 have A4 := Aside0.mk A40
 clear A40
 replace H := Option.bind_eq_some_iff.mp H
 obtain ⟨⟨t112, t113, t114⟩, A50, H⟩ := H
 try dsimp only at H
 have A5 := Aside0.mk A50
 clear A50
 replace H := Option.bind_eq_some_iff.mp H
 obtain ⟨⟨t116, t117, t118⟩, A60, H⟩ := H
 try dsimp only at H
 have A6 := Aside0.mk A60
 clear A60
 replace H := Option.bind_eq_some_iff.mp H
 obtain ⟨⟨t120, t121⟩, A70, H⟩ := H
 try dsimp only at H
 have A7 := Aside0.mk A70
 clear A70
 have HC8 := Aside0.mk H
 clear H
 go_enter Tryz.func19, Tryz.ntmps19
 go_upto_region 5 with (first | ((with_reducible refine gate_callee (f := 49) rfl ?_); refine goesL_ (some 14) rfl rfl Tryz.func49 (by kernel_rfl) rfl #[.int .i64 0] rfl (by (try simp only [List.map_toArray, List.map_cons, List.map_nil]); first | done | rfl | (simp only [List.length_drop, List.length_take]; rfl)) ?_; (with_reducible refine (manorboylaw02_two.calls 0 t102 t103 _ A1.out).mono ?_); rintro e w9 ⟨rfl, hb⟩; refine ⟨_, rfl, ?_⟩; replace HB := bs hb; (try clear hb); (try clear hb2); (try clear hk); (try clear hi)) | ((with_reducible refine gate_callee (f := 49) rfl ?_); refine goesL_ (some 15) rfl rfl Tryz.func49 (by kernel_rfl) rfl #[.int .i64 (-24)] rfl (by (try simp only [List.map_toArray, List.map_cons, List.map_nil]); first | done | rfl | (simp only [List.length_drop, List.length_take]; rfl)) ?_; (with_reducible refine (manorboylaw02_two.calls (-24) t104 t105 _ A2.out).mono ?_); rintro e w10 ⟨rfl, hb⟩; refine ⟨_, rfl, ?_⟩; replace HB := bs hb; (try clear hb); (try clear hb2); (try clear hk); (try clear hi)) | ((with_reducible refine gate_callee (f := 33) rfl ?_); refine goesL_ (some 16) rfl rfl Tryz.func33 (by kernel_rfl) rfl #[.agg #[.int .i64 t102, .int .i64 t103], .agg #[.int .i64 t104, .int .i64 t105]] rfl (by (try simp only [List.map_toArray, List.map_cons, List.map_nil]); first | done | rfl | (simp only [List.length_drop, List.length_take]; rfl)) ?_; (with_reducible refine (real_Add.calls k t102 t103 t104 t105 t106 t107 t108 _ A3.out).mono ?_); rintro e w11 ⟨rfl, hb⟩; refine ⟨_, rfl, ?_⟩; replace HB := bs hb; (try clear hb); (try clear hb2); (try clear hk); (try clear hi)) | ((with_reducible refine gate_dst (N := 1) rfl ?_); refine box_event ?hg (N := 1) ?hd (cs := #[.int .i64 0, .int .i64 0]) (t := 23) ?hr ?_; (case hd => rfl); (case hg => rfl); (case hr => first | (go_simp; done) | (go_simp; rfl)); intro gb109 hg w12 hbox hb; have BK109 := Aside0.mk hbox; have GW109 := ge hg; have GE109 := ge hg; replace HB := bs hb; clear hb hbox hg; have hcz13_0 := c20 BK109; have hcz13_1 := c21 BK109; have hfz13_0 := blk_frozen BK109.out 0; have hfz13_1 := blk_frozen BK109.out 1) | ((with_reducible refine gate_callee (f := 49) rfl ?_); refine goesL_ (some 20) rfl rfl Tryz.func49 (by kernel_rfl) rfl #[.int .i64 0] rfl (by (try simp only [List.map_toArray, List.map_cons, List.map_nil]); first | done | rfl | (simp only [List.length_drop, List.length_take]; rfl)) ?_; (with_reducible refine (manorboylaw02_two.calls 0 t110 t111 _ A4.out).mono ?_); rintro e w14 ⟨rfl, hb⟩; refine ⟨_, rfl, ?_⟩; replace BK109 := Aside0.mk (blk_below (g := gb109) (o := .cells #[.int .i64 t106, .int .i64 t107] 23 (0, 0)) (by (with_reducible repeat (first | refine blk_drewN ?_ _ | refine blk_drew ?_ | refine blk_alloc ?_ _)); refine blk_put (cs := #[.int .i64 t106, .int .i64 0]) ?_ 1 _ rfl; (with_reducible repeat (first | refine blk_drewN ?_ _ | refine blk_drew ?_ | refine blk_alloc ?_ _)); refine blk_put (cs := #[.int .i64 0, .int .i64 0]) ?_ 0 _ rfl; (with_reducible repeat (first | refine blk_drewN ?_ _ | refine blk_drew ?_ | refine blk_alloc ?_ _)); exact BK109.out) hb); replace HB := bs hb; (try clear hb); (try clear hb2); (try clear hk); (try clear hi)) | ((with_reducible refine gate_callee (f := 32) rfl ?_); refine goesL_ (some 22) rfl rfl Tryz.func32 (by kernel_rfl) rfl #[.agg #[.int .i64 t110, .int .i64 t111], .agg #[.int .i64 12582912, .int .i64 (-22)]] rfl (by (try simp only [List.map_toArray, List.map_cons, List.map_nil]); first | done | rfl | (simp only [List.length_drop, List.length_take]; rfl)) ?_; (with_reducible refine (real_Div.calls k t110 t111 12582912 (-22) t112 t113 t114 _ A5.out).mono ?_); rintro e w15 ⟨rfl, hb⟩; refine ⟨_, rfl, ?_⟩; replace BK109 := kb BK109 hb; replace HB := bs hb; (try clear hb); (try clear hb2); (try clear hk); (try clear hi)) | ((with_reducible refine gate_dst (N := 3) rfl ?_); refine box_event ?hg (N := 3) ?hd (cs := #[.int .i64 0, .int .i64 0]) (t := 23) ?hr ?_; (case hd => rfl); (case hg => rfl); (case hr => first | (go_simp; done) | (go_simp; rfl)); intro gb115 hg w16 hbox hb; have BK115 := Aside0.mk hbox; have GW115 := ge hg; have GE115 := ge hg; have NB109_115 := nl BK109 hg; have NB115_109 := nr BK109 hg; replace BK109 := kb BK109 hb; replace HB := bs hb; clear hb hbox hg; have hnb17 := NB115_109.out; have hnc17 := NB109_115.out; have hcz18_0 := c20 BK115; have hcz18_1 := c21 BK115; have hfz18_0 := blk_frozen BK115.out 0; have hfz18_1 := blk_frozen BK115.out 1) | ((with_reducible refine gate_callee (f := 25) rfl ?_); refine goesL_ (some 26) rfl rfl Tryz.func25 (by kernel_rfl) rfl #[.string (⟨#[48, 46, 49]⟩ : ByteArray)] rfl (by (try simp only [List.map_toArray, List.map_cons, List.map_nil]); first | done | rfl | (simp only [List.length_drop, List.length_take]; rfl)) ?_; (with_reducible refine (real_Parse.calls k (⟨#[48, 46, 49]⟩ : ByteArray) t116 t117 t118 _ A6.out).mono ?_); rintro e w19 ⟨rfl, hb⟩; refine ⟨_, rfl, ?_⟩; replace BK109 := Aside0.mk (blk_below (g := gb109) (o := .cells #[.int .i64 t106, .int .i64 t107] 23 (0, 0)) (by (with_reducible repeat (first | refine blk_drewN ?_ _ | refine blk_drew ?_ | refine blk_alloc ?_ _)); refine blk_far ?_ NB109_115.out _; (with_reducible repeat (first | refine blk_drewN ?_ _ | refine blk_drew ?_ | refine blk_alloc ?_ _)); refine blk_far ?_ NB109_115.out _; (with_reducible repeat (first | refine blk_drewN ?_ _ | refine blk_drew ?_ | refine blk_alloc ?_ _)); exact BK109.out) hb); replace BK115 := Aside0.mk (blk_below (g := gb115) (o := .cells #[.int .i64 t112, .int .i64 t113] 23 (0, 0)) (by (with_reducible repeat (first | refine blk_drewN ?_ _ | refine blk_drew ?_ | refine blk_alloc ?_ _)); refine blk_put (cs := #[.int .i64 t112, .int .i64 0]) ?_ 1 _ rfl; (with_reducible repeat (first | refine blk_drewN ?_ _ | refine blk_drew ?_ | refine blk_alloc ?_ _)); refine blk_put (cs := #[.int .i64 0, .int .i64 0]) ?_ 0 _ rfl; (with_reducible repeat (first | refine blk_drewN ?_ _ | refine blk_drew ?_ | refine blk_alloc ?_ _)); exact BK115.out) hb); replace HB := bs hb; (try clear hb); (try clear hb2); (try clear hk); (try clear hi)) | ((with_reducible refine gate_dst (N := 5) rfl ?_); refine box_event ?hg (N := 5) ?hd (cs := #[.int .i64 0, .int .i64 0]) (t := 23) ?hr ?_; (case hd => rfl); (case hg => rfl); (case hr => first | (go_simp; done) | (go_simp; rfl)); intro gb119 hg w20 hbox hb; have BK119 := Aside0.mk hbox; have GW119 := ge hg; have GE119 := ge hg; have NB109_119 := nl BK109 hg; have NB119_109 := nr BK109 hg; have NB115_119 := nl BK115 hg; have NB119_115 := nr BK115 hg; replace BK109 := kb BK109 hb; replace BK115 := kb BK115 hb; replace HB := bs hb; clear hb hbox hg; have hnb21 := NB119_109.out; have hnc21 := NB109_119.out; have hnb22 := NB119_115.out; have hnc22 := NB115_119.out; have hcz23_0 := c20 BK119; have hcz23_1 := c21 BK119; have hfz23_0 := blk_frozen BK119.out 0; have hfz23_1 := blk_frozen BK119.out 1; have hcz24_0 := c20 BK115; have hcz24_1 := c21 BK115; have hfz24_0 := blk_frozen BK115.out 0; have hfz24_1 := blk_frozen BK115.out 1) | ((with_reducible refine gate_callee (f := 27) rfl ?_); refine goesL_ (some 31) rfl rfl Tryz.func27 (by kernel_rfl) rfl #[.agg #[.int .i64 t112, .int .i64 t113]] rfl (by (try simp only [List.map_toArray, List.map_cons, List.map_nil]); first | done | rfl | (simp only [List.length_drop, List.length_take]; rfl)) ?_; (with_reducible refine (real_Print.calls k t112 t113 t120 t121 _ A7.out (tabAt HT.out bz)).mono ?_); rintro e w25 ⟨rfl, hb⟩; refine ⟨_, rfl, ?_⟩; replace BK109 := Aside0.mk (blk_below (g := gb109) (o := .cells #[.int .i64 t106, .int .i64 t107] 23 (0, 0)) (by (with_reducible repeat (first | refine blk_drewN ?_ _ | refine blk_drew ?_ | refine blk_alloc ?_ _)); refine blk_far ?_ NB109_119.out _; (with_reducible repeat (first | refine blk_drewN ?_ _ | refine blk_drew ?_ | refine blk_alloc ?_ _)); refine blk_far ?_ NB109_119.out _; (with_reducible repeat (first | refine blk_drewN ?_ _ | refine blk_drew ?_ | refine blk_alloc ?_ _)); exact BK109.out) hb); replace BK115 := Aside0.mk (blk_below (g := gb115) (o := .cells #[.int .i64 t112, .int .i64 t113] 23 (0, 0)) (by (with_reducible repeat (first | refine blk_drewN ?_ _ | refine blk_drew ?_ | refine blk_alloc ?_ _)); refine blk_far ?_ NB115_119.out _; (with_reducible repeat (first | refine blk_drewN ?_ _ | refine blk_drew ?_ | refine blk_alloc ?_ _)); refine blk_far ?_ NB115_119.out _; (with_reducible repeat (first | refine blk_drewN ?_ _ | refine blk_drew ?_ | refine blk_alloc ?_ _)); exact BK115.out) hb); replace BK119 := Aside0.mk (blk_below (g := gb119) (o := .cells #[.int .i64 t116, .int .i64 t117] 23 (0, 0)) (by (with_reducible repeat (first | refine blk_drewN ?_ _ | refine blk_drew ?_ | refine blk_alloc ?_ _)); refine blk_put (cs := #[.int .i64 t116, .int .i64 0]) ?_ 1 _ rfl; (with_reducible repeat (first | refine blk_drewN ?_ _ | refine blk_drew ?_ | refine blk_alloc ?_ _)); refine blk_put (cs := #[.int .i64 0, .int .i64 0]) ?_ 0 _ rfl; (with_reducible repeat (first | refine blk_drewN ?_ _ | refine blk_drew ?_ | refine blk_alloc ?_ _)); exact BK119.out) hb); replace HB := bs hb; (try clear hb); (try clear hb2); (try clear hk); (try clear hi)))
 (try simp only [Act.put, List.setIfInBounds_toArray, List.set_cons_zero, List.set_cons_succ])
 go_cut [60] (fun v60 wc => ∃ (kq : Nat) (x60_7 : Bool), v60 = .bool x60_7 ∧ Aside0 (manorboylaw02_sanity.j0 kq x60_7 = some r) ∧ Aside0 (kq ≤ k) ∧ Aside0 (wc.heap[gb109]? = some (.cells #[.int .i64 t106, .int .i64 t107] 23 (0, 0))) ∧ Aside0 (wc.heap[gb115]? = some (.cells #[.int .i64 t112, .int .i64 t113] 23 (0, 0))) ∧ Aside0 (wc.heap[gb119]? = some (.cells #[.int .i64 t116, .int .i64 t117] 23 (0, 0))) ∧ Aside0 (Below w.heap.size w wc))
 case first => as_aux_lemma =>
  have H := HC8.out
  clear HC8
  replace H := Option.bind_eq_some_iff.mp H
  obtain ⟨⟨t122, t123⟩, A260, H⟩ := H
  try dsimp only at H
  have A26 := Aside0.mk A260
  clear A260
  replace H := Option.bind_eq_some_iff.mp H
  obtain ⟨t124, A270, H⟩ := H
  try dsimp only at H
  have A27 := Aside0.mk A270
  clear A270
  by_cases c28 : t124 = true
  ·subst c28
   have H1 : ((manorboylaw02_is.f t112 t113 t114 11184811 (-25)).bind fun t125 => (if t125 = true then ((manorboylaw02_is.f t116 t117 t118 13421773 (-27)).bind fun t126 => (if t126 = true then (if t121 = 0 then (manorboylaw02_sanity.j0 k (t120.toList != ([48, 46, 51, 51, 51, 51, 51, 51, 51, 52] : List UInt8))) else (manorboylaw02_sanity.j0 k true)) else (manorboylaw02_sanity.j0 k true))) else (manorboylaw02_sanity.j0 k true))) = some r := by rw [if_pos rfl] at H; exact H
   clear H
   have H := H1
   clear H1
   replace H := Option.bind_eq_some_iff.mp H
   obtain ⟨t125, A290, H⟩ := H
   try dsimp only at H
   have A29 := Aside0.mk A290
   clear A290
   by_cases c30 : t125 = true
   ·subst c30
    have H1 : ((manorboylaw02_is.f t116 t117 t118 13421773 (-27)).bind fun t126 => (if t126 = true then (if t121 = 0 then (manorboylaw02_sanity.j0 k (t120.toList != ([48, 46, 51, 51, 51, 51, 51, 51, 51, 52] : List UInt8))) else (manorboylaw02_sanity.j0 k true)) else (manorboylaw02_sanity.j0 k true))) = some r := by rw [if_pos rfl] at H; exact H
    clear H
    have H := H1
    clear H1
    replace H := Option.bind_eq_some_iff.mp H
    obtain ⟨t126, A310, H⟩ := H
    try dsimp only at H
    have A31 := Aside0.mk A310
    clear A310
    by_cases c32 : t126 = true
    ·subst c32
     have H1 : (if t121 = 0 then (manorboylaw02_sanity.j0 k (t120.toList != ([48, 46, 51, 51, 51, 51, 51, 51, 51, 52] : List UInt8))) else (manorboylaw02_sanity.j0 k true)) = some r := by rw [if_pos rfl] at H; exact H
     clear H
     have H := H1
     clear H1
     by_cases c33 : t121 = 0
     ·rw [if_pos c33] at H
      have c33b0 : (t121 == 0) = true := beq_iff_eq.mpr c33
      have c33b1 : (t121 != 0) = false := bne_eq_false_iff_eq.mpr c33
      clear c33
      (first | rw [c33b0] | (simp only [i64_w, i32_w]; rw [c33b0]) | skip)
      have H' := Aside0.mk H
      clear H
      try go_wp2
      have n0_ := Aside0.mk (blk_drew BK109.out)
      have n1_ := Aside0.mk (blk_drew BK115.out)
      have n2_ := Aside0.mk (blk_drew BK119.out)
      have n3_ := Aside0.mk (below_drew1 HB.out)
      clear BK109
      clear BK115
      clear BK119
      clear HB
      have BK109 := n0_
      have BK115 := n1_
      have BK119 := n2_
      have HB := n3_
      clear n0_ n1_ n2_ n3_
      refine start_ (n := 27) (S := fun w' => w'.cell? ⟨gb109, 0, none⟩ = some (.int .i64 t106) ∧ w'.cell? ⟨gb109, 1, none⟩ = some (.int .i64 t107) ∧ w'.cell? ⟨gb115, 0, none⟩ = some (.int .i64 t112) ∧ w'.cell? ⟨gb115, 1, none⟩ = some (.int .i64 t113) ∧ w'.cell? ⟨gb119, 0, none⟩ = some (.int .i64 t116) ∧ w'.cell? ⟨gb119, 1, none⟩ = some (.int .i64 t117)) (ds := []) #[false, false, false, false, false, false, false, false, false, false, false, false, false, false, false, false, false, false, false, false, false, false, false, false, false, false, false] (by kernel_rfl) rfl rfl ⟨(blk_cell BK109.out 0).trans rfl, (blk_cell BK109.out 1).trans rfl, (blk_cell BK115.out 0).trans rfl, (blk_cell BK115.out 1).trans rfl, (blk_cell BK119.out 0).trans rfl, (blk_cell BK119.out 1).trans rfl⟩ (fun hHeld => ?_); refine with_tabW manorboylaw02_sanity.tab5 manorboylaw02_sanity.bits5 (fun HT_ HW_ => ?_)
      generalize w25.drew = w34 at BK109 BK115 BK119 HB hHeld ⊢
      refine pure_ (i := 1) (N := some 35) (v := ?_) (a' := ?_) #[false, true, false, false, false, false, false, false, false, false, false, false, false, false, false, false, false, false, false, false, false, false, false, false, false, false, false] rfl rfl (any_of HT_.out (by kernel_rfl)) (fun _ _ _ h => h) (Or.inl ⟨by rfl, ?_⟩) ?_ ?_
      rotate_left
      ·intro w'
       go_simp
       with_reducible rfl
      rotate_left
      ·simp only [Act.put, List.setIfInBounds_toArray, List.set_cons_zero, List.set_cons_succ, i64_w, i32_w]
       rfl
      refine take_ (i := 0) (N := some 34) (v := ?_) (a' := ?_) #[true, true, false, false, false, false, false, false, false, false, false, false, false, false, false, false, false, false, false, false, false, false, false, false, false, false, false] rfl rfl (take_ofW HT_.out HW_.out (by kernel_rfl)) (fun _ _ _ h => h) (Or.inl ⟨by rfl, ?_⟩) hHeld ?_ ?_
      rotate_left
      ·rintro w' ⟨s0, s1, s2, s3, s4, s5⟩
       go_simp
       with_reducible rfl
      rotate_left
      ·simp only [Act.put, List.setIfInBounds_toArray, List.set_cons_zero, List.set_cons_succ, i64_w, i32_w]
       rfl
      refine one_ (i := 2) (N := some 36) #[true, true, true, false, false, false, false, false, false, false, false, false, false, false, false, false, false, false, false, false, false, false, false, false, false, false, false] rfl rfl (one_of HT_.out (by kernel_rfl)) (by decide) (fun K hK => ?_)
      refine goes_ Tryz.func49 (by kernel_rfl) rfl #[.int .i64 0] (by rfl) rfl rfl (by (try simp only [List.map_toArray, List.map_cons, List.map_nil]); first | done | rfl | (simp only [List.length_drop, List.length_take]; rfl)) ?_
      with_reducible refine (manorboylaw02_two.calls 0 t122 t123 _ A26.out).mono ?_
      rintro e w35 ⟨rfl, hb⟩
      refine ⟨_, rfl, ?_⟩
      have n0_ := kb BK109 hb
      have n1_ := kb BK115 hb
      have n2_ := kb BK119 hb
      have n3_ := bs hb
      clear BK109
      clear BK115
      clear BK119
      clear HB
      have BK109 := n0_
      have BK115 := n1_
      have BK119 := n2_
      have HB := n3_
      clear n0_ n1_ n2_ n3_
      (try clear hb)
      (try clear hb2)
      (try clear hk)
      (try clear hi)
      refine hK.out _ _ ⟨(blk_cell BK109.out 0).trans rfl, (blk_cell BK109.out 1).trans rfl, (blk_cell BK115.out 0).trans rfl, (blk_cell BK115.out 1).trans rfl, (blk_cell BK119.out 0).trans rfl, (blk_cell BK119.out 1).trans rfl⟩ (fun hHeld => ?_)
      clear hK K
      refine norm_ (a' := ?_) ?_ ?_
      rotate_left
      ·show Act.put _ (some 36) _ = _
       simp only [Act.put, List.setIfInBounds_toArray, List.set_cons_zero, List.set_cons_succ, i64_w, i32_w]
       rfl
      refine one_ (i := 3) (N := some 37) #[true, true, true, true, false, false, false, false, false, false, false, false, false, false, false, false, false, false, false, false, false, false, false, false, false, false, false] rfl rfl (one_of HT_.out (by kernel_rfl)) (by decide) (fun K hK => ?_)
      refine goes_ Tryz.func39 (by kernel_rfl) rfl #[.agg #[.int .i64 t106, .int .i64 t107], .int .i64 t108, .agg #[.int .i64 t122, .int .i64 t123]] (by rfl) rfl rfl (by (try simp only [List.map_toArray, List.map_cons, List.map_nil]); first | done | rfl | (simp only [List.length_drop, List.length_take]; rfl)) ?_
      with_reducible refine (manorboylaw02_is.calls t106 t107 t108 t122 t123 true _ A27.out).mono ?_
      rintro e w36 ⟨rfl, hb⟩
      refine ⟨_, rfl, ?_⟩
      have n0_ := kb BK109 hb
      have n1_ := kb BK115 hb
      have n2_ := kb BK119 hb
      have n3_ := bs hb
      clear BK109
      clear BK115
      clear BK119
      clear HB
      have BK109 := n0_
      have BK115 := n1_
      have BK119 := n2_
      have HB := n3_
      clear n0_ n1_ n2_ n3_
      (try clear hb)
      (try clear hb2)
      (try clear hk)
      (try clear hi)
      refine hK.out _ _ ⟨(blk_cell BK109.out 0).trans rfl, (blk_cell BK109.out 1).trans rfl, (blk_cell BK115.out 0).trans rfl, (blk_cell BK115.out 1).trans rfl, (blk_cell BK119.out 0).trans rfl, (blk_cell BK119.out 1).trans rfl⟩ (fun hHeld => ?_)
      clear hK K
      refine norm_ (a' := ?_) ?_ ?_
      rotate_left
      ·show Act.put _ (some 37) _ = _
       simp only [Act.put, List.setIfInBounds_toArray, List.set_cons_zero, List.set_cons_succ, i64_w, i32_w]
       rfl
      refine pure_ (i := 4) (N := some 38) (v := ?_) (a' := ?_) #[true, true, true, true, true, false, false, false, false, false, false, false, false, false, false, false, false, false, false, false, false, false, false, false, false, false, false] rfl rfl (any_of HT_.out (by kernel_rfl)) (fun _ _ _ h => h) (Or.inl ⟨by rfl, ?_⟩) ?_ ?_
      rotate_left
      ·intro w'
       go_simp
       with_reducible rfl
      rotate_left
      ·simp only [Act.put, List.setIfInBounds_toArray, List.set_cons_zero, List.set_cons_succ, i64_w, i32_w]
       rfl
      refine pure_ (i := 5) (N := some 39) (v := ?_) (a' := ?_) #[true, true, true, true, true, true, false, false, false, false, false, false, false, false, false, false, false, false, false, false, false, false, false, false, false, false, false] rfl rfl (any_of HT_.out (by kernel_rfl)) (fun _ _ _ h => h) (Or.inl ⟨by rfl, ?_⟩) ?_ ?_
      rotate_left
      ·intro w'
       go_simp
       with_reducible rfl
      rotate_left
      ·simp only [Act.put, List.setIfInBounds_toArray, List.set_cons_zero, List.set_cons_succ, i64_w, i32_w]
       rfl
      refine pure_ (i := 7) (N := some 41) (v := ?_) (a' := ?_) #[true, true, true, true, true, true, false, true, false, false, false, false, false, false, false, false, false, false, false, false, false, false, false, false, false, false, false] rfl rfl (any_of HT_.out (by kernel_rfl)) (fun _ _ _ h => h) (Or.inl ⟨by rfl, ?_⟩) ?_ ?_
      rotate_left
      ·intro w'
       go_simp
       with_reducible rfl
      rotate_left
      ·simp only [Act.put, List.setIfInBounds_toArray, List.set_cons_zero, List.set_cons_succ, i64_w, i32_w]
       rfl
      refine pure_ (i := 8) (N := some 42) (v := ?_) (a' := ?_) #[true, true, true, true, true, true, false, true, true, false, false, false, false, false, false, false, false, false, false, false, false, false, false, false, false, false, false] rfl rfl (any_of HT_.out (by kernel_rfl)) (fun _ _ _ h => h) (Or.inl ⟨by rfl, ?_⟩) ?_ ?_
      rotate_left
      ·intro w'
       go_simp
       with_reducible rfl
      rotate_left
      ·simp only [Act.put, List.setIfInBounds_toArray, List.set_cons_zero, List.set_cons_succ, i64_w, i32_w]
       rfl
      refine take_ (i := 6) (N := some 40) (v := ?_) (a' := ?_) #[true, true, true, true, true, true, true, true, true, false, false, false, false, false, false, false, false, false, false, false, false, false, false, false, false, false, false] rfl rfl (take_ofW HT_.out HW_.out (by kernel_rfl)) (fun _ _ _ h => h) (Or.inl ⟨by rfl, ?_⟩) hHeld ?_ ?_
      rotate_left
      ·rintro w' ⟨s0, s1, s2, s3, s4, s5⟩
       go_simp
       with_reducible rfl
      rotate_left
      ·simp only [Act.put, List.setIfInBounds_toArray, List.set_cons_zero, List.set_cons_succ, i64_w, i32_w]
       rfl
      refine one_ (i := 9) (N := some 43) #[true, true, true, true, true, true, true, true, true, true, false, false, false, false, false, false, false, false, false, false, false, false, false, false, false, false, false] rfl rfl (one_of HT_.out (by kernel_rfl)) (by decide) (fun K hK => ?_)
      refine goes_ Tryz.func39 (by kernel_rfl) rfl #[.agg #[.int .i64 t112, .int .i64 t113], .int .i64 t114, .agg #[.int .i64 11184811, .int .i64 (-25)]] (by rfl) rfl rfl (by (try simp only [List.map_toArray, List.map_cons, List.map_nil]); first | done | rfl | (simp only [List.length_drop, List.length_take]; rfl)) ?_
      with_reducible refine (manorboylaw02_is.calls t112 t113 t114 11184811 (-25) true _ A29.out).mono ?_
      rintro e w37 ⟨rfl, hb⟩
      refine ⟨_, rfl, ?_⟩
      have n0_ := kb BK109 hb
      have n1_ := kb BK115 hb
      have n2_ := kb BK119 hb
      have n3_ := bs hb
      clear BK109
      clear BK115
      clear BK119
      clear HB
      have BK109 := n0_
      have BK115 := n1_
      have BK119 := n2_
      have HB := n3_
      clear n0_ n1_ n2_ n3_
      (try clear hb)
      (try clear hb2)
      (try clear hk)
      (try clear hi)
      refine hK.out _ _ ⟨(blk_cell BK109.out 0).trans rfl, (blk_cell BK109.out 1).trans rfl, (blk_cell BK115.out 0).trans rfl, (blk_cell BK115.out 1).trans rfl, (blk_cell BK119.out 0).trans rfl, (blk_cell BK119.out 1).trans rfl⟩ (fun hHeld => ?_)
      clear hK K
      refine norm_ (a' := ?_) ?_ ?_
      rotate_left
      ·show Act.put _ (some 43) _ = _
       simp only [Act.put, List.setIfInBounds_toArray, List.set_cons_zero, List.set_cons_succ, i64_w, i32_w]
       rfl
      refine pure_ (i := 10) (N := some 44) (v := ?_) (a' := ?_) #[true, true, true, true, true, true, true, true, true, true, true, false, false, false, false, false, false, false, false, false, false, false, false, false, false, false, false] rfl rfl (any_of HT_.out (by kernel_rfl)) (fun _ _ _ h => h) (Or.inl ⟨by rfl, ?_⟩) ?_ ?_
      rotate_left
      ·intro w'
       go_simp
       with_reducible rfl
      rotate_left
      ·simp only [Act.put, List.setIfInBounds_toArray, List.set_cons_zero, List.set_cons_succ, i64_w, i32_w]
       rfl
      refine pure_ (i := 11) (N := some 45) (v := ?_) (a' := ?_) #[true, true, true, true, true, true, true, true, true, true, true, true, false, false, false, false, false, false, false, false, false, false, false, false, false, false, false] rfl rfl (any_of HT_.out (by kernel_rfl)) (fun _ _ _ h => h) (Or.inl ⟨by rfl, ?_⟩) ?_ ?_
      rotate_left
      ·intro w'
       go_simp
       with_reducible rfl
      rotate_left
      ·simp only [Act.put, List.setIfInBounds_toArray, List.set_cons_zero, List.set_cons_succ, i64_w, i32_w]
       rfl
      refine pure_ (i := 12) (N := some 46) (v := ?_) (a' := ?_) #[true, true, true, true, true, true, true, true, true, true, true, true, true, false, false, false, false, false, false, false, false, false, false, false, false, false, false] rfl rfl (any_of HT_.out (by kernel_rfl)) (fun _ _ _ h => h) (Or.inl ⟨by rfl, ?_⟩) ?_ ?_
      rotate_left
      ·intro w'
       go_simp
       with_reducible rfl
      rotate_left
      ·simp only [Act.put, List.setIfInBounds_toArray, List.set_cons_zero, List.set_cons_succ, i64_w, i32_w]
       rfl
      refine pure_ (i := 14) (N := some 48) (v := ?_) (a' := ?_) #[true, true, true, true, true, true, true, true, true, true, true, true, true, false, true, false, false, false, false, false, false, false, false, false, false, false, false] rfl rfl (any_of HT_.out (by kernel_rfl)) (fun _ _ _ h => h) (Or.inl ⟨by rfl, ?_⟩) ?_ ?_
      rotate_left
      ·intro w'
       go_simp
       with_reducible rfl
      rotate_left
      ·simp only [Act.put, List.setIfInBounds_toArray, List.set_cons_zero, List.set_cons_succ, i64_w, i32_w]
       rfl
      refine pure_ (i := 15) (N := some 49) (v := ?_) (a' := ?_) #[true, true, true, true, true, true, true, true, true, true, true, true, true, false, true, true, false, false, false, false, false, false, false, false, false, false, false] rfl rfl (any_of HT_.out (by kernel_rfl)) (fun _ _ _ h => h) (Or.inl ⟨by rfl, ?_⟩) ?_ ?_
      rotate_left
      ·intro w'
       go_simp
       with_reducible rfl
      rotate_left
      ·simp only [Act.put, List.setIfInBounds_toArray, List.set_cons_zero, List.set_cons_succ, i64_w, i32_w]
       rfl
      refine take_ (i := 13) (N := some 47) (v := ?_) (a' := ?_) #[true, true, true, true, true, true, true, true, true, true, true, true, true, true, true, true, false, false, false, false, false, false, false, false, false, false, false] rfl rfl (take_ofW HT_.out HW_.out (by kernel_rfl)) (fun _ _ _ h => h) (Or.inl ⟨by rfl, ?_⟩) hHeld ?_ ?_
      rotate_left
      ·rintro w' ⟨s0, s1, s2, s3, s4, s5⟩
       go_simp
       with_reducible rfl
      rotate_left
      ·simp only [Act.put, List.setIfInBounds_toArray, List.set_cons_zero, List.set_cons_succ, i64_w, i32_w]
       rfl
      refine one_ (i := 16) (N := some 50) #[true, true, true, true, true, true, true, true, true, true, true, true, true, true, true, true, true, false, false, false, false, false, false, false, false, false, false] rfl rfl (one_of HT_.out (by kernel_rfl)) (by decide) (fun K hK => ?_)
      refine goes_ Tryz.func39 (by kernel_rfl) rfl #[.agg #[.int .i64 t116, .int .i64 t117], .int .i64 t118, .agg #[.int .i64 13421773, .int .i64 (-27)]] (by rfl) rfl rfl (by (try simp only [List.map_toArray, List.map_cons, List.map_nil]); first | done | rfl | (simp only [List.length_drop, List.length_take]; rfl)) ?_
      with_reducible refine (manorboylaw02_is.calls t116 t117 t118 13421773 (-27) true _ A31.out).mono ?_
      rintro e w38 ⟨rfl, hb⟩
      refine ⟨_, rfl, ?_⟩
      have n0_ := kb BK109 hb
      have n1_ := kb BK115 hb
      have n2_ := kb BK119 hb
      have n3_ := bs hb
      clear BK109
      clear BK115
      clear BK119
      clear HB
      have BK109 := n0_
      have BK115 := n1_
      have BK119 := n2_
      have HB := n3_
      clear n0_ n1_ n2_ n3_
      (try clear hb)
      (try clear hb2)
      (try clear hk)
      (try clear hi)
      refine hK.out _ _ ⟨(blk_cell BK109.out 0).trans rfl, (blk_cell BK109.out 1).trans rfl, (blk_cell BK115.out 0).trans rfl, (blk_cell BK115.out 1).trans rfl, (blk_cell BK119.out 0).trans rfl, (blk_cell BK119.out 1).trans rfl⟩ (fun hHeld => ?_)
      clear hK K
      refine norm_ (a' := ?_) ?_ ?_
      rotate_left
      ·show Act.put _ (some 50) _ = _
       simp only [Act.put, List.setIfInBounds_toArray, List.set_cons_zero, List.set_cons_succ, i64_w, i32_w]
       rfl
      refine pure_ (i := 17) (N := some 51) (v := ?_) (a' := ?_) #[true, true, true, true, true, true, true, true, true, true, true, true, true, true, true, true, true, true, false, false, false, false, false, false, false, false, false] rfl rfl (any_of HT_.out (by kernel_rfl)) (fun _ _ _ h => h) (Or.inl ⟨by rfl, ?_⟩) ?_ ?_
      rotate_left
      ·intro w'
       go_simp
       with_reducible rfl
      rotate_left
      ·simp only [Act.put, List.setIfInBounds_toArray, List.set_cons_zero, List.set_cons_succ, i64_w, i32_w]
       rfl
      refine pure_ (i := 18) (N := some 52) (v := ?_) (a' := ?_) #[true, true, true, true, true, true, true, true, true, true, true, true, true, true, true, true, true, true, true, false, false, false, false, false, false, false, false] rfl rfl (any_of HT_.out (by kernel_rfl)) (fun _ _ _ h => h) (Or.inl ⟨by rfl, ?_⟩) ?_ ?_
      rotate_left
      ·intro w'
       go_simp
       with_reducible rfl
      rotate_left
      ·simp only [Act.put, List.setIfInBounds_toArray, List.set_cons_zero, List.set_cons_succ, i64_w, i32_w]
       rfl
      refine pure_ (i := 19) (N := some 53) (v := ?_) (a' := ?_) #[true, true, true, true, true, true, true, true, true, true, true, true, true, true, true, true, true, true, true, true, false, false, false, false, false, false, false] rfl rfl (any_of HT_.out (by kernel_rfl)) (fun _ _ _ h => h) (Or.inl ⟨by rfl, ?_⟩) ?_ ?_
      rotate_left
      ·intro w'
       go_simp
       with_reducible rfl
      rotate_left
      ·simp only [Act.put, List.setIfInBounds_toArray, List.set_cons_zero, List.set_cons_succ, i64_w, i32_w]
       rfl
      refine pure_ (i := 20) (N := some 54) (v := ?_) (a' := ?_) #[true, true, true, true, true, true, true, true, true, true, true, true, true, true, true, true, true, true, true, true, true, false, false, false, false, false, false] rfl rfl (any_of HT_.out (by kernel_rfl)) (fun _ _ _ h => h) (Or.inl ⟨by rfl, ?_⟩) ?_ ?_
      rotate_left
      ·intro w'
       go_simp
       with_reducible rfl
      rotate_left
      ·simp only [Act.put, List.setIfInBounds_toArray, List.set_cons_zero, List.set_cons_succ, i64_w, i32_w]
       rfl
      refine pure_ (i := 21) (N := some 55) (v := ?_) (a' := ?_) #[true, true, true, true, true, true, true, true, true, true, true, true, true, true, true, true, true, true, true, true, true, true, false, false, false, false, false] rfl rfl (any_of HT_.out (by kernel_rfl)) (fun _ _ _ h => h) (Or.inl ⟨by rfl, ?_⟩) ?_ ?_
      rotate_left
      ·intro w'
       go_simp
       with_reducible rfl
      rotate_left
      ·simp only [Act.put, List.setIfInBounds_toArray, List.set_cons_zero, List.set_cons_succ, i64_w, i32_w]
       rfl
      refine pure_ (i := 22) (N := some 56) (v := ?_) (a' := ?_) #[true, true, true, true, true, true, true, true, true, true, true, true, true, true, true, true, true, true, true, true, true, true, true, false, false, false, false] rfl rfl (any_of HT_.out (by kernel_rfl)) (fun _ _ _ h => h) (Or.inl ⟨by rfl, ?_⟩) ?_ ?_
      rotate_left
      ·intro w'
       go_simp
       with_reducible rfl
      rotate_left
      ·simp only [Act.put, List.setIfInBounds_toArray, List.set_cons_zero, List.set_cons_succ, i64_w, i32_w]
       rfl
      refine pure_ (i := 23) (N := some 57) (v := ?_) (a' := ?_) #[true, true, true, true, true, true, true, true, true, true, true, true, true, true, true, true, true, true, true, true, true, true, true, true, false, false, false] rfl rfl (any_of HT_.out (by kernel_rfl)) (fun _ _ _ h => h) (Or.inl ⟨by rfl, ?_⟩) ?_ ?_
      rotate_left
      ·intro w'
       go_simp
       with_reducible rfl
      rotate_left
      ·simp only [Act.put, List.setIfInBounds_toArray, List.set_cons_zero, List.set_cons_succ, i64_w, i32_w]
       rfl
      refine pure_ (i := 24) (N := some 58) (v := ?_) (a' := ?_) #[true, true, true, true, true, true, true, true, true, true, true, true, true, true, true, true, true, true, true, true, true, true, true, true, true, false, false] rfl rfl (any_of HT_.out (by kernel_rfl)) (fun _ _ _ h => h) (Or.inl ⟨by rfl, ?_⟩) ?_ ?_
      rotate_left
      ·intro w'
       go_simp
       with_reducible rfl
      rotate_left
      ·simp only [Act.put, List.setIfInBounds_toArray, List.set_cons_zero, List.set_cons_succ, i64_w, i32_w]
       rfl
      refine pure_ (i := 25) (N := some 59) (v := ?_) (a' := ?_) #[true, true, true, true, true, true, true, true, true, true, true, true, true, true, true, true, true, true, true, true, true, true, true, true, true, true, false] rfl rfl (any_of HT_.out (by kernel_rfl)) (fun _ _ _ h => h) (Or.inl ⟨by rfl, ?_⟩) ?_ ?_
      rotate_left
      ·intro w'
       go_simp
       with_reducible rfl
      rotate_left
      ·simp only [Act.put, List.setIfInBounds_toArray, List.set_cons_zero, List.set_cons_succ, i64_w, i32_w]
       rfl
      refine pure_ (i := 26) (N := some 60) (v := ?_) (a' := ?_) #[true, true, true, true, true, true, true, true, true, true, true, true, true, true, true, true, true, true, true, true, true, true, true, true, true, true, true] rfl rfl (any_of HT_.out (by kernel_rfl)) (fun _ _ _ h => h) (Or.inl ⟨by rfl, ?_⟩) ?_ ?_
      rotate_left
      ·intro w'
       go_simp
       with_reducible rfl
      rotate_left
      ·simp only [Act.put, List.setIfInBounds_toArray, List.set_cons_zero, List.set_cons_succ, i64_w, i32_w]
       rfl
      refine done_ (done_of HT_.out (by kernel_rfl)) ?_
      try go_wp2
      go_meet
      case rel => exact ⟨_, ((t120.toList != ([48, 46, 51, 51, 51, 51, 51, 51, 51, 52] : List UInt8))), (by first | rfl | (simp; done) | (simp [*]; done)), H', ⟨by first | omega | exact Nat.le_refl _⟩, ⟨kz BK109⟩, ⟨kz BK115⟩, ⟨kz BK119⟩, ⟨bz⟩⟩
     ·rw [if_neg c33] at H
      first | exact absurd (Option.some.inj H) (by rw [hr]; decide) | exact absurd H (by rw [hr]; exact manorboylaw02_sanity.no _)
    ·replace c32 := Bool.eq_false_iff.mpr c32
     subst c32
     have H1 : (manorboylaw02_sanity.j0 k true) = some r := by rw [if_neg (show ¬ (false = true) by decide)] at H; exact H
     clear H
     have H := H1
     clear H1
     first | exact absurd (Option.some.inj H) (by rw [hr]; decide) | exact absurd H (by rw [hr]; exact manorboylaw02_sanity.no _)
   ·replace c30 := Bool.eq_false_iff.mpr c30
    subst c30
    have H1 : (manorboylaw02_sanity.j0 k true) = some r := by rw [if_neg (show ¬ (false = true) by decide)] at H; exact H
    clear H
    have H := H1
    clear H1
    first | exact absurd (Option.some.inj H) (by rw [hr]; decide) | exact absurd H (by rw [hr]; exact manorboylaw02_sanity.no _)
  ·replace c28 := Bool.eq_false_iff.mpr c28
   subst c28
   have H1 : (manorboylaw02_sanity.j0 k true) = some r := by rw [if_neg (show ¬ (false = true) by decide)] at H; exact H
   clear H
   have H := H1
   clear H1
   first | exact absurd (Option.some.inj H) (by rw [hr]; decide) | exact absurd H (by rw [hr]; exact manorboylaw02_sanity.no _)
 case rest => as_aux_lemma =>
  clear HC8
  try clear c2
  try clear p2
  try clear c3
  try clear c4
  try clear c28
  try clear c30
  try clear c39
  try clear c49
  obtain ⟨kq, x60_7, rfl, HA, HJ7, BK109, BK115, BK119, HB⟩ := hcut
  cases kq with
  | zero => exact absurd HA.out (by simp [manorboylaw02_sanity.j0])
  | succ kj7 =>
   have H := HA.out
   clear HA
   simp only [manorboylaw02_sanity.j0] at H
   by_cases c56 : x60_7 = true
   ·subst c56
    have H1 : (some false) = some r := by rw [if_pos rfl] at H; exact H
    clear H
    have H := H1
    clear H1
    first | exact absurd (Option.some.inj H) (by rw [hr]; decide) | exact absurd H (by rw [hr]; exact manorboylaw02_sanity.no _)
   ·replace c56 := Bool.eq_false_iff.mpr c56
    subst c56
    have H1 : ((real_Entier.f (-12582912) (-23)).bind fun bt127 => ((real_Round.f 10485760 (-22)).bind fun bt129 => ((real_Parse.f kj7 (⟨#[49, 101, 54, 48]⟩ : ByteArray)).bind fun bt131 => ((real_PowZ.f 0 0 (-1)).bind fun bt134 => ((real_Print.f kj7 1 (-150)).bind fun bt137 => (if bt127.2 = 0 then (if bt129.2 = 0 then (if bt127.1 = (-2) then (if bt129.1 = 3 then (if bt131.2.2 = 3 then (if bt134.2.2 = 5 then (if bt137.2 = 0 then (if bt137.1.toList = ([55, 46, 48, 101, 45, 52, 54] : List UInt8) then ((real_FromIntN.f kj7 16777217).bind fun bt139 => ((manorboylaw02_two.f 24).bind fun bt141 => (some (bt139.1 == bt141.1 && (bt139.2 == bt141.2))))) else (some false)) else (some false)) else (some false)) else (some false)) else (some false)) else (some false)) else (some false)) else (some false))))))) = some r := by rw [if_neg (show ¬ (false = true) by decide)] at H; exact H
    clear H
    have H := H1
    clear H1
    replace H := Option.bind_eq_some_iff.mp H
    obtain ⟨⟨t127, t128⟩, A570, H⟩ := H
    try dsimp only at H
    have A57 := Aside0.mk A570
    clear A570
    replace H := Option.bind_eq_some_iff.mp H
    obtain ⟨⟨t129, t130⟩, A580, H⟩ := H
    try dsimp only at H
    have A58 := Aside0.mk A580
    clear A580
    replace H := Option.bind_eq_some_iff.mp H
    obtain ⟨⟨t131, t132, t133⟩, A590, H⟩ := H
    try dsimp only at H
    have A59 := Aside0.mk A590
    clear A590
    replace H := Option.bind_eq_some_iff.mp H
    obtain ⟨⟨t134, t135, t136⟩, A600, H⟩ := H
    try dsimp only at H
    have A60 := Aside0.mk A600
    clear A600
    replace H := Option.bind_eq_some_iff.mp H
    obtain ⟨⟨t137, t138⟩, A610, H⟩ := H
    try dsimp only at H
    have A61 := Aside0.mk A610
    clear A610
    by_cases c62 : t128 = 0
    ·rw [if_pos c62] at H
     have c62b0 : (t128 == 0) = true := beq_iff_eq.mpr c62
     have c62b1 : (t128 != 0) = false := bne_eq_false_iff_eq.mpr c62
     clear c62
     by_cases c63 : t130 = 0
     ·rw [if_pos c63] at H
      have c63b0 : (t130 == 0) = true := beq_iff_eq.mpr c63
      have c63b1 : (t130 != 0) = false := bne_eq_false_iff_eq.mpr c63
      clear c63
      by_cases c64 : t127 = (-2)
      ·rw [if_pos c64] at H
       have c64b0 : (t127 == (-2)) = true := beq_iff_eq.mpr c64
       have c64b1 : (t127 != (-2)) = false := bne_eq_false_iff_eq.mpr c64
       clear c64
       by_cases c65 : t129 = 3
       ·rw [if_pos c65] at H
        have c65b0 : (t129 == 3) = true := beq_iff_eq.mpr c65
        have c65b1 : (t129 != 3) = false := bne_eq_false_iff_eq.mpr c65
        clear c65
        by_cases c66 : t133 = 3
        ·rw [if_pos c66] at H
         have c66b0 : (t133 == 3) = true := beq_iff_eq.mpr c66
         have c66b1 : (t133 != 3) = false := bne_eq_false_iff_eq.mpr c66
         clear c66
         by_cases c67 : t136 = 5
         ·rw [if_pos c67] at H
          have c67b0 : (t136 == 5) = true := beq_iff_eq.mpr c67
          have c67b1 : (t136 != 5) = false := bne_eq_false_iff_eq.mpr c67
          clear c67
          by_cases c68 : t138 = 0
          ·rw [if_pos c68] at H
           have c68b0 : (t138 == 0) = true := beq_iff_eq.mpr c68
           have c68b1 : (t138 != 0) = false := bne_eq_false_iff_eq.mpr c68
           clear c68
           by_cases c69 : t137.toList = ([55, 46, 48, 101, 45, 52, 54] : List UInt8)
           ·rw [if_pos c69] at H
            have c69b0 : (t137.toList == ([55, 46, 48, 101, 45, 52, 54] : List UInt8)) = true := beq_iff_eq.mpr c69
            have c69b1 : (t137.toList != ([55, 46, 48, 101, 45, 52, 54] : List UInt8)) = false := bne_eq_false_iff_eq.mpr c69
            clear c69
            replace H := Option.bind_eq_some_iff.mp H
            obtain ⟨⟨t139, t140⟩, A700, H⟩ := H
            try dsimp only at H
            have A70 := Aside0.mk A700
            clear A700
            replace H := Option.bind_eq_some_iff.mp H
            obtain ⟨⟨t141, t142⟩, A710, H⟩ := H
            try dsimp only at H
            have A71 := Aside0.mk A710
            clear A710
            obtain rfl := Option.some.inj H
            go_wp2_with (first | ((with_reducible refine gate_callee (f := 21) rfl ?_); refine goesL_ (some 63) rfl rfl Tryz.func21 (by kernel_rfl) rfl #[.agg #[.int .i64 (-12582912), .int .i64 (-23)]] rfl (by (try simp only [List.map_toArray, List.map_cons, List.map_nil]); first | done | rfl | (simp only [List.length_drop, List.length_take]; rfl)) ?_; (with_reducible refine (real_Entier.calls (-12582912) (-23) t127 t128 _ A57.out).mono ?_); rintro e w72 ⟨rfl, hb⟩; refine ⟨_, rfl, ?_⟩; replace BK109 := kb BK109 hb; replace BK115 := kb BK115 hb; replace BK119 := kb BK119 hb; replace HB := bs hb; (try clear hb); (try clear hb2); (try clear hk); (try clear hi)) | ((with_reducible refine gate_callee (f := 22) rfl ?_); refine goesL_ (some 68) rfl rfl Tryz.func22 (by kernel_rfl) rfl #[.agg #[.int .i64 10485760, .int .i64 (-22)]] rfl (by (try simp only [List.map_toArray, List.map_cons, List.map_nil]); first | done | rfl | (simp only [List.length_drop, List.length_take]; rfl)) ?_; (with_reducible refine (real_Round.calls 10485760 (-22) t129 t130 _ A58.out).mono ?_); rintro e w73 ⟨rfl, hb⟩; refine ⟨_, rfl, ?_⟩; replace BK109 := kb BK109 hb; replace BK115 := kb BK115 hb; replace BK119 := kb BK119 hb; replace HB := bs hb; (try clear hb); (try clear hb2); (try clear hk); (try clear hi)) | ((with_reducible refine gate_callee (f := 25) rfl ?_); refine goesL_ (some 72) rfl rfl Tryz.func25 (by kernel_rfl) rfl #[.string (⟨#[49, 101, 54, 48]⟩ : ByteArray)] rfl (by (try simp only [List.map_toArray, List.map_cons, List.map_nil]); first | done | rfl | (simp only [List.length_drop, List.length_take]; rfl)) ?_; (with_reducible refine (real_Parse.calls kj7 (⟨#[49, 101, 54, 48]⟩ : ByteArray) t131 t132 t133 _ A59.out).mono ?_); rintro e w74 ⟨rfl, hb⟩; refine ⟨_, rfl, ?_⟩; replace BK109 := kb BK109 hb; replace BK115 := kb BK115 hb; replace BK119 := kb BK119 hb; replace HB := bs hb; (try clear hb); (try clear hb2); (try clear hk); (try clear hi)) | ((with_reducible refine gate_callee (f := 17) rfl ?_); refine goesL_ (some 77) rfl rfl Tryz.func17 (by kernel_rfl) rfl #[.agg #[.int .i64 0, .int .i64 0], .int .i64 (-1)] rfl (by (try simp only [List.map_toArray, List.map_cons, List.map_nil]); first | done | rfl | (simp only [List.length_drop, List.length_take]; rfl)) ?_; (with_reducible refine (real_PowZ.calls 0 0 (-1) t134 t135 t136 _ A60.out).mono ?_); rintro e w75 ⟨rfl, hb⟩; refine ⟨_, rfl, ?_⟩; replace BK109 := kb BK109 hb; replace BK115 := kb BK115 hb; replace BK119 := kb BK119 hb; replace HB := bs hb; (try clear hb); (try clear hb2); (try clear hk); (try clear hi)) | ((with_reducible refine gate_callee (f := 27) rfl ?_); refine goesL_ (some 82) rfl rfl Tryz.func27 (by kernel_rfl) rfl #[.agg #[.int .i64 1, .int .i64 (-150)]] rfl (by (try simp only [List.map_toArray, List.map_cons, List.map_nil]); first | done | rfl | (simp only [List.length_drop, List.length_take]; rfl)) ?_; (with_reducible refine (real_Print.calls kj7 1 (-150) t137 t138 _ A61.out (tabAt HT.out bz)).mono ?_); rintro e w76 ⟨rfl, hb⟩; refine ⟨_, rfl, ?_⟩; replace BK109 := kb BK109 hb; replace BK115 := kb BK115 hb; replace BK119 := kb BK119 hb; replace HB := bs hb; (try clear hb); (try clear hb2); (try clear hk); (try clear hi)) | (go_at_call 31; (with_reducible refine (real_FromIntN.calls kj7 16777217 t139 t140 _ A70.out).mono ?_); rintro e w77 ⟨rfl, hb⟩; replace BK109 := kb BK109 hb; replace BK115 := kb BK115 hb; replace BK119 := kb BK119 hb; replace HB := bs hb; (try clear hb); (try clear hb2); (try clear hk); (try clear hi)) | (go_at_call 49; (with_reducible refine (manorboylaw02_two.calls 24 t141 t142 _ A71.out).mono ?_); rintro e w78 ⟨rfl, hb⟩; replace BK109 := kb BK109 hb; replace BK115 := kb BK115 hb; replace BK119 := kb BK119 hb; replace HB := bs hb; (try clear hb); (try clear hb2); (try clear hk); (try clear hi)))
            go_ret
            exact ⟨by first | rfl | (simp [errW_none, errW_some] <;> rfl) | (simp [*, errW_none, errW_some] <;> rfl), bz⟩
           ·rw [if_neg c69] at H
            first | exact absurd (Option.some.inj H) (by rw [hr]; decide) | exact absurd H (by rw [hr]; exact manorboylaw02_sanity.no _)
          ·rw [if_neg c68] at H
           first | exact absurd (Option.some.inj H) (by rw [hr]; decide) | exact absurd H (by rw [hr]; exact manorboylaw02_sanity.no _)
         ·rw [if_neg c67] at H
          first | exact absurd (Option.some.inj H) (by rw [hr]; decide) | exact absurd H (by rw [hr]; exact manorboylaw02_sanity.no _)
        ·rw [if_neg c66] at H
         first | exact absurd (Option.some.inj H) (by rw [hr]; decide) | exact absurd H (by rw [hr]; exact manorboylaw02_sanity.no _)
       ·rw [if_neg c65] at H
        first | exact absurd (Option.some.inj H) (by rw [hr]; decide) | exact absurd H (by rw [hr]; exact manorboylaw02_sanity.no _)
      ·rw [if_neg c64] at H
       first | exact absurd (Option.some.inj H) (by rw [hr]; decide) | exact absurd H (by rw [hr]; exact manorboylaw02_sanity.no _)
     ·rw [if_neg c63] at H
      first | exact absurd (Option.some.inj H) (by rw [hr]; decide) | exact absurd H (by rw [hr]; exact manorboylaw02_sanity.no _)
    ·rw [if_neg c62] at H
     first | exact absurd (Option.some.inj H) (by rw [hr]; decide) | exact absurd H (by rw [hr]; exact manorboylaw02_sanity.no _)
end Go.Proofs.YteigbokklclmbaaGreatDoor.Z.Y
end
section
namespace Go.Proofs.YteigbokklclmbaaGreatDoor.Z.Y
open Go.RowKit Go.Proofs.YteigbokklclmbaaGreatDoor.Given Go.Proofs.YteigbokklclmbaaGreatDoorW.PrintWords Go.Proofs.YteigbokklclmbaaGreatDoorW.PrintLast Go.Proofs.YteigbokklclmbaaGreatDoorW.PrintMore
attribute [local go_sem] max2_int min2_int max_two min_two max_three min_three max_four min_four   -- for this text's walks alone
set_option linter.unusedVariables false
set_option linter.unusedSimpArgs false

def manorboyref02_made.f (a0_0 : Int) (a0_1 : Bool) : Option (Int × Int) := if a0_1 = true then (some (a0_0, 0)) else (some (0, 3))
set_option maxHeartbeats 8000000 in
set_option maxRecDepth 100000 in
theorem manorboyref02_made.calls (a0_0 : Int) (a0_1 : Bool) (r1 : Int) (r2 : Int) (w : World) (h : manorboyref02_made.f a0_0 a0_1 = some (r1, r2)) :
  Calls Tryz.prog 74 #[.agg #[.int .i64 a0_0, .bool a0_1]] w fun e w' => e = .returned (.agg #[.int .i64 r1, .int .i64 r2]) ∧ Below w.heap.size w w' := by
 have hu82 := Tryz.underlying82
 have hu36 := Tryz.underlying36
 have HB := Aside0.mk (Below.refl w.heap.size w)
 have H : (if a0_1 = true then (some (a0_0, 0)) else (some (0, 3))) = some (r1, r2) := h
 clear h
 by_cases c2 : a0_1 = true
 ·subst c2
  have H1 : (some (a0_0, 0)) = some (r1, r2) := by rw [if_pos rfl] at H; exact H
  clear H
  have H := H1
  clear H1
  simp only [Option.some.injEq, Prod.mk.injEq] at H
  obtain ⟨rfl, rfl⟩ := H
  go_enter Tryz.func74, Tryz.ntmps74
  go_wp2_with (first | ((with_reducible refine gate_dst (N := 1) rfl ?_); refine box_event ?hg (N := 1) ?hd (cs := #[.int .i64 a0_0, .bool true]) (t := 82) ?hr ?_; (case hd => rfl); (case hg => rfl); (case hr => first | (go_simp; done) | (go_simp; rfl)); intro gb143 hg w3 hbox hb; have BK143 := Aside0.mk hbox; have GW143 := ge hg; have GE143 := ge hg; replace HB := bs hb; clear hb hbox hg) | ((with_reducible refine gate_dst (N := 2) rfl ?_); refine box_event ?hg (N := 2) ?hd (cs := #[.int .i64 0, .int .i64 0]) (t := 36) ?hr ?_; (case hd => rfl); (case hg => rfl); (case hr => first | (go_simp; done) | (go_simp; rfl)); intro gb144 hg w4 hbox hb; have BK144 := Aside0.mk hbox; have GW144 := ge hg; have GE144 := ge hg; have NB143_144 := nl BK143 hg; have NB144_143 := nr BK143 hg; replace BK143 := kb BK143 hb; replace HB := bs hb; clear hb hbox hg; have hnb5 := NB143_144.out; have hnc5 := NB144_143.out; have hcz6_0 := c20 BK143; have hcz6_1 := c21 BK143; have hfz6_0 := blk_frozen BK143.out 0; have hfz6_1 := blk_frozen BK143.out 1; have hcz7_0 := c20 BK144; have hcz7_1 := c21 BK144; have hfz7_0 := blk_frozen BK144.out 0; have hfz7_1 := blk_frozen BK144.out 1))
  refine bodyPost_ret (results_cell_row rfl _ _ gb144 36 #[.int .i64 a0_0, .int .i64 0] (0, 0) _ rfl (by (with_reducible repeat (first | refine blk_drewN ?_ _ | refine blk_drew ?_ | refine blk_alloc ?_ _)); refine blk_put (cs := #[.int .i64 a0_0, .int .i64 0]) ?_ 1 _ rfl; (with_reducible repeat (first | refine blk_drewN ?_ _ | refine blk_drew ?_ | refine blk_alloc ?_ _)); refine blk_put (cs := #[.int .i64 0, .int .i64 0]) ?_ 0 _ rfl; (with_reducible repeat (first | refine blk_drewN ?_ _ | refine blk_drew ?_ | refine blk_alloc ?_ _)); exact BK144.out) Tryz.underlying36 rfl (by kernel_rfl)) rfl ?_
  exact ⟨by first | rfl | (simp [errW_none, errW_some] <;> rfl) | (simp [*, errW_none, errW_some] <;> rfl), bz⟩
 ·replace c2 := Bool.eq_false_iff.mpr c2
  subst c2
  have H1 : (some (0, 3)) = some (r1, r2) := by rw [if_neg (show ¬ (false = true) by decide)] at H; exact H
  clear H
  have H := H1
  clear H1
  simp only [Option.some.injEq, Prod.mk.injEq] at H
  obtain ⟨rfl, rfl⟩ := H
  go_enter Tryz.func74, Tryz.ntmps74
  go_wp2_with (first | ((with_reducible refine gate_dst (N := 1) rfl ?_); refine box_event ?hg (N := 1) ?hd (cs := #[.int .i64 a0_0, .bool false]) (t := 82) ?hr ?_; (case hd => rfl); (case hg => rfl); (case hr => first | (go_simp; done) | (go_simp; rfl)); intro gb143 hg w8 hbox hb; have BK143 := Aside0.mk hbox; have GW143 := ge hg; have GE143 := ge hg; replace HB := bs hb; clear hb hbox hg) | ((with_reducible refine gate_dst (N := 2) rfl ?_); refine box_event ?hg (N := 2) ?hd (cs := #[.int .i64 0, .int .i64 0]) (t := 36) ?hr ?_; (case hd => rfl); (case hg => rfl); (case hr => first | (go_simp; done) | (go_simp; rfl)); intro gb144 hg w9 hbox hb; have BK144 := Aside0.mk hbox; have GW144 := ge hg; have GE144 := ge hg; have NB143_144 := nl BK143 hg; have NB144_143 := nr BK143 hg; replace BK143 := kb BK143 hb; replace HB := bs hb; clear hb hbox hg; have hnb10 := NB143_144.out; have hnc10 := NB144_143.out; have hcz11_0 := c20 BK143; have hcz11_1 := c21 BK143; have hfz11_0 := blk_frozen BK143.out 0; have hfz11_1 := blk_frozen BK143.out 1; have hcz12_0 := c20 BK144; have hcz12_1 := c21 BK144; have hfz12_0 := blk_frozen BK144.out 0; have hfz12_1 := blk_frozen BK144.out 1))
  refine bodyPost_ret (results_cell_row rfl _ _ gb144 36 #[.int .i64 0, .int .i64 3] (0, 0) _ rfl (by (with_reducible repeat (first | refine blk_drewN ?_ _ | refine blk_drew ?_ | refine blk_alloc ?_ _)); refine blk_put (cs := #[.int .i64 0, .int .i64 0]) ?_ 1 _ rfl; (with_reducible repeat (first | refine blk_drewN ?_ _ | refine blk_drew ?_ | refine blk_alloc ?_ _)); refine blk_put (cs := #[.int .i64 0, .int .i64 0]) ?_ 0 _ rfl; (with_reducible repeat (first | refine blk_drewN ?_ _ | refine blk_drew ?_ | refine blk_alloc ?_ _)); exact BK144.out) Tryz.underlying36 rfl (by kernel_rfl)) rfl ?_
  exact ⟨by first | rfl | (simp [errW_none, errW_some] <;> rfl) | (simp [*, errW_none, errW_some] <;> rfl), bz⟩

mutual
def manorboyref02_floor.l0 : Nat → Int → Int → Int → Option (Int × Bool)
 | 0, _, _, _ => none
 | k + 1, x0, x1, x5 => if x5 < x1 then (manorboyref02_floor.l0 k (wrap64 (x0 * 2)) x1 (wrap64 (x5 + 1))) else (manorboyref02_floor.l1 k x0 x1 0)
def manorboyref02_floor.l1 : Nat → Int → Int → Int → Option (Int × Bool)
 | 0, _, _, _ => none
 | k + 1, x0, x1, x6 => if x6 > x1 then (if (Int.tmod x0 2) = 0 then (manorboyref02_floor.l1 k (wrap64 (Int.tdiv x0 2)) x1 (wrap64 (x6 - 1))) else (if x0 < 0 then (manorboyref02_floor.l1 k (wrap64 (Int.tdiv (wrap64 (x0 - 1)) 2)) x1 (wrap64 (x6 - 1))) else (manorboyref02_floor.l1 k (wrap64 (Int.tdiv x0 2)) x1 (wrap64 (x6 - 1))))) else (if x0 < (-2147483647) then (some (0, false)) else (if x0 > 2147483647 then (some (0, false)) else (some (x0, true))))
end
def manorboyref02_floor.f (k : Nat) (a0 : Int) (a1 : Int) : Option (Int × Bool) := if a0 = 0 then (some (0, true)) else (if a1 > 8 then (some (0, false)) else (manorboyref02_floor.l0 k a0 a1 0))
theorem manorboyref02_floor.mono_l : ∀ k, (∀ y0 y1 y2, LeO (manorboyref02_floor.l0 k y0 y1 y2) (manorboyref02_floor.l0 (k + 1) y0 y1 y2)) ∧ (∀ y0 y1 y2, LeO (manorboyref02_floor.l1 k y0 y1 y2) (manorboyref02_floor.l1 (k + 1) y0 y1 y2))
 | 0 => ⟨fun _ _ _ r h => by simp [manorboyref02_floor.l0] at h, fun _ _ _ r h => by simp [manorboyref02_floor.l1] at h⟩
 | k + 1 => by
  obtain ⟨ih0, ih1⟩ := manorboyref02_floor.mono_l k
  refine ⟨?_, ?_⟩
  ·intro y0 y1 y2
   unfold manorboyref02_floor.l0
   repeat' first
   | (with_reducible exact ih0 _ _ _)
   | (with_reducible exact ih1 _ _ _)
   | (with_reducible exact LeO.refl _)
   | (with_reducible exact LeO.none _)
   | (with_reducible refine LeO.ite ?_ ?_)
   | (with_reducible refine LeO.bind ?_ (fun _ => ?_))
   | exact ih0 _ _ _
   | exact ih1 _ _ _
   | exact LeO.none _
   | refine LeO.ite ?_ ?_
   | refine LeO.bind ?_ (fun _ => ?_)
  ·intro y0 y1 y2
   unfold manorboyref02_floor.l1
   repeat' first
   | (with_reducible exact ih0 _ _ _)
   | (with_reducible exact ih1 _ _ _)
   | (with_reducible exact LeO.refl _)
   | (with_reducible exact LeO.none _)
   | (with_reducible refine LeO.ite ?_ ?_)
   | (with_reducible refine LeO.bind ?_ (fun _ => ?_))
   | exact ih0 _ _ _
   | exact ih1 _ _ _
   | exact LeO.none _
   | refine LeO.ite ?_ ?_
   | refine LeO.bind ?_ (fun _ => ?_)
theorem manorboyref02_floor.mono : ∀ a0 a1 k, LeO (manorboyref02_floor.f k a0 a1) (manorboyref02_floor.f (k + 1) a0 a1) := by
 intro a0 a1 k
 obtain ⟨ih0, ih1⟩ := manorboyref02_floor.mono_l k
 unfold manorboyref02_floor.f
 repeat' first
   | (with_reducible exact ih0 _ _ _)
   | (with_reducible exact ih1 _ _ _)
   | (with_reducible exact LeO.refl _)
   | (with_reducible exact LeO.none _)
   | (with_reducible refine LeO.ite ?_ ?_)
   | (with_reducible refine LeO.bind ?_ (fun _ => ?_))
   | exact ih0 _ _ _
   | exact ih1 _ _ _
   | exact LeO.none _
   | refine LeO.ite ?_ ?_
   | refine LeO.bind ?_ (fun _ => ?_)
set_option maxHeartbeats 8000000 in
set_option maxRecDepth 100000 in
theorem manorboyref02_floor.calls (k : Nat) (a0 : Int) (a1 : Int) (r1 : Int) (r2 : Bool) (w : World) (h : manorboyref02_floor.f k a0 a1 = some (r1, r2)) :
  Calls Tryz.prog 75 #[.int .i64 a0, .int .i64 a1] w fun e w' => e = .returned (.agg #[.int .i64 r1, .bool r2]) ∧ Below w.heap.size w w' := by
 have hu82 := Tryz.underlying82
 have HB := Aside0.mk (Below.refl w.heap.size w)
 have H : (if a0 = 0 then (some (0, true)) else (if a1 > 8 then (some (0, false)) else (manorboyref02_floor.l0 k a0 a1 0))) = some (r1, r2) := h
 clear h
 by_cases c3 : a0 = 0
 ·rw [if_pos c3] at H
  have c3b0 : (a0 == 0) = true := beq_iff_eq.mpr c3
  have c3b1 : (a0 != 0) = false := bne_eq_false_iff_eq.mpr c3
  clear c3
  simp only [Option.some.injEq, Prod.mk.injEq] at H
  obtain ⟨rfl, rfl⟩ := H
  go_enter Tryz.func75, Tryz.ntmps75
  go_wp2_with (first | ((with_reducible refine gate_dst (N := 4) rfl ?_); refine box_event ?hg (N := 4) ?hd (cs := #[.int .i64 0, .bool false]) (t := 82) ?hr ?_; (case hd => rfl); (case hg => rfl); (case hr => first | (go_simp; done) | (go_simp; rfl)); intro gb145 hg w4 hbox hb; have BK145 := Aside0.mk hbox; have GW145 := ge hg; have GE145 := ge hg; replace HB := bs hb; clear hb hbox hg; have hcz5_0 := c20 BK145; have hcz5_1 := c21 BK145; have hfz5_0 := blk_frozen BK145.out 0; have hfz5_1 := blk_frozen BK145.out 1))
  refine bodyPost_ret (results_cell_row rfl _ _ gb145 82 #[.int .i64 0, .bool true] (0, 0) _ rfl (by (with_reducible repeat (first | refine blk_drewN ?_ _ | refine blk_drew ?_ | refine blk_alloc ?_ _)); refine blk_put (cs := #[.int .i64 0, .bool false]) ?_ 1 _ rfl; (with_reducible repeat (first | refine blk_drewN ?_ _ | refine blk_drew ?_ | refine blk_alloc ?_ _)); refine blk_put (cs := #[.int .i64 0, .bool false]) ?_ 0 _ rfl; (with_reducible repeat (first | refine blk_drewN ?_ _ | refine blk_drew ?_ | refine blk_alloc ?_ _)); exact BK145.out) Tryz.underlying82 rfl (by kernel_rfl)) rfl ?_
  exact ⟨by first | rfl | (simp [errW_none, errW_some] <;> rfl) | (simp [*, errW_none, errW_some] <;> rfl), bz⟩
 ·rw [if_neg c3] at H
  have c3b0 : (a0 == 0) = false := beq_eq_false_iff_ne.mpr c3
  have c3b1 : (a0 != 0) = true := bne_iff_ne.mpr c3
  by_cases c6 : a1 > 8
  ·rw [if_pos c6] at H
   have c6b0 : decide (8 < a1) = true := decide_eq_true c6
   clear c6
   simp only [Option.some.injEq, Prod.mk.injEq] at H
   obtain ⟨rfl, rfl⟩ := H
   go_enter Tryz.func75, Tryz.ntmps75
   go_wp2_with (first | ((with_reducible refine gate_dst (N := 4) rfl ?_); refine box_event ?hg (N := 4) ?hd (cs := #[.int .i64 0, .bool false]) (t := 82) ?hr ?_; (case hd => rfl); (case hg => rfl); (case hr => first | (go_simp; done) | (go_simp; rfl)); intro gb145 hg w7 hbox hb; have BK145 := Aside0.mk hbox; have GW145 := ge hg; have GE145 := ge hg; replace HB := bs hb; clear hb hbox hg; have hcz8_0 := c20 BK145; have hcz8_1 := c21 BK145; have hfz8_0 := blk_frozen BK145.out 0; have hfz8_1 := blk_frozen BK145.out 1))
   refine bodyPost_ret (results_cell_row rfl _ _ gb145 82 #[.int .i64 0, .bool false] (0, 0) _ rfl (by (with_reducible repeat (first | refine blk_drewN ?_ _ | refine blk_drew ?_ | refine blk_alloc ?_ _)); refine blk_put (cs := #[.int .i64 0, .bool false]) ?_ 1 _ rfl; (with_reducible repeat (first | refine blk_drewN ?_ _ | refine blk_drew ?_ | refine blk_alloc ?_ _)); refine blk_put (cs := #[.int .i64 0, .bool false]) ?_ 0 _ rfl; (with_reducible repeat (first | refine blk_drewN ?_ _ | refine blk_drew ?_ | refine blk_alloc ?_ _)); exact BK145.out) Tryz.underlying82 rfl (by kernel_rfl)) rfl ?_
   exact ⟨by first | rfl | (simp [errW_none, errW_some] <;> rfl) | (simp [*, errW_none, errW_some] <;> rfl), bz⟩
  ·rw [if_neg c6] at H
   have c6b0 : decide (8 < a1) = false := decide_eq_false c6
   clear c6
   have H' := Aside0.mk H
   clear H
   go_enter Tryz.func75, Tryz.ntmps75
   go_wp2_with (first | ((with_reducible refine gate_dst (N := 4) rfl ?_); refine box_event ?hg (N := 4) ?hd (cs := #[.int .i64 0, .bool false]) (t := 82) ?hr ?_; (case hd => rfl); (case hg => rfl); (case hr => first | (go_simp; done) | (go_simp; rfl)); intro gb145 hg w9 hbox hb; have BK145 := Aside0.mk hbox; have GW145 := ge hg; have GE145 := ge hg; replace HB := bs hb; clear hb hbox hg))
   go_loopg [0, 5] k (fun kq v0 v5 w' => ∃ (x0_1 : Int) (x5_1 : Int), v0 = .int .i64 x0_1 ∧ v5 = .int .i64 x5_1 ∧ Aside0 (manorboyref02_floor.l0 kq x0_1 a1 x5_1 = some (r1, r2)) ∧ Aside0 (kq ≤ k) ∧ Aside0 (w'.heap[gb145]? = some (.cells #[.int .i64 0, .bool false] 82 (0, 0))) ∧ Aside0 (Below w.heap.size w w'))
   case atStart => exact ⟨(a0), (0), (by first | rfl | (simp; done) | (simp [*]; done)), (by first | rfl | (simp; done) | (simp [*]; done)), H', ⟨Nat.le_refl _⟩, ⟨kz BK145⟩, ⟨bz⟩⟩
   case round =>
    clear H'
    try clear p2
    try clear c3
    try clear c3b0
    try clear c3b1
    try clear c6
    try clear c6b0
    try clear c7
    try clear hcz5_0
    try clear hcz5_1
    try clear hcz8_0
    try clear hcz8_1
    try clear hfz5_0
    try clear hfz5_1
    try clear hfz8_0
    try clear hfz8_1
    obtain ⟨x0_1, x5_1, rfl, rfl, HA, HK1, BK145, HB⟩ := hrel
    cases gk with
    | zero => exact absurd HA.out (by simp [manorboyref02_floor.l0])
    | succ k1 =>
     have H := HA.out
     clear HA
     simp only [manorboyref02_floor.l0] at H
     by_cases c10 : x5_1 < a1
     ·rw [if_pos c10] at H
      have c10b0 : decide (x5_1 < a1) = true := decide_eq_true c10
      clear c10
      have H' := Aside0.mk H
      clear H
      go_wp2
      go_roundg k1
      case measure => have := HK1.out; omega
      case rel => exact ⟨(wrap64 (x0_1 * 2)), (wrap64 (x5_1 + 1)), (by first | rfl | (simp; done) | (simp [*]; done)), (by first | rfl | (simp; done) | (simp [*]; done)), H', ⟨by have := HK1.out; omega⟩, ⟨kz BK145⟩, ⟨bz⟩⟩
     ·rw [if_neg c10] at H
      have c10b0 : decide (x5_1 < a1) = false := decide_eq_false c10
      clear c10
      have H' := Aside0.mk H
      clear H
      go_wp2
      go_loopg [0, 6] k1 (fun kq v0 v6 w' => ∃ (x0_2 : Int) (x6_2 : Int), v0 = .int .i64 x0_2 ∧ v6 = .int .i64 x6_2 ∧ Aside0 (manorboyref02_floor.l1 kq x0_2 a1 x6_2 = some (r1, r2)) ∧ Aside0 (kq ≤ k1) ∧ Aside0 (w'.heap[gb145]? = some (.cells #[.int .i64 0, .bool false] 82 (0, 0))) ∧ Aside0 (Below w.heap.size w w'))
      case atStart => exact ⟨(x0_1), (0), (by first | rfl | (simp; done) | (simp [*]; done)), (by first | rfl | (simp; done) | (simp [*]; done)), H', ⟨Nat.le_refl _⟩, ⟨kz BK145⟩, ⟨bz⟩⟩
      case round =>
       clear H'
       try clear c1
       try clear p2
       try clear c3
       try clear c3b0
       try clear c3b1
       try clear c6
       try clear c6b0
       try clear p6
       try clear c7
       try clear c10
       try clear c10b0
       try clear hcz5_0
       try clear hcz5_1
       try clear hcz8_0
       try clear hcz8_1
       try clear hfz5_0
       try clear hfz5_1
       try clear hfz8_0
       try clear hfz8_1
       try clear p2
       obtain ⟨x0_2, x6_2, rfl, rfl, HA, HK2, BK145, HB⟩ := hrel
       cases gk with
       | zero => exact absurd HA.out (by simp [manorboyref02_floor.l1])
       | succ k2 =>
        have H := HA.out
        clear HA
        simp only [manorboyref02_floor.l1] at H
        by_cases c11 : x6_2 > a1
        ·rw [if_pos c11] at H
         have c11b0 : decide (a1 < x6_2) = true := decide_eq_true c11
         clear c11
         by_cases c12 : (Int.tmod x0_2 2) = 0
         ·rw [if_pos c12] at H
          have c12b0 : ((Int.tmod x0_2 2) == 0) = true := beq_iff_eq.mpr c12
          have c12b1 : ((Int.tmod x0_2 2) != 0) = false := bne_eq_false_iff_eq.mpr c12
          clear c12
          have H' := Aside0.mk H
          clear H
          go_wp2
          go_roundg k2
          case measure => have := HK1.out; have := HK2.out; omega
          case rel => exact ⟨(wrap64 (Int.tdiv x0_2 2)), (wrap64 (x6_2 - 1)), (by first | rfl | (simp; done) | (simp [*]; done)), (by first | rfl | (simp; done) | (simp [*]; done)), H', ⟨by have := HK1.out; have := HK2.out; omega⟩, ⟨kz BK145⟩, ⟨bz⟩⟩
         ·rw [if_neg c12] at H
          have c12b0 : ((Int.tmod x0_2 2) == 0) = false := beq_eq_false_iff_ne.mpr c12
          have c12b1 : ((Int.tmod x0_2 2) != 0) = true := bne_iff_ne.mpr c12
          by_cases c13 : x0_2 < 0
          ·rw [if_pos c13] at H
           have c13b0 : decide (x0_2 < 0) = true := decide_eq_true c13
           clear c13
           have H' := Aside0.mk H
           clear H
           go_wp2
           go_roundg k2
           case measure => have := HK1.out; have := HK2.out; omega
           case rel => exact ⟨(wrap64 (Int.tdiv (wrap64 (x0_2 - 1)) 2)), (wrap64 (x6_2 - 1)), (by first | rfl | (simp; done) | (simp [*]; done)), (by first | rfl | (simp; done) | (simp [*]; done)), H', ⟨by have := HK1.out; have := HK2.out; omega⟩, ⟨kz BK145⟩, ⟨bz⟩⟩
          ·rw [if_neg c13] at H
           have c13b0 : decide (x0_2 < 0) = false := decide_eq_false c13
           clear c13
           have H' := Aside0.mk H
           clear H
           go_wp2
           go_roundg k2
           case measure => have := HK1.out; have := HK2.out; omega
           case rel => exact ⟨(wrap64 (Int.tdiv x0_2 2)), (wrap64 (x6_2 - 1)), (by first | rfl | (simp; done) | (simp [*]; done)), (by first | rfl | (simp; done) | (simp [*]; done)), H', ⟨by have := HK1.out; have := HK2.out; omega⟩, ⟨kz BK145⟩, ⟨bz⟩⟩
        ·rw [if_neg c11] at H
         have c11b0 : decide (a1 < x6_2) = false := decide_eq_false c11
         clear c11
         by_cases c14 : x0_2 < (-2147483647)
         ·rw [if_pos c14] at H
          have c14b0 : decide (x0_2 < (-2147483647)) = true := decide_eq_true c14
          clear c14
          simp only [Option.some.injEq, Prod.mk.injEq] at H
          obtain ⟨rfl, rfl⟩ := H
          have hcz15_0 := c20 BK145
          have hcz15_1 := c21 BK145
          have hfz15_0 := blk_frozen BK145.out 0
          have hfz15_1 := blk_frozen BK145.out 1
          go_wp2
          refine bodyPost_ret (results_cell_row rfl _ _ gb145 82 #[.int .i64 0, .bool false] (0, 0) _ rfl (by (with_reducible repeat (first | refine blk_drewN ?_ _ | refine blk_drew ?_ | refine blk_alloc ?_ _)); refine blk_put (cs := #[.int .i64 0, .bool false]) ?_ 1 _ rfl; (with_reducible repeat (first | refine blk_drewN ?_ _ | refine blk_drew ?_ | refine blk_alloc ?_ _)); refine blk_put (cs := #[.int .i64 0, .bool false]) ?_ 0 _ rfl; (with_reducible repeat (first | refine blk_drewN ?_ _ | refine blk_drew ?_ | refine blk_alloc ?_ _)); exact BK145.out) Tryz.underlying82 rfl (by kernel_rfl)) rfl ?_
          exact ⟨by first | rfl | (simp [errW_none, errW_some] <;> rfl) | (simp [*, errW_none, errW_some] <;> rfl), bz⟩
         ·rw [if_neg c14] at H
          have c14b0 : decide (x0_2 < (-2147483647)) = false := decide_eq_false c14
          clear c14
          by_cases c16 : x0_2 > 2147483647
          ·rw [if_pos c16] at H
           have c16b0 : decide (2147483647 < x0_2) = true := decide_eq_true c16
           clear c16
           simp only [Option.some.injEq, Prod.mk.injEq] at H
           obtain ⟨rfl, rfl⟩ := H
           have hcz17_0 := c20 BK145
           have hcz17_1 := c21 BK145
           have hfz17_0 := blk_frozen BK145.out 0
           have hfz17_1 := blk_frozen BK145.out 1
           go_wp2
           refine bodyPost_ret (results_cell_row rfl _ _ gb145 82 #[.int .i64 0, .bool false] (0, 0) _ rfl (by (with_reducible repeat (first | refine blk_drewN ?_ _ | refine blk_drew ?_ | refine blk_alloc ?_ _)); refine blk_put (cs := #[.int .i64 0, .bool false]) ?_ 1 _ rfl; (with_reducible repeat (first | refine blk_drewN ?_ _ | refine blk_drew ?_ | refine blk_alloc ?_ _)); refine blk_put (cs := #[.int .i64 0, .bool false]) ?_ 0 _ rfl; (with_reducible repeat (first | refine blk_drewN ?_ _ | refine blk_drew ?_ | refine blk_alloc ?_ _)); exact BK145.out) Tryz.underlying82 rfl (by kernel_rfl)) rfl ?_
           exact ⟨by first | rfl | (simp [errW_none, errW_some] <;> rfl) | (simp [*, errW_none, errW_some] <;> rfl), bz⟩
          ·rw [if_neg c16] at H
           have c16b0 : decide (2147483647 < x0_2) = false := decide_eq_false c16
           clear c16
           simp only [Option.some.injEq, Prod.mk.injEq] at H
           obtain ⟨rfl, rfl⟩ := H
           have hcz18_0 := c20 BK145
           have hcz18_1 := c21 BK145
           have hfz18_0 := blk_frozen BK145.out 0
           have hfz18_1 := blk_frozen BK145.out 1
           go_wp2
           refine bodyPost_ret (results_cell_row rfl _ _ gb145 82 #[.int .i64 x0_2, .bool true] (0, 0) _ rfl (by (with_reducible repeat (first | refine blk_drewN ?_ _ | refine blk_drew ?_ | refine blk_alloc ?_ _)); refine blk_put (cs := #[.int .i64 x0_2, .bool false]) ?_ 1 _ rfl; (with_reducible repeat (first | refine blk_drewN ?_ _ | refine blk_drew ?_ | refine blk_alloc ?_ _)); refine blk_put (cs := #[.int .i64 0, .bool false]) ?_ 0 _ rfl; (with_reducible repeat (first | refine blk_drewN ?_ _ | refine blk_drew ?_ | refine blk_alloc ?_ _)); exact BK145.out) Tryz.underlying82 rfl (by kernel_rfl)) rfl ?_
           exact ⟨by first | rfl | (simp [errW_none, errW_some] <;> rfl) | (simp [*, errW_none, errW_some] <;> rfl), bz⟩

def manorboyref02_Entier.f (k : Nat) (a0_0 : Int) (a0_1 : Int) : Option (Int × Int) := (manorboyref02_floor.f k a0_0 a0_1).bind fun bt148 => ((manorboyref02_made.f bt148.1 bt148.2).bind fun bt150 => (some (bt150.1, bt150.2)))
theorem manorboyref02_Entier.mono : ∀ a0 a1 k, LeO (manorboyref02_Entier.f k a0 a1) (manorboyref02_Entier.f (k + 1) a0 a1) := by
 intro a0 a1 k
 unfold manorboyref02_Entier.f
 repeat' first
   | (with_reducible exact manorboyref02_floor.mono _ _ _)
   | (with_reducible exact LeO.refl _)
   | (with_reducible exact LeO.none _)
   | (with_reducible refine LeO.ite ?_ ?_)
   | (with_reducible refine LeO.bind ?_ (fun _ => ?_))
   | exact manorboyref02_floor.mono _ _ _
   | exact LeO.none _
   | refine LeO.ite ?_ ?_
   | refine LeO.bind ?_ (fun _ => ?_)
set_option maxHeartbeats 8000000 in
set_option maxRecDepth 100000 in
theorem manorboyref02_Entier.calls (k : Nat) (a0_0 : Int) (a0_1 : Int) (r1 : Int) (r2 : Int) (w : World) (h : manorboyref02_Entier.f k a0_0 a0_1 = some (r1, r2)) :
  Calls Tryz.prog 23 #[.agg #[.int .i64 a0_0, .int .i64 a0_1]] w fun e w' => e = .returned (.agg #[.int .i64 r1, .int .i64 r2]) ∧ Below w.heap.size w w' := by
 have hu23 := Tryz.underlying23
 have hu36 := Tryz.underlying36
 have HB := Aside0.mk (Below.refl w.heap.size w)
 have H : ((manorboyref02_floor.f k a0_0 a0_1).bind fun bt148 => ((manorboyref02_made.f bt148.1 bt148.2).bind fun bt150 => (some (bt150.1, bt150.2)))) = some (r1, r2) := h
 clear h
 replace H := Option.bind_eq_some_iff.mp H
 obtain ⟨⟨t148, t149⟩, A20, H⟩ := H
 replace H : ((manorboyref02_made.f t148 t149).bind fun bt150 => (some (bt150.1, bt150.2))) = some (r1, r2) := H
 have A2 := Aside0.mk A20
 clear A20
 replace H := Option.bind_eq_some_iff.mp H
 obtain ⟨⟨t150, t151⟩, A30, H⟩ := H
 replace H : (some (t150, t151)) = some (r1, r2) := H
 have A3 := Aside0.mk A30
 clear A30
 simp only [Option.some.injEq, Prod.mk.injEq] at H
 obtain ⟨rfl, rfl⟩ := H
 go_enter Tryz.func23, Tryz.ntmps23
 go_wp2_with (first | ((with_reducible refine gate_dst (N := 1) rfl ?_); refine box_event ?hg (N := 1) ?hd (cs := #[.int .i64 a0_0, .int .i64 a0_1]) (t := 23) ?hr ?_; (case hd => rfl); (case hg => rfl); (case hr => first | (go_simp; done) | (go_simp; rfl)); intro gb146 hg w4 hbox hb; have BK146 := Aside0.mk hbox; have GW146 := ge hg; have GE146 := ge hg; replace HB := bs hb; clear hb hbox hg) | ((with_reducible refine gate_dst (N := 2) rfl ?_); refine box_event ?hg (N := 2) ?hd (cs := #[.int .i64 0, .int .i64 0]) (t := 36) ?hr ?_; (case hd => rfl); (case hg => rfl); (case hr => first | (go_simp; done) | (go_simp; rfl)); intro gb147 hg w5 hbox hb; have BK147 := Aside0.mk hbox; have GW147 := ge hg; have GE147 := ge hg; have NB146_147 := nl BK146 hg; have NB147_146 := nr BK146 hg; replace BK146 := kb BK146 hb; replace HB := bs hb; clear hb hbox hg; have hnb6 := NB146_147.out; have hnc6 := NB147_146.out; have hcz7_0 := c20 BK146; have hcz7_1 := c21 BK146; have hfz7_0 := blk_frozen BK146.out 0; have hfz7_1 := blk_frozen BK146.out 1) | ((with_reducible refine gate_callee (f := 75) rfl ?_); refine goesL_ (some 7) rfl rfl Tryz.func75 (by kernel_rfl) rfl #[.int .i64 a0_0, .int .i64 a0_1] rfl (by (try simp only [List.map_toArray, List.map_cons, List.map_nil]); first | done | rfl | (simp only [List.length_drop, List.length_take]; rfl)) ?_; (with_reducible refine (manorboyref02_floor.calls k a0_0 a0_1 t148 t149 _ A2.out).mono ?_); rintro e w8 ⟨rfl, hb⟩; refine ⟨_, rfl, ?_⟩; replace BK146 := kb BK146 hb; replace BK147 := kb BK147 hb; replace HB := bs hb; (try clear hb); (try clear hb2); (try clear hk); (try clear hi)) | ((with_reducible refine gate_callee (f := 74) rfl ?_); refine goesL_ (some 8) rfl rfl Tryz.func74 (by kernel_rfl) rfl #[.agg #[.int .i64 t148, .bool t149]] rfl (by (try simp only [List.map_toArray, List.map_cons, List.map_nil]); first | done | rfl | (simp only [List.length_drop, List.length_take]; rfl)) ?_; (with_reducible refine (manorboyref02_made.calls t148 t149 t150 t151 _ A3.out).mono ?_); rintro e w9 ⟨rfl, hb⟩; refine ⟨_, rfl, ?_⟩; replace BK146 := kb BK146 hb; replace BK147 := kb BK147 hb; replace HB := bs hb; (try clear hb); (try clear hb2); (try clear hk); (try clear hi); have hcz10_0 := c20 BK147; have hcz10_1 := c21 BK147; have hfz10_0 := blk_frozen BK147.out 0; have hfz10_1 := blk_frozen BK147.out 1))
 refine bodyPost_ret (results_cell_row rfl _ _ gb147 36 #[.int .i64 t150, .int .i64 t151] (0, 0) _ rfl (by (with_reducible repeat (first | refine blk_drewN ?_ _ | refine blk_drew ?_ | refine blk_alloc ?_ _)); refine blk_put (cs := #[.int .i64 t150, .int .i64 0]) ?_ 1 _ rfl; (with_reducible repeat (first | refine blk_drewN ?_ _ | refine blk_drew ?_ | refine blk_alloc ?_ _)); refine blk_put (cs := #[.int .i64 0, .int .i64 0]) ?_ 0 _ rfl; (with_reducible repeat (first | refine blk_drewN ?_ _ | refine blk_drew ?_ | refine blk_alloc ?_ _)); exact BK147.out) Tryz.underlying36 rfl (by kernel_rfl)) rfl ?_
 exact ⟨by first | rfl | (simp [errW_none, errW_some] <;> rfl) | (simp [*, errW_none, errW_some] <;> rfl), bz⟩

end Go.Proofs.YteigbokklclmbaaGreatDoor.Z.Y
end
section
namespace Go.Proofs.YteigbokklclmbaaGreatDoor.Z.Y
open Go.RowKit Go.Proofs.YteigbokklclmbaaGreatDoor.Given Go.Proofs.YteigbokklclmbaaGreatDoorW.PrintWords Go.Proofs.YteigbokklclmbaaGreatDoorW.PrintLast Go.Proofs.YteigbokklclmbaaGreatDoorW.PrintMore
attribute [local go_sem] max2_int min2_int max_two min_two max_three min_three max_four min_four   -- for this text's walks alone
set_option linter.unusedVariables false
set_option linter.unusedSimpArgs false

mutual
def manorboyref02_Rounds.j0 : Nat → Bool → Int → Int → Option (Int × Int)
 | 0, _, _, _ => none
 | k + 1, x12, x153000, x153001 => if x12 = true then (if x153001 < (-40) then (some (0, 0)) else ((manorboyref02_Entier.f k x153000 x153001).bind fun bt154 => (some (bt154.1, bt154.2)))) else (manorboyref02_Rounds.l0 k 1 (-1) x153000 x153001)
def manorboyref02_Rounds.l0 : Nat → Int → Int → Int → Int → Option (Int × Int)
 | 0, _, _, _, _ => none
 | k + 1, x3, x4, x153000, x153001 => if x4 > x153001 then (manorboyref02_Rounds.l0 k (wrap64 (x3 * 2)) (wrap64 (x4 - 1)) x153000 x153001) else ((manorboyref02_floor.f k (wrap64 (x153000 + x3)) x153001).bind fun bt156 => ((manorboyref02_made.f bt156.1 bt156.2).bind fun bt158 => (some (bt158.1, bt158.2))))
end
def manorboyref02_Rounds.f (k : Nat) (a0_0 : Int) (a0_1 : Int) : Option (Int × Int) := if a0_1 ≥ 0 then (manorboyref02_Rounds.j0 k true a0_0 a0_1) else (manorboyref02_Rounds.j0 k (decide (a0_1 < (-40))) a0_0 a0_1)
theorem manorboyref02_Rounds.mono_l : ∀ k, (∀ y0 y1 y2, LeO (manorboyref02_Rounds.j0 k y0 y1 y2) (manorboyref02_Rounds.j0 (k + 1) y0 y1 y2)) ∧ (∀ y0 y1 y2 y3, LeO (manorboyref02_Rounds.l0 k y0 y1 y2 y3) (manorboyref02_Rounds.l0 (k + 1) y0 y1 y2 y3))
 | 0 => ⟨fun _ _ _ r h => by simp [manorboyref02_Rounds.j0] at h, fun _ _ _ _ r h => by simp [manorboyref02_Rounds.l0] at h⟩
 | k + 1 => by
  obtain ⟨ih0, ih1⟩ := manorboyref02_Rounds.mono_l k
  refine ⟨?_, ?_⟩
  ·intro y0 y1 y2
   unfold manorboyref02_Rounds.j0
   repeat' first
   | (with_reducible exact ih0 _ _ _)
   | (with_reducible exact ih1 _ _ _ _)
   | (with_reducible exact manorboyref02_Entier.mono _ _ _)
   | (with_reducible exact manorboyref02_floor.mono _ _ _)
   | (with_reducible exact LeO.refl _)
   | (with_reducible exact LeO.none _)
   | (with_reducible refine LeO.ite ?_ ?_)
   | (with_reducible refine LeO.bind ?_ (fun _ => ?_))
   | exact ih0 _ _ _
   | exact ih1 _ _ _ _
   | exact manorboyref02_Entier.mono _ _ _
   | exact manorboyref02_floor.mono _ _ _
   | exact LeO.none _
   | refine LeO.ite ?_ ?_
   | refine LeO.bind ?_ (fun _ => ?_)
  ·intro y0 y1 y2 y3
   unfold manorboyref02_Rounds.l0
   repeat' first
   | (with_reducible exact ih0 _ _ _)
   | (with_reducible exact ih1 _ _ _ _)
   | (with_reducible exact manorboyref02_Entier.mono _ _ _)
   | (with_reducible exact manorboyref02_floor.mono _ _ _)
   | (with_reducible exact LeO.refl _)
   | (with_reducible exact LeO.none _)
   | (with_reducible refine LeO.ite ?_ ?_)
   | (with_reducible refine LeO.bind ?_ (fun _ => ?_))
   | exact ih0 _ _ _
   | exact ih1 _ _ _ _
   | exact manorboyref02_Entier.mono _ _ _
   | exact manorboyref02_floor.mono _ _ _
   | exact LeO.none _
   | refine LeO.ite ?_ ?_
   | refine LeO.bind ?_ (fun _ => ?_)
theorem manorboyref02_Rounds.mono : ∀ a0 a1 k, LeO (manorboyref02_Rounds.f k a0 a1) (manorboyref02_Rounds.f (k + 1) a0 a1) := by
 intro a0 a1 k
 obtain ⟨ih0, ih1⟩ := manorboyref02_Rounds.mono_l k
 unfold manorboyref02_Rounds.f
 repeat' first
   | (with_reducible exact ih0 _ _ _)
   | (with_reducible exact ih1 _ _ _ _)
   | (with_reducible exact manorboyref02_Entier.mono _ _ _)
   | (with_reducible exact manorboyref02_floor.mono _ _ _)
   | (with_reducible exact LeO.refl _)
   | (with_reducible exact LeO.none _)
   | (with_reducible refine LeO.ite ?_ ?_)
   | (with_reducible refine LeO.bind ?_ (fun _ => ?_))
   | exact ih0 _ _ _
   | exact ih1 _ _ _ _
   | exact manorboyref02_Entier.mono _ _ _
   | exact manorboyref02_floor.mono _ _ _
   | exact LeO.none _
   | refine LeO.ite ?_ ?_
   | refine LeO.bind ?_ (fun _ => ?_)
set_option maxHeartbeats 8000000 in
set_option maxRecDepth 100000 in
theorem manorboyref02_Rounds.calls (k : Nat) (a0_0 : Int) (a0_1 : Int) (r1 : Int) (r2 : Int) (w : World) (h : manorboyref02_Rounds.f k a0_0 a0_1 = some (r1, r2)) :
  Calls Tryz.prog 24 #[.agg #[.int .i64 a0_0, .int .i64 a0_1]] w fun e w' => e = .returned (.agg #[.int .i64 r1, .int .i64 r2]) ∧ Below w.heap.size w w' := by
 have hu23 := Tryz.underlying23
 have hu36 := Tryz.underlying36
 have HB := Aside0.mk (Below.refl w.heap.size w)
 have H : (if a0_1 ≥ 0 then (manorboyref02_Rounds.j0 k true a0_0 a0_1) else (manorboyref02_Rounds.j0 k (decide (a0_1 < (-40))) a0_0 a0_1)) = some (r1, r2) := h
 clear h
 have HC2 := Aside0.mk H
 clear H
 go_enter Tryz.func24, Tryz.ntmps24
 go_upto_region 1 with (first | ((with_reducible refine gate_dst (N := 1) rfl ?_); refine box_event ?hg (N := 1) ?hd (cs := #[.int .i64 a0_0, .int .i64 a0_1]) (t := 23) ?hr ?_; (case hd => rfl); (case hg => rfl); (case hr => first | (go_simp; done) | (go_simp; rfl)); intro gb152 hg w3 hbox hb; have BK152 := Aside0.mk hbox; have GW152 := ge hg; have GE152 := ge hg; replace HB := bs hb; clear hb hbox hg) | ((with_reducible refine gate_dst (N := 2) rfl ?_); refine box_event ?hg (N := 2) ?hd (cs := #[.int .i64 0, .int .i64 0]) (t := 36) ?hr ?_; (case hd => rfl); (case hg => rfl); (case hr => first | (go_simp; done) | (go_simp; rfl)); intro gb153 hg w4 hbox hb; have BK153 := Aside0.mk hbox; have GW153 := ge hg; have GE153 := ge hg; have NB152_153 := nl BK152 hg; have NB153_152 := nr BK152 hg; replace BK152 := kb BK152 hb; replace HB := bs hb; clear hb hbox hg))
 (try simp only [Act.put, List.setIfInBounds_toArray, List.set_cons_zero, List.set_cons_succ])
 go_cut [12] (fun v12 wc => ∃ (kq : Nat) (x12_1 : Bool), v12 = .bool x12_1 ∧ Aside0 (manorboyref02_Rounds.j0 kq x12_1 a0_0 a0_1 = some (r1, r2)) ∧ Aside0 (kq ≤ k) ∧ Aside0 (wc.heap[gb152]? = some (.cells #[.int .i64 a0_0, .int .i64 a0_1] 23 (0, 0))) ∧ Aside0 (wc.heap[gb153]? = some (.cells #[.int .i64 0, .int .i64 0] 36 (0, 0))) ∧ Aside0 (Below w.heap.size w wc))
 case first => as_aux_lemma =>
  have H := HC2.out
  clear HC2
  by_cases c5 : a0_1 ≥ 0
  ·rw [if_pos c5] at H
   have c5b0 : decide (0 ≤ a0_1) = true := decide_eq_true c5
   clear c5
   (first | rw [c5b0] | (simp only [i64_w, i32_w]; rw [c5b0]) | skip)
   have H' := Aside0.mk H
   clear H
   have hnb6 := NB152_153.out
   have hnc6 := NB153_152.out
   have hcz7_0 := c20 BK152
   have hcz7_1 := c21 BK152
   have hfz7_0 := blk_frozen BK152.out 0
   have hfz7_1 := blk_frozen BK152.out 1
   go_wp2
   go_meet
   case rel => exact ⟨_, (true), (by first | rfl | (simp; done) | (simp [*]; done)), H', ⟨by first | omega | exact Nat.le_refl _⟩, ⟨kz BK152⟩, ⟨kz BK153⟩, ⟨bz⟩⟩
  ·rw [if_neg c5] at H
   have c5b0 : decide (0 ≤ a0_1) = false := decide_eq_false c5
   clear c5
   (first | rw [c5b0] | (simp only [i64_w, i32_w]; rw [c5b0]) | skip)
   have H' := Aside0.mk H
   clear H
   have hnb8 := NB152_153.out
   have hnc8 := NB153_152.out
   have hcz9_0 := c20 BK152
   have hcz9_1 := c21 BK152
   have hfz9_0 := blk_frozen BK152.out 0
   have hfz9_1 := blk_frozen BK152.out 1
   go_wp2
   go_meet
   case rel => exact ⟨_, (decide (a0_1 < (-40))), (by first | rfl | (simp; done) | (simp [*]; done)), H', ⟨by first | omega | exact Nat.le_refl _⟩, ⟨kz BK152⟩, ⟨kz BK153⟩, ⟨bz⟩⟩
 case rest => as_aux_lemma =>
  clear HC2
  try clear c2
  try clear p2
  try clear c5
  try clear c5b0
  try clear c6
  try clear c8
  try clear hcz7_0
  try clear hcz7_1
  try clear hcz9_0
  try clear hcz9_1
  try clear hfz7_0
  try clear hfz7_1
  try clear hfz9_0
  try clear hfz9_1
  obtain ⟨kq, x12_1, rfl, HA, HJ1, BK152, BK153, HB⟩ := hcut
  cases kq with
  | zero => exact absurd HA.out (by simp [manorboyref02_Rounds.j0])
  | succ kj1 =>
   have H := HA.out
   clear HA
   simp only [manorboyref02_Rounds.j0] at H
   by_cases c10 : x12_1 = true
   ·subst c10
    have H1 : (if a0_1 < (-40) then (some (0, 0)) else ((manorboyref02_Entier.f kj1 a0_0 a0_1).bind fun bt154 => (some (bt154.1, bt154.2)))) = some (r1, r2) := by rw [if_pos rfl] at H; exact H
    clear H
    have H := H1
    clear H1
    by_cases c11 : a0_1 < (-40)
    ·rw [if_pos c11] at H
     have c11b0 : decide (a0_1 < (-40)) = true := decide_eq_true c11
     clear c11
     simp only [Option.some.injEq, Prod.mk.injEq] at H
     obtain ⟨rfl, rfl⟩ := H
     have hnb12 := NB152_153.out
     have hnc12 := NB153_152.out
     have hcz13_0 := c20 BK152
     have hcz13_1 := c21 BK152
     have hfz13_0 := blk_frozen BK152.out 0
     have hfz13_1 := blk_frozen BK152.out 1
     have hcz14_0 := c20 BK153
     have hcz14_1 := c21 BK153
     have hfz14_0 := blk_frozen BK153.out 0
     have hfz14_1 := blk_frozen BK153.out 1
     go_wp2
     refine bodyPost_ret (results_cell_row rfl _ _ gb153 36 #[.int .i64 0, .int .i64 0] (0, 0) _ rfl (by (with_reducible repeat (first | refine blk_drewN ?_ _ | refine blk_drew ?_ | refine blk_alloc ?_ _)); refine blk_put (cs := #[.int .i64 0, .int .i64 0]) ?_ 1 _ rfl; (with_reducible repeat (first | refine blk_drewN ?_ _ | refine blk_drew ?_ | refine blk_alloc ?_ _)); refine blk_put (cs := #[.int .i64 0, .int .i64 0]) ?_ 0 _ rfl; (with_reducible repeat (first | refine blk_drewN ?_ _ | refine blk_drew ?_ | refine blk_alloc ?_ _)); exact BK153.out) Tryz.underlying36 rfl (by kernel_rfl)) rfl ?_
     exact ⟨by first | rfl | (simp [errW_none, errW_some] <;> rfl) | (simp [*, errW_none, errW_some] <;> rfl), bz⟩
    ·rw [if_neg c11] at H
     have c11b0 : decide (a0_1 < (-40)) = false := decide_eq_false c11
     clear c11
     replace H := Option.bind_eq_some_iff.mp H
     obtain ⟨⟨t154, t155⟩, A150, H⟩ := H
     replace H : (some (t154, t155)) = some (r1, r2) := H
     have A15 := Aside0.mk A150
     clear A150
     simp only [Option.some.injEq, Prod.mk.injEq] at H
     obtain ⟨rfl, rfl⟩ := H
     have hnb16 := NB152_153.out
     have hnc16 := NB153_152.out
     have hcz17_0 := c20 BK152
     have hcz17_1 := c21 BK152
     have hfz17_0 := blk_frozen BK152.out 0
     have hfz17_1 := blk_frozen BK152.out 1
     go_wp2_with (first | ((with_reducible refine gate_callee (f := 23) rfl ?_); refine goesL_ (some 18) rfl rfl Tryz.func23 (by kernel_rfl) rfl #[.agg #[.int .i64 a0_0, .int .i64 a0_1]] rfl (by (try simp only [List.map_toArray, List.map_cons, List.map_nil]); first | done | rfl | (simp only [List.length_drop, List.length_take]; rfl)) ?_; (with_reducible refine (manorboyref02_Entier.calls kj1 a0_0 a0_1 t154 t155 _ A15.out).mono ?_); rintro e w18 ⟨rfl, hb⟩; refine ⟨_, rfl, ?_⟩; replace BK152 := kb BK152 hb; replace BK153 := kb BK153 hb; replace HB := bs hb; (try clear hb); (try clear hb2); (try clear hk); (try clear hi); have hcz19_0 := c20 BK153; have hcz19_1 := c21 BK153; have hfz19_0 := blk_frozen BK153.out 0; have hfz19_1 := blk_frozen BK153.out 1))
     refine bodyPost_ret (results_cell_row rfl _ _ gb153 36 #[.int .i64 t154, .int .i64 t155] (0, 0) _ rfl (by (with_reducible repeat (first | refine blk_drewN ?_ _ | refine blk_drew ?_ | refine blk_alloc ?_ _)); refine blk_put (cs := #[.int .i64 t154, .int .i64 0]) ?_ 1 _ rfl; (with_reducible repeat (first | refine blk_drewN ?_ _ | refine blk_drew ?_ | refine blk_alloc ?_ _)); refine blk_put (cs := #[.int .i64 0, .int .i64 0]) ?_ 0 _ rfl; (with_reducible repeat (first | refine blk_drewN ?_ _ | refine blk_drew ?_ | refine blk_alloc ?_ _)); exact BK153.out) Tryz.underlying36 rfl (by kernel_rfl)) rfl ?_
     exact ⟨by first | rfl | (simp [errW_none, errW_some] <;> rfl) | (simp [*, errW_none, errW_some] <;> rfl), bz⟩
   ·replace c10 := Bool.eq_false_iff.mpr c10
    subst c10
    have H1 : (manorboyref02_Rounds.l0 kj1 1 (-1) a0_0 a0_1) = some (r1, r2) := by rw [if_neg (show ¬ (false = true) by decide)] at H; exact H
    clear H
    have H := H1
    clear H1
    have H' := Aside0.mk H
    clear H
    go_wp2
    go_loopg [3, 4] kj1 (fun kq v3 v4 w' => ∃ (x3_2 : Int) (x4_2 : Int), v3 = .int .i64 x3_2 ∧ v4 = .int .i64 x4_2 ∧ Aside0 (manorboyref02_Rounds.l0 kq x3_2 x4_2 a0_0 a0_1 = some (r1, r2)) ∧ Aside0 (kq ≤ kj1) ∧ Aside0 (w'.heap[gb152]? = some (.cells #[.int .i64 a0_0, .int .i64 a0_1] 23 (0, 0))) ∧ Aside0 (w'.heap[gb153]? = some (.cells #[.int .i64 0, .int .i64 0] 36 (0, 0))) ∧ Aside0 (Below w.heap.size w w'))
    case atStart => exact ⟨(1), ((-1)), (by first | rfl | (simp; done) | (simp [*]; done)), (by first | rfl | (simp; done) | (simp [*]; done)), H', ⟨Nat.le_refl _⟩, ⟨kz BK152⟩, ⟨kz BK153⟩, ⟨bz⟩⟩
    case round =>
     clear H'
     try clear c1
     try clear c2
     try clear p2
     try clear c5
     try clear c5b0
     try clear c6
     try clear c8
     try clear c10
     try clear c11
     try clear c11b0
     try clear c12
     try clear c16
     try clear hcz13_0
     try clear hcz13_1
     try clear hcz14_0
     try clear hcz14_1
     try clear hcz17_0
     try clear hcz17_1
     try clear hcz19_0
     try clear hcz19_1
     try clear hcz7_0
     try clear hcz7_1
     try clear hcz9_0
     try clear hcz9_1
     try clear hfz13_0
     try clear hfz13_1
     try clear hfz14_0
     try clear hfz14_1
     try clear hfz17_0
     try clear hfz17_1
     try clear hfz19_0
     try clear hfz19_1
     try clear hfz7_0
     try clear hfz7_1
     try clear hfz9_0
     try clear hfz9_1
     try clear p2
     obtain ⟨x3_2, x4_2, rfl, rfl, HA, HK2, BK152, BK153, HB⟩ := hrel
     cases gk with
     | zero => exact absurd HA.out (by simp [manorboyref02_Rounds.l0])
     | succ k2 =>
      have H := HA.out
      clear HA
      simp only [manorboyref02_Rounds.l0] at H
      by_cases c20 : x4_2 > a0_1
      ·rw [if_pos c20] at H
       have c20b0 : decide (a0_1 < x4_2) = true := decide_eq_true c20
       clear c20
       have H' := Aside0.mk H
       clear H
       have hnb21 := NB152_153.out
       have hnc21 := NB153_152.out
       have hcz22_0 := c20 BK152
       have hcz22_1 := c21 BK152
       have hfz22_0 := blk_frozen BK152.out 0
       have hfz22_1 := blk_frozen BK152.out 1
       go_wp2
       go_roundg k2
       case measure => have := HJ1.out; have := HK2.out; omega
       case rel => exact ⟨(wrap64 (x3_2 * 2)), (wrap64 (x4_2 - 1)), (by first | rfl | (simp; done) | (simp [*]; done)), (by first | rfl | (simp; done) | (simp [*]; done)), H', ⟨by have := HJ1.out; have := HK2.out; omega⟩, ⟨kz BK152⟩, ⟨kz BK153⟩, ⟨bz⟩⟩
      ·rw [if_neg c20] at H
       have c20b0 : decide (a0_1 < x4_2) = false := decide_eq_false c20
       clear c20
       replace H := Option.bind_eq_some_iff.mp H
       obtain ⟨⟨t156, t157⟩, A230, H⟩ := H
       replace H : ((manorboyref02_made.f t156 t157).bind fun bt158 => (some (bt158.1, bt158.2))) = some (r1, r2) := H
       have A23 := Aside0.mk A230
       clear A230
       replace H := Option.bind_eq_some_iff.mp H
       obtain ⟨⟨t158, t159⟩, A240, H⟩ := H
       replace H : (some (t158, t159)) = some (r1, r2) := H
       have A24 := Aside0.mk A240
       clear A240
       simp only [Option.some.injEq, Prod.mk.injEq] at H
       obtain ⟨rfl, rfl⟩ := H
       have hnb25 := NB152_153.out
       have hnc25 := NB153_152.out
       have hcz26_0 := c20 BK152
       have hcz26_1 := c21 BK152
       have hfz26_0 := blk_frozen BK152.out 0
       have hfz26_1 := blk_frozen BK152.out 1
       go_wp2_with (first | ((with_reducible refine gate_callee (f := 75) rfl ?_); refine goesL_ (some 33) rfl rfl Tryz.func75 (by kernel_rfl) rfl #[.int .i64 (wrap64 (a0_0 + x3_2)), .int .i64 a0_1] rfl (by (try simp only [List.map_toArray, List.map_cons, List.map_nil]); first | done | rfl | (simp only [List.length_drop, List.length_take]; rfl)) ?_; (with_reducible refine (manorboyref02_floor.calls k2 (wrap64 (a0_0 + x3_2)) a0_1 t156 t157 _ A23.out).mono ?_); rintro e w27 ⟨rfl, hb⟩; refine ⟨_, rfl, ?_⟩; replace BK152 := kb BK152 hb; replace BK153 := kb BK153 hb; replace HB := bs hb; (try clear hb); (try clear hb2); (try clear hk); (try clear hi)) | ((with_reducible refine gate_callee (f := 74) rfl ?_); refine goesL_ (some 34) rfl rfl Tryz.func74 (by kernel_rfl) rfl #[.agg #[.int .i64 t156, .bool t157]] rfl (by (try simp only [List.map_toArray, List.map_cons, List.map_nil]); first | done | rfl | (simp only [List.length_drop, List.length_take]; rfl)) ?_; (with_reducible refine (manorboyref02_made.calls t156 t157 t158 t159 _ A24.out).mono ?_); rintro e w28 ⟨rfl, hb⟩; refine ⟨_, rfl, ?_⟩; replace BK152 := kb BK152 hb; replace BK153 := kb BK153 hb; replace HB := bs hb; (try clear hb); (try clear hb2); (try clear hk); (try clear hi); have hcz29_0 := c20 BK153; have hcz29_1 := c21 BK153; have hfz29_0 := blk_frozen BK153.out 0; have hfz29_1 := blk_frozen BK153.out 1))
       refine bodyPost_ret (results_cell_row rfl _ _ gb153 36 #[.int .i64 t158, .int .i64 t159] (0, 0) _ rfl (by (with_reducible repeat (first | refine blk_drewN ?_ _ | refine blk_drew ?_ | refine blk_alloc ?_ _)); refine blk_put (cs := #[.int .i64 t158, .int .i64 0]) ?_ 1 _ rfl; (with_reducible repeat (first | refine blk_drewN ?_ _ | refine blk_drew ?_ | refine blk_alloc ?_ _)); refine blk_put (cs := #[.int .i64 0, .int .i64 0]) ?_ 0 _ rfl; (with_reducible repeat (first | refine blk_drewN ?_ _ | refine blk_drew ?_ | refine blk_alloc ?_ _)); exact BK153.out) Tryz.underlying36 rfl (by kernel_rfl)) rfl ?_
       exact ⟨by first | rfl | (simp [errW_none, errW_some] <;> rfl) | (simp [*, errW_none, errW_some] <;> rfl), bz⟩

def manorboylaw02_RealIntegers.f (k : Nat) (a0_0 : Int) (a0_1 : Int) : Option (Bool) := (real_Entier.f a0_0 a0_1).bind fun bt161 => ((real_Round.f a0_0 a0_1).bind fun bt163 => ((manorboyref02_Valid.f k a0_0 a0_1).bind fun t165 => (if t165 = true then ((manorboyref02_Entier.f k a0_0 a0_1).bind fun bt167 => ((manorboyref02_Rounds.f k a0_0 a0_1).bind fun bt170 => ((manorboylaw02_sanity.f k).bind fun t173 => (if t173 = true then (if bt161.1 = bt167.1 then (if bt161.2 = bt167.2 then (if bt163.1 = bt170.1 then (some (bt163.2 == bt170.2)) else (some false)) else (some false)) else (some false)) else (some false))))) else ((manorboylaw02_sanity.f k).bind fun t166 => (if t166 = true then (if bt161.2 = 1 then (if bt163.2 = 1 then (if bt161.1 = 0 then (some (bt163.1 == 0)) else (some false)) else (some false)) else (some false)) else (some false))))))
set_option maxHeartbeats 8000000 in
set_option maxRecDepth 100000 in
theorem manorboylaw02_RealIntegers.calls (k : Nat) (a0_0 : Int) (a0_1 : Int) (r : Bool) (w : World) (h : manorboylaw02_RealIntegers.f k a0_0 a0_1 = some r) (hr : r = true) (ht : Table w) :
  Calls Tryz.prog 4 #[.agg #[.int .i64 a0_0, .int .i64 a0_1]] w fun e w' => e = .returned (.bool r) ∧ Below w.heap.size w w' := by
 have hu23 := Tryz.underlying23
 have hu36 := Tryz.underlying36
 have HB := Aside0.mk (Below.refl w.heap.size w)
 have HT := Aside0.mk (Lib.tabBelow_of_tabIs ht)
 clear ht
 have H : ((real_Entier.f a0_0 a0_1).bind fun bt161 => ((real_Round.f a0_0 a0_1).bind fun bt163 => ((manorboyref02_Valid.f k a0_0 a0_1).bind fun t165 => (if t165 = true then ((manorboyref02_Entier.f k a0_0 a0_1).bind fun bt167 => ((manorboyref02_Rounds.f k a0_0 a0_1).bind fun bt170 => ((manorboylaw02_sanity.f k).bind fun t173 => (if t173 = true then (if bt161.1 = bt167.1 then (if bt161.2 = bt167.2 then (if bt163.1 = bt170.1 then (some (bt163.2 == bt170.2)) else (some false)) else (some false)) else (some false)) else (some false))))) else ((manorboylaw02_sanity.f k).bind fun t166 => (if t166 = true then (if bt161.2 = 1 then (if bt163.2 = 1 then (if bt161.1 = 0 then (some (bt163.1 == 0)) else (some false)) else (some false)) else (some false)) else (some false))))))) = some r := h
 clear h
 replace H := Option.bind_eq_some_iff.mp H
 obtain ⟨⟨t161, t162⟩, A20, H⟩ := H
 try dsimp only at H
 have A2 := Aside0.mk A20
 clear A20
 replace H := Option.bind_eq_some_iff.mp H
 obtain ⟨⟨t163, t164⟩, A30, H⟩ := H
 try dsimp only at H
 have A3 := Aside0.mk A30
 clear A30
 replace H := Option.bind_eq_some_iff.mp H
 obtain ⟨t165, A40, H⟩ := H
 try dsimp only at H
 have A4 := Aside0.mk A40
 clear A40
 by_cases c5 : t165 = true
 ·subst c5
  have H1 : ((manorboyref02_Entier.f k a0_0 a0_1).bind fun bt167 => ((manorboyref02_Rounds.f k a0_0 a0_1).bind fun bt170 => ((manorboylaw02_sanity.f k).bind fun t173 => (if t173 = true then (if t161 = bt167.1 then (if t162 = bt167.2 then (if t163 = bt170.1 then (some (t164 == bt170.2)) else (some false)) else (some false)) else (some false)) else (some false))))) = some r := by rw [if_pos rfl] at H; exact H
  clear H
  have H := H1
  clear H1
  replace H := Option.bind_eq_some_iff.mp H
  obtain ⟨⟨t167, t168⟩, A60, H⟩ := H
  try dsimp only at H
  have A6 := Aside0.mk A60
  clear A60
  replace H := Option.bind_eq_some_iff.mp H
  obtain ⟨⟨t170, t171⟩, A70, H⟩ := H
  try dsimp only at H
  have A7 := Aside0.mk A70
  clear A70
  replace H := Option.bind_eq_some_iff.mp H
  obtain ⟨t173, A80, H⟩ := H
  try dsimp only at H
  have A8 := Aside0.mk A80
  clear A80
  by_cases c9 : t173 = true
  ·subst c9
   have H1 : (if t161 = t167 then (if t162 = t168 then (if t163 = t170 then (some (t164 == t171)) else (some false)) else (some false)) else (some false)) = some r := by rw [if_pos rfl] at H; exact H
   clear H
   have H := H1
   clear H1
   by_cases c10 : t161 = t167
   ·rw [if_pos c10] at H
    have c10b0 : (t161 == t167) = true := beq_iff_eq.mpr c10
    have c10b1 : (t161 != t167) = false := bne_eq_false_iff_eq.mpr c10
    clear c10
    by_cases c11 : t162 = t168
    ·rw [if_pos c11] at H
     have c11b0 : (t162 == t168) = true := beq_iff_eq.mpr c11
     have c11b1 : (t162 != t168) = false := bne_eq_false_iff_eq.mpr c11
     clear c11
     by_cases c12 : t163 = t170
     ·rw [if_pos c12] at H
      have c12b0 : (t163 == t170) = true := beq_iff_eq.mpr c12
      have c12b1 : (t163 != t170) = false := bne_eq_false_iff_eq.mpr c12
      clear c12
      obtain rfl := Option.some.inj H
      go_enter Tryz.func4, Tryz.ntmps4
      go_wp2_with (first | ((with_reducible refine gate_dst (N := 1) rfl ?_); refine box_event ?hg (N := 1) ?hd (cs := #[.int .i64 a0_0, .int .i64 a0_1]) (t := 23) ?hr ?_; (case hd => rfl); (case hg => rfl); (case hr => first | (go_simp; done) | (go_simp; rfl)); intro gb160 hg w13 hbox hb; have BK160 := Aside0.mk hbox; have GW160 := ge hg; have GE160 := ge hg; replace HB := bs hb; clear hb hbox hg; have hcz14_0 := c20 BK160; have hcz14_1 := c21 BK160; have hfz14_0 := blk_frozen BK160.out 0; have hfz14_1 := blk_frozen BK160.out 1) | ((with_reducible refine gate_callee (f := 21) rfl ?_); refine goesL_ (some 11) rfl rfl Tryz.func21 (by kernel_rfl) rfl #[.agg #[.int .i64 a0_0, .int .i64 a0_1]] rfl (by (try simp only [List.map_toArray, List.map_cons, List.map_nil]); first | done | rfl | (simp only [List.length_drop, List.length_take]; rfl)) ?_; (with_reducible refine (real_Entier.calls a0_0 a0_1 t161 t162 _ A2.out).mono ?_); rintro e w15 ⟨rfl, hb⟩; refine ⟨_, rfl, ?_⟩; replace BK160 := kb BK160 hb; replace HB := bs hb; (try clear hb); (try clear hb2); (try clear hk); (try clear hi); have hcz16_0 := c20 BK160; have hcz16_1 := c21 BK160; have hfz16_0 := blk_frozen BK160.out 0; have hfz16_1 := blk_frozen BK160.out 1) | ((with_reducible refine gate_callee (f := 22) rfl ?_); refine goesL_ (some 16) rfl rfl Tryz.func22 (by kernel_rfl) rfl #[.agg #[.int .i64 a0_0, .int .i64 a0_1]] rfl (by (try simp only [List.map_toArray, List.map_cons, List.map_nil]); first | done | rfl | (simp only [List.length_drop, List.length_take]; rfl)) ?_; (with_reducible refine (real_Round.calls a0_0 a0_1 t163 t164 _ A3.out).mono ?_); rintro e w17 ⟨rfl, hb⟩; refine ⟨_, rfl, ?_⟩; replace BK160 := kb BK160 hb; replace HB := bs hb; (try clear hb); (try clear hb2); (try clear hk); (try clear hi); have hcz18_0 := c20 BK160; have hcz18_1 := c21 BK160; have hfz18_0 := blk_frozen BK160.out 0; have hfz18_1 := blk_frozen BK160.out 1) | ((with_reducible refine gate_callee (f := 18) rfl ?_); refine goesL_ (some 20) rfl rfl Tryz.func18 (by kernel_rfl) rfl #[.agg #[.int .i64 a0_0, .int .i64 a0_1]] rfl (by (try simp only [List.map_toArray, List.map_cons, List.map_nil]); first | done | rfl | (simp only [List.length_drop, List.length_take]; rfl)) ?_; (with_reducible refine (manorboyref02_Valid.calls k a0_0 a0_1 true _ A4.out).mono ?_); rintro e w19 ⟨rfl, hb⟩; refine ⟨_, rfl, ?_⟩; replace BK160 := kb BK160 hb; replace HB := bs hb; (try clear hb); (try clear hb2); (try clear hk); (try clear hi); have hcz20_0 := c20 BK160; have hcz20_1 := c21 BK160; have hfz20_0 := blk_frozen BK160.out 0; have hfz20_1 := blk_frozen BK160.out 1) | ((with_reducible refine gate_callee (f := 23) rfl ?_); refine goesL_ (some 40) rfl rfl Tryz.func23 (by kernel_rfl) rfl #[.agg #[.int .i64 a0_0, .int .i64 a0_1]] rfl (by (try simp only [List.map_toArray, List.map_cons, List.map_nil]); first | done | rfl | (simp only [List.length_drop, List.length_take]; rfl)) ?_; (with_reducible refine (manorboyref02_Entier.calls k a0_0 a0_1 t167 t168 _ A6.out).mono ?_); rintro e w21 ⟨rfl, hb⟩; refine ⟨_, rfl, ?_⟩; replace BK160 := kb BK160 hb; replace HB := bs hb; (try clear hb); (try clear hb2); (try clear hk); (try clear hi)) | ((with_reducible refine gate_dst (N := 7) rfl ?_); refine box_event ?hg (N := 7) ?hd (cs := #[.int .i64 0, .int .i64 0]) (t := 36) ?hr ?_; (case hd => rfl); (case hg => rfl); (case hr => first | (go_simp; done) | (go_simp; rfl)); intro gb169 hg w22 hbox hb; have BK169 := Aside0.mk hbox; have GW169 := ge hg; have GE169 := ge hg; have NB160_169 := nl BK160 hg; have NB169_160 := nr BK160 hg; replace BK160 := kb BK160 hb; replace HB := bs hb; clear hb hbox hg; have hnb23 := NB169_160.out; have hnc23 := NB160_169.out; have hcz24_0 := c20 BK169; have hcz24_1 := c21 BK169; have hfz24_0 := blk_frozen BK169.out 0; have hfz24_1 := blk_frozen BK169.out 1; have hcz25_0 := c20 BK160; have hcz25_1 := c21 BK160; have hfz25_0 := blk_frozen BK160.out 0; have hfz25_1 := blk_frozen BK160.out 1) | ((with_reducible refine gate_callee (f := 24) rfl ?_); refine goesL_ (some 42) rfl rfl Tryz.func24 (by kernel_rfl) rfl #[.agg #[.int .i64 a0_0, .int .i64 a0_1]] rfl (by (try simp only [List.map_toArray, List.map_cons, List.map_nil]); first | done | rfl | (simp only [List.length_drop, List.length_take]; rfl)) ?_; (with_reducible refine (manorboyref02_Rounds.calls k a0_0 a0_1 t170 t171 _ A7.out).mono ?_); rintro e w26 ⟨rfl, hb⟩; refine ⟨_, rfl, ?_⟩; replace BK160 := Aside0.mk (blk_below (g := gb160) (o := .cells #[.int .i64 a0_0, .int .i64 a0_1] 23 (0, 0)) (by (with_reducible repeat (first | refine blk_drewN ?_ _ | refine blk_drew ?_ | refine blk_alloc ?_ _)); refine blk_far ?_ NB160_169.out _; (with_reducible repeat (first | refine blk_drewN ?_ _ | refine blk_drew ?_ | refine blk_alloc ?_ _)); refine blk_far ?_ NB160_169.out _; (with_reducible repeat (first | refine blk_drewN ?_ _ | refine blk_drew ?_ | refine blk_alloc ?_ _)); exact BK160.out) hb); replace BK169 := Aside0.mk (blk_below (g := gb169) (o := .cells #[.int .i64 t167, .int .i64 t168] 36 (0, 0)) (by (with_reducible repeat (first | refine blk_drewN ?_ _ | refine blk_drew ?_ | refine blk_alloc ?_ _)); refine blk_put (cs := #[.int .i64 t167, .int .i64 0]) ?_ 1 _ rfl; (with_reducible repeat (first | refine blk_drewN ?_ _ | refine blk_drew ?_ | refine blk_alloc ?_ _)); refine blk_put (cs := #[.int .i64 0, .int .i64 0]) ?_ 0 _ rfl; (with_reducible repeat (first | refine blk_drewN ?_ _ | refine blk_drew ?_ | refine blk_alloc ?_ _)); exact BK169.out) hb); replace HB := bs hb; (try clear hb); (try clear hb2); (try clear hk); (try clear hi)) | ((with_reducible refine gate_dst (N := 8) rfl ?_); refine box_event ?hg (N := 8) ?hd (cs := #[.int .i64 0, .int .i64 0]) (t := 36) ?hr ?_; (case hd => rfl); (case hg => rfl); (case hr => first | (go_simp; done) | (go_simp; rfl)); intro gb172 hg w27 hbox hb; have BK172 := Aside0.mk hbox; have GW172 := ge hg; have GE172 := ge hg; have NB160_172 := nl BK160 hg; have NB172_160 := nr BK160 hg; have NB169_172 := nl BK169 hg; have NB172_169 := nr BK169 hg; replace BK160 := kb BK160 hb; replace BK169 := kb BK169 hb; replace HB := bs hb; clear hb hbox hg; have hnb28 := NB172_160.out; have hnc28 := NB160_172.out; have hnb29 := NB172_169.out; have hnc29 := NB169_172.out; have hcz30_0 := c20 BK172; have hcz30_1 := c21 BK172; have hfz30_0 := blk_frozen BK172.out 0; have hfz30_1 := blk_frozen BK172.out 1) | ((with_reducible refine gate_callee (f := 19) rfl ?_); refine goesL_ (some 43) rfl rfl Tryz.func19 (by kernel_rfl) rfl #[] rfl (by (try simp only [List.map_toArray, List.map_cons, List.map_nil]); first | done | rfl | (simp only [List.length_drop, List.length_take]; rfl)) ?_; (with_reducible refine (manorboylaw02_sanity.calls k  true _ A8.out rfl (tabAt HT.out bz)).mono ?_); rintro e w31 ⟨rfl, hb⟩; refine ⟨_, rfl, ?_⟩; replace BK160 := Aside0.mk (blk_below (g := gb160) (o := .cells #[.int .i64 a0_0, .int .i64 a0_1] 23 (0, 0)) (by (with_reducible repeat (first | refine blk_drewN ?_ _ | refine blk_drew ?_ | refine blk_alloc ?_ _)); refine blk_far ?_ NB160_172.out _; (with_reducible repeat (first | refine blk_drewN ?_ _ | refine blk_drew ?_ | refine blk_alloc ?_ _)); refine blk_far ?_ NB160_172.out _; (with_reducible repeat (first | refine blk_drewN ?_ _ | refine blk_drew ?_ | refine blk_alloc ?_ _)); exact BK160.out) hb); replace BK169 := Aside0.mk (blk_below (g := gb169) (o := .cells #[.int .i64 t167, .int .i64 t168] 36 (0, 0)) (by (with_reducible repeat (first | refine blk_drewN ?_ _ | refine blk_drew ?_ | refine blk_alloc ?_ _)); refine blk_far ?_ NB169_172.out _; (with_reducible repeat (first | refine blk_drewN ?_ _ | refine blk_drew ?_ | refine blk_alloc ?_ _)); refine blk_far ?_ NB169_172.out _; (with_reducible repeat (first | refine blk_drewN ?_ _ | refine blk_drew ?_ | refine blk_alloc ?_ _)); exact BK169.out) hb); replace BK172 := Aside0.mk (blk_below (g := gb172) (o := .cells #[.int .i64 t170, .int .i64 t171] 36 (0, 0)) (by (with_reducible repeat (first | refine blk_drewN ?_ _ | refine blk_drew ?_ | refine blk_alloc ?_ _)); refine blk_put (cs := #[.int .i64 t170, .int .i64 0]) ?_ 1 _ rfl; (with_reducible repeat (first | refine blk_drewN ?_ _ | refine blk_drew ?_ | refine blk_alloc ?_ _)); refine blk_put (cs := #[.int .i64 0, .int .i64 0]) ?_ 0 _ rfl; (with_reducible repeat (first | refine blk_drewN ?_ _ | refine blk_drew ?_ | refine blk_alloc ?_ _)); exact BK172.out) hb); replace HB := bs hb; (try clear hb); (try clear hb2); (try clear hk); (try clear hi); have hcz32_0 := c20 BK169; have hcz32_1 := c21 BK169; have hfz32_0 := blk_frozen BK169.out 0; have hfz32_1 := blk_frozen BK169.out 1; have hcz33_0 := c20 BK172; have hcz33_1 := c21 BK172; have hfz33_0 := blk_frozen BK172.out 0; have hfz33_1 := blk_frozen BK172.out 1))
      go_ret
      exact ⟨by first | rfl | (simp [errW_none, errW_some] <;> rfl) | (simp [*, errW_none, errW_some] <;> rfl), bz⟩
     ·rw [if_neg c12] at H
      first | exact absurd (Option.some.inj H) (by rw [hr]; decide) | exact absurd H (by rw [hr]; exact manorboylaw02_RealIntegers.no _)
    ·rw [if_neg c11] at H
     first | exact absurd (Option.some.inj H) (by rw [hr]; decide) | exact absurd H (by rw [hr]; exact manorboylaw02_RealIntegers.no _)
   ·rw [if_neg c10] at H
    first | exact absurd (Option.some.inj H) (by rw [hr]; decide) | exact absurd H (by rw [hr]; exact manorboylaw02_RealIntegers.no _)
  ·replace c9 := Bool.eq_false_iff.mpr c9
   subst c9
   have H1 : (some false) = some r := by rw [if_neg (show ¬ (false = true) by decide)] at H; exact H
   clear H
   have H := H1
   clear H1
   first | exact absurd (Option.some.inj H) (by rw [hr]; decide) | exact absurd H (by rw [hr]; exact manorboylaw02_RealIntegers.no _)
 ·replace c5 := Bool.eq_false_iff.mpr c5
  subst c5
  have H1 : ((manorboylaw02_sanity.f k).bind fun t166 => (if t166 = true then (if t162 = 1 then (if t164 = 1 then (if t161 = 0 then (some (t163 == 0)) else (some false)) else (some false)) else (some false)) else (some false))) = some r := by rw [if_neg (show ¬ (false = true) by decide)] at H; exact H
  clear H
  have H := H1
  clear H1
  replace H := Option.bind_eq_some_iff.mp H
  obtain ⟨t166, A1140, H⟩ := H
  try dsimp only at H
  have A114 := Aside0.mk A1140
  clear A1140
  by_cases c115 : t166 = true
  ·subst c115
   have H1 : (if t162 = 1 then (if t164 = 1 then (if t161 = 0 then (some (t163 == 0)) else (some false)) else (some false)) else (some false)) = some r := by rw [if_pos rfl] at H; exact H
   clear H
   have H := H1
   clear H1
   by_cases c116 : t162 = 1
   ·rw [if_pos c116] at H
    have c116b0 : (t162 == 1) = true := beq_iff_eq.mpr c116
    have c116b1 : (t162 != 1) = false := bne_eq_false_iff_eq.mpr c116
    clear c116
    by_cases c117 : t164 = 1
    ·rw [if_pos c117] at H
     have c117b0 : (t164 == 1) = true := beq_iff_eq.mpr c117
     have c117b1 : (t164 != 1) = false := bne_eq_false_iff_eq.mpr c117
     clear c117
     by_cases c118 : t161 = 0
     ·rw [if_pos c118] at H
      have c118b0 : (t161 == 0) = true := beq_iff_eq.mpr c118
      have c118b1 : (t161 != 0) = false := bne_eq_false_iff_eq.mpr c118
      clear c118
      obtain rfl := Option.some.inj H
      go_enter Tryz.func4, Tryz.ntmps4
      go_wp2_with (first | ((with_reducible refine gate_dst (N := 1) rfl ?_); refine box_event ?hg (N := 1) ?hd (cs := #[.int .i64 a0_0, .int .i64 a0_1]) (t := 23) ?hr ?_; (case hd => rfl); (case hg => rfl); (case hr => first | (go_simp; done) | (go_simp; rfl)); intro gb160 hg w119 hbox hb; have BK160 := Aside0.mk hbox; have GW160 := ge hg; have GE160 := ge hg; replace HB := bs hb; clear hb hbox hg; have hcz120_0 := c20 BK160; have hcz120_1 := c21 BK160; have hfz120_0 := blk_frozen BK160.out 0; have hfz120_1 := blk_frozen BK160.out 1) | ((with_reducible refine gate_callee (f := 21) rfl ?_); refine goesL_ (some 11) rfl rfl Tryz.func21 (by kernel_rfl) rfl #[.agg #[.int .i64 a0_0, .int .i64 a0_1]] rfl (by (try simp only [List.map_toArray, List.map_cons, List.map_nil]); first | done | rfl | (simp only [List.length_drop, List.length_take]; rfl)) ?_; (with_reducible refine (real_Entier.calls a0_0 a0_1 t161 t162 _ A2.out).mono ?_); rintro e w121 ⟨rfl, hb⟩; refine ⟨_, rfl, ?_⟩; replace BK160 := kb BK160 hb; replace HB := bs hb; (try clear hb); (try clear hb2); (try clear hk); (try clear hi); have hcz122_0 := c20 BK160; have hcz122_1 := c21 BK160; have hfz122_0 := blk_frozen BK160.out 0; have hfz122_1 := blk_frozen BK160.out 1) | ((with_reducible refine gate_callee (f := 22) rfl ?_); refine goesL_ (some 16) rfl rfl Tryz.func22 (by kernel_rfl) rfl #[.agg #[.int .i64 a0_0, .int .i64 a0_1]] rfl (by (try simp only [List.map_toArray, List.map_cons, List.map_nil]); first | done | rfl | (simp only [List.length_drop, List.length_take]; rfl)) ?_; (with_reducible refine (real_Round.calls a0_0 a0_1 t163 t164 _ A3.out).mono ?_); rintro e w123 ⟨rfl, hb⟩; refine ⟨_, rfl, ?_⟩; replace BK160 := kb BK160 hb; replace HB := bs hb; (try clear hb); (try clear hb2); (try clear hk); (try clear hi); have hcz124_0 := c20 BK160; have hcz124_1 := c21 BK160; have hfz124_0 := blk_frozen BK160.out 0; have hfz124_1 := blk_frozen BK160.out 1) | ((with_reducible refine gate_callee (f := 18) rfl ?_); refine goesL_ (some 20) rfl rfl Tryz.func18 (by kernel_rfl) rfl #[.agg #[.int .i64 a0_0, .int .i64 a0_1]] rfl (by (try simp only [List.map_toArray, List.map_cons, List.map_nil]); first | done | rfl | (simp only [List.length_drop, List.length_take]; rfl)) ?_; (with_reducible refine (manorboyref02_Valid.calls k a0_0 a0_1 false _ A4.out).mono ?_); rintro e w125 ⟨rfl, hb⟩; refine ⟨_, rfl, ?_⟩; replace BK160 := kb BK160 hb; replace HB := bs hb; (try clear hb); (try clear hb2); (try clear hk); (try clear hi)) | ((with_reducible refine gate_callee (f := 19) rfl ?_); refine goesL_ (some 22) rfl rfl Tryz.func19 (by kernel_rfl) rfl #[] rfl (by (try simp only [List.map_toArray, List.map_cons, List.map_nil]); first | done | rfl | (simp only [List.length_drop, List.length_take]; rfl)) ?_; (with_reducible refine (manorboylaw02_sanity.calls k  true _ A114.out rfl (tabAt HT.out bz)).mono ?_); rintro e w126 ⟨rfl, hb⟩; refine ⟨_, rfl, ?_⟩; replace BK160 := kb BK160 hb; replace HB := bs hb; (try clear hb); (try clear hb2); (try clear hk); (try clear hi)))
      go_ret
      exact ⟨by first | rfl | (simp [errW_none, errW_some] <;> rfl) | (simp [*, errW_none, errW_some] <;> rfl), bz⟩
     ·rw [if_neg c118] at H
      first | exact absurd (Option.some.inj H) (by rw [hr]; decide) | exact absurd H (by rw [hr]; exact manorboylaw02_RealIntegers.no _)
    ·rw [if_neg c117] at H
     first | exact absurd (Option.some.inj H) (by rw [hr]; decide) | exact absurd H (by rw [hr]; exact manorboylaw02_RealIntegers.no _)
   ·rw [if_neg c116] at H
    first | exact absurd (Option.some.inj H) (by rw [hr]; decide) | exact absurd H (by rw [hr]; exact manorboylaw02_RealIntegers.no _)
  ·replace c115 := Bool.eq_false_iff.mpr c115
   subst c115
   have H1 : (some false) = some r := by rw [if_neg (show ¬ (false = true) by decide)] at H; exact H
   clear H
   have H := H1
   clear H1
   first | exact absurd (Option.some.inj H) (by rw [hr]; decide) | exact absurd H (by rw [hr]; exact manorboylaw02_RealIntegers.no _)
end Go.Proofs.YteigbokklclmbaaGreatDoor.Z.Y
end
section
namespace Go.Proofs.YteigbokklclmbaaGreatDoor.Z.Y
open Go Go.RowKit Go.Proofs.YteigbokklclmbaaGreatDoor.Given Go.Proofs.YteigbokklclmbaaGreatDoorW.PrintWords Go.Proofs.YteigbokklclmbaaGreatDoorW.PrintLast Go.Proofs.YteigbokklclmbaaGreatDoorW.PrintMore
theorem sanity_ok : manorboylaw02_sanity.f 400 = some true := by kernel_rfl
end Go.Proofs.YteigbokklclmbaaGreatDoor.Z.Y
end
section
namespace Go.Proofs.YteigbokklclmbaaGreatDoor.Z.Y
open Go Go.RowKit Go.Proofs.YteigbokklclmbaaGreatDoor.Given Go.Proofs.YteigbokklclmbaaGreatDoorW.PrintWords Go.Proofs.YteigbokklclmbaaGreatDoorW.PrintLast Go.Proofs.YteigbokklclmbaaGreatDoorW.PrintMore
set_option linter.unusedVariables false
set_option linter.unusedSimpArgs false
/-- What a valid real is. -/
def VR (a b : Int) : Prop := (a = 0 ∧ b = 0) ∨ (1 ≤ mx a (wrap64 (-a)) ∧ mx a (wrap64 (-a)) < 16777216 ∧ (b = -150 ∨ (8388608 ≤ mx a (wrap64 (-a)) ∧ -150 < b ∧ b ≤ 150)))
instance (a b : Int) : Decidable (VR a b) := by unfold VR; infer_instance
theorem valid_real (a b : Int) : real_Valid.f a b = some (decide (VR a b)) := by
  unfold real_Valid.f
  have hd : ∀ (p q : Prop) [Decidable p] [Decidable q], (p ↔ q) → decide p = decide q := fun p q _ _ h => by simp [h]
  have hv : VR a b ↔ ((a = 0 ∧ b = 0) ∨ (1 ≤ mx a (wrap64 (-a)) ∧ mx a (wrap64 (-a)) < 16777216 ∧ (b = -150 ∨ (8388608 ≤ mx a (wrap64 (-a)) ∧ -150 < b ∧ b ≤ 150)))) := Iff.rfl
  generalize mx a (wrap64 (-a)) = m at *
  by_cases h0 : a = 0 ∧ b = 0
  · have : decide (VR a b) = true := decide_eq_true (hv.2 (.inl h0))
    rw [this, if_pos (by simp [h0.1, h0.2])]
  · have h0' : ¬ ((a == 0 && (b == 0)) = true) := by simpa using h0
    rw [if_neg h0']
    by_cases h1 : m < 1
    · rw [if_pos h1]; congr 1; symm; rw [decide_eq_false_iff_not, hv]; rintro (h | h); exact h0 h; omega
    rw [if_neg h1]
    by_cases h2 : m ≥ 16777216
    · rw [if_pos h2]; congr 1; symm; rw [decide_eq_false_iff_not, hv]; rintro (h | h); exact h0 h; omega
    rw [if_neg h2]
    by_cases h3 : b = -150
    · rw [if_pos h3]; congr 1; symm; rw [decide_eq_true_eq, hv]; exact .inr ⟨by omega, by omega, .inl h3⟩
    rw [if_neg h3]
    by_cases h4 : m ≥ 8388608
    · rw [if_pos h4]
      by_cases h5 : b > -150
      · rw [if_pos h5]; congr 1; apply hd; rw [hv]
        constructor
        · intro h; exact .inr ⟨by omega, by omega, .inr ⟨h4, h5, h⟩⟩
        · rintro (h | h)
          · exact absurd h h0
          · omega
      · rw [if_neg h5]; congr 1; symm; rw [decide_eq_false_iff_not, hv]; rintro (h | h); exact h0 h; omega
    · rw [if_neg h4]; congr 1; symm; rw [decide_eq_false_iff_not, hv]; rintro (h | h); exact h0 h; omega
theorem VR_abs {a b : Int} (hw : -9223372036854775808 ≤ a ∧ a ≤ 9223372036854775807) (h : VR a b) : -16777216 < a ∧ a < 16777216 ∧ -150 ≤ b ∧ b ≤ 150 ∧ (b > -150 → a ≠ 0 → a ≤ -8388608 ∨ 8388608 ≤ a) := by
  unfold VR mx wrap64 at h
  rcases h with ⟨rfl, rfl⟩ | h
  · omega
  · split at h <;> omega
theorem valid_ref (a b : Int) (hw : -9223372036854775808 ≤ a ∧ a ≤ 9223372036854775807) : manorboyref02_Valid.f 3 a b = some (decide (VR a b)) := by
  have key : ∀ m : Int, m = (if a < 0 then wrap64 (-a) else a) → manorboyref02_Valid.j0 3 m a b = some (decide (VR a b)) := by
    intro m hm
    have hmx : (0 ≤ m → mx a (wrap64 (-a)) = m) ∧ (m < 0 → mx a (wrap64 (-a)) < 1) := by
      unfold mx wrap64; unfold wrap64 at hm; split at hm <;> split <;> omega
    have hm0 : m = 0 ↔ a = 0 := by unfold wrap64 at hm; split at hm <;> omega
    have hv : VR a b ↔ ((a = 0 ∧ b = 0) ∨ (1 ≤ mx a (wrap64 (-a)) ∧ mx a (wrap64 (-a)) < 16777216 ∧ (b = -150 ∨ (8388608 ≤ mx a (wrap64 (-a)) ∧ -150 < b ∧ b ≤ 150)))) := Iff.rfl
    rw [manorboyref02_Valid.j0]
    by_cases h0 : m = 0
    · rw [if_pos h0]
      have ha : a = 0 := hm0.1 h0
      rw [if_pos ha]
      have := hmx.1 (by omega)
      by_cases hb : b = 0
      · have : decide (VR a b) = true := decide_eq_true (hv.2 (.inl ⟨ha, hb⟩))
        rw [this, hb]; rfl
      · have hf : (b == 0) = false := by simpa using hb
        rw [hf]; congr 1; symm; rw [decide_eq_false_iff_not, hv]; rintro (h | h) <;> omega
    rw [if_neg h0]
    have ha : a ≠ 0 := fun e => h0 (hm0.2 e)
    have j1t : manorboyref02_Valid.j1 2 m true a b = some false := by rw [manorboyref02_Valid.j1, if_pos rfl]
    by_cases h1 : m < 0
    · rw [if_pos h1, j1t]; have := hmx.2 h1; congr 1; symm; rw [decide_eq_false_iff_not, hv]; rintro (h | h) <;> omega
    rw [if_neg h1]
    have e := hmx.1 (by omega)
    rw [e] at hv
    by_cases h2 : m ≥ 16777216
    · rw [if_pos h2, j1t]; congr 1; symm; rw [decide_eq_false_iff_not, hv]; rintro (h | h) <;> omega
    rw [if_neg h2]
    by_cases h3 : b < -150
    · rw [if_pos h3, j1t]; congr 1; symm; rw [decide_eq_false_iff_not, hv]; rintro (h | h) <;> omega
    rw [if_neg h3, manorboyref02_Valid.j1]
    by_cases h4 : b > 150
    · rw [if_pos (by simpa using h4)]; congr 1; symm; rw [decide_eq_false_iff_not, hv]; rintro (h | h) <;> omega
    rw [if_neg (by simpa using h4)]
    by_cases h5 : m ≥ 8388608
    · rw [if_pos h5]; congr 1; symm; rw [decide_eq_true_eq, hv]; refine .inr ⟨by omega, by omega, ?_⟩; omega
    rw [if_neg h5]
    by_cases h6 : b = -150
    · have : (b == -150) = true := by simpa using h6
      rw [this]; congr 1; symm; rw [decide_eq_true_eq, hv]; exact .inr ⟨by omega, by omega, .inl h6⟩
    · have : (b == -150) = false := by simpa using h6
      rw [this]; congr 1; symm; rw [decide_eq_false_iff_not, hv]; rintro (h | h) <;> omega
  unfold manorboyref02_Valid.f
  by_cases h : a < 0
  · rw [if_pos h]; exact key _ (by rw [if_pos h])
  · rw [if_neg h]; exact key _ (by rw [if_neg h])
/-- What floor's end says of a number. -/
def inR (n : Int) : Int × Bool := if n < -2147483647 then (0, false) else if n > 2147483647 then (0, false) else (n, true)
theorem half_step (x : Int) : (if Int.tmod x 2 = 0 then Int.tdiv x 2 else if x < 0 then Int.tdiv (x - 1) 2 else Int.tdiv x 2) = x / 2 := by
  rcases Int.lt_or_le x 0 with h | h
  · obtain ⟨n, rfl⟩ : ∃ n : Int, x = -n := ⟨-x, by omega⟩
    have e1 : Int.tmod (-n) 2 = -(n % 2) := by rw [Int.neg_tmod, Int.tmod_eq_emod_of_nonneg (by omega)]
    have e2 : Int.tdiv (-n) 2 = -(n / 2) := by rw [Int.neg_tdiv, Int.tdiv_eq_ediv_of_nonneg (by omega)]
    have e3 : Int.tdiv (-n - 1) 2 = -((n + 1) / 2) := by rw [show -n - 1 = -(n + 1) by omega, Int.neg_tdiv, Int.tdiv_eq_ediv_of_nonneg (by omega)]
    rw [e1, e2, e3, if_pos h]
    split <;> omega
  · rw [Int.tmod_eq_emod_of_nonneg h, Int.tdiv_eq_ediv_of_nonneg h]
    rw [if_neg (show ¬ x < 0 by omega)]
    split <;> rfl
theorem floor_l1 : ∀ (n : Nat) (x x1 x6 : Int), x6 - x1 = n → -4611686018427387904 ≤ x → x ≤ 4611686018427387904 → -1000 ≤ x1 → x6 ≤ 0 → n ≤ 1000 → manorboyref02_floor.l1 (n + 1) x x1 x6 = some (inR (x / 2 ^ n))
  | 0, x, x1, x6, h, h0, h1, _, _, _ => by
    rw [manorboyref02_floor.l1, if_neg (by omega)]
    unfold inR
    rw [Int.pow_zero, Int.ediv_one]
    by_cases hl : x < -2147483647
    · rw [if_pos hl, if_pos hl]
    · rw [if_neg hl, if_neg hl]
      by_cases hg : x > 2147483647
      · rw [if_pos hg, if_pos hg]
      · rw [if_neg hg, if_neg hg]
  | n + 1, x, x1, x6, h, h0, h1, h6, h6', hn => by
    have hw : wrap64 (x6 - 1) = x6 - 1 := w64 _ (by omega) (by omega)
    have ih := floor_l1 n (x / 2) x1 (x6 - 1) (by omega) (by omega) (by omega) (by omega) (by omega) (by omega)
    have hd : x / 2 / 2 ^ n = x / 2 ^ (n + 1) := by
      rw [Int.ediv_ediv_of_nonneg (by first | omega | exact Int.le_of_lt (Int.pow_pos (by decide))), Int.pow_succ, Int.mul_comm]
    rw [hd] at ih
    have hst := half_step x
    rw [manorboyref02_floor.l1, if_pos (by omega), hw]
    by_cases ht : Int.tmod x 2 = 0
    · rw [if_pos ht] at hst ⊢
      rw [hst, w64 _ (by omega) (by omega)]; exact ih
    · rw [if_neg ht] at hst ⊢
      by_cases hx : x < 0
      · rw [if_pos hx] at hst ⊢
        rw [w64 (x - 1) (by omega) (by omega), hst, w64 _ (by omega) (by omega)]; exact ih
      · rw [if_neg hx] at hst ⊢
        rw [hst, w64 _ (by omega) (by omega)]; exact ih
theorem floor_l0 : ∀ (n : Nat) (x x1 x5 : Int), x1 - x5 = n → n ≤ 8 → 0 ≤ x5 → x1 ≤ 1000 → -(4611686018427387904 / 2 ^ n) ≤ x → x ≤ 4611686018427387904 / 2 ^ n → manorboyref02_floor.l0 (n + 2) x x1 x5 = some (inR (x * 2 ^ n))
  | 0, x, x1, x5, h, _, h5, hq, h0, h1 => by
    rw [manorboyref02_floor.l0, if_neg (by omega)]
    rw [Int.pow_zero] at h0 h1 ⊢
    rw [Int.mul_one]
    have he : manorboyref02_floor.l1 1 x x1 0 = some (inR (x / 2 ^ 0)) ∨ x1 > 0 := by
      by_cases hx : x1 > 0
      · exact .inr hx
      · have : x1 = 0 := by omega
        exact .inl (floor_l1 0 x x1 0 (by omega) (by omega) (by omega) (by omega) (by omega) (by omega))
    rcases he with he | he
    · rw [he, Int.pow_zero, Int.ediv_one]
    · rw [manorboyref02_floor.l1, if_neg (by omega)]
      unfold inR
      by_cases hl : x < -2147483647
      · rw [if_pos hl, if_pos hl]
      · rw [if_neg hl, if_neg hl]
        by_cases hg : x > 2147483647
        · rw [if_pos hg, if_pos hg]
        · rw [if_neg hg, if_neg hg]
  | n + 1, x, x1, x5, h, hn, h5, hq, h0, h1 => by
    have hp : (4611686018427387904 : Int) / 2 ^ n = 2 * (4611686018427387904 / 2 ^ (n + 1)) := by
      rcases (by omega : n = 0 ∨ n = 1 ∨ n = 2 ∨ n = 3 ∨ n = 4 ∨ n = 5 ∨ n = 6 ∨ n = 7) with h | h | h | h | h | h | h | h <;> subst h <;> decide
    have hb : (4611686018427387904 : Int) / 2 ^ (n + 1) ≤ 2305843009213693952 := by
      rcases (by omega : n = 0 ∨ n = 1 ∨ n = 2 ∨ n = 3 ∨ n = 4 ∨ n = 5 ∨ n = 6 ∨ n = 7) with h | h | h | h | h | h | h | h <;> subst h <;> decide
    have hw : wrap64 (x5 + 1) = x5 + 1 := w64 _ (by omega) (by omega)
    have ih := floor_l0 n (x * 2) x1 (x5 + 1) (by omega) (by omega) (by omega) hq (by omega) (by omega)
    rw [manorboyref02_floor.l0, if_pos (by omega), hw, w64 (x * 2) (by omega) (by omega), ih, Int.pow_succ, Int.mul_assoc, Int.mul_comm 2]
/-- floor, as both say it: of a number with an exponent that is not too great. -/
theorem ref_floor (a b : Int) (ha : -2199023255552 ≤ a ∧ a ≤ 2199023255552) (hb : -150 ≤ b) (h8 : b ≤ 8) (h0 : a ≠ 0) : manorboyref02_floor.f 200 a b = some (inR (if 0 ≤ b then a * 2 ^ b.toNat else a / 2 ^ (-b).toNat)) := by
  refine upO (f := fun k => manorboyref02_floor.f k a b) (fun k => manorboyref02_floor.mono _ _ _) (k := (if 0 ≤ b then b.toNat + 2 else (-b).toNat + 2)) (by split <;> omega) ?_
  show manorboyref02_floor.f _ a b = _
  unfold manorboyref02_floor.f
  rw [if_neg h0, if_neg (by omega)]
  by_cases hn : 0 ≤ b
  · rw [if_pos hn, if_pos hn]
    have hp : (4611686018427387904 : Int) / 2 ^ b.toNat ≥ 2199023255552 := by
      rcases (by omega : b.toNat = 0 ∨ b.toNat = 1 ∨ b.toNat = 2 ∨ b.toNat = 3 ∨ b.toNat = 4 ∨ b.toNat = 5 ∨ b.toNat = 6 ∨ b.toNat = 7 ∨ b.toNat = 8) with h | h | h | h | h | h | h | h | h <;> rw [h] <;> decide
    exact floor_l0 b.toNat a b 0 (by omega) (by omega) (by omega) (by omega) (by omega) (by omega)
  · rw [if_neg hn, if_neg hn]
    rw [manorboyref02_floor.l0, if_neg (by omega)]
    exact floor_l1 (-b).toNat a b 0 (by omega) (by omega) (by omega) (by omega) (by omega) (by omega)
/-- An integer with its error. -/
def whole_ (p : Int × Bool) : Int × Int := if p.2 = true then (p.1, 0) else (0, 3)
theorem whole_is (p : Int × Bool) : real_whole.f p.1 p.2 = some (whole_ p) := by unfold real_whole.f whole_; split <;> rfl
theorem made_is (p : Int × Bool) : manorboyref02_made.f p.1 p.2 = some (whole_ p) := by unfold manorboyref02_made.f whole_; split <;> rfl
theorem shl_is (a b : Int) (h0 : 0 ≤ b) (h31 : b ≤ 31) (ha : -2199023255552 ≤ a ∧ a ≤ 2199023255552) (hlim : b ≤ 8 ∨ (-16777216 < a ∧ a < 16777216)) : shl .i64 a b = a * 2 ^ b.toNat := by
  unfold shl
  have e : min b.toNat IntKind.i64.bits = b.toNat := Nat.min_eq_left (by show b.toNat ≤ 64; omega)
  rw [e, i64_w]
  have hp : ∃ n : Nat, b.toNat = n ∧ n ≤ 31 := ⟨_, rfl, by omega⟩
  obtain ⟨n, hn, hn31⟩ := hp
  rw [hn]
  have hpw : (1 : Int) ≤ 2 ^ n ∧ (2 : Int) ^ n ≤ 2147483648 ∧ (n ≤ 8 → (2 : Int) ^ n ≤ 256) := by
    have : ∀ m : Fin 32, (1 : Int) ≤ 2 ^ m.val ∧ (2 : Int) ^ m.val ≤ 2147483648 ∧ (m.val ≤ 8 → (2 : Int) ^ m.val ≤ 256) := by decide
    exact this ⟨n, by omega⟩
  generalize (2 : Int) ^ n = P at *
  have hb1 : a * P ≤ 9223372036854775807 ∧ -9223372036854775808 ≤ a * P := by
    rcases hlim with h8 | hs
    · have := hpw.2.2 (by omega)
      constructor
      · rcases Int.le_total 0 a with h | h
        · have := Int.mul_le_mul ha.2 this (by omega) (by omega); omega
        · have : a * P ≤ 0 := Int.mul_nonpos_of_nonpos_of_nonneg h (by omega); omega
      · rcases Int.le_total 0 a with h | h
        · have : 0 ≤ a * P := Int.mul_nonneg h (by omega); omega
        · have h2 := Int.mul_le_mul (show -a ≤ 2199023255552 by omega) this (by omega) (by omega); rw [Int.neg_mul] at h2; omega
    · constructor
      · rcases Int.le_total 0 a with h | h
        · have := Int.mul_le_mul (show a ≤ 16777216 by omega) hpw.2.1 (by omega) (by omega); omega
        · have : a * P ≤ 0 := Int.mul_nonpos_of_nonpos_of_nonneg h (by omega); omega
      · rcases Int.le_total 0 a with h | h
        · have : 0 ≤ a * P := Int.mul_nonneg h (by omega); omega
        · have h2 := Int.mul_le_mul (show -a ≤ 16777216 by omega) hpw.2.1 (by omega) (by omega); rw [Int.neg_mul] at h2; omega
  exact w64 _ hb1.2 hb1.1
def fl (a b : Int) : Int := if 0 ≤ b then a * 2 ^ b.toNat else a / 2 ^ (-b).toNat
theorem tell_is (n : Int) : (some (if n ≥ (-2147483647) then (n, decide (n ≤ 2147483647)) else (n, false)) : Option (Int × Bool)) = (if n ≥ (-2147483647) then some (n, decide (n ≤ 2147483647)) else some (n, false)) := by split <;> rfl
theorem tell_whole (n : Int) : whole_ (if n ≥ (-2147483647) then (n, decide (n ≤ 2147483647)) else (n, false)) = whole_ (inR n) := by
  unfold whole_ inR
  by_cases h : n ≥ (-2147483647)
  · rw [if_pos h, if_neg (show ¬ n < -2147483647 by omega)]
    by_cases g : n ≤ 2147483647
    · rw [if_neg (show ¬ n > 2147483647 by omega)]; simp [g]
    · rw [if_pos (show n > 2147483647 by omega)]; simp [g]
  · rw [if_neg h, if_pos (show n < -2147483647 by omega)]; simp
theorem far_down (a : Int) (n : Nat) (ha : -2199023255552 ≤ a ∧ a ≤ 2199023255552) (hn : 60 ≤ n) : a / 2 ^ n = if a < 0 then -1 else 0 := by
  have hp : (2199023255552 : Int) < 2 ^ n := by
    have : (2 : Int) ^ 60 ≤ 2 ^ n := by exact_mod_cast Nat.pow_le_pow_right (by decide) hn
    omega
  by_cases h : a < 0
  · rw [if_pos h]
    exact Int.ediv_eq_neg_one_of_neg_of_le h (by omega)
  · rw [if_neg h]
    exact Int.ediv_eq_zero_of_lt (by omega) (by omega)
theorem real_fl (a b : Int) (ha : -2199023255552 ≤ a ∧ a ≤ 2199023255552) (hb : -150 ≤ b) (h31 : b ≤ 31) (h0 : a ≠ 0) (hlim : b ≤ 8 ∨ (-16777216 < a ∧ a < 16777216)) : ((real_floor.f a b).bind fun p => (real_whole.f p.1 p.2).bind fun q => some (q.1, q.2)) = some (whole_ (inR (fl a b))) := by
  have hw : ∀ p : Int × Bool, ((real_whole.f p.1 p.2).bind fun q => some (q.1, q.2)) = some (whole_ p) := fun p => by rw [whole_is]; rfl
  simp only [hw]
  unfold real_floor.f fl
  rw [if_neg h0, if_neg (show ¬ b > 31 by omega)]
  by_cases hp : b ≥ 0
  · rw [if_pos hp, if_pos hp, if_pos (show 0 ≤ b from hp), shl_is a b hp h31 ha hlim, ← tell_is, ← tell_whole]; rfl
  · rw [if_neg hp, if_neg (show ¬ 0 ≤ b from hp)]
    by_cases hl : b > -60
    · have e : wrap64 (-b) = -b := w64 _ (by omega) (by omega)
      rw [if_pos hl, e, if_pos (by omega)]
      have es : shr .i64 a (-b) = a / 2 ^ (-b).toNat := by
        unfold shr; rw [Nat.min_eq_left (show (-b).toNat ≤ IntKind.i64.bits by show (-b).toNat ≤ 64; omega)]
      rw [es, ← tell_is, ← tell_whole]; rfl
    · rw [if_neg hl, far_down a (-b).toNat ha (by omega)]
      by_cases hn : a < 0
      · rw [if_pos hn, if_pos hn]; rfl
      · rw [if_neg hn, if_neg hn]; rfl
theorem ref_fl (a b : Int) (ha : -2199023255552 ≤ a ∧ a ≤ 2199023255552) (hb : -150 ≤ b) (h8 : b ≤ 8) (h0 : a ≠ 0) : ((manorboyref02_floor.f 200 a b).bind fun p => (manorboyref02_made.f p.1 p.2).bind fun q => some (q.1, q.2)) = some (whole_ (inR (fl a b))) := by
  rw [ref_floor a b ha hb h8 h0]
  show ((manorboyref02_made.f _ _).bind fun q => some (q.1, q.2)) = _
  rw [made_is]; rfl
theorem big_out (a b : Int) (h8 : 8 < b) (h31 : b ≤ 31) (ha : a ≤ -8388608 ∨ 8388608 ≤ a) : whole_ (inR (fl a b)) = (0, 3) := by
  unfold fl
  rw [if_pos (by omega)]
  have hp : (512 : Int) ≤ 2 ^ b.toNat := by
    have : (2 : Int) ^ 9 ≤ 2 ^ b.toNat := by exact_mod_cast Nat.pow_le_pow_right (by decide) (show 9 ≤ b.toNat by omega)
    omega
  generalize (2 : Int) ^ b.toNat = P at *
  have : a * P < -2147483647 ∨ a * P > 2147483647 := by
    rcases ha with h | h
    · left
      have := Int.mul_le_mul (show (8388608 : Int) ≤ -a by omega) hp (by omega) (by omega)
      rw [Int.neg_mul] at this; omega
    · right
      have := Int.mul_le_mul h hp (by omega) (by omega)
      omega
  unfold inR whole_
  rcases this with h | h
  · rw [if_pos h]; rfl
  · rw [if_neg (show ¬ a * P < -2147483647 by omega), if_pos h]; rfl
theorem entier_same (a b : Int) (hw : -9223372036854775808 ≤ a ∧ a ≤ 9223372036854775807) (hv : VR a b) : ∃ p, real_Entier.f a b = some p ∧ manorboyref02_Entier.f 200 a b = some p := by
  obtain ⟨h1, h2, h3, h4, h5⟩ := VR_abs hw hv
  unfold real_Entier.f manorboyref02_Entier.f
  have hV : decide (VR a b) = true := decide_eq_true hv
  rw [valid_real, hV]
  show ∃ p, ((real_floor.f a b).bind fun p => (real_whole.f p.1 p.2).bind fun q => some (q.1, q.2)) = some p ∧ _
  by_cases h0 : a = 0
  · subst h0; exact ⟨(0, 0), rfl, rfl⟩
  by_cases h31 : b > 31
  · refine ⟨(0, 3), ?_, ?_⟩
    · unfold real_floor.f; rw [if_neg h0, if_pos h31]; rfl
    · unfold manorboyref02_floor.f; rw [if_neg h0, if_pos (by omega)]; rfl
  by_cases h8 : b ≤ 8
  · exact ⟨_, real_fl a b (by omega) h3 (by omega) h0 (.inl h8), ref_fl a b (by omega) h3 h8 h0⟩
  · refine ⟨(0, 3), ?_, ?_⟩
    · rw [real_fl a b (by omega) h3 (by omega) h0 (.inr ⟨h1, h2⟩), big_out a b (by omega) (by omega) (h5 (by omega) h0)]
    · unfold manorboyref02_floor.f; rw [if_neg h0, if_pos (by omega)]; rfl
theorem half_l0 : ∀ (n : Nat) (x3 x4 a b : Int), x4 - b = n → n ≤ 40 → -40 ≤ b → x4 ≤ -1 → 0 < x3 → x3 * 2 ^ n ≤ 549755813888 → -16777216 < a → a < 16777216 → manorboyref02_Rounds.l0 (n + 201) x3 x4 a b = ((manorboyref02_floor.f (200 + 0) (a + x3 * 2 ^ n) b).bind fun p => (manorboyref02_made.f p.1 p.2).bind fun q => some (q.1, q.2))
  | 0, x3, x4, a, b, h, _, h40, hx, h3, hb, ha, ha' => by
    rw [Int.pow_zero, Int.mul_one] at hb ⊢
    rw [manorboyref02_Rounds.l0, if_neg (by omega), w64 _ (by omega) (by omega)]
  | n + 1, x3, x4, a, b, h, hn, h40, hx, h3, hb, ha, ha' => by
    have hp : x3 * 2 ^ (n + 1) = (x3 * 2) * 2 ^ n := by rw [Int.pow_succ, Int.mul_assoc, Int.mul_comm 2]
    have hle : x3 ≤ 549755813888 := by
      have h1 : (1 : Int) ≤ 2 ^ (n + 1) := Int.pow_pos (by decide)
      have := Int.mul_le_mul_of_nonneg_left h1 (show 0 ≤ x3 by omega)
      omega
    have ih := half_l0 n (x3 * 2) (x4 - 1) a b (by omega) (by omega) h40 (by omega) (by omega) (by rw [← hp]; exact hb) ha ha'
    rw [show n + 1 + 201 = (n + 201) + 1 by omega, manorboyref02_Rounds.l0, if_pos (by omega), w64 (x3 * 2) (by omega) (by omega), w64 (x4 - 1) (by omega) (by omega), ih, hp]
theorem round_same (a b : Int) (hw : -9223372036854775808 ≤ a ∧ a ≤ 9223372036854775807) (hv : VR a b) : ∃ p, real_Round.f a b = some p ∧ manorboyref02_Rounds.f 300 a b = some p := by
  obtain ⟨h1, h2, h3, h4, h5⟩ := VR_abs hw hv
  obtain ⟨pe, he1, he2⟩ := entier_same a b hw hv
  have he3 := upO (f := fun k => manorboyref02_Entier.f k a b) (fun k => manorboyref02_Entier.mono _ _ _) (show 200 ≤ 299 by omega) he2
  have hV : decide (VR a b) = true := decide_eq_true hv
  unfold real_Round.f manorboyref02_Rounds.f
  rw [valid_real, hV]
  show ∃ p, (if b ≥ 0 then ((real_floor.f a b).bind fun p => (real_whole.f p.1 p.2).bind fun q => some (q.1, q.2)) else _) = some p ∧ _
  by_cases hp : b ≥ 0
  · rw [if_pos hp, if_pos hp]
    refine ⟨pe, ?_, ?_⟩
    · unfold real_Entier.f at he1; rw [valid_real, hV] at he1; exact he1
    · rw [show (300 : Nat) = 299 + 1 from rfl, manorboyref02_Rounds.j0, if_pos rfl, if_neg (by omega)]
      show ((manorboyref02_Entier.f 299 a b).bind _) = _
      rw [he3]; rfl
  rw [if_neg hp, if_neg hp]
  by_cases hl : b < -40
  · rw [if_pos hl]
    refine ⟨(0, 0), rfl, ?_⟩
    rw [show (300 : Nat) = 299 + 1 from rfl, manorboyref02_Rounds.j0, if_pos (by simpa using hl), if_pos hl]
  rw [if_neg hl]
  have e1 : wrap64 (-b) = -b := w64 _ (by omega) (by omega)
  have e2 : wrap64 (-b - 1) = -b - 1 := w64 _ (by omega) (by omega)
  have hpw : (2 : Int) ^ (-b - 1).toNat ≤ 549755813888 ∧ (1 : Int) ≤ 2 ^ (-b - 1).toNat := by
    have : ∀ m : Fin 40, (2 : Int) ^ m.val ≤ 549755813888 ∧ (1 : Int) ≤ 2 ^ m.val := by decide
    exact this ⟨(-b - 1).toNat, by omega⟩
  have hs : shl .i64 1 (-b - 1) = 2 ^ (-b - 1).toNat := by
    unfold shl
    rw [Nat.min_eq_left (show (-b - 1).toNat ≤ IntKind.i64.bits by show (-b - 1).toNat ≤ 64; omega), i64_w, Int.one_mul]
    exact w64 _ (by omega) (by omega)
  rw [e1, e2, if_pos (by omega), hs, w64 _ (by omega) (by omega)]
  have hr : manorboyref02_Rounds.j0 300 (decide (b < -40)) a b = ((manorboyref02_floor.f 200 (a + 2 ^ (-b - 1).toNat) b).bind fun p => (manorboyref02_made.f p.1 p.2).bind fun q => some (q.1, q.2)) ∨ ((manorboyref02_floor.f 200 (a + 2 ^ (-b - 1).toNat) b).bind fun p => (manorboyref02_made.f p.1 p.2).bind fun q => some (q.1, q.2)) = none ∨ True := .inr (.inr trivial)
  have hm := half_l0 (-b - 1).toNat 1 (-1) a b (by omega) (by omega) (by omega) (by omega) (by omega) (by rw [Int.one_mul]; exact hpw.1) h1 h2
  rw [Int.one_mul] at hm
  have fin : ∃ p, ((real_floor.f (a + 2 ^ (-b - 1).toNat) b).bind fun p => (real_whole.f p.1 p.2).bind fun q => some (q.1, q.2)) = some p ∧ ((manorboyref02_floor.f (200 + 0) (a + 2 ^ (-b - 1).toNat) b).bind fun p => (manorboyref02_made.f p.1 p.2).bind fun q => some (q.1, q.2)) = some p := by
    by_cases h0 : a + 2 ^ (-b - 1).toNat = 0
    · rw [h0]; exact ⟨(0, 0), rfl, rfl⟩
    · exact ⟨_, real_fl _ b (by omega) h3 (by omega) h0 (.inl (by omega)), ref_fl _ b (by omega) h3 (by omega) h0⟩
  obtain ⟨p, f1, f2⟩ := fin
  refine ⟨p, f1, ?_⟩
  rw [show (300 : Nat) = 299 + 1 from rfl, manorboyref02_Rounds.j0, if_neg (by simpa using hl)]
  refine upO (f := fun k => manorboyref02_Rounds.l0 k 1 (-1) a b) (fun k => (manorboyref02_Rounds.mono_l k).2 _ _ _ _) (k := (-b - 1).toNat + 201) (by omega) ?_
  show manorboyref02_Rounds.l0 _ 1 (-1) a b = _
  rw [hm]; exact f2
theorem pure_real_integers (a b : Int) (hw : -9223372036854775808 ≤ a ∧ a ≤ 9223372036854775807) (_ : -9223372036854775808 ≤ b ∧ b ≤ 9223372036854775807) : manorboylaw02_RealIntegers.f 400 a b = some true := by
  have hs := sanity_ok
  have hvr := upO (f := fun k => manorboyref02_Valid.f k a b) (fun k => manorboyref02_Valid.mono _ _ _) (show 3 ≤ 400 by omega) (valid_ref a b hw)
  have hvr' : manorboyref02_Valid.f 400 a b = some (decide (VR a b)) := hvr
  by_cases hv : VR a b
  · obtain ⟨pe, e1, e2⟩ := entier_same a b hw hv
    obtain ⟨pr, r1, r2⟩ := round_same a b hw hv
    have e3 : manorboyref02_Entier.f 400 a b = some pe := upO (f := fun k => manorboyref02_Entier.f k a b) (fun k => manorboyref02_Entier.mono _ _ _) (show 200 ≤ 400 by omega) e2
    have r3 : manorboyref02_Rounds.f 400 a b = some pr := upO (f := fun k => manorboyref02_Rounds.f k a b) (fun k => manorboyref02_Rounds.mono _ _ _) (show 300 ≤ 400 by omega) r2
    have hV : decide (VR a b) = true := decide_eq_true hv
    unfold manorboylaw02_RealIntegers.f
    rw [e1, r1, hvr', hV, e3, r3, hs]
    simp
  · have hV : decide (VR a b) = false := decide_eq_false hv
    have e1 : real_Entier.f a b = some (0, 1) := by unfold real_Entier.f; rw [valid_real, hV]; rfl
    have r1 : real_Round.f a b = some (0, 1) := by unfold real_Round.f; rw [valid_real, hV]; rfl
    unfold manorboylaw02_RealIntegers.f
    rw [e1, r1, hvr', hV, hs]
    simp
end Go.Proofs.YteigbokklclmbaaGreatDoor.Z.Y
end
section
namespace Go.Proofs.YteigbokklclmbaaGreatDoor.Given
open Go
theorem gT : Tryz.prog.globalNamed "internal/strconv.uint64pow10" = some 0 := by kernel_rfl
theorem gTType : (Tryz.prog.globals[0]?).map (·.type) = some 188 := by kernel_rfl
theorem pow10_datum : (Rows.laid_internal_strconv_uint64pow10 : DataW Unit) = Lib.tabData .u64 Lib.pow10Tab := by kernel_rfl
theorem table_of {W : World} (h : laidMet Tryz.prog [("math/bits.deBruijn32tab", Rows.laid_math_bits_deBruijn32tab), ("math/bits.deBruijn64tab", Rows.laid_math_bits_deBruijn64tab), ("internal/strconv.uint64pow10", Rows.laid_internal_strconv_uint64pow10), ("unicode/utf8.acceptRanges", Rows.laid_unicode_utf8_acceptRanges), ("unicode/utf8.first", Rows.laid_unicode_utf8_first)] W) : Z.Table W := by
  obtain ⟨ps, ⟨_, _, _, _, _, _, _, _, _, _, ⟨_, _, _, _, _, _, _, _, _, _, ⟨g, t, cs, f, p, q, hg, ht, hv, hd, _, _⟩, _⟩, _⟩, _⟩ := h
  obtain rfl := Option.some.inj (gT.symm.trans hg)
  obtain rfl := Option.some.inj (gTType.symm.trans ht)
  rw [pow10_datum] at hd
  show Lib.TabIs _ _ _ _ _
  unfold Lib.TabIs
  rw [hv, ← Lib.cells_of_tab Tryz.underlying188 Tryz.underlying72 (by kernel_rfl) (by kernel_rfl) hd]
theorem i64_of {a : Int} (h : (Lit.int IntKind.i64 a).wf = true) : -9223372036854775808 ≤ a ∧ a ≤ 9223372036854775807 := by
  have h1 : (decide ((-9223372036854775808 : Int) ≤ a) && decide (a ≤ (9223372036854775807 : Int))) = true := h
  simpa using h1
end Go.Proofs.YteigbokklclmbaaGreatDoor.Given
end
