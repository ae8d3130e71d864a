/- Contracts and lemmas that the law's row leans on, joined by program (pack.py) out of the session's texts; no condition of its own. -/
import Derived.Lib.Hide
import Derived.Shelf.Strings.Builder1
import Derived.Shelf.Strings.Builder2
import Derived.Shelf.Strings.Trim
import Derived.Shelf.Small.Wraps
import Derived.Shelf.Strconv.Itoa0
import Derived.Shelf.Strconv.Itoa1
import Derived.Shelf.LaysM
import Derived.Shelf.Strconv.Itoa2
import Derived.Shelf.Strconv.Itoa3
import Derived.Shelf.Strings.Repeat
import Derived.Test.YteigbokklclmbaaGreatDoorProg
import Derived.Lib.AppendIntMem
import Derived.RangeFuncNested
import Derived.RangeFuncBound
import Derived.RangeFuncCalls
import Derived.RangeFuncLeaves
import Derived.Shelf.Abstract
import Derived.Shelf.RegionOpen
import Derived.WalkKit
import Derived.OwnWalkIn
import Derived.TacticsInMore
import Derived.LoopNIn
import Derived.LoopIn
import Derived.Defers
import Derived.Recover
import Derived.Laws.Pointers
import Derived.Laws.Rows
import Derived.Test.YteigbokklclmbaaGreatDoorRpxa
import Derived.Test.YteigbokklclmbaaGreatDoorRpxb
set_option linter.unusedVariables false
set_option linter.unusedSimpArgs false
set_option maxRecDepth 100000
set_option maxHeartbeats 8000000
section
namespace Go.Proofs.YteigbokklclmbaaGreatDoor.Z
open Go.RowKit Go.Proofs.YteigbokklclmbaaGreatDoor.Given Go.Proofs.YteigbokklclmbaaGreatDoorW.PrintWords Go.Proofs.YteigbokklclmbaaGreatDoorW.PrintLast Go.Proofs.YteigbokklclmbaaGreatDoorW.PrintMore
attribute [local go_sem] max2_int min2_int max_two min_two max_three min_three max_four min_four

def real_product.f (k : Nat) (a0_0 : Int) (a0_1 : Int) (a1_0 : Int) (a1_1 : Int) : Option (Int × Int) := (real_magnitude.f k a0_0).bind fun t223 => ((real_magnitude.f k a1_0).bind fun t226 => ((real_nat_mul.f k t223 t226).bind fun t229 => ((real_rounded.f k t229 (wrap64 (a0_1 + a1_1)) (([1] : List Int))).bind fun bt235 => ((real_signed.f ((decide (a0_0 < 0)) != (decide (a1_0 < 0))) bt235.1 bt235.2).bind fun bt237 => (some (bt237.1, bt237.2))))))
def real_product.T1 : Bool × List (List Nat × List Nat) := (true, [([], []), ([0], [0]), ([1], [1]), ([], []), ([3], [3]), ([4], [4]), ([2, 5], [2, 5]), ([], []), ([7], [7]), ([8], [8]), ([], []), ([10], [10]), ([11, 9], [11]), ([9, 12, 12], [9, 12]), ([], []), ([14], [14]), ([], []), ([16], [16]), ([15, 17], [15, 17]), ([], []), ([13, 18, 19, 13], [13, 18, 19]), ([6, 20, 20], [6, 20]), ([21, 21, 0, 1, 2, 3, 4, 5, 6, 7, 8, 9, 10, 11, 12, 13, 14, 15, 16, 17, 18, 19, 20, 21], [21])])
def real_product.B1 : List Nat := [0, 1, 3, 0, 8, 24, 63, 0, 128, 384, 0, 1024, 3968, 8064, 0, 16384, 0, 65536, 245760, 0, 1048448, 2097151, 4194303]
theorem real_product.tab1 : rtab .any (opsOf Tryz.f96 1) = real_product.T1 := by kernel_rfl
theorem real_product.bits1 : waitsOk real_product.T1.2 real_product.B1 = true := by kernel_rfl
theorem real_product.calls (k : Nat) (a0_0 : Int) (a0_1 : Int) (a1_0 : Int) (a1_1 : Int) (r1 : Int) (r2 : Int) (w : World) (h : real_product.f k a0_0 a0_1 a1_0 a1_1 = some (r1, r2)) :
  Calls Tryz.prog 96 #[.agg #[.int .i64 a0_0, .int .i64 a0_1], .agg #[.int .i64 a1_0, .int .i64 a1_1]] w fun e w' => e = ending r1 r2 ∧ Below w.heap.size w w' := by
 have hu23 := Tryz.underlying23
 have HB := Aside0.mk (Below.refl w.heap.size w)
 have H := h; unfold real_product.f at H; clear h
 replace H := Option.bind_eq_some_iff.mp H
 obtain ⟨t223, A30, H⟩ := H
 try dsimp only at H
 have A3 := Aside0.mk A30
 clear A30
 replace H := Option.bind_eq_some_iff.mp H
 obtain ⟨t226, A40, H⟩ := H
 try dsimp only at H
 have A4 := Aside0.mk A40
 clear A40
 replace H := Option.bind_eq_some_iff.mp H
 obtain ⟨t229, A50, H⟩ := H
 try dsimp only at H
 have A5 := Aside0.mk A50
 clear A50
 obtain ⟨y232, hy232⟩ : ∃ y_ : List Int, y_ = (([1] : List Int)) := ⟨_, rfl⟩
 replace H : ((real_rounded.f k t229 (wrap64 (a0_1 + a1_1)) y232).bind fun bt235 => ((real_signed.f ((decide (a0_0 < 0)) != (decide (a1_0 < 0))) bt235.1 bt235.2).bind fun bt237 => (some (bt237.1, bt237.2)))) = some (r1, r2) := by first | (rw [hy232]; with_reducible exact H) | (have H2_ := (Option.bind_some _ _).symm.trans H; rw [hy232]; with_reducible exact H2_) | (have H2_ := (Option.bind_some _ _).symm.trans H; with_reducible exact H2_) | with_reducible exact H | (rw [hy232]; exact H) | exact H
 have Ny232 := Aside0.mk hy232
 clear hy232
 replace H := Option.bind_eq_some_iff.mp H
 obtain ⟨⟨t235, t236⟩, A60, H⟩ := H
 try dsimp only at H
 have A6 := Aside0.mk A60
 clear A60
 replace H := Option.bind_eq_some_iff.mp H
 obtain ⟨⟨t237, t238⟩, A70, H⟩ := H
 try dsimp only at H
 have A7 := Aside0.mk A70
 clear A70
 simp only [Option.some.injEq, Prod.mk.injEq] at H
 obtain ⟨rfl, rfl⟩ := H
 go_enter Tryz.func96, Tryz.ntmps96
 try go_wp2_with (first | ((with_reducible refine gate_dst (N := 2) rfl ?_); refine bxe 2 #[.int .i64 a0_0, .int .i64 a0_1] 23 ?_; intro gb220 hg w8 hbox hb; have BK220 := Aside0.mk hbox; have GW220 := ge hg; have GE220 := ge hg; replace HB := bs hb; clear hb hbox hg) | ((with_reducible refine gate_dst (N := 3) rfl ?_); refine bxe 3 #[.int .i64 a1_0, .int .i64 a1_1] 23 ?_; intro gb221 hg w9 hbox hb; have BK221 := Aside0.mk hbox; have GW221 := ge hg; have GE221 := ge hg; have NB220_221 := nl BK220 hg; have NB221_220 := nr BK220 hg; replace BK220 := kb BK220 hb; replace HB := bs hb; clear hb hbox hg) | ((with_reducible refine gate_dst (N := 4) rfl ?_); refine bxe 4 #[.int .i64 0, .int .i64 0] 23 ?_; intro gb222 hg w10 hbox hb; have BK222 := Aside0.mk hbox; have GW222 := ge hg; have GE222 := ge hg; have NB220_222 := nl BK220 hg; have NB222_220 := nr BK220 hg; have NB221_222 := nl BK221 hg; have NB222_221 := nr BK221 hg; replace BK220 := kb BK220 hb; replace BK221 := kb BK221 hb; replace HB := bs hb; clear hb hbox hg))
 replace BK220 := Aside0.mk (blk_drew BK220.out)
 replace BK221 := Aside0.mk (blk_drew BK221.out)
 replace BK222 := Aside0.mk (blk_drew BK222.out)
 replace HB := Aside0.mk (below_drew1 HB.out)
 refine start_ (n := 23) (S := fun w' => True) (ds := []) #[ff,ff,ff,ff,ff,ff,ff,ff,ff,ff,ff,ff,ff,ff,ff,ff,ff,ff,ff,ff,ff,ff,ff] (by kernel_rfl) rfl rfl trivial (fun hHeld => ?_); refine with_tabW real_product.tab1 real_product.bits1 (fun HT_ HW_ => ?_)
 generalize w10.drew = w11 at BK220 BK221 BK222 HB hHeld ⊢
 refine pur 0 (some 5) #[tt,ff,ff,ff,ff,ff,ff,ff,ff,ff,ff,ff,ff,ff,ff,ff,ff,ff,ff,ff,ff,ff,ff] ?_
 refine pur 3 (some 8) #[tt,ff,ff,tt,ff,ff,ff,ff,ff,ff,ff,ff,ff,ff,ff,ff,ff,ff,ff,ff,ff,ff,ff] ?_
 refine pur 7 (some 12) #[tt,ff,ff,tt,ff,ff,ff,tt,ff,ff,ff,ff,ff,ff,ff,ff,ff,ff,ff,ff,ff,ff,ff] ?_
 refine pur 10 (some 15) #[tt,ff,ff,tt,ff,ff,ff,tt,ff,ff,tt,ff,ff,ff,ff,ff,ff,ff,ff,ff,ff,ff,ff] ?_
 refine pur 14 (some 19) #[tt,ff,ff,tt,ff,ff,ff,tt,ff,ff,tt,ff,ff,ff,tt,ff,ff,ff,ff,ff,ff,ff,ff] ?_
 refine pur 16 (some 21) #[tt,ff,ff,tt,ff,ff,ff,tt,ff,ff,tt,ff,ff,ff,tt,ff,tt,ff,ff,ff,ff,ff,ff] ?_
 refine inv_at [1, 2, 4, 5, 6, 8, 9, 11, 12, 13, 15, 17, 18, 19, 20, 21, 22] (fun a0_ b a w' => ∃ (v224 : Value) (v227 : Value) (v230 : Value) (v233 : Value), a = putSel a0_ b [(1, 6, .int .i64 a0_0), (2, 7, .bool (decide (a0_0 < 0))), (4, 9, .int .i64 a1_0), (5, 10, .bool (decide (a1_0 < 0))), (6, 11, .bool ((decide (a0_0 < 0)) != (decide (a1_0 < 0)))), (8, 13, .int .i64 a0_0), (9, 14, v224), (11, 16, .int .i64 a1_0), (12, 17, v227), (13, 18, v230), (15, 20, .int .i64 a0_1), (17, 22, .int .i64 a1_1), (18, 23, .int .i64 (wrap64 (a0_1 + a1_1))), (19, 24, v233), (20, 25, .agg #[.int .i64 t235, .int .i64 t236]), (21, 26, .agg #[.int .i64 t237, .int .i64 t238])] ∧ (w'.heap[gb220]? = some (.cells #[.int .i64 a0_0, .int .i64 a0_1] 23 (0, 0))) ∧ (w'.heap[gb221]? = some (.cells #[.int .i64 a1_0, .int .i64 a1_1] 23 (0, 0))) ∧ (b 22 = false → w'.heap[gb222]? = some (.cells #[.int .i64 0, .int .i64 0] 23 (0, 0))) ∧ (Below w.heap.size w w') ∧ (b 9 = true → Kd.V (Kd.int .u32) 115 w' w.heap.size (fun k_ => k_ ≠ gb220 ∧ k_ ≠ gb221 ∧ k_ ≠ gb222) v224 t223) ∧ (b 12 = true → Kd.V (Kd.int .u32) 115 w' w.heap.size (fun k_ => k_ ≠ gb220 ∧ k_ ≠ gb221 ∧ k_ ≠ gb222) v227 t226) ∧ (b 13 = true → Kd.V (Kd.int .u32) 115 w' w.heap.size (fun k_ => k_ ≠ gb220 ∧ k_ ≠ gb221 ∧ k_ ≠ gb222) v230 t229) ∧ (b 19 = true → Kd.R (Kd.int .u32) 115 w' w.heap.size (fun _ => True) v233 y232) ∧ (b 22 = true → w'.heap[gb222]? = some (.cells #[.int .i64 t237, .int .i64 t238] 23 (0, 0))) ∧ (b 20 = true → ¬ t236 = 1000)) HT_.out HW_.out (by kernel_rfl) (by kernel_rfl) ?_ ?_ ?_
 ·exact ⟨.bool false, .bool false, .bool false, .bool false, by simp only [putSel, Bool.false_eq_true, if_false], BK220.out, BK221.out, fun _ => BK222.out, HB.out, fun h_ => absurd h_ (by decide), fun h_ => absurd h_ (by decide), fun h_ => absurd h_ (by decide), fun h_ => absurd h_ (by decide), fun h_ => absurd h_ (by decide), fun h_ => absurd h_ (by decide)⟩
 ·skip
  clear BK220 BK221 BK222 HB
  refine steps_cons ?_ ?_
  ·rintro b a w' ⟨v224, v227, v230, v233, ha, Q_BK220, Q_BK221, Q_BK222, Q_HB, Q_HO225, Q_HO228, Q_HO231, Q_HO234, Q_BK222_e22, Q_pan⟩ hb_ hon hoff
   refine ⟨_, rfl, fun K hK => ?_⟩
   have e5 : a.tmps[5]? = some (.pointer (some ⟨gb220, 0, none⟩)) := by rw [ha]; exact (putSel_off rfl).trans rfl
   replace ha := Aside0.mk ha
   have BK220 := Aside0.mk Q_BK220
   have BK221 := Aside0.mk Q_BK221
   have BK222 := Aside0.mk (Q_BK222 (hoff 22 (by kernel_rfl)))
   have HB := Aside0.mk Q_HB
   have hc0_ : w'.cell? ⟨gb220, 0, none⟩ = some (.int .i64 a0_0) := (blk_cell BK220.out 0).trans rfl
   have hc1_ : w'.cell? ⟨gb220, 1, none⟩ = some (.int .i64 a0_1) := (blk_cell BK220.out 1).trans rfl
   refine value_ (w1 := w') (v := .int .i64 a0_0) (by rfl) rfl ?_ ?_
   ·go_simp
    (try simp only [i64_w])
    try rfl
   refine hK.out _ _ ⟨v224, v227, v230, v233, (by rw [ha.out]; exact putSel_upk 0 hb_ rfl rfl rfl), Q_BK220, Q_BK221, Q_BK222, Q_HB, Q_HO225, Q_HO228, Q_HO231, Q_HO234, fun h0_ => absurd ((hoff 22 (by kernel_rfl)).symm.trans h0_) (by decide), Q_pan⟩
  refine steps_cons ?_ ?_
  ·rintro b a w' ⟨v224, v227, v230, v233, ha, Q_BK220, Q_BK221, Q_BK222, Q_HB, Q_HO225, Q_HO228, Q_HO231, Q_HO234, Q_BK222_e22, Q_pan⟩ hb_ hon hoff
   refine ⟨_, rfl, fun K hK => ?_⟩
   have e6 : a.tmps[6]? = some (.int .i64 a0_0) := by rw [ha]; exact putSel_on (e := (1, 6, .int .i64 a0_0)) 0 rfl rfl (hon 1 (by kernel_rfl)) rfl
   replace ha := Aside0.mk ha
   have BK220 := Aside0.mk Q_BK220
   have BK221 := Aside0.mk Q_BK221
   have BK222 := Aside0.mk (Q_BK222 (hoff 22 (by kernel_rfl)))
   have HB := Aside0.mk Q_HB
   refine value_ (w1 := w') (v := .bool (decide (a0_0 < 0))) (by rfl) rfl ?_ ?_
   ·go_simp
    (try simp only [i64_w])
    try rfl
   refine hK.out _ _ ⟨v224, v227, v230, v233, (by rw [ha.out]; exact putSel_upk 1 hb_ rfl rfl rfl), Q_BK220, Q_BK221, Q_BK222, Q_HB, Q_HO225, Q_HO228, Q_HO231, Q_HO234, fun h0_ => absurd ((hoff 22 (by kernel_rfl)).symm.trans h0_) (by decide), Q_pan⟩
  refine steps_cons ?_ ?_
  ·rintro b a w' ⟨v224, v227, v230, v233, ha, Q_BK220, Q_BK221, Q_BK222, Q_HB, Q_HO225, Q_HO228, Q_HO231, Q_HO234, Q_BK222_e22, Q_pan⟩ hb_ hon hoff
   refine ⟨_, rfl, fun K hK => ?_⟩
   have e8 : a.tmps[8]? = some (.pointer (some ⟨gb221, 0, none⟩)) := by rw [ha]; exact (putSel_off rfl).trans rfl
   replace ha := Aside0.mk ha
   have BK220 := Aside0.mk Q_BK220
   have BK221 := Aside0.mk Q_BK221
   have BK222 := Aside0.mk (Q_BK222 (hoff 22 (by kernel_rfl)))
   have HB := Aside0.mk Q_HB
   have hc0_ : w'.cell? ⟨gb221, 0, none⟩ = some (.int .i64 a1_0) := (blk_cell BK221.out 0).trans rfl
   have hc1_ : w'.cell? ⟨gb221, 1, none⟩ = some (.int .i64 a1_1) := (blk_cell BK221.out 1).trans rfl
   refine value_ (w1 := w') (v := .int .i64 a1_0) (by rfl) rfl ?_ ?_
   ·go_simp
    (try simp only [i64_w])
    try rfl
   refine hK.out _ _ ⟨v224, v227, v230, v233, (by rw [ha.out]; exact putSel_upk 2 hb_ rfl rfl rfl), Q_BK220, Q_BK221, Q_BK222, Q_HB, Q_HO225, Q_HO228, Q_HO231, Q_HO234, fun h0_ => absurd ((hoff 22 (by kernel_rfl)).symm.trans h0_) (by decide), Q_pan⟩
  refine steps_cons ?_ ?_
  ·rintro b a w' ⟨v224, v227, v230, v233, ha, Q_BK220, Q_BK221, Q_BK222, Q_HB, Q_HO225, Q_HO228, Q_HO231, Q_HO234, Q_BK222_e22, Q_pan⟩ hb_ hon hoff
   refine ⟨_, rfl, fun K hK => ?_⟩
   have e9 : a.tmps[9]? = some (.int .i64 a1_0) := by rw [ha]; exact putSel_on (e := (4, 9, .int .i64 a1_0)) 2 rfl rfl (hon 4 (by kernel_rfl)) rfl
   replace ha := Aside0.mk ha
   have BK220 := Aside0.mk Q_BK220
   have BK221 := Aside0.mk Q_BK221
   have BK222 := Aside0.mk (Q_BK222 (hoff 22 (by kernel_rfl)))
   have HB := Aside0.mk Q_HB
   refine value_ (w1 := w') (v := .bool (decide (a1_0 < 0))) (by rfl) rfl ?_ ?_
   ·go_simp
    (try simp only [i64_w])
    try rfl
   refine hK.out _ _ ⟨v224, v227, v230, v233, (by rw [ha.out]; exact putSel_upk 3 hb_ rfl rfl rfl), Q_BK220, Q_BK221, Q_BK222, Q_HB, Q_HO225, Q_HO228, Q_HO231, Q_HO234, fun h0_ => absurd ((hoff 22 (by kernel_rfl)).symm.trans h0_) (by decide), Q_pan⟩
  refine steps_cons ?_ ?_
  ·rintro b a w' ⟨v224, v227, v230, v233, ha, Q_BK220, Q_BK221, Q_BK222, Q_HB, Q_HO225, Q_HO228, Q_HO231, Q_HO234, Q_BK222_e22, Q_pan⟩ hb_ hon hoff
   refine ⟨_, rfl, fun K hK => ?_⟩
   have e7 : a.tmps[7]? = some (.bool (decide (a0_0 < 0))) := by rw [ha]; exact putSel_on (e := (2, 7, .bool (decide (a0_0 < 0)))) 1 rfl rfl (hon 2 (by kernel_rfl)) rfl
   have e10 : a.tmps[10]? = some (.bool (decide (a1_0 < 0))) := by rw [ha]; exact putSel_on (e := (5, 10, .bool (decide (a1_0 < 0)))) 3 rfl rfl (hon 5 (by kernel_rfl)) rfl
   replace ha := Aside0.mk ha
   have BK220 := Aside0.mk Q_BK220
   have BK221 := Aside0.mk Q_BK221
   have BK222 := Aside0.mk (Q_BK222 (hoff 22 (by kernel_rfl)))
   have HB := Aside0.mk Q_HB
   refine value_ (w1 := w') (v := .bool ((decide (a0_0 < 0)) != (decide (a1_0 < 0)))) (by rfl) rfl ?_ ?_
   ·go_simp
    (try simp only [i64_w])
    try rfl
    try (cases decide (a0_0 < 0) <;> cases decide (a1_0 < 0) <;> rfl)
   refine hK.out _ _ ⟨v224, v227, v230, v233, (by rw [ha.out]; exact putSel_upk 4 hb_ rfl rfl rfl), Q_BK220, Q_BK221, Q_BK222, Q_HB, Q_HO225, Q_HO228, Q_HO231, Q_HO234, fun h0_ => absurd ((hoff 22 (by kernel_rfl)).symm.trans h0_) (by decide), Q_pan⟩
  refine steps_cons ?_ ?_
  ·rintro b a w' ⟨v224, v227, v230, v233, ha, Q_BK220, Q_BK221, Q_BK222, Q_HB, Q_HO225, Q_HO228, Q_HO231, Q_HO234, Q_BK222_e22, Q_pan⟩ hb_ hon hoff
   refine ⟨_, rfl, fun K hK => ?_⟩
   have e12 : a.tmps[12]? = some (.pointer (some ⟨gb220, 0, none⟩)) := by rw [ha]; exact (putSel_off rfl).trans rfl
   replace ha := Aside0.mk ha
   have BK220 := Aside0.mk Q_BK220
   have BK221 := Aside0.mk Q_BK221
   have BK222 := Aside0.mk (Q_BK222 (hoff 22 (by kernel_rfl)))
   have HB := Aside0.mk Q_HB
   have hc0_ : w'.cell? ⟨gb220, 0, none⟩ = some (.int .i64 a0_0) := (blk_cell BK220.out 0).trans rfl
   have hc1_ : w'.cell? ⟨gb220, 1, none⟩ = some (.int .i64 a0_1) := (blk_cell BK220.out 1).trans rfl
   refine value_ (w1 := w') (v := .int .i64 a0_0) (by rfl) rfl ?_ ?_
   ·go_simp
    (try simp only [i64_w])
    try rfl
   refine hK.out _ _ ⟨v224, v227, v230, v233, (by rw [ha.out]; exact putSel_upk 5 hb_ rfl rfl rfl), Q_BK220, Q_BK221, Q_BK222, Q_HB, fun h0_ => absurd ((hoff 9 (by kernel_rfl)).symm.trans h0_) (by decide), fun h0_ => absurd ((hoff 12 (by kernel_rfl)).symm.trans h0_) (by decide), fun h0_ => absurd ((hoff 13 (by kernel_rfl)).symm.trans h0_) (by decide), Q_HO234, fun h0_ => absurd ((hoff 22 (by kernel_rfl)).symm.trans h0_) (by decide), Q_pan⟩
  refine steps_cons ?_ ?_
  ·rintro b a w' ⟨v224, v227, v230, v233, ha, Q_BK220, Q_BK221, Q_BK222, Q_HB, Q_HO225, Q_HO228, Q_HO231, Q_HO234, Q_BK222_e22, Q_pan⟩ hb_ hon hoff
   refine ⟨_, rfl, fun K hK => ?_⟩
   have e13 : a.tmps[13]? = some (.int .i64 a0_0) := by rw [ha]; exact putSel_on (e := (8, 13, .int .i64 a0_0)) 5 rfl rfl (hon 8 (by kernel_rfl)) rfl
   replace ha := Aside0.mk ha
   have BK220 := Aside0.mk Q_BK220
   have BK221 := Aside0.mk Q_BK221
   have BK222 := Aside0.mk (Q_BK222 (hoff 22 (by kernel_rfl)))
   have HB := Aside0.mk Q_HB
   refine goes_ Tryz.func113 (by kernel_rfl) rfl #[.int .i64 a0_0] (by rfl) rfl rfl (by first | (simp only [List.map_toArray, List.map_cons, List.map_nil, Act.eval, Array.getD_eq_getD_getElem?, Option.getD_some, e13]; done) | (simp only [List.map_toArray, List.map_cons, List.map_nil, Act.eval, Array.getD_eq_getD_getElem?, Option.getD_some, e13]; rfl)) ?_
   with_reducible refine (real_magnitude.calls k a0_0 t223 _ A3.out).mono ?_
   rintro e w12 ⟨v224, rfl, ho0, hb⟩
   refine ⟨_, rfl, ?_⟩
   have n0_ := Aside0.mk (Kd.V_lower (Kd.V_mono (ok' := fun k_ => k_ ≠ gb220 ∧ k_ ≠ gb221 ∧ k_ ≠ gb222) ho0 (fun k_ hk_ => ⟨(fb BK220 k_ hk_), (fb BK221 k_ hk_), (fb BK222 k_ hk_)⟩)) (below_size bz))
   have n1_ := kb BK220 hb
   have n2_ := kb BK221 hb
   have n3_ := kb BK222 hb
   have n4_ := bs hb
   have z_HO234 := fun (h0_ : b 19 = true) => (show Kd.R (Kd.int .u32) 115 w12 w.heap.size (fun _ => True) v233 y232 from by first | exact (Kd.R_below (by (with_reducible repeat (first | apply Kd.R_alloc | apply Kd.R_drewN | apply Kd.R_drew)); exact (Q_HO234 h0_)) hb) | exact Kd.R_mono (Kd.R_below (by (with_reducible repeat (first | apply Kd.R_alloc | apply Kd.R_drewN | apply Kd.R_drew)); exact (Q_HO234 h0_)) hb) (fun _ h_ => by first | trivial | exact h_ | exact h_.1))
   clear BK220
   clear BK221
   clear BK222
   clear HB
   have HO225 := n0_
   have BK220 := n1_
   have BK221 := n2_
   have BK222 := n3_
   have HB := n4_
   clear n0_ n1_ n2_ n3_ n4_
   (try clear hb)
   (try clear hk)
   (try clear ho0)
   refine hK.out _ _ ⟨v224, v227, v230, v233, (by rw [ha.out]; exact putSel_upk 6 hb_ rfl rfl rfl), (kz BK220), (kz BK221), fun _ => (kz BK222), bz, fun _ => (vz HO225), fun h0_ => absurd ((hoff 12 (by kernel_rfl)).symm.trans h0_) (by decide), fun h0_ => absurd ((hoff 13 (by kernel_rfl)).symm.trans h0_) (by decide), z_HO234, fun h0_ => absurd ((hoff 22 (by kernel_rfl)).symm.trans h0_) (by decide), Q_pan⟩
  refine steps_cons ?_ ?_
  ·rintro b a w' ⟨v224, v227, v230, v233, ha, Q_BK220, Q_BK221, Q_BK222, Q_HB, Q_HO225, Q_HO228, Q_HO231, Q_HO234, Q_BK222_e22, Q_pan⟩ hb_ hon hoff
   refine ⟨_, rfl, fun K hK => ?_⟩
   have e15 : a.tmps[15]? = some (.pointer (some ⟨gb221, 0, none⟩)) := by rw [ha]; exact (putSel_off rfl).trans rfl
   replace ha := Aside0.mk ha
   have BK220 := Aside0.mk Q_BK220
   have BK221 := Aside0.mk Q_BK221
   have BK222 := Aside0.mk (Q_BK222 (hoff 22 (by kernel_rfl)))
   have HB := Aside0.mk Q_HB
   have hc0_ : w'.cell? ⟨gb221, 0, none⟩ = some (.int .i64 a1_0) := (blk_cell BK221.out 0).trans rfl
   have hc1_ : w'.cell? ⟨gb221, 1, none⟩ = some (.int .i64 a1_1) := (blk_cell BK221.out 1).trans rfl
   refine value_ (w1 := w') (v := .int .i64 a1_0) (by rfl) rfl ?_ ?_
   ·go_simp
    (try simp only [i64_w])
    try rfl
   refine hK.out _ _ ⟨v224, v227, v230, v233, (by rw [ha.out]; exact putSel_upk 7 hb_ rfl rfl rfl), Q_BK220, Q_BK221, Q_BK222, Q_HB, Q_HO225, fun h0_ => absurd ((hoff 12 (by kernel_rfl)).symm.trans h0_) (by decide), fun h0_ => absurd ((hoff 13 (by kernel_rfl)).symm.trans h0_) (by decide), Q_HO234, fun h0_ => absurd ((hoff 22 (by kernel_rfl)).symm.trans h0_) (by decide), Q_pan⟩
  refine steps_cons ?_ ?_
  ·rintro b a w' ⟨v224, v227, v230, v233, ha, Q_BK220, Q_BK221, Q_BK222, Q_HB, Q_HO225, Q_HO228, Q_HO231, Q_HO234, Q_BK222_e22, Q_pan⟩ hb_ hon hoff
   refine ⟨_, rfl, fun K hK => ?_⟩
   have e16 : a.tmps[16]? = some (.int .i64 a1_0) := by rw [ha]; exact putSel_on (e := (11, 16, .int .i64 a1_0)) 7 rfl rfl (hon 11 (by kernel_rfl)) rfl
   replace ha := Aside0.mk ha
   have BK220 := Aside0.mk Q_BK220
   have BK221 := Aside0.mk Q_BK221
   have BK222 := Aside0.mk (Q_BK222 (hoff 22 (by kernel_rfl)))
   have HB := Aside0.mk Q_HB
   have HO225 := Aside0.mk (Q_HO225 (hon 9 (by kernel_rfl)))
   refine goes_ Tryz.func113 (by kernel_rfl) rfl #[.int .i64 a1_0] (by rfl) rfl rfl (by first | (simp only [List.map_toArray, List.map_cons, List.map_nil, Act.eval, Array.getD_eq_getD_getElem?, Option.getD_some, e16]; done) | (simp only [List.map_toArray, List.map_cons, List.map_nil, Act.eval, Array.getD_eq_getD_getElem?, Option.getD_some, e16]; rfl)) ?_
   with_reducible refine (real_magnitude.calls k a1_0 t226 _ A4.out).mono ?_
   rintro e w14 ⟨v227, rfl, ho0, hb⟩
   refine ⟨_, rfl, ?_⟩
   have n0_ := vb HO225 hb
   have n1_ := Aside0.mk (Kd.V_lower (Kd.V_mono (ok' := fun k_ => k_ ≠ gb220 ∧ k_ ≠ gb221 ∧ k_ ≠ gb222) ho0 (fun k_ hk_ => ⟨(fb BK220 k_ hk_), (fb BK221 k_ hk_), (fb BK222 k_ hk_)⟩)) (below_size bz))
   have n2_ := kb BK220 hb
   have n3_ := kb BK221 hb
   have n4_ := kb BK222 hb
   have n5_ := bs hb
   have z_HO234 := fun (h0_ : b 19 = true) => (show Kd.R (Kd.int .u32) 115 w14 w.heap.size (fun _ => True) v233 y232 from by first | exact (Kd.R_below (by (with_reducible repeat (first | apply Kd.R_alloc | apply Kd.R_drewN | apply Kd.R_drew)); exact (Q_HO234 h0_)) hb) | exact Kd.R_mono (Kd.R_below (by (with_reducible repeat (first | apply Kd.R_alloc | apply Kd.R_drewN | apply Kd.R_drew)); exact (Q_HO234 h0_)) hb) (fun _ h_ => by first | trivial | exact h_ | exact h_.1))
   clear HO225
   clear BK220
   clear BK221
   clear BK222
   clear HB
   have HO225 := n0_
   have HO228 := n1_
   have BK220 := n2_
   have BK221 := n3_
   have BK222 := n4_
   have HB := n5_
   clear n0_ n1_ n2_ n3_ n4_ n5_
   (try clear hb)
   (try clear hk)
   (try clear ho0)
   refine hK.out _ _ ⟨v224, v227, v230, v233, (by rw [ha.out]; exact putSel_upk 8 hb_ rfl rfl rfl), (kz BK220), (kz BK221), fun _ => (kz BK222), bz, fun _ => (vz HO225), fun _ => (vz HO228), fun h0_ => absurd ((hoff 13 (by kernel_rfl)).symm.trans h0_) (by decide), z_HO234, fun h0_ => absurd ((hoff 22 (by kernel_rfl)).symm.trans h0_) (by decide), Q_pan⟩
  refine steps_cons ?_ ?_
  ·rintro b a w' ⟨v224, v227, v230, v233, ha, Q_BK220, Q_BK221, Q_BK222, Q_HB, Q_HO225, Q_HO228, Q_HO231, Q_HO234, Q_BK222_e22, Q_pan⟩ hb_ hon hoff
   refine ⟨_, rfl, fun K hK => ?_⟩
   have e14 : a.tmps[14]? = some (v224) := by rw [ha]; exact putSel_on (e := (9, 14, v224)) 6 rfl rfl (hon 9 (by kernel_rfl)) rfl
   have e17 : a.tmps[17]? = some (v227) := by rw [ha]; exact putSel_on (e := (12, 17, v227)) 8 rfl rfl (hon 12 (by kernel_rfl)) rfl
   replace ha := Aside0.mk ha
   have BK220 := Aside0.mk Q_BK220
   have BK221 := Aside0.mk Q_BK221
   have BK222 := Aside0.mk (Q_BK222 (hoff 22 (by kernel_rfl)))
   have HB := Aside0.mk Q_HB
   have HO225 := Aside0.mk (Q_HO225 (hon 9 (by kernel_rfl)))
   have HO228 := Aside0.mk (Q_HO228 (hon 12 (by kernel_rfl)))
   obtain ⟨Ao15, co15, eo15⟩ := Kd.V_slice HO225.out
   (first | subst eo15 | (injection eo15 with f1_ f2_ f3_; have f4_ := f1_.symm; have f5_ := f3_.symm; clear f1_ f2_ f3_; subst f4_; subst f5_))
   obtain ⟨Ao16, co16, eo16⟩ := Kd.V_slice HO228.out
   (first | subst eo16 | (injection eo16 with f1_ f2_ f3_; have f4_ := f1_.symm; have f5_ := f3_.symm; clear f1_ f2_ f3_; subst f4_; subst f5_))
   refine goes_ Tryz.func116 (by kernel_rfl) rfl #[.slice Ao15 t223.length co15, .slice Ao16 t226.length co16] (by rfl) rfl rfl (by first | (simp only [List.map_toArray, List.map_cons, List.map_nil, Act.eval, Array.getD_eq_getD_getElem?, Option.getD_some, e14, e17]; done) | (simp only [List.map_toArray, List.map_cons, List.map_nil, Act.eval, Array.getD_eq_getD_getElem?, Option.getD_some, e14, e17]; rfl)) ?_
   with_reducible refine (real_nat_mul.calls k _ _ t223 _ _ t226 t229 _ ?side1 ?side2 ?side3 ?side4 A5.out).mono ?_
   (case side1 => exact ccz (Kd.V_reads' HO225.out).2.2)
   (case side2 => exact (Kd.V_reads' HO225.out).2.1)
   (case side3 => exact ccz (Kd.V_reads' HO228.out).2.2)
   (case side4 => exact (Kd.V_reads' HO228.out).2.1)
   rintro e w17 ⟨v230, rfl, ho0, hb⟩
   refine ⟨_, rfl, ?_⟩
   have n0_ := vb HO225 hb
   have n1_ := vb HO228 hb
   have n2_ := Aside0.mk (Kd.V_lower (Kd.V_mono (ok' := fun k_ => k_ ≠ gb220 ∧ k_ ≠ gb221 ∧ k_ ≠ gb222) ho0 (fun k_ hk_ => ⟨(fb BK220 k_ hk_), (fb BK221 k_ hk_), (fb BK222 k_ hk_)⟩)) (below_size bz))
   have n3_ := kb BK220 hb
   have n4_ := kb BK221 hb
   have n5_ := kb BK222 hb
   have n6_ := bs hb
   have z_HO234 := fun (h0_ : b 19 = true) => (show Kd.R (Kd.int .u32) 115 w17 w.heap.size (fun _ => True) v233 y232 from by first | exact (Kd.R_below (by (with_reducible repeat (first | apply Kd.R_alloc | apply Kd.R_drewN | apply Kd.R_drew)); exact (Q_HO234 h0_)) hb) | exact Kd.R_mono (Kd.R_below (by (with_reducible repeat (first | apply Kd.R_alloc | apply Kd.R_drewN | apply Kd.R_drew)); exact (Q_HO234 h0_)) hb) (fun _ h_ => by first | trivial | exact h_ | exact h_.1))
   clear HO225
   clear HO228
   clear BK220
   clear BK221
   clear BK222
   clear HB
   have HO225 := n0_
   have HO228 := n1_
   have HO231 := n2_
   have BK220 := n3_
   have BK221 := n4_
   have BK222 := n5_
   have HB := n6_
   clear n0_ n1_ n2_ n3_ n4_ n5_ n6_
   (try clear hb)
   (try clear hk)
   (try clear ho0)
   refine hK.out _ _ ⟨.slice Ao15 t223.length co15, .slice Ao16 t226.length co16, v230, v233, (by rw [ha.out]; exact putSel_upk 9 hb_ rfl rfl rfl), (kz BK220), (kz BK221), fun _ => (kz BK222), bz, fun _ => (vz HO225), fun _ => (vz HO228), fun _ => (vz HO231), z_HO234, fun h0_ => absurd ((hoff 22 (by kernel_rfl)).symm.trans h0_) (by decide), Q_pan⟩
  refine steps_cons ?_ ?_
  ·rintro b a w' ⟨v224, v227, v230, v233, ha, Q_BK220, Q_BK221, Q_BK222, Q_HB, Q_HO225, Q_HO228, Q_HO231, Q_HO234, Q_BK222_e22, Q_pan⟩ hb_ hon hoff
   refine ⟨_, rfl, fun K hK => ?_⟩
   have e19 : a.tmps[19]? = some (.pointer (some ⟨gb220, 1, none⟩)) := by rw [ha]; exact (putSel_off rfl).trans rfl
   replace ha := Aside0.mk ha
   have BK220 := Aside0.mk Q_BK220
   have BK221 := Aside0.mk Q_BK221
   have BK222 := Aside0.mk (Q_BK222 (hoff 22 (by kernel_rfl)))
   have HB := Aside0.mk Q_HB
   have hc0_ : w'.cell? ⟨gb220, 0, none⟩ = some (.int .i64 a0_0) := (blk_cell BK220.out 0).trans rfl
   have hc1_ : w'.cell? ⟨gb220, 1, none⟩ = some (.int .i64 a0_1) := (blk_cell BK220.out 1).trans rfl
   refine value_ (w1 := w') (v := .int .i64 a0_1) (by rfl) rfl ?_ ?_
   ·go_simp
    (try simp only [i64_w])
    try rfl
   refine hK.out _ _ ⟨v224, v227, v230, v233, (by rw [ha.out]; exact putSel_upk 10 hb_ rfl rfl rfl), Q_BK220, Q_BK221, Q_BK222, Q_HB, Q_HO225, Q_HO228, Q_HO231, Q_HO234, fun h0_ => absurd ((hoff 22 (by kernel_rfl)).symm.trans h0_) (by decide), Q_pan⟩
  refine steps_cons ?_ ?_
  ·rintro b a w' ⟨v224, v227, v230, v233, ha, Q_BK220, Q_BK221, Q_BK222, Q_HB, Q_HO225, Q_HO228, Q_HO231, Q_HO234, Q_BK222_e22, Q_pan⟩ hb_ hon hoff
   refine ⟨_, rfl, fun K hK => ?_⟩
   have e21 : a.tmps[21]? = some (.pointer (some ⟨gb221, 1, none⟩)) := by rw [ha]; exact (putSel_off rfl).trans rfl
   replace ha := Aside0.mk ha
   have BK220 := Aside0.mk Q_BK220
   have BK221 := Aside0.mk Q_BK221
   have BK222 := Aside0.mk (Q_BK222 (hoff 22 (by kernel_rfl)))
   have HB := Aside0.mk Q_HB
   have hc0_ : w'.cell? ⟨gb221, 0, none⟩ = some (.int .i64 a1_0) := (blk_cell BK221.out 0).trans rfl
   have hc1_ : w'.cell? ⟨gb221, 1, none⟩ = some (.int .i64 a1_1) := (blk_cell BK221.out 1).trans rfl
   refine value_ (w1 := w') (v := .int .i64 a1_1) (by rfl) rfl ?_ ?_
   ·go_simp
    (try simp only [i64_w])
    try rfl
   refine hK.out _ _ ⟨v224, v227, v230, v233, (by rw [ha.out]; exact putSel_upk 11 hb_ rfl rfl rfl), Q_BK220, Q_BK221, Q_BK222, Q_HB, Q_HO225, Q_HO228, Q_HO231, Q_HO234, fun h0_ => absurd ((hoff 22 (by kernel_rfl)).symm.trans h0_) (by decide), Q_pan⟩
  refine steps_cons ?_ ?_
  ·rintro b a w' ⟨v224, v227, v230, v233, ha, Q_BK220, Q_BK221, Q_BK222, Q_HB, Q_HO225, Q_HO228, Q_HO231, Q_HO234, Q_BK222_e22, Q_pan⟩ hb_ hon hoff
   refine ⟨_, rfl, fun K hK => ?_⟩
   have e20 : a.tmps[20]? = some (.int .i64 a0_1) := by rw [ha]; exact putSel_on (e := (15, 20, .int .i64 a0_1)) 10 rfl rfl (hon 15 (by kernel_rfl)) rfl
   have e22 : a.tmps[22]? = some (.int .i64 a1_1) := by rw [ha]; exact putSel_on (e := (17, 22, .int .i64 a1_1)) 11 rfl rfl (hon 17 (by kernel_rfl)) rfl
   replace ha := Aside0.mk ha
   have BK220 := Aside0.mk Q_BK220
   have BK221 := Aside0.mk Q_BK221
   have BK222 := Aside0.mk (Q_BK222 (hoff 22 (by kernel_rfl)))
   have HB := Aside0.mk Q_HB
   refine value_ (w1 := w') (v := .int .i64 (wrap64 (a0_1 + a1_1))) (by rfl) rfl ?_ ?_
   ·go_simp
    (try simp only [i64_w])
    try rfl
   refine hK.out _ _ ⟨v224, v227, v230, v233, (by rw [ha.out]; exact putSel_upk 12 hb_ rfl rfl rfl), Q_BK220, Q_BK221, Q_BK222, Q_HB, Q_HO225, Q_HO228, Q_HO231, Q_HO234, fun h0_ => absurd ((hoff 22 (by kernel_rfl)).symm.trans h0_) (by decide), Q_pan⟩
  refine steps_cons ?_ ?_
  ·rintro b a w' ⟨v224, v227, v230, v233, ha, Q_BK220, Q_BK221, Q_BK222, Q_HB, Q_HO225, Q_HO228, Q_HO231, Q_HO234, Q_BK222_e22, Q_pan⟩ hb_ hon hoff
   refine ⟨_, rfl, fun K hK => ?_⟩
   replace ha := Aside0.mk ha
   have BK220 := Aside0.mk Q_BK220
   have BK221 := Aside0.mk Q_BK221
   have BK222 := Aside0.mk (Q_BK222 (hoff 22 (by kernel_rfl)))
   have HB := Aside0.mk Q_HB
   refine Kd.R_lit_step (Kd.int .u32) _ 115 ?hg (N := 24) ?hd (xs := ([1] : List Int)) (inner := [.int .u32 1]) (ok := fun _ => True) (okp := fun _ => True) ?hr ?hp (fun _ hk => hk) trivial (Below.refl _ _) (Nat.le_refl _) (by simp) ?_; (case hd => rfl); (case hg => rfl); (case hr => first | (go_simp; done) | (go_simp; rfl)); (case hp => exact (Reps.one (show Kd.M (Kd.int .u32) _ _ _ 1 [.int .u32 1] from rfl) (Reps.none _ _)))
   intro v233 w12 ho13 hb hg_ hnew_
   clear hg_ hnew_
   (first | rw [← Ny232.out] at ho13 | (simp only [Int.reduceToNat] at ho13; rw [← Ny232.out] at ho13))
   have n0_ := Aside0.mk (Kd.R_lower ho13 (below_size bz))
   have n1_ := kb BK220 hb
   have n2_ := kb BK221 hb
   have n3_ := kb BK222 hb
   have n4_ := bs hb
   have z_HO225 := fun (h0_ : b 9 = true) => (show Kd.V (Kd.int .u32) 115 w12 w.heap.size (fun k_ => k_ ≠ gb220 ∧ k_ ≠ gb221 ∧ k_ ≠ gb222) v224 t223 from by first | exact (Kd.V_elder' (by (with_reducible repeat (first | apply Kd.V_alloc | apply Kd.V_drewN | apply Kd.V_drew)); exact (Q_HO225 h0_)) (Kd.R_base ho13) hb) | exact Kd.V_mono (Kd.V_elder' (by (with_reducible repeat (first | apply Kd.V_alloc | apply Kd.V_drewN | apply Kd.V_drew)); exact (Q_HO225 h0_)) (Kd.R_base ho13) hb) (fun _ h_ => by first | trivial | exact h_ | exact h_.1))
   have z_HO228 := fun (h0_ : b 12 = true) => (show Kd.V (Kd.int .u32) 115 w12 w.heap.size (fun k_ => k_ ≠ gb220 ∧ k_ ≠ gb221 ∧ k_ ≠ gb222) v227 t226 from by first | exact (Kd.V_elder' (by (with_reducible repeat (first | apply Kd.V_alloc | apply Kd.V_drewN | apply Kd.V_drew)); exact (Q_HO228 h0_)) (Kd.R_base ho13) hb) | exact Kd.V_mono (Kd.V_elder' (by (with_reducible repeat (first | apply Kd.V_alloc | apply Kd.V_drewN | apply Kd.V_drew)); exact (Q_HO228 h0_)) (Kd.R_base ho13) hb) (fun _ h_ => by first | trivial | exact h_ | exact h_.1))
   have z_HO231 := fun (h0_ : b 13 = true) => (show Kd.V (Kd.int .u32) 115 w12 w.heap.size (fun k_ => k_ ≠ gb220 ∧ k_ ≠ gb221 ∧ k_ ≠ gb222) v230 t229 from by first | exact (Kd.V_elder' (by (with_reducible repeat (first | apply Kd.V_alloc | apply Kd.V_drewN | apply Kd.V_drew)); exact (Q_HO231 h0_)) (Kd.R_base ho13) hb) | exact Kd.V_mono (Kd.V_elder' (by (with_reducible repeat (first | apply Kd.V_alloc | apply Kd.V_drewN | apply Kd.V_drew)); exact (Q_HO231 h0_)) (Kd.R_base ho13) hb) (fun _ h_ => by first | trivial | exact h_ | exact h_.1))
   clear BK220
   clear BK221
   clear BK222
   clear HB
   have HO234 := n0_
   have BK220 := n1_
   have BK221 := n2_
   have BK222 := n3_
   have HB := n4_
   clear n0_ n1_ n2_ n3_ n4_
   clear hb ho13
   refine hK.out _ _ ⟨v224, v227, v230, v233, (by rw [ha.out]; exact putSel_upk 13 hb_ rfl rfl rfl), (kz BK220), (kz BK221), fun _ => (kz BK222), bz, z_HO225, z_HO228, z_HO231, fun _ => (rz HO234), fun h0_ => absurd ((hoff 22 (by kernel_rfl)).symm.trans h0_) (by decide), Q_pan⟩
  refine steps_cons ?_ ?_
  ·rintro b a w' ⟨v224, v227, v230, v233, ha, Q_BK220, Q_BK221, Q_BK222, Q_HB, Q_HO225, Q_HO228, Q_HO231, Q_HO234, Q_BK222_e22, Q_pan⟩ hb_ hon hoff
   refine ⟨_, rfl, fun K hK => ?_⟩
   have e18 : a.tmps[18]? = some (v230) := by rw [ha]; exact putSel_on (e := (13, 18, v230)) 9 rfl rfl (hon 13 (by kernel_rfl)) rfl
   have e23 : a.tmps[23]? = some (.int .i64 (wrap64 (a0_1 + a1_1))) := by rw [ha]; exact putSel_on (e := (18, 23, .int .i64 (wrap64 (a0_1 + a1_1)))) 12 rfl rfl (hon 18 (by kernel_rfl)) rfl
   have e24 : a.tmps[24]? = some (v233) := by rw [ha]; exact putSel_on (e := (19, 24, v233)) 13 rfl rfl (hon 19 (by kernel_rfl)) rfl
   replace ha := Aside0.mk ha
   have BK220 := Aside0.mk Q_BK220
   have BK221 := Aside0.mk Q_BK221
   have BK222 := Aside0.mk (Q_BK222 (hoff 22 (by kernel_rfl)))
   have HB := Aside0.mk Q_HB
   have HO225 := Aside0.mk (Q_HO225 (hon 9 (by kernel_rfl)))
   have HO228 := Aside0.mk (Q_HO228 (hon 12 (by kernel_rfl)))
   have HO231 := Aside0.mk (Q_HO231 (hon 13 (by kernel_rfl)))
   have HO234 := Aside0.mk (Q_HO234 (hon 19 (by kernel_rfl)))
   obtain ⟨Ao20, co20, eo20⟩ := Kd.V_slice HO231.out
   (first | subst eo20 | (injection eo20 with f1_ f2_ f3_; have f4_ := f1_.symm; have f5_ := f3_.symm; clear f1_ f2_ f3_; subst f4_; subst f5_))
   obtain ⟨Ao21, co21, eo21⟩ := Kd.R_slice HO234.out
   (first | subst eo21 | (injection eo21 with f1_ f2_ f3_; have f4_ := f1_.symm; have f5_ := f3_.symm; clear f1_ f2_ f3_; subst f4_; subst f5_))
   refine goesP_ Tryz.func97 (by kernel_rfl) rfl #[.slice Ao20 t229.length co20, .int .i64 (wrap64 (a0_1 + a1_1)), .slice Ao21 y232.length co21] (by rfl) rfl rfl (by first | (simp only [List.map_toArray, List.map_cons, List.map_nil, Act.eval, Array.getD_eq_getD_getElem?, Option.getD_some, e18, e23, e24]; done) | (simp only [List.map_toArray, List.map_cons, List.map_nil, Act.eval, Array.getD_eq_getD_getElem?, Option.getD_some, e18, e23, e24]; rfl)) ?_
   with_reducible refine (real_rounded.calls k ?pred2_ _ _ t229 (wrap64 (a0_1 + a1_1)) (fun k_ => some k_ = (.slice Ao21 y232.length co21 : Value).ownBlock) _ _ y232 t235 t236 _ ?side1 ?side2 A6.out).mono ?_
   (case side1 => exact HO231.out)
   (case side2 => exact Kd.R_V (Kd.R_tight rfl (Kd.R_types (Kd.R_types (Kd.R_types (HO234.out) BK220.out (by decide)) BK221.out (by decide)) BK222.out (by decide))))
   rintro e w22 ⟨he_, hb⟩
   refine ends_ he_ (fun p1_ => And.intro (by first | rfl | (rw [ha.out]; exact putSel_defers _ _ _)) (And.intro (by first | exact code_direct p1_ | exact code_signed (by assumption) p1_) (below_step bz hb))) (fun hpn_ => ?_)
   replace HO225 := vb HO225 hb
   replace HO228 := vb HO228 hb
   replace HO231 := vb HO231 hb
   replace HO234 := rb HO234 hb
   replace BK220 := kb BK220 hb
   replace BK221 := kb BK221 hb
   replace BK222 := kb BK222 hb
   replace HB := bs hb
   (try clear hb)
   (try clear hk)
   refine hK.out _ _ ⟨v224, v227, .slice Ao20 t229.length co20, .slice Ao21 y232.length co21, (by rw [ha.out]; exact putSel_upk 14 hb_ rfl rfl rfl), (kz BK220), (kz BK221), fun _ => (kz BK222), bz, fun _ => (vz HO225), fun _ => (vz HO228), fun _ => (vz HO231), fun _ => (rz HO234), fun h0_ => absurd ((hoff 22 (by kernel_rfl)).symm.trans h0_) (by decide), (fun _ => hpn_)⟩
  refine steps_cons ?_ ?_
  ·rintro b a w' ⟨v224, v227, v230, v233, ha, Q_BK220, Q_BK221, Q_BK222, Q_HB, Q_HO225, Q_HO228, Q_HO231, Q_HO234, Q_BK222_e22, Q_pan⟩ hb_ hon hoff
   refine ⟨_, rfl, fun K hK => ?_⟩
   have e11 : a.tmps[11]? = some (.bool ((decide (a0_0 < 0)) != (decide (a1_0 < 0)))) := by rw [ha]; exact putSel_on (e := (6, 11, .bool ((decide (a0_0 < 0)) != (decide (a1_0 < 0))))) 4 rfl rfl (hon 6 (by kernel_rfl)) rfl
   have e25 : a.tmps[25]? = some (.agg #[.int .i64 t235, .int .i64 t236]) := by rw [ha]; exact putSel_on (e := (20, 25, .agg #[.int .i64 t235, .int .i64 t236])) 14 rfl rfl (hon 20 (by kernel_rfl)) rfl
   replace ha := Aside0.mk ha
   have BK220 := Aside0.mk Q_BK220
   have BK221 := Aside0.mk Q_BK221
   have BK222 := Aside0.mk (Q_BK222 (hoff 22 (by kernel_rfl)))
   have HB := Aside0.mk Q_HB
   have HO225 := Aside0.mk (Q_HO225 (hon 9 (by kernel_rfl)))
   have HO228 := Aside0.mk (Q_HO228 (hon 12 (by kernel_rfl)))
   have HO231 := Aside0.mk (Q_HO231 (hon 13 (by kernel_rfl)))
   have HO234 := Aside0.mk (Q_HO234 (hon 19 (by kernel_rfl)))
   refine goes_ Tryz.func80 (by kernel_rfl) rfl #[.bool ((decide (a0_0 < 0)) != (decide (a1_0 < 0))), .agg #[.int .i64 t235, .int .i64 t236]] (by rfl) rfl rfl (by first | (simp only [List.map_toArray, List.map_cons, List.map_nil, Act.eval, Array.getD_eq_getD_getElem?, Option.getD_some, e11, e25]; done) | (simp only [List.map_toArray, List.map_cons, List.map_nil, Act.eval, Array.getD_eq_getD_getElem?, Option.getD_some, e11, e25]; rfl)) ?_
   with_reducible refine (real_signed.calls ((decide (a0_0 < 0)) != (decide (a1_0 < 0))) t235 t236 t237 t238 _ A7.out).mono ?_
   rintro e w23 ⟨rfl, hb⟩
   refine ⟨_, rfl, ?_⟩
   replace HO225 := vb HO225 hb
   replace HO228 := vb HO228 hb
   replace HO231 := vb HO231 hb
   replace HO234 := rb HO234 hb
   replace BK220 := kb BK220 hb
   replace BK221 := kb BK221 hb
   replace BK222 := kb BK222 hb
   replace HB := bs hb
   (try clear hb)
   (try clear hk)
   refine hK.out _ _ ⟨v224, v227, v230, v233, (by rw [ha.out]; exact putSel_upk 15 hb_ rfl rfl rfl), (kz BK220), (kz BK221), fun _ => (kz BK222), bz, fun _ => (vz HO225), fun _ => (vz HO228), fun _ => (vz HO231), fun _ => (rz HO234), fun h0_ => absurd ((hoff 22 (by kernel_rfl)).symm.trans h0_) (by decide), Q_pan⟩
  refine steps_cons ?_ ?_
  ·rintro b a w' ⟨v224, v227, v230, v233, ha, Q_BK220, Q_BK221, Q_BK222, Q_HB, Q_HO225, Q_HO228, Q_HO231, Q_HO234, Q_BK222_e22, Q_pan⟩ hb_ hon hoff
   refine ⟨_, rfl, fun K hK => ?_⟩
   have e4 : a.tmps[4]? = some (.pointer (some ⟨gb222, 0, none⟩)) := by rw [ha]; exact (putSel_off rfl).trans rfl
   have e26 : a.tmps[26]? = some (.agg #[.int .i64 t237, .int .i64 t238]) := by rw [ha]; exact putSel_on (e := (21, 26, .agg #[.int .i64 t237, .int .i64 t238])) 15 rfl rfl (hon 21 (by kernel_rfl)) rfl
   replace ha := Aside0.mk ha
   have BK220 := Aside0.mk Q_BK220
   have BK221 := Aside0.mk Q_BK221
   have BK222 := Aside0.mk (Q_BK222 hb_)
   have HB := Aside0.mk Q_HB
   have HO225 := Aside0.mk (Q_HO225 (hon 9 (by kernel_rfl)))
   have HO228 := Aside0.mk (Q_HO228 (hon 12 (by kernel_rfl)))
   have HO231 := Aside0.mk (Q_HO231 (hon 13 (by kernel_rfl)))
   have HO234 := Aside0.mk (Q_HO234 (hon 19 (by kernel_rfl)))
   have hs24 : w'.cell? ⟨gb222, 0, none⟩ = some (.int .i64 0) := (blk_cell BK222.out 0).trans rfl
   have hfs24 := blk_frozen BK222.out 0
   have hns24_0 := NB220_222.out
   have hns24_1 := NB221_222.out
   have hms24_0 := NB222_220.out
   have hms24_1 := NB222_221.out
   have hs25 : w'.cell? ⟨gb222, 1, none⟩ = some (.int .i64 0) := (blk_cell BK222.out 1).trans rfl
   have hfs25 := blk_frozen BK222.out 1
   have hns25_0 := NB220_222.out
   have hns25_1 := NB221_222.out
   have hms25_0 := NB222_220.out
   have hms25_1 := NB222_221.out
   refine skip_ (w1 := ?_) (by rfl) rfl ?_ ?_
   rotate_left
   ·go_simp
    rfl
   refine hK.out _ _ ⟨v224, v227, v230, v233, (by rw [ha.out]; exact putSel_none (v := undef) rfl), (by (with_reducible repeat (first | refine blk_drewN ?_ _ | refine blk_drew ?_ | refine blk_alloc ?_ _)); refine blk_far ?_ NB220_222.out _; (with_reducible repeat (first | refine blk_drewN ?_ _ | refine blk_drew ?_ | refine blk_alloc ?_ _)); refine blk_far ?_ NB220_222.out _; (with_reducible repeat (first | refine blk_drewN ?_ _ | refine blk_drew ?_ | refine blk_alloc ?_ _)); exact BK220.out), (by (with_reducible repeat (first | refine blk_drewN ?_ _ | refine blk_drew ?_ | refine blk_alloc ?_ _)); refine blk_far ?_ NB221_222.out _; (with_reducible repeat (first | refine blk_drewN ?_ _ | refine blk_drew ?_ | refine blk_alloc ?_ _)); refine blk_far ?_ NB221_222.out _; (with_reducible repeat (first | refine blk_drewN ?_ _ | refine blk_drew ?_ | refine blk_alloc ?_ _)); exact BK221.out), fun h0_ => absurd ((up_self b 22).symm.trans h0_) (by decide), bz, fun _ => (by (with_reducible repeat (first | apply Kd.V_alloc | apply Kd.V_drewN | apply Kd.V_drew)); exact Kd.V_mono (Kd.V_far (p := ⟨gb222, 1, none⟩) (Kd.V_far (p := ⟨gb222, 0, none⟩) (Kd.V_mono HO225.out (fun k_ hk => (⟨hk, (by first | exact hk.2.2.2 | exact hk.2.2 | exact hk.2 | exact hk.2.2.2 | exact hk.1 | exact hk.2.1)⟩ : _ ∧ k_ ≠ gb222))) (fun _ hk => hk.2) (.int .i64 t237)) (fun _ hk => hk.2) (.int .i64 t238)) (fun _ hk => by first | exact ⟨hk.1.1, ⟨hk.1.2.1, ⟨hk.1.2.2.1, hk.1.2.2.2⟩⟩⟩ | exact hk.1 | exact hk | exact hk.2)), fun _ => (by (with_reducible repeat (first | apply Kd.V_alloc | apply Kd.V_drewN | apply Kd.V_drew)); exact Kd.V_mono (Kd.V_far (p := ⟨gb222, 1, none⟩) (Kd.V_far (p := ⟨gb222, 0, none⟩) (Kd.V_mono HO228.out (fun k_ hk => (⟨hk, (by first | exact hk.2.2.2 | exact hk.2.2 | exact hk.2 | exact hk.2.2.2 | exact hk.1 | exact hk.2.1)⟩ : _ ∧ k_ ≠ gb222))) (fun _ hk => hk.2) (.int .i64 t237)) (fun _ hk => hk.2) (.int .i64 t238)) (fun _ hk => by first | exact ⟨hk.1.1, ⟨hk.1.2.1, ⟨hk.1.2.2.1, hk.1.2.2.2⟩⟩⟩ | exact hk.1 | exact hk | exact hk.2)), fun _ => (by (with_reducible repeat (first | apply Kd.V_alloc | apply Kd.V_drewN | apply Kd.V_drew)); exact Kd.V_mono (Kd.V_far (p := ⟨gb222, 1, none⟩) (Kd.V_far (p := ⟨gb222, 0, none⟩) (Kd.V_mono HO231.out (fun k_ hk => (⟨hk, (by first | exact hk.2.2.2 | exact hk.2.2 | exact hk.2 | exact hk.2.2.2 | exact hk.1 | exact hk.2.1)⟩ : _ ∧ k_ ≠ gb222))) (fun _ hk => hk.2) (.int .i64 t237)) (fun _ hk => hk.2) (.int .i64 t238)) (fun _ hk => by first | exact ⟨hk.1.1, ⟨hk.1.2.1, ⟨hk.1.2.2.1, hk.1.2.2.2⟩⟩⟩ | exact hk.1 | exact hk | exact hk.2)), fun _ => (by (with_reducible repeat (first | apply Kd.R_alloc | apply Kd.R_drewN | apply Kd.R_drew)); exact Kd.R_mono (Kd.R_far (p := ⟨gb222, 1, none⟩) (Kd.R_far (p := ⟨gb222, 0, none⟩) (Kd.R_types HO234.out BK222.out (by decide)) (fun _ hk => hk.2) (.int .i64 t237)) (fun _ hk => hk.2) (.int .i64 t238)) (fun _ hk => trivial)), fun _ => (by (with_reducible repeat (first | refine blk_drewN ?_ _ | refine blk_drew ?_ | refine blk_alloc ?_ _)); refine blk_put (cs := #[.int .i64 t237, .int .i64 0]) ?_ 1 _ rfl; (with_reducible repeat (first | refine blk_drewN ?_ _ | refine blk_drew ?_ | refine blk_alloc ?_ _)); refine blk_put (cs := #[.int .i64 0, .int .i64 0]) ?_ 0 _ rfl; (with_reducible repeat (first | refine blk_drewN ?_ _ | refine blk_drew ?_ | refine blk_alloc ?_ _)); exact BK222.out), Q_pan⟩
  exact steps_nil
 rintro b a w25 hall ⟨v224, v227, v230, v233, ha, Q_BK220, Q_BK221, Q_BK222, Q_HB, Q_HO225, Q_HO228, Q_HO231, Q_HO234, Q_BK222_e22, Q_pan⟩
 clear BK220 BK221 BK222 HB
 have hb1_ := hall 1 (by kernel_rfl)
 have hb2_ := hall 2 (by kernel_rfl)
 have hb4_ := hall 4 (by kernel_rfl)
 have hb5_ := hall 5 (by kernel_rfl)
 have hb6_ := hall 6 (by kernel_rfl)
 have hb8_ := hall 8 (by kernel_rfl)
 have hb9_ := hall 9 (by kernel_rfl)
 have hb11_ := hall 11 (by kernel_rfl)
 have hb12_ := hall 12 (by kernel_rfl)
 have hb13_ := hall 13 (by kernel_rfl)
 have hb15_ := hall 15 (by kernel_rfl)
 have hb17_ := hall 17 (by kernel_rfl)
 have hb18_ := hall 18 (by kernel_rfl)
 have hb19_ := hall 19 (by kernel_rfl)
 have hb20_ := hall 20 (by kernel_rfl)
 have hb21_ := hall 21 (by kernel_rfl)
 have hb22_ := hall 22 (by kernel_rfl)
 subst ha
 simp only [putSel, hb1_, hb2_, hb4_, hb5_, hb6_, hb8_, hb9_, hb11_, hb12_, hb13_, hb15_, hb17_, hb18_, hb19_, hb20_, hb21_, hb22_, if_true, Act.put, List.setIfInBounds_toArray, List.set_cons_zero, List.set_cons_succ]
 have BK220 := Aside0.mk Q_BK220
 clear Q_BK220
 have BK221 := Aside0.mk Q_BK221
 clear Q_BK221
 clear Q_BK222
 have HB := Aside0.mk Q_HB
 clear Q_HB
 have HO225 := Aside0.mk (Q_HO225 hb9_)
 clear Q_HO225
 have HO228 := Aside0.mk (Q_HO228 hb12_)
 clear Q_HO228
 have HO231 := Aside0.mk (Q_HO231 hb13_)
 clear Q_HO231
 have HO234 := Aside0.mk (Q_HO234 hb19_)
 clear Q_HO234
 have BK222 := Aside0.mk (Q_BK222_e22 hb22_)
 clear Q_BK222_e22
 have hpn_ := Q_pan hb20_
 clear Q_pan
 clear hall hb1_ hb2_ hb4_ hb5_ hb6_ hb8_ hb9_ hb11_ hb12_ hb13_ hb15_ hb17_ hb18_ hb19_ hb20_ hb21_ hb22_
 try go_wp2
 refine bodyPost_ret (results_cell_row rfl _ _ gb222 23 #[.int .i64 t237, .int .i64 t238] (0, 0) _ rfl (kz BK222) Tryz.underlying23 rfl (by kernel_rfl)) rfl ?_
 exact ⟨by first | rfl | exact ending_le (by assumption) | exact (ending_at hpn_).symm | exact (ending_at (signed_not (by assumption) hpn_)).symm | (simp [errW_none, errW_some] <;> rfl) | (simp [*, errW_none, errW_some] <;> rfl), bz⟩

end Go.Proofs.YteigbokklclmbaaGreatDoor.Z
end
section
namespace Go.Proofs.YteigbokklclmbaaGreatDoor.Z
open Go Go.RowKit Go.Proofs.YteigbokklclmbaaGreatDoor.Given Go.Proofs.YteigbokklclmbaaGreatDoorW.PrintWords Go.Proofs.YteigbokklclmbaaGreatDoorW.PrintLast Go.Proofs.YteigbokklclmbaaGreatDoorW.PrintMore
def tRow : Nat → Array Value
  | 0 => #[.int .u32 1, .int .u32 0, .int .u32 0, .int .u32 0, .int .u32 0, .int .u32 0, .int .u32 0, .int .u32 0, .int .u32 0, .int .u32 0]
  | 1 => #[.int .u32 1, .int .u32 10, .int .u32 0, .int .u32 0, .int .u32 0, .int .u32 0, .int .u32 0, .int .u32 0, .int .u32 0, .int .u32 0]
  | 2 => #[.int .u32 1, .int .u32 10, .int .u32 100, .int .u32 0, .int .u32 0, .int .u32 0, .int .u32 0, .int .u32 0, .int .u32 0, .int .u32 0]
  | 3 => #[.int .u32 1, .int .u32 10, .int .u32 100, .int .u32 1000, .int .u32 0, .int .u32 0, .int .u32 0, .int .u32 0, .int .u32 0, .int .u32 0]
  | 4 => #[.int .u32 1, .int .u32 10, .int .u32 100, .int .u32 1000, .int .u32 10000, .int .u32 0, .int .u32 0, .int .u32 0, .int .u32 0, .int .u32 0]
  | 5 => #[.int .u32 1, .int .u32 10, .int .u32 100, .int .u32 1000, .int .u32 10000, .int .u32 100000, .int .u32 0, .int .u32 0, .int .u32 0, .int .u32 0]
  | 6 => #[.int .u32 1, .int .u32 10, .int .u32 100, .int .u32 1000, .int .u32 10000, .int .u32 100000, .int .u32 1000000, .int .u32 0, .int .u32 0, .int .u32 0]
  | 7 => #[.int .u32 1, .int .u32 10, .int .u32 100, .int .u32 1000, .int .u32 10000, .int .u32 100000, .int .u32 1000000, .int .u32 10000000, .int .u32 0, .int .u32 0]
  | 8 => #[.int .u32 1, .int .u32 10, .int .u32 100, .int .u32 1000, .int .u32 10000, .int .u32 100000, .int .u32 1000000, .int .u32 10000000, .int .u32 100000000, .int .u32 0]
  | _ => #[.int .u32 1, .int .u32 10, .int .u32 100, .int .u32 1000, .int .u32 10000, .int .u32 100000, .int .u32 1000000, .int .u32 10000000, .int .u32 100000000, .int .u32 1000000000]
theorem newTens_c (w : World) : Calls Tryz.prog 148 #[] w fun e w' => e = .returned (.agg (tRow 9)) ∧ Below w.heap.size w w' := by
  go_enter Tryz.func148, Tryz.ntmps148
  go_wp2_with fail
  go_loopg [2] 9 (fun kq v2 wr => ∃ k : Nat, kq + k = 10 ∧ 1 ≤ k ∧ v2 = .int .i64 k ∧ Hid (wr.heap[w.heap.size]? = some (.cells #[.int .u32 0, .int .u32 0, .int .u32 0, .int .u32 0, .int .u32 0, .int .u32 0, .int .u32 0, .int .u32 0, .int .u32 0, .int .u32 0] 158 (0, 0)) ∧ wr.heap[w.heap.size + 1]? = some (.cells (tRow (k - 1)) 158 (0, 0)) ∧ Below w.heap.size w wr))
  case atStart => exact ⟨1, rfl, Nat.le_refl _, rfl, ⟨blk_alloc (blk_new _ _) _, by have := blk_new (w.alloc (.cells #[.int .u32 0, .int .u32 0, .int .u32 0, .int .u32 0, .int .u32 0, .int .u32 0, .int .u32 0, .int .u32 0, .int .u32 0, .int .u32 0] 158)) (.cells (tRow 0) 158); rw [World.size_alloc] at this; exact this, ((Below.refl _ w).alloc (Nat.le_refl _) _).alloc (by simp) _⟩⟩
  case round =>
    obtain ⟨k, hk, hk1, rfl, ⟨hz, ht, hB⟩⟩ := hrel
    have hlt0 := blk_lt hz
    have hlt1 := blk_lt ht
    have hne : w.heap.size ≠ w.heap.size + 1 := by omega
    rcases (by omega : k = 1 ∨ k = 2 ∨ k = 3 ∨ k = 4 ∨ k = 5 ∨ k = 6 ∨ k = 7 ∨ k = 8 ∨ k = 9 ∨ k = 10) with h | h | h | h | h | h | h | h | h | h
    · subst h
      have HT := Lib.hid ht
      have HZ := Lib.hid hz
      have c1 : wr.cell? ⟨w.heap.size + 1, 0, none⟩ = some (.int .u32 1) := (blk_cell ht 0).trans rfl
      have c2 : wr.cell? ⟨w.heap.size + 1, 1, none⟩ = some (.int .u32 0) := (blk_cell ht 1).trans rfl
      have f1 := blk_frozen ht 1
      clear ht hz
      go_wp2
      go_roundg (10 - (1 + 1))
      case measure => omega
      case rel => exact ⟨2, by omega, by omega, rfl, ⟨blk_far HZ.out hne _, blk_put HT.out 1 _ rfl, hB.setCell (by simp) _⟩⟩
    · subst h
      have HT := Lib.hid ht
      have HZ := Lib.hid hz
      have c1 : wr.cell? ⟨w.heap.size + 1, 1, none⟩ = some (.int .u32 10) := (blk_cell ht 1).trans rfl
      have c2 : wr.cell? ⟨w.heap.size + 1, 2, none⟩ = some (.int .u32 0) := (blk_cell ht 2).trans rfl
      have f1 := blk_frozen ht 2
      clear ht hz
      go_wp2
      go_roundg (10 - (2 + 1))
      case measure => omega
      case rel => exact ⟨3, by omega, by omega, rfl, ⟨blk_far HZ.out hne _, blk_put HT.out 2 _ rfl, hB.setCell (by simp) _⟩⟩
    · subst h
      have HT := Lib.hid ht
      have HZ := Lib.hid hz
      have c1 : wr.cell? ⟨w.heap.size + 1, 2, none⟩ = some (.int .u32 100) := (blk_cell ht 2).trans rfl
      have c2 : wr.cell? ⟨w.heap.size + 1, 3, none⟩ = some (.int .u32 0) := (blk_cell ht 3).trans rfl
      have f1 := blk_frozen ht 3
      clear ht hz
      go_wp2
      go_roundg (10 - (3 + 1))
      case measure => omega
      case rel => exact ⟨4, by omega, by omega, rfl, ⟨blk_far HZ.out hne _, blk_put HT.out 3 _ rfl, hB.setCell (by simp) _⟩⟩
    · subst h
      have HT := Lib.hid ht
      have HZ := Lib.hid hz
      have c1 : wr.cell? ⟨w.heap.size + 1, 3, none⟩ = some (.int .u32 1000) := (blk_cell ht 3).trans rfl
      have c2 : wr.cell? ⟨w.heap.size + 1, 4, none⟩ = some (.int .u32 0) := (blk_cell ht 4).trans rfl
      have f1 := blk_frozen ht 4
      clear ht hz
      go_wp2
      go_roundg (10 - (4 + 1))
      case measure => omega
      case rel => exact ⟨5, by omega, by omega, rfl, ⟨blk_far HZ.out hne _, blk_put HT.out 4 _ rfl, hB.setCell (by simp) _⟩⟩
    · subst h
      have HT := Lib.hid ht
      have HZ := Lib.hid hz
      have c1 : wr.cell? ⟨w.heap.size + 1, 4, none⟩ = some (.int .u32 10000) := (blk_cell ht 4).trans rfl
      have c2 : wr.cell? ⟨w.heap.size + 1, 5, none⟩ = some (.int .u32 0) := (blk_cell ht 5).trans rfl
      have f1 := blk_frozen ht 5
      clear ht hz
      go_wp2
      go_roundg (10 - (5 + 1))
      case measure => omega
      case rel => exact ⟨6, by omega, by omega, rfl, ⟨blk_far HZ.out hne _, blk_put HT.out 5 _ rfl, hB.setCell (by simp) _⟩⟩
    · subst h
      have HT := Lib.hid ht
      have HZ := Lib.hid hz
      have c1 : wr.cell? ⟨w.heap.size + 1, 5, none⟩ = some (.int .u32 100000) := (blk_cell ht 5).trans rfl
      have c2 : wr.cell? ⟨w.heap.size + 1, 6, none⟩ = some (.int .u32 0) := (blk_cell ht 6).trans rfl
      have f1 := blk_frozen ht 6
      clear ht hz
      go_wp2
      go_roundg (10 - (6 + 1))
      case measure => omega
      case rel => exact ⟨7, by omega, by omega, rfl, ⟨blk_far HZ.out hne _, blk_put HT.out 6 _ rfl, hB.setCell (by simp) _⟩⟩
    · subst h
      have HT := Lib.hid ht
      have HZ := Lib.hid hz
      have c1 : wr.cell? ⟨w.heap.size + 1, 6, none⟩ = some (.int .u32 1000000) := (blk_cell ht 6).trans rfl
      have c2 : wr.cell? ⟨w.heap.size + 1, 7, none⟩ = some (.int .u32 0) := (blk_cell ht 7).trans rfl
      have f1 := blk_frozen ht 7
      clear ht hz
      go_wp2
      go_roundg (10 - (7 + 1))
      case measure => omega
      case rel => exact ⟨8, by omega, by omega, rfl, ⟨blk_far HZ.out hne _, blk_put HT.out 7 _ rfl, hB.setCell (by simp) _⟩⟩
    · subst h
      have HT := Lib.hid ht
      have HZ := Lib.hid hz
      have c1 : wr.cell? ⟨w.heap.size + 1, 7, none⟩ = some (.int .u32 10000000) := (blk_cell ht 7).trans rfl
      have c2 : wr.cell? ⟨w.heap.size + 1, 8, none⟩ = some (.int .u32 0) := (blk_cell ht 8).trans rfl
      have f1 := blk_frozen ht 8
      clear ht hz
      go_wp2
      go_roundg (10 - (8 + 1))
      case measure => omega
      case rel => exact ⟨9, by omega, by omega, rfl, ⟨blk_far HZ.out hne _, blk_put HT.out 8 _ rfl, hB.setCell (by simp) _⟩⟩
    · subst h
      have HT := Lib.hid ht
      have HZ := Lib.hid hz
      have c1 : wr.cell? ⟨w.heap.size + 1, 8, none⟩ = some (.int .u32 100000000) := (blk_cell ht 8).trans rfl
      have c2 : wr.cell? ⟨w.heap.size + 1, 9, none⟩ = some (.int .u32 0) := (blk_cell ht 9).trans rfl
      have f1 := blk_frozen ht 9
      clear ht hz
      go_wp2
      go_roundg (10 - (9 + 1))
      case measure => omega
      case rel => exact ⟨10, by omega, by omega, rfl, ⟨blk_far HZ.out hne _, blk_put HT.out 9 _ rfl, hB.setCell (by simp) _⟩⟩
    · subst h
      have c0 : wr.cell? ⟨w.heap.size + 1, 0, none⟩ = some (.int .u32 1) := (blk_cell ht 0).trans rfl
      have c1 : wr.cell? ⟨w.heap.size + 1, 1, none⟩ = some (.int .u32 10) := (blk_cell ht 1).trans rfl
      have c2 : wr.cell? ⟨w.heap.size + 1, 2, none⟩ = some (.int .u32 100) := (blk_cell ht 2).trans rfl
      have c3 : wr.cell? ⟨w.heap.size + 1, 3, none⟩ = some (.int .u32 1000) := (blk_cell ht 3).trans rfl
      have c4 : wr.cell? ⟨w.heap.size + 1, 4, none⟩ = some (.int .u32 10000) := (blk_cell ht 4).trans rfl
      have c5 : wr.cell? ⟨w.heap.size + 1, 5, none⟩ = some (.int .u32 100000) := (blk_cell ht 5).trans rfl
      have c6 : wr.cell? ⟨w.heap.size + 1, 6, none⟩ = some (.int .u32 1000000) := (blk_cell ht 6).trans rfl
      have c7 : wr.cell? ⟨w.heap.size + 1, 7, none⟩ = some (.int .u32 10000000) := (blk_cell ht 7).trans rfl
      have c8 : wr.cell? ⟨w.heap.size + 1, 8, none⟩ = some (.int .u32 100000000) := (blk_cell ht 8).trans rfl
      have c9 : wr.cell? ⟨w.heap.size + 1, 9, none⟩ = some (.int .u32 1000000000) := (blk_cell ht 9).trans rfl
      have f0 := blk_frozen ht 0
      have f1 := blk_frozen ht 1
      have f2 := blk_frozen ht 2
      have f3 := blk_frozen ht 3
      have f4 := blk_frozen ht 4
      have f5 := blk_frozen ht 5
      have f6 := blk_frozen ht 6
      have f7 := blk_frozen ht 7
      have f8 := blk_frozen ht 8
      have f9 := blk_frozen ht 9
      have z0 : wr.cell? ⟨w.heap.size, 0, none⟩ = some (.int .u32 0) := (blk_cell hz 0).trans rfl
      have z1 : wr.cell? ⟨w.heap.size, 1, none⟩ = some (.int .u32 0) := (blk_cell hz 1).trans rfl
      have z2 : wr.cell? ⟨w.heap.size, 2, none⟩ = some (.int .u32 0) := (blk_cell hz 2).trans rfl
      have z3 : wr.cell? ⟨w.heap.size, 3, none⟩ = some (.int .u32 0) := (blk_cell hz 3).trans rfl
      have z4 : wr.cell? ⟨w.heap.size, 4, none⟩ = some (.int .u32 0) := (blk_cell hz 4).trans rfl
      have z5 : wr.cell? ⟨w.heap.size, 5, none⟩ = some (.int .u32 0) := (blk_cell hz 5).trans rfl
      have z6 : wr.cell? ⟨w.heap.size, 6, none⟩ = some (.int .u32 0) := (blk_cell hz 6).trans rfl
      have z7 : wr.cell? ⟨w.heap.size, 7, none⟩ = some (.int .u32 0) := (blk_cell hz 7).trans rfl
      have z8 : wr.cell? ⟨w.heap.size, 8, none⟩ = some (.int .u32 0) := (blk_cell hz 8).trans rfl
      have z9 : wr.cell? ⟨w.heap.size, 9, none⟩ = some (.int .u32 0) := (blk_cell hz 9).trans rfl
      have g0 := blk_frozen hz 0
      have g1 := blk_frozen hz 1
      have g2 := blk_frozen hz 2
      have g3 := blk_frozen hz 3
      have g4 := blk_frozen hz 4
      have g5 := blk_frozen hz 5
      have g6 := blk_frozen hz 6
      have g7 := blk_frozen hz 7
      have g8 := blk_frozen hz 8
      have g9 := blk_frozen hz 9
      have HZ := Lib.hid hz
      clear ht hz
      go_wp2
      refine bodyPost_ret (results_cell_row rfl _ _ w.heap.size 158 (tRow 9) (0, 0) _ rfl ?_ Tryz.underlying158 rfl (by kernel_rfl)) rfl ?_
      · exact (blk_put (blk_put (blk_put (blk_put (blk_put (blk_put (blk_put (blk_put (blk_put (blk_put HZ.out 0 _ rfl) 1 _ rfl) 2 _ rfl) 3 _ rfl) 4 _ rfl) 5 _ rfl) 6 _ rfl) 7 _ rfl) 8 _ rfl) 9 _ rfl)
      · exact ⟨rfl, ((((((((((hB.setCell (by simp) _).setCell (by simp) _).setCell (by simp) _).setCell (by simp) _).setCell (by simp) _).setCell (by simp) _).setCell (by simp) _).setCell (by simp) _).setCell (by simp) _).setCell (by simp) _)⟩
def real_pow10.l : Nat → Int → List Int → Option (List Int)
  | 0, _, _ => none
  | k + 1, n, out => if n ≥ 10 then ((real_nat_mul.f k out [1000000000]).bind fun t => real_pow10.l k (wrap64 (n - 9)) t) else (if 0 ≤ n then real_nat_mul.f k out [10 ^ n.toNat] else none)
def real_pow10.f (k : Nat) (n : Int) : Option (List Int) := real_pow10.l k n [1]
theorem real_pow10.mono_l : ∀ k n out, LeO (real_pow10.l k n out) (real_pow10.l (k + 1) n out)
  | 0, _, _ => fun r h => by simp [real_pow10.l] at h
  | k + 1, n, out => by
    rw [real_pow10.l, real_pow10.l]
    refine LeO.ite ?_ (LeO.ite ?_ (LeO.refl _))
    · refine LeO.bind ?_ (fun t => real_pow10.mono_l k _ _)
      exact real_nat_mul.mono _ _ _
    · exact real_nat_mul.mono _ _ _
theorem real_pow10.mono : ∀ a0 k, LeO (real_pow10.f k a0) (real_pow10.f (k + 1) a0) := fun a0 k => real_pow10.mono_l k a0 [1]
/-- A row of one 32 bit digit. -/
theorem one_C (w : World) (x : Int) (t : TypeId) : Kd.C (Kd.int .u32) (w.alloc (.cells #[.int .u32 x] t)) (some ⟨w.heap.size, 0, none⟩) 1 [x] := by
  refine Kd.C_of_reads (enc := Value.int .u32) (d := (0 : Int)) (h1 := fun _ => rfl) ⟨rfl, by simp, fun _ => ⟨_, rfl, ?_⟩⟩
  intro j hj
  have hj0 : j = 0 := by simp at hj; omega
  subst hj0
  have h := World.cell?_alloc_new (w := w) #[.int .u32 x] t 0
  rw [show (⟨w.heap.size, 0, none⟩ : Addr).add 0 = ⟨w.heap.size, 0, none⟩ from rfl, h]
  rfl
theorem newTens_l (w : World) : Calls Tryz.prog 148 #[] w fun e w' => e = .returned (.agg #[.int .u32 1, .int .u32 10, .int .u32 100, .int .u32 1000, .int .u32 10000, .int .u32 100000, .int .u32 1000000, .int .u32 10000000, .int .u32 100000000, .int .u32 1000000000]) ∧ Below w.heap.size w w' := newTens_c w
/-- What a walk keeps of the number that it multiplies. -/
def Nat32 (W : World) (v : Value) (l : List Int) : Prop := ∃ A c, v = .slice A l.length c ∧ l.length ≤ c ∧ Kd.C (Kd.int .u32) W A l.length l
theorem Nat32.below {W W1 : World} {v : Value} {l : List Int} (h : Nat32 W v l) (hb : Below W.heap.size W W1) : Nat32 W1 v l := by
  obtain ⟨A, c, h1, h2, h3⟩ := h
  exact ⟨A, c, h1, h2, Kd.C_below h3 hb⟩
theorem nat32_of_V {W : World} {base : Nat} {ok : Nat → Prop} {v : Value} {l : List Int} (h : Kd.V (Kd.int .u32) 115 W base ok v l) : Nat32 W v l := by
  obtain ⟨A, c, rfl⟩ := Kd.V_slice h
  have h' := Kd.V_reads' h
  exact ⟨A, c, rfl, h'.2.1, h'.2.2⟩
theorem real_pow10.calls (k : Nat) (a0 : Int) (r : List Int) (w : World) (h : real_pow10.f k a0 = some r) :
    Calls Tryz.prog 119 #[.int .i64 a0] w fun e w' => ∃ v0_ : Value, e = .returned (v0_) ∧ Kd.V (Kd.int .u32) 115 w' w.heap.size (fun k_ => (w.heap.size ≤ k_)) v0_ r ∧ Below w.heap.size w w' := by
  have H := Lib.hid h
  clear h
  go_enter Tryz.func119, Tryz.ntmps119
  go_wp2_with fail
  refine (newTens_l w).mono ?_
  rintro e w1 ⟨rfl, hb⟩
  have hs1 := hb.size
  have hb' : Below w.heap.size w w1 := hb
  clear hb
  go_wp2_with fail
  go_loopg [0, 4] k (fun kq v0 v4 wr => ∃ (n : Int) (out : List Int), v0 = .int .i64 n ∧ Hid (real_pow10.l kq n out = some r ∧ Nat32 wr v4 out ∧ wr.heap[w1.heap.size]? = some (.cells #[.int .u32 1, .int .u32 10, .int .u32 100, .int .u32 1000, .int .u32 10000, .int .u32 100000, .int .u32 1000000, .int .u32 10000000, .int .u32 100000000, .int .u32 1000000000] 158 (0, 0)) ∧ Below w.heap.size w wr ∧ w1.heap.size < wr.heap.size))
  case atStart =>
    have h1 := one_C (w1.alloc (.cells #[.int .u32 1, .int .u32 10, .int .u32 100, .int .u32 1000, .int .u32 10000, .int .u32 100000, .int .u32 1000000, .int .u32 10000000, .int .u32 100000000, .int .u32 1000000000] 158)) 1 115
    rw [World.size_alloc] at h1
    refine ⟨a0, [1], rfl, ⟨H.out, ⟨_, _, rfl, Nat.le_refl _, h1⟩, blk_alloc (blk_new _ _) _, (hb'.alloc hs1 _).alloc (by simp only [World.size_alloc]; omega) _, by simp only [World.size_alloc]; omega⟩⟩
  case round =>
    obtain ⟨n, out, rfl, ⟨hl, ⟨A, c, rfl, hc, hC⟩, ht, hB, hS⟩⟩ := hrel
    cases gk with
    | zero => exact absurd hl (by simp [real_pow10.l])
    | succ kk =>
      rw [real_pow10.l] at hl
      have hSz := hB.size
      by_cases hn : n ≥ 10
      · rw [if_pos hn] at hl
        obtain ⟨o, ho, hl⟩ := Option.bind_eq_some_iff.mp hl
        have HL := Lib.hid hl
        have HC := Lib.hid hC
        have HT := Lib.hid ht
        have c9 : wr.cell? ⟨w1.heap.size, 9, none⟩ = some (.int .u32 1000000000) := (blk_cell ht 9).trans rfl
        have HM := Lib.hid (fun (W : World) (h1 : Kd.C (Kd.int .u32) W A out.length out) (A1 : Option Addr) (h2 : Kd.C (Kd.int .u32) W A1 1 [1000000000]) => real_nat_mul.calls kk A c out A1 1 [1000000000] o W h1 hc h2 (Nat.le_refl _) ho)
        clear hl hC ht ho
        go_wp2_with fail
        refine (HM.out _ (Kd.C_below HC.out ((Below.refl _ wr).alloc (Nat.le_refl _) _)) _ (one_C _ _ _)).mono ?_
        rintro e w5 ⟨v5, rfl, hV, hb⟩
        have hbq : Below wr.heap.size wr w5 := ((Below.refl _ wr).alloc (Nat.le_refl _) _).trans (hb.mono (by simp))
        have hs5 := hbq.size
        have hN := nat32_of_V hV
        clear hV hb
        go_wp2
        go_roundg kk
        case measure => omega
        case rel => exact ⟨_, o, rfl, ⟨HL.out, hN, blk_below HT.out hbq, hB.trans (hbq.mono hB.size), by omega⟩⟩
      · rw [if_neg hn] at hl
        by_cases h0 : 0 ≤ n
        · rw [if_pos h0] at hl
          have HL := Lib.hid hl
          have HC := Lib.hid hC
          clear hl hC
          obtain ⟨j, rfl⟩ := Int.eq_ofNat_of_zero_le h0
          have hj : j < 10 := by omega
          have cj : wr.cell? ⟨w1.heap.size, j, none⟩ = some (.int .u32 (10 ^ j)) := by
            rw [blk_cell ht j]
            rcases (by omega : j = 0 ∨ j = 1 ∨ j = 2 ∨ j = 3 ∨ j = 4 ∨ j = 5 ∨ j = 6 ∨ j = 7 ∨ j = 8 ∨ j = 9) with h | h | h | h | h | h | h | h | h | h <;> subst h <;> rfl
          have HJ := Lib.hid hj
          have hjt : (j : Int).toNat = j := by omega
          have hji : (j : Int) < 10 := by omega
          have hj0 : (0 : Int) ≤ (j : Int) := by omega
          have HM := Lib.hid (fun (W : World) (h1 : Kd.C (Kd.int .u32) W A out.length out) (A1 : Option Addr) (h2 : Kd.C (Kd.int .u32) W A1 1 [10 ^ j]) => real_nat_mul.calls kk A c out A1 1 [10 ^ j] r W h1 hc h2 (Nat.le_refl _) (by have h := HL.out; rw [hjt] at h; exact h))
          clear ht hn h0 hj
          obtain ⟨p, hp⟩ : ∃ p : Int, (10 : Int) ^ j = p := ⟨_, rfl⟩
          rw [hp] at cj HM
          clear hp
          go_wp2_with fail
          refine (HM.out _ (Kd.C_below HC.out ((Below.refl _ wr).alloc (Nat.le_refl _) _)) _ (one_C _ _ _)).mono ?_
          rintro e w5 ⟨v5, rfl, hV, hb⟩
          have hbq : Below wr.heap.size wr w5 := ((Below.refl _ wr).alloc (Nat.le_refl _) _).trans (hb.mono (by simp))
          go_wp2
          go_ret
          exact ⟨_, rfl, Kd.V_mono hV (fun k_ hk => Nat.le_trans (by simp; omega) hk), hB.trans (hbq.mono hB.size)⟩
        · rw [if_neg h0] at hl
          cases hl
end Go.Proofs.YteigbokklclmbaaGreatDoor.Z
end
section
namespace Go.Proofs.YteigbokklclmbaaGreatDoor.Z
open Go.RowKit Go.Proofs.YteigbokklclmbaaGreatDoor.Given Go.Proofs.YteigbokklclmbaaGreatDoorW.PrintWords Go.Proofs.YteigbokklclmbaaGreatDoorW.PrintLast Go.Proofs.YteigbokklclmbaaGreatDoorW.PrintMore
attribute [local go_sem] max2_int min2_int max_two min_two max_three min_three max_four min_four

def real_decimal.j0 : Nat → List Int → Int → Bool → Option (Int × Int)
 | 0, _, _, _ => none
 | k + 1, x0, x1, x5 => if x5 = true then (some (0, 0)) else (if x1 > 300 then (some (0, 1000)) else (if x1 ≥ 0 then ((real_pow10.f k x1).bind fun t240 => ((real_nat_mul.f k x0 t240).bind fun t243 => ((real_rounded.f k t243 0 (([1] : List Int))).bind fun bt249 => (some (bt249.1, bt249.2))))) else ((real_pow10.f k (wrap64 (-x1))).bind fun t251 => ((real_rounded.f k x0 0 t251).bind fun bt254 => (some (bt254.1, bt254.2))))))
def real_decimal.f (k : Nat) (l0 : List Int) (a1 : Int) : Option (Int × Int) := if (l0.length : Int) = 0 then (real_decimal.j0 k l0 a1 true) else (real_decimal.j0 k l0 a1 (decide (a1 < (-300))))
theorem real_decimal.mono_l : ∀ k, (∀ y0 y1 y2, LeO (real_decimal.j0 k y0 y1 y2) (real_decimal.j0 (k + 1) y0 y1 y2))
 | 0 => fun _ _ _ r h => by simp [real_decimal.j0] at h
 | k + 1 => by
  have ih0 := real_decimal.mono_l k
  ·intro y0 y1 y2
   unfold real_decimal.j0
   repeat' first
   | (with_reducible exact ih0 _ _ _)
   | (with_reducible exact real_nat_mul.mono _ _ _)
   | (with_reducible exact real_pow10.mono _ _)
   | (with_reducible exact real_rounded.mono _ _ _ _)
   | (with_reducible exact LeO.refl _)
   | (with_reducible exact LeO.none _)
   | (with_reducible refine LeO.ite ?_ ?_)
   | (with_reducible refine LeO.bind ?_ (fun _ => ?_))
   | exact ih0 _ _ _
   | exact real_nat_mul.mono _ _ _
   | exact real_pow10.mono _ _
   | exact real_rounded.mono _ _ _ _
   | exact LeO.none _
   | refine LeO.ite ?_ ?_
   | refine LeO.bind ?_ (fun _ => ?_)
theorem real_decimal.mono : ∀ a0 a1 k, LeO (real_decimal.f k a0 a1) (real_decimal.f (k + 1) a0 a1) := by
 intro a0 a1 k
 have ih0 := real_decimal.mono_l k
 unfold real_decimal.f
 repeat' first
   | (with_reducible exact ih0 _ _ _)
   | (with_reducible exact real_nat_mul.mono _ _ _)
   | (with_reducible exact real_pow10.mono _ _)
   | (with_reducible exact real_rounded.mono _ _ _ _)
   | (with_reducible exact LeO.refl _)
   | (with_reducible exact LeO.none _)
   | (with_reducible refine LeO.ite ?_ ?_)
   | (with_reducible refine LeO.bind ?_ (fun _ => ?_))
   | exact ih0 _ _ _
   | exact real_nat_mul.mono _ _ _
   | exact real_pow10.mono _ _
   | exact real_rounded.mono _ _ _ _
   | exact LeO.none _
   | refine LeO.ite ?_ ?_
   | refine LeO.bind ?_ (fun _ => ?_)
theorem real_decimal.calls (k : Nat) (A0 : Option Addr) (c0 : Nat) (l0 : List Int) (a1 : Int) (r1 : Int) (r2 : Int) (w : World) (hr0 : Kd.C (Kd.int .u32) w A0 l0.length l0) (hc0 : l0.length ≤ c0) (h : real_decimal.f k l0 a1 = some (r1, r2)) :
  Calls Tryz.prog 81 #[.slice A0 l0.length c0, .int .i64 a1] w fun e w' => e = ending r1 r2 ∧ Below w.heap.size w w' := by
 have hu23 := Tryz.underlying23
 have HR0 := Aside0.mk hr0
 have HC0 := Aside0.mk hc0
 clear hr0 hc0
 have HB := Aside0.mk (Below.refl w.heap.size w)
 have H := h; unfold real_decimal.f at H; clear h
 have HC3 := Aside0.mk H
 clear H
 go_enter Tryz.func81, Tryz.ntmps81
 go_upto_region 1 with (first | ((with_reducible refine gate_dst (N := 4) rfl ?_); refine bxe 4 #[.int .i64 0, .int .i64 0] 23 ?_; intro gb239 hg w4 hbox hb; have BK239 := Aside0.mk hbox; have GW239 := ge hg; have GE239 := ge hg; replace HB := bs hb; clear hb hbox hg))
 (try simp only [Act.put, List.setIfInBounds_toArray, List.set_cons_zero, List.set_cons_succ])
 go_cut [5] (fun v5 wc => ∃ (kq : Nat) (x5_2 : Bool), v5 = .bool x5_2 ∧ Aside0 (real_decimal.j0 kq l0 a1 x5_2 = some (r1, r2)) ∧ Aside0 (kq ≤ k) ∧ Aside0 (wc.heap[gb239]? = some (.cells #[.int .i64 0, .int .i64 0] 23 (0, 0))) ∧ Aside0 (Below w.heap.size w wc))
 case first => as_aux_lemma =>
  have H := HC3.out
  clear HC3
  by_cases c5 : (l0.length : Int) = 0
  ·rw [if_pos c5] at H
   have c5b0 : ((l0.length : Int) == 0) = true := beq_iff_eq.mpr c5
   have c5b1 : ((l0.length : Int) != 0) = false := bne_eq_false_iff_eq.mpr c5
   clear c5
   (first | rw [c5b0] | (simp only [i64_w, i32_w]; rw [c5b0]) | skip)
   have H' := Aside0.mk H
   clear H
   go_wp2
   go_meet
   case rel => exact ⟨_, (true), (by first | rfl | (simp; done) | (simp [*]; done)), H', ⟨by first | omega | exact Nat.le_refl _⟩, ⟨kz BK239⟩, ⟨bz⟩⟩
  ·rw [if_neg c5] at H
   have c5b0 : ((l0.length : Int) == 0) = false := beq_eq_false_iff_ne.mpr c5
   have c5b1 : ((l0.length : Int) != 0) = true := bne_iff_ne.mpr c5
   have c5b2 : ¬ (l0 = []) := fun h_ => c5 (by rw [h_]; rfl)
   (first | rw [c5b0] | (simp only [i64_w, i32_w]; rw [c5b0]) | skip)
   have H' := Aside0.mk H
   clear H
   go_wp2
   go_meet
   case rel => exact ⟨_, (decide (a1 < (-300))), (by first | rfl | (simp; done) | (simp [*]; done)), H', ⟨by first | omega | exact Nat.le_refl _⟩, ⟨kz BK239⟩, ⟨bz⟩⟩
 case rest => as_aux_lemma =>
  clear HC3
  try clear c5
  try clear c5b0
  try clear c5b1
  try clear c5b2
  obtain ⟨kq, x5_2, rfl, HA, HJ2, BK239, HB⟩ := hcut
  cases kq with
  | zero => exact absurd HA.out (by simp [real_decimal.j0])
  | succ kj2 =>
   have H := HA.out
   clear HA
   simp only [real_decimal.j0] at H
   by_cases c6 : x5_2 = true
   ·subst c6
    rw [if_pos rfl] at H
    simp only [Option.some.injEq, Prod.mk.injEq] at H
    obtain ⟨rfl, rfl⟩ := H
    have hcz7_0 := c20 BK239
    have hcz7_1 := c21 BK239
    have hfz7_0 := blk_frozen BK239.out 0
    have hfz7_1 := blk_frozen BK239.out 1
    go_wp2
    refine bodyPost_ret (results_cell_row rfl _ _ gb239 23 #[.int .i64 0, .int .i64 0] (0, 0) _ rfl (by (with_reducible repeat (first | refine blk_drewN ?_ _ | refine blk_drew ?_ | refine blk_alloc ?_ _)); refine blk_put (cs := #[.int .i64 0, .int .i64 0]) ?_ 1 _ rfl; (with_reducible repeat (first | refine blk_drewN ?_ _ | refine blk_drew ?_ | refine blk_alloc ?_ _)); refine blk_put (cs := #[.int .i64 0, .int .i64 0]) ?_ 0 _ rfl; (with_reducible repeat (first | refine blk_drewN ?_ _ | refine blk_drew ?_ | refine blk_alloc ?_ _)); exact BK239.out) Tryz.underlying23 rfl (by kernel_rfl)) rfl ?_
    exact ⟨by first | rfl | exact ending_le (by assumption) | exact (ending_at hpn_).symm | exact (ending_at (signed_not (by assumption) hpn_)).symm | (simp [errW_none, errW_some] <;> rfl) | (simp [*, errW_none, errW_some] <;> rfl), bz⟩
   ·replace c6 := Bool.eq_false_iff.mpr c6
    subst c6
    rw [if_neg (show ¬ (false = true) by decide)] at H
    by_cases c8 : a1 > 300
    ·rw [if_pos c8] at H
     have c8b0 : decide (300 < a1) = true := decide_eq_true c8
     clear c8
     simp only [Option.some.injEq, Prod.mk.injEq] at H
     obtain ⟨rfl, rfl⟩ := H
     have hcz9_0 := c20 BK239
     have hcz9_1 := c21 BK239
     have hfz9_0 := blk_frozen BK239.out 0
     have hfz9_1 := blk_frozen BK239.out 1
     go_wp2
     rw [panics77]
     exact And.intro rfl (And.intro rfl bz)
    ·rw [if_neg c8] at H
     have c8b0 : decide (300 < a1) = false := decide_eq_false c8
     clear c8
     by_cases c10 : a1 ≥ 0
     ·rw [if_pos c10] at H
      have c10b0 : decide (0 ≤ a1) = true := decide_eq_true c10
      clear c10
      replace H := Option.bind_eq_some_iff.mp H
      obtain ⟨t240, A110, H⟩ := H
      try dsimp only at H
      have A11 := Aside0.mk A110
      clear A110
      replace H := Option.bind_eq_some_iff.mp H
      obtain ⟨t243, A120, H⟩ := H
      try dsimp only at H
      have A12 := Aside0.mk A120
      clear A120
      obtain ⟨y246, hy246⟩ : ∃ y_ : List Int, y_ = (([1] : List Int)) := ⟨_, rfl⟩
      replace H : ((real_rounded.f kj2 t243 0 y246).bind fun bt249 => (some (bt249.1, bt249.2))) = some (r1, r2) := by first | (rw [hy246]; with_reducible exact H) | (have H2_ := (Option.bind_some _ _).symm.trans H; rw [hy246]; with_reducible exact H2_) | (have H2_ := (Option.bind_some _ _).symm.trans H; with_reducible exact H2_) | with_reducible exact H | (rw [hy246]; exact H) | exact H
      have Ny246 := Aside0.mk hy246
      clear hy246
      replace H := Option.bind_eq_some_iff.mp H
      obtain ⟨⟨t249, t250⟩, A130, H⟩ := H
      try dsimp only at H
      have A13 := Aside0.mk A130
      clear A130
      simp only [Option.some.injEq, Prod.mk.injEq] at H
      obtain ⟨rfl, rfl⟩ := H
      go_wp2_with (first | ((with_reducible refine gate_callee (f := 119) rfl ?_); refine gL 24 Tryz.func119 #[.int .i64 a1] ?_; (with_reducible refine (real_pow10.calls kj2 a1 t240 _ A11.out).mono ?_); rintro e w14 ⟨v241, rfl, ho0, hb⟩; refine ⟨_, rfl, ?_⟩; have HO242 := Aside0.mk (Kd.V_lower (Kd.V_mono (ok' := fun k_ => k_ ≠ gb239) ho0 (fun k_ hk_ => (fb BK239 k_ hk_))) (below_size bz)); replace BK239 := kb BK239 hb; replace HB := bs hb; (try clear hb); (try clear hk); (try clear ho0); obtain ⟨Ao15, co15, eo15⟩ := Kd.V_slice HO242.out; subst eo15) | ((with_reducible refine gate_callee (f := 116) rfl ?_); refine gL 25 Tryz.func116 #[.slice A0 l0.length c0, .slice Ao15 t240.length co15] ?_; (with_reducible refine (real_nat_mul.calls kj2 _ _ l0 _ _ t240 t243 _ ?side1 ?side2 ?side3 ?side4 A12.out).mono ?_); (case side1 => exact ccz (Kd.C_below HR0.out HB.out)); (case side2 => exact HC0.out); (case side3 => exact ccz (Kd.V_reads' HO242.out).2.2); (case side4 => exact (Kd.V_reads' HO242.out).2.1); rintro e w16 ⟨v244, rfl, ho0, hb⟩; refine ⟨_, rfl, ?_⟩; have HO245 := Aside0.mk (Kd.V_lower (Kd.V_mono (ok' := fun k_ => k_ ≠ gb239) ho0 (fun k_ hk_ => (fb BK239 k_ hk_))) (below_size bz)); replace HO242 := vb HO242 hb; replace BK239 := kb BK239 hb; replace HB := bs hb; (try clear hb); (try clear hk); (try clear ho0)) | ((with_reducible refine gate_dst (N := 26) rfl ?_); refine Kd.R_lit (Kd.int .u32) _ 115 ?hg (N := 26) ?hd (xs := ([1] : List Int)) (inner := [.int .u32 1]) (ok := fun _ => True) (okp := fun _ => True) ?hr ?hp (fun _ hk => hk) trivial (Below.refl _ _) (Nat.le_refl _) (by simp) ?_; (case hd => rfl); (case hg => rfl); (case hr => first | (go_simp; done) | (go_simp; rfl)); (case hp => exact (Reps.one (show Kd.M (Kd.int .u32) _ _ _ 1 [.int .u32 1] from rfl) (Reps.none _ _))); intro v247 w17 ho18 hb hg_ hnew_; clear hg_ hnew_; (first | rw [← Ny246.out] at ho18 | (simp only [Int.reduceToNat] at ho18; rw [← Ny246.out] at ho18)); have HO248 := Aside0.mk (Kd.R_lower ho18 (below_size bz)); replace HO242 := Aside0.mk (Kd.V_elder' (vz HO242) (Kd.R_base ho18) hb); replace HO245 := Aside0.mk (Kd.V_elder' (vz HO245) (Kd.R_base ho18) hb); replace BK239 := kb BK239 hb; replace HB := bs hb; clear hb ho18; obtain ⟨Ao19, co19, eo19⟩ := Kd.V_slice HO245.out; subst eo19; obtain ⟨Ao20, co20, eo20⟩ := Kd.R_slice HO248.out; subst eo20) | ((with_reducible refine gate_callee (f := 97) rfl ?_); refine goesLP_ (some 27) rfl rfl Tryz.func97 (by kernel_rfl) rfl #[.slice Ao19 t243.length co19, .int .i64 0, .slice Ao20 y246.length co20] rfl az ?_; (with_reducible refine (real_rounded.calls kj2 (fun k_ => (k_ ≠ gb239 ∧ some k_ ≠ (.slice Ao20 y246.length co20 : Value).ownBlock)) _ _ t243 0 (fun k_ => some k_ = (.slice Ao20 y246.length co20 : Value).ownBlock) _ _ y246 t249 t250 _ ?side1 ?side2 A13.out).mono ?_); (case side1 => exact HO245.out); (case side2 => exact Kd.R_V (Kd.R_tight rfl (Kd.R_types (HO248.out) BK239.out (by decide)))); rintro e w21 ⟨he_, hb⟩; refine ends_ he_ (fun p1_ => And.intro rfl (And.intro (by first | exact code_direct p1_ | exact code_signed (by assumption) p1_) (below_step bz hb))) (fun hpn_ => ?_); replace HO242 := vb HO242 hb; replace HO245 := vb HO245 hb; replace HO248 := rb HO248 hb; replace BK239 := kb BK239 hb; replace HB := bs hb; (try clear hb); (try clear hk); have hcz22_0 := c20 BK239; have hcz22_1 := c21 BK239; have hfz22_0 := blk_frozen BK239.out 0; have hfz22_1 := blk_frozen BK239.out 1))
      refine bodyPost_ret (results_cell_row rfl _ _ gb239 23 #[.int .i64 t249, .int .i64 t250] (0, 0) _ rfl (by (with_reducible repeat (first | refine blk_drewN ?_ _ | refine blk_drew ?_ | refine blk_alloc ?_ _)); refine blk_put (cs := #[.int .i64 t249, .int .i64 0]) ?_ 1 _ rfl; (with_reducible repeat (first | refine blk_drewN ?_ _ | refine blk_drew ?_ | refine blk_alloc ?_ _)); refine blk_put (cs := #[.int .i64 0, .int .i64 0]) ?_ 0 _ rfl; (with_reducible repeat (first | refine blk_drewN ?_ _ | refine blk_drew ?_ | refine blk_alloc ?_ _)); exact BK239.out) Tryz.underlying23 rfl (by kernel_rfl)) rfl ?_
      exact ⟨by first | rfl | exact ending_le (by assumption) | exact (ending_at hpn_).symm | exact (ending_at (signed_not (by assumption) hpn_)).symm | (simp [errW_none, errW_some] <;> rfl) | (simp [*, errW_none, errW_some] <;> rfl), bz⟩
     ·rw [if_neg c10] at H
      have c10b0 : decide (0 ≤ a1) = false := decide_eq_false c10
      clear c10
      replace H := Option.bind_eq_some_iff.mp H
      obtain ⟨t251, A230, H⟩ := H
      try dsimp only at H
      have A23 := Aside0.mk A230
      clear A230
      replace H := Option.bind_eq_some_iff.mp H
      obtain ⟨⟨t254, t255⟩, A240, H⟩ := H
      try dsimp only at H
      have A24 := Aside0.mk A240
      clear A240
      simp only [Option.some.injEq, Prod.mk.injEq] at H
      obtain ⟨rfl, rfl⟩ := H
      go_wp2_with (first | ((with_reducible refine gate_callee (f := 119) rfl ?_); refine gL 31 Tryz.func119 #[.int .i64 (wrap64 (-a1))] ?_; (with_reducible refine (real_pow10.calls kj2 (wrap64 (-a1)) t251 _ A23.out).mono ?_); rintro e w25 ⟨v252, rfl, ho0, hb⟩; refine ⟨_, rfl, ?_⟩; have HO253 := Aside0.mk (Kd.V_lower (Kd.V_mono (ok' := fun k_ => k_ ≠ gb239) ho0 (fun k_ hk_ => (fb BK239 k_ hk_))) (below_size bz)); replace BK239 := kb BK239 hb; replace HB := bs hb; (try clear hb); (try clear hk); (try clear ho0); obtain ⟨Ao26, co26, eo26⟩ := Kd.V_slice HO253.out; subst eo26) | ((with_reducible refine gate_callee (f := 97) rfl ?_); refine goesLP_ (some 32) rfl rfl Tryz.func97 (by kernel_rfl) rfl #[.slice A0 l0.length c0, .int .i64 0, .slice Ao26 t251.length co26] rfl az ?_; (with_reducible refine (real_rounded.calls kj2 (fun k_ => k_ < w.heap.size) _ _ l0 0 (fun k_ => k_ ≠ gb239) _ _ t251 t254 t255 _ ?side1 ?side2 A24.out).mono ?_); (case side1 => exact Kd.V_mk HC0.out (Kd.F_below (Kd.C_F (Kd.heap_int .u32) HR0.out) bz)); (case side2 => exact HO253.out); rintro e w27 ⟨he_, hb⟩; refine ends_ he_ (fun p1_ => And.intro rfl (And.intro (by first | exact code_direct p1_ | exact code_signed (by assumption) p1_) (below_step bz hb))) (fun hpn_ => ?_); replace HO253 := vb HO253 hb; replace BK239 := kb BK239 hb; replace HB := bs hb; (try clear hb); (try clear hk); have hcz28_0 := c20 BK239; have hcz28_1 := c21 BK239; have hfz28_0 := blk_frozen BK239.out 0; have hfz28_1 := blk_frozen BK239.out 1))
      refine bodyPost_ret (results_cell_row rfl _ _ gb239 23 #[.int .i64 t254, .int .i64 t255] (0, 0) _ rfl (by (with_reducible repeat (first | refine blk_drewN ?_ _ | refine blk_drew ?_ | refine blk_alloc ?_ _)); refine blk_put (cs := #[.int .i64 t254, .int .i64 0]) ?_ 1 _ rfl; (with_reducible repeat (first | refine blk_drewN ?_ _ | refine blk_drew ?_ | refine blk_alloc ?_ _)); refine blk_put (cs := #[.int .i64 0, .int .i64 0]) ?_ 0 _ rfl; (with_reducible repeat (first | refine blk_drewN ?_ _ | refine blk_drew ?_ | refine blk_alloc ?_ _)); exact BK239.out) Tryz.underlying23 rfl (by kernel_rfl)) rfl ?_
      exact ⟨by first | rfl | exact ending_le (by assumption) | exact (ending_at hpn_).symm | exact (ending_at (signed_not (by assumption) hpn_)).symm | (simp [errW_none, errW_some] <;> rfl) | (simp [*, errW_none, errW_some] <;> rfl), bz⟩


def real_sum.f (k : Nat) (a0_0 : Int) (a0_1 : Int) (a1_0 : Int) (a1_1 : Int) : Option (Int × Int) := (real_magnitude.f k a0_0).bind fun t259 => ((real_nat_shl.f k t259 (wrap64 (a0_1 - (mn a0_1 a1_1)))).bind fun t262 => ((real_magnitude.f k a1_0).bind fun t265 => ((real_nat_shl.f k t265 (wrap64 (a1_1 - (mn a0_1 a1_1)))).bind fun t268 => (if ((decide (a0_0 < 0)) == (decide (a1_0 < 0))) = true then ((real_nat_add.f k t262 t268).bind fun t271 => ((real_rounded.f k t271 (mn a0_1 a1_1) (([1] : List Int))).bind fun bt277 => ((real_signed.f (decide (a0_0 < 0)) bt277.1 bt277.2).bind fun bt279 => (some (bt279.1, bt279.2))))) else none))))
theorem real_sum.mono : ∀ a0 a1 a2 a3 k, LeO (real_sum.f k a0 a1 a2 a3) (real_sum.f (k + 1) a0 a1 a2 a3) := by
 intro a0 a1 a2 a3 k
 unfold real_sum.f
 repeat' first
   | (with_reducible exact real_magnitude.mono _ _)
   | (with_reducible exact real_nat_add.mono _ _ _)
   | (with_reducible exact real_nat_cmp.mono _ _ _)
   | (with_reducible exact real_nat_shl.mono _ _ _)
   | (with_reducible exact real_nat_sub.mono _ _ _)
   | (with_reducible exact real_rounded.mono _ _ _ _)
   | (with_reducible exact LeO.refl _)
   | (with_reducible exact LeO.none _)
   | (with_reducible refine LeO.ite ?_ ?_)
   | (with_reducible refine LeO.bind ?_ (fun _ => ?_))
   | exact real_magnitude.mono _ _
   | exact real_nat_add.mono _ _ _
   | exact real_nat_cmp.mono _ _ _
   | exact real_nat_shl.mono _ _ _
   | exact real_nat_sub.mono _ _ _
   | exact real_rounded.mono _ _ _ _
   | exact LeO.none _
   | refine LeO.ite ?_ ?_
   | refine LeO.bind ?_ (fun _ => ?_)
def real_sum.T2 : Bool × List (List Nat × List Nat) := (true, [([], []), ([0], [0]), ([1], [1]), ([], []), ([3], [3]), ([], []), ([4, 5], [4, 5]), ([2, 6, 2], [2, 6]), ([], []), ([8], [8]), ([9, 7], [9]), ([], []), ([11], [11]), ([], []), ([12, 13], [12, 13]), ([10, 14, 10], [10, 14]), ([7, 15, 0, 1, 2, 3, 4, 5, 6, 7], [7]), ([15, 16, 0, 1, 2, 3, 4, 5, 6, 7, 8, 9, 10, 11, 12, 13, 14, 15, 16], [15])])
def real_sum.B2 : List Nat := [0, 1, 3, 0, 8, 0, 56, 127, 0, 256, 1023, 0, 2048, 0, 14336, 32767, 65535, 131071]
theorem real_sum.tab2 : rtab .any (opsOf Tryz.f100 2) = real_sum.T2 := by kernel_rfl
theorem real_sum.bits2 : waitsOk real_sum.T2.2 real_sum.B2 = true := by kernel_rfl
def real_sum.T4 : Bool × List (List Nat × List Nat) := (true, [([], []), ([0], [0]), ([1], [1]), ([], []), ([], []), ([3, 4], [3, 4]), ([], []), ([], []), ([5, 6, 7, 5], [5, 6, 7]), ([2, 8, 8], [2, 8]), ([9, 9, 0, 1, 2, 3, 4, 5, 6, 7, 8, 9], [9])])
def real_sum.B4 : List Nat := [0, 1, 3, 0, 0, 24, 0, 0, 248, 511, 1023]
theorem real_sum.tab4 : rtab .any (opsOf Tryz.f100 4) = real_sum.T4 := by kernel_rfl
theorem real_sum.bits4 : waitsOk real_sum.T4.2 real_sum.B4 = true := by kernel_rfl
def real_sum.T6 : Bool × List (List Nat × List Nat) := (true, [([], []), ([0], [0]), ([1], [1]), ([], []), ([], []), ([3, 4], [3, 4]), ([], []), ([], []), ([5, 6, 7, 5], [5, 6, 7]), ([2, 8, 8], [2, 8]), ([9, 9, 0, 1, 2, 3, 4, 5, 6, 7, 8, 9], [9])])
def real_sum.B6 : List Nat := [0, 1, 3, 0, 0, 24, 0, 0, 248, 511, 1023]
theorem real_sum.tab6 : rtab .any (opsOf Tryz.f100 6) = real_sum.T6 := by kernel_rfl
theorem real_sum.bits6 : waitsOk real_sum.T6.2 real_sum.B6 = true := by kernel_rfl
def real_sum.T7 : Bool × List (List Nat × List Nat) := (true, [([], []), ([0], [0]), ([1], [1]), ([], []), ([], []), ([3, 4], [3, 4]), ([], []), ([], []), ([5, 6, 7, 5], [5, 6, 7]), ([2, 8, 8], [2, 8]), ([9, 9, 0, 1, 2, 3, 4, 5, 6, 7, 8, 9], [9])])
def real_sum.B7 : List Nat := [0, 1, 3, 0, 0, 24, 0, 0, 248, 511, 1023]
theorem real_sum.tab7 : rtab .any (opsOf Tryz.f100 7) = real_sum.T7 := by kernel_rfl
theorem real_sum.bits7 : waitsOk real_sum.T7.2 real_sum.B7 = true := by kernel_rfl
theorem real_sum.calls (k : Nat) (a0_0 : Int) (a0_1 : Int) (a1_0 : Int) (a1_1 : Int) (r1 : Int) (r2 : Int) (w : World) (h : real_sum.f k a0_0 a0_1 a1_0 a1_1 = some (r1, r2)) :
  Calls Tryz.prog 100 #[.agg #[.int .i64 a0_0, .int .i64 a0_1], .agg #[.int .i64 a1_0, .int .i64 a1_1]] w fun e w' => e = ending r1 r2 ∧ Below w.heap.size w w' := by
 have hu23 := Tryz.underlying23
 have HB := Aside0.mk (Below.refl w.heap.size w)
 have H := h; unfold real_sum.f at H; clear h
 obtain ⟨ji3, hji3⟩ : ∃ j_ : Int, (mn a0_1 a1_1) = j_ := ⟨_, rfl⟩
 first | rw [hji3] at H | simp only [hji3] at H
 have hji3_ : (if a1_1 < a0_1 then a1_1 else a0_1) = ji3 := hji3
 replace H := Option.bind_eq_some_iff.mp H
 obtain ⟨t259, A40, H⟩ := H
 try dsimp only at H
 have A4 := Aside0.mk A40
 clear A40
 replace H := Option.bind_eq_some_iff.mp H
 obtain ⟨t262, A50, H⟩ := H
 try dsimp only at H
 have A5 := Aside0.mk A50
 clear A50
 replace H := Option.bind_eq_some_iff.mp H
 obtain ⟨t265, A60, H⟩ := H
 try dsimp only at H
 have A6 := Aside0.mk A60
 clear A60
 replace H := Option.bind_eq_some_iff.mp H
 obtain ⟨t268, A70, H⟩ := H
 try dsimp only at H
 have A7 := Aside0.mk A70
 clear A70
 go_enter Tryz.func100, Tryz.ntmps100
 try go_wp2_with (first | ((with_reducible refine gate_dst (N := 2) rfl ?_); refine bxe 2 #[.int .i64 a0_0, .int .i64 a0_1] 23 ?_; intro gb256 hg w12 hbox hb; have BK256 := Aside0.mk hbox; have GW256 := ge hg; have GE256 := ge hg; replace HB := bs hb; clear hb hbox hg) | ((with_reducible refine gate_dst (N := 3) rfl ?_); refine bxe 3 #[.int .i64 a1_0, .int .i64 a1_1] 23 ?_; intro gb257 hg w13 hbox hb; have BK257 := Aside0.mk hbox; have GW257 := ge hg; have GE257 := ge hg; have NB256_257 := nl BK256 hg; have NB257_256 := nr BK256 hg; replace BK256 := kb BK256 hb; replace HB := bs hb; clear hb hbox hg) | ((with_reducible refine gate_dst (N := 4) rfl ?_); refine bxe 4 #[.int .i64 0, .int .i64 0] 23 ?_; intro gb258 hg w14 hbox hb; have BK258 := Aside0.mk hbox; have GW258 := ge hg; have GE258 := ge hg; have NB256_258 := nl BK256 hg; have NB258_256 := nr BK256 hg; have NB257_258 := nl BK257 hg; have NB258_257 := nr BK257 hg; replace BK256 := kb BK256 hb; replace BK257 := kb BK257 hb; replace HB := bs hb; clear hb hbox hg; have hnb15 := NB256_257.out; have hnc15 := NB257_256.out; have hnb16 := NB256_258.out; have hnc16 := NB258_256.out; have hcz17_0 := c20 BK256; have hcz17_1 := c21 BK256; have hfz17_0 := blk_frozen BK256.out 0; have hfz17_1 := blk_frozen BK256.out 1; have hnb18 := NB257_258.out; have hnc18 := NB258_257.out; have hcz19_0 := c20 BK257; have hcz19_1 := c21 BK257; have hfz19_0 := blk_frozen BK257.out 0; have hfz19_1 := blk_frozen BK257.out 1))
 replace BK256 := Aside0.mk (blk_drew BK256.out)
 replace BK257 := Aside0.mk (blk_drew BK257.out)
 replace BK258 := Aside0.mk (blk_drew BK258.out)
 replace HB := Aside0.mk (below_drew1 HB.out)
 refine start_ (n := 18) (S := fun w' => w'.cell? ⟨gb256, 0, none⟩ = some (.int .i64 a0_0) ∧ w'.cell? ⟨gb256, 1, none⟩ = some (.int .i64 a0_1) ∧ w'.cell? ⟨gb257, 0, none⟩ = some (.int .i64 a1_0) ∧ w'.cell? ⟨gb257, 1, none⟩ = some (.int .i64 a1_1)) (ds := []) #[ff,ff,ff,ff,ff,ff,ff,ff,ff,ff,ff,ff,ff,ff,ff,ff,ff,ff] (by kernel_rfl) rfl rfl ⟨bc 0 BK256, bc 1 BK256, bc 0 BK257, bc 1 BK257⟩ (fun hHeld => ?_); refine with_tabW real_sum.tab2 real_sum.bits2 (fun HT_ HW_ => ?_)
 generalize w14.drew = w20 at BK256 BK257 BK258 HB hHeld ⊢
 refine pur 0 (some 13) #[tt,ff,ff,ff,ff,ff,ff,ff,ff,ff,ff,ff,ff,ff,ff,ff,ff,ff] ?_
 refine pur 3 (some 16) #[tt,ff,ff,tt,ff,ff,ff,ff,ff,ff,ff,ff,ff,ff,ff,ff,ff,ff] ?_
 refine pur 5 (some 18) #[tt,ff,ff,tt,ff,tt,ff,ff,ff,ff,ff,ff,ff,ff,ff,ff,ff,ff] ?_
 refine pur 8 (some 21) #[tt,ff,ff,tt,ff,tt,ff,ff,tt,ff,ff,ff,ff,ff,ff,ff,ff,ff] ?_
 refine pur 11 (some 24) #[tt,ff,ff,tt,ff,tt,ff,ff,tt,ff,ff,tt,ff,ff,ff,ff,ff,ff] ?_
 refine pur 13 (some 26) #[tt,ff,ff,tt,ff,tt,ff,ff,tt,ff,ff,tt,ff,tt,ff,ff,ff,ff] ?_
 refine tk4 1 (some 14) #[tt,tt,ff,tt,ff,tt,ff,ff,tt,ff,ff,tt,ff,tt,ff,ff,ff,ff] ?_
 refine tk4 4 (some 17) #[tt,tt,ff,tt,tt,tt,ff,ff,tt,ff,ff,tt,ff,tt,ff,ff,ff,ff] ?_
 refine pur 6 (some 19) #[tt,tt,ff,tt,tt,tt,tt,ff,tt,ff,ff,tt,ff,tt,ff,ff,ff,ff] ?_
 refine tk4 9 (some 22) #[tt,tt,ff,tt,tt,tt,tt,ff,tt,tt,ff,tt,ff,tt,ff,ff,ff,ff] ?_
 refine tk4 12 (some 25) #[tt,tt,ff,tt,tt,tt,tt,ff,tt,tt,ff,tt,tt,tt,ff,ff,ff,ff] ?_
 refine pur 14 (some 27) #[tt,tt,ff,tt,tt,tt,tt,ff,tt,tt,ff,tt,tt,tt,tt,ff,ff,ff] ?_
 refine on1 2 (some 15) #[tt,tt,tt,tt,tt,tt,tt,ff,tt,tt,ff,tt,tt,tt,tt,ff,ff,ff] (fun K hK => ?_)
 refine gsz Tryz.func113 #[.int .i64 a0_0] ?_
 with_reducible refine (real_magnitude.calls k a0_0 t259 _ A4.out).mono ?_
 rintro e w21 ⟨v260, rfl, ho0, hb⟩
 refine ⟨_, rfl, ?_⟩
 have HO261 := Aside0.mk (Kd.V_lower (Kd.V_mono (ok' := fun k_ => k_ ≠ gb256 ∧ k_ ≠ gb257 ∧ k_ ≠ gb258) ho0 (fun k_ hk_ => ⟨(fb BK256 k_ hk_), (fb BK257 k_ hk_), (fb BK258 k_ hk_)⟩)) (below_size bz))
 replace BK256 := kb BK256 hb
 replace BK257 := kb BK257 hb
 replace BK258 := kb BK258 hb
 replace HB := bs hb
 (try clear hb)
 (try clear hk)
 (try clear ho0)
 obtain ⟨Ao22, co22, eo22⟩ := Kd.V_slice HO261.out
 (first | subst eo22 | (injection eo22 with f1_ f2_ f3_; have f4_ := f1_.symm; have f5_ := f3_.symm; clear f1_ f2_ f3_; subst f4_; subst f5_))
 refine hK.out _ _ ⟨bc 0 BK256, bc 1 BK256, bc 0 BK257, bc 1 BK257⟩ (fun hHeld => ?_)
 clear hK K
 refine nrm (some 15) ?_
 refine on1 7 (some 20) #[tt,tt,tt,tt,tt,tt,tt,tt,tt,tt,ff,tt,tt,tt,tt,ff,ff,ff] (fun K hK => ?_)
 refine goes_ Tryz.func126 (by kernel_rfl) rfl #[.slice Ao22 t259.length co22, .int .i64 (wrap64 (a0_1 - (ji3)))] (by rfl) rfl rfl (by (try simp only [List.map_toArray, List.map_cons, List.map_nil]); first | done | (simp only [Act.eval, Array.getD_eq_getD_getElem?, Option.getD_some, *]; done) | (simp only [Act.eval, Array.getD_eq_getD_getElem?, Option.getD_some, *]; rfl) | (simp only [hji3]; rfl) | rfl | (simp only [List.length_drop, List.length_take]; rfl)) ?_
 with_reducible refine (real_nat_shl.calls k _ _ t259 (wrap64 (a0_1 - (ji3))) t262 _ ?side1 ?side2 A5.out).mono ?_
 (case side1 => exact ccz (Kd.V_reads' HO261.out).2.2)
 (case side2 => exact (Kd.V_reads' HO261.out).2.1)
 rintro e w23 ⟨v263, rfl, ho0, hb⟩
 refine ⟨_, rfl, ?_⟩
 have HO264 := Aside0.mk (Kd.V_lower (Kd.V_mono (ok' := fun k_ => k_ ≠ gb256 ∧ k_ ≠ gb257 ∧ k_ ≠ gb258) ho0 (fun k_ hk_ => ⟨(fb BK256 k_ hk_), (fb BK257 k_ hk_), (fb BK258 k_ hk_)⟩)) (below_size bz))
 replace HO261 := vb HO261 hb
 replace BK256 := kb BK256 hb
 replace BK257 := kb BK257 hb
 replace BK258 := kb BK258 hb
 replace HB := bs hb
 (try clear hb)
 (try clear hk)
 (try clear ho0)
 refine hK.out _ _ ⟨bc 0 BK256, bc 1 BK256, bc 0 BK257, bc 1 BK257⟩ (fun hHeld => ?_)
 clear hK K
 refine nrm (some 20) ?_
 refine on1 10 (some 23) #[tt,tt,tt,tt,tt,tt,tt,tt,tt,tt,tt,tt,tt,tt,tt,ff,ff,ff] (fun K hK => ?_)
 refine gsz Tryz.func113 #[.int .i64 a1_0] ?_
 with_reducible refine (real_magnitude.calls k a1_0 t265 _ A6.out).mono ?_
 rintro e w24 ⟨v266, rfl, ho0, hb⟩
 refine ⟨_, rfl, ?_⟩
 have HO267 := Aside0.mk (Kd.V_lower (Kd.V_mono (ok' := fun k_ => k_ ≠ gb256 ∧ k_ ≠ gb257 ∧ k_ ≠ gb258) ho0 (fun k_ hk_ => ⟨(fb BK256 k_ hk_), (fb BK257 k_ hk_), (fb BK258 k_ hk_)⟩)) (below_size bz))
 replace HO261 := vb HO261 hb
 replace HO264 := vb HO264 hb
 replace BK256 := kb BK256 hb
 replace BK257 := kb BK257 hb
 replace BK258 := kb BK258 hb
 replace HB := bs hb
 (try clear hb)
 (try clear hk)
 (try clear ho0)
 obtain ⟨Ao25, co25, eo25⟩ := Kd.V_slice HO267.out
 (first | subst eo25 | (injection eo25 with f1_ f2_ f3_; have f4_ := f1_.symm; have f5_ := f3_.symm; clear f1_ f2_ f3_; subst f4_; subst f5_))
 refine hK.out _ _ ⟨bc 0 BK256, bc 1 BK256, bc 0 BK257, bc 1 BK257⟩ (fun hHeld => ?_)
 clear hK K
 refine nrm (some 23) ?_
 refine on1 15 (some 28) #[tt,tt,tt,tt,tt,tt,tt,tt,tt,tt,tt,tt,tt,tt,tt,tt,ff,ff] (fun K hK => ?_)
 refine goes_ Tryz.func126 (by kernel_rfl) rfl #[.slice Ao25 t265.length co25, .int .i64 (wrap64 (a1_1 - (ji3)))] (by rfl) rfl rfl (by (try simp only [List.map_toArray, List.map_cons, List.map_nil]); first | done | (simp only [Act.eval, Array.getD_eq_getD_getElem?, Option.getD_some, *]; done) | (simp only [Act.eval, Array.getD_eq_getD_getElem?, Option.getD_some, *]; rfl) | (simp only [hji3]; rfl) | rfl | (simp only [List.length_drop, List.length_take]; rfl)) ?_
 with_reducible refine (real_nat_shl.calls k _ _ t265 (wrap64 (a1_1 - (ji3))) t268 _ ?side1 ?side2 A7.out).mono ?_
 (case side1 => exact ccz (Kd.V_reads' HO267.out).2.2)
 (case side2 => exact (Kd.V_reads' HO267.out).2.1)
 rintro e w26 ⟨v269, rfl, ho0, hb⟩
 refine ⟨_, rfl, ?_⟩
 have HO270 := Aside0.mk (Kd.V_lower (Kd.V_mono (ok' := fun k_ => k_ ≠ gb256 ∧ k_ ≠ gb257 ∧ k_ ≠ gb258) ho0 (fun k_ hk_ => ⟨(fb BK256 k_ hk_), (fb BK257 k_ hk_), (fb BK258 k_ hk_)⟩)) (below_size bz))
 replace HO261 := vb HO261 hb
 replace HO264 := vb HO264 hb
 replace HO267 := vb HO267 hb
 replace BK256 := kb BK256 hb
 replace BK257 := kb BK257 hb
 replace BK258 := kb BK258 hb
 replace HB := bs hb
 (try clear hb)
 (try clear hk)
 (try clear ho0)
 refine hK.out _ _ ⟨bc 0 BK256, bc 1 BK256, bc 0 BK257, bc 1 BK257⟩ (fun hHeld => ?_)
 clear hK K
 refine nrm (some 28) ?_
 refine pur 16 (some 6) #[tt,tt,tt,tt,tt,tt,tt,tt,tt,tt,tt,tt,tt,tt,tt,tt,tt,ff] ?_
 refine pur 17 (some 7) #[tt,tt,tt,tt,tt,tt,tt,tt,tt,tt,tt,tt,tt,tt,tt,tt,tt,tt] ?_
 refine done_ (done_of HT_.out (by kernel_rfl)) ?_
 have hcz27_0 := c20 BK256
 have hcz27_1 := c21 BK256
 have hfz27_0 := blk_frozen BK256.out 0
 have hfz27_1 := blk_frozen BK256.out 1
 have hcz28_0 := c20 BK257
 have hcz28_1 := c21 BK257
 have hfz28_0 := blk_frozen BK257.out 0
 have hfz28_1 := blk_frozen BK257.out 1
 obtain ⟨Ao29, co29, eo29⟩ := Kd.V_slice HO264.out
 subst eo29
 obtain ⟨Ao30, co30, eo30⟩ := Kd.V_slice HO270.out
 subst eo30
 by_cases c8 : ((decide (a0_0 < 0)) == (decide (a1_0 < 0))) = true
 ·rw [if_pos c8] at H
  have c8b0 : ((decide (a0_0 < 0)) == (decide (a1_0 < 0))) = true := c8
  (try (have c8b1 : decide ((decide (a0_0 < 0)) = (decide (a1_0 < 0))) = true := by simpa using c8))
  (try (have c8b2 : ((decide (a0_0 < 0)) == (decide (a1_0 < 0))) = true := by simpa using c8))
  clear c8
  replace H := Option.bind_eq_some_iff.mp H
  obtain ⟨t271, A90, H⟩ := H
  try dsimp only at H
  have A9 := Aside0.mk A90
  clear A90
  obtain ⟨y274, hy274⟩ : ∃ y_ : List Int, y_ = (([1] : List Int)) := ⟨_, rfl⟩
  replace H : ((real_rounded.f k t271 (ji3) y274).bind fun bt277 => ((real_signed.f (decide (a0_0 < 0)) bt277.1 bt277.2).bind fun bt279 => (some (bt279.1, bt279.2)))) = some (r1, r2) := by first | (rw [hy274]; with_reducible exact H) | (have H2_ := (Option.bind_some _ _).symm.trans H; rw [hy274]; with_reducible exact H2_) | (have H2_ := (Option.bind_some _ _).symm.trans H; with_reducible exact H2_) | with_reducible exact H | (rw [hy274]; exact H) | exact H
  have Ny274 := Aside0.mk hy274
  clear hy274
  replace H := Option.bind_eq_some_iff.mp H
  obtain ⟨⟨t277, t278⟩, A100, H⟩ := H
  try dsimp only at H
  have A10 := Aside0.mk A100
  clear A100
  replace H := Option.bind_eq_some_iff.mp H
  obtain ⟨⟨t279, t280⟩, A110, H⟩ := H
  try dsimp only at H
  have A11 := Aside0.mk A110
  clear A110
  simp only [Option.some.injEq, Prod.mk.injEq] at H
  obtain ⟨rfl, rfl⟩ := H
  try go_wp2
  replace HO261 := Aside0.mk (Kd.V_drew HO261.out)
  replace HO264 := Aside0.mk (Kd.V_drew HO264.out)
  replace HO267 := Aside0.mk (Kd.V_drew HO267.out)
  replace HO270 := Aside0.mk (Kd.V_drew HO270.out)
  replace BK256 := Aside0.mk (blk_drew BK256.out)
  replace BK257 := Aside0.mk (blk_drew BK257.out)
  replace BK258 := Aside0.mk (blk_drew BK258.out)
  replace HB := Aside0.mk (below_drew1 HB.out)
  refine start_ (n := 11) (S := fun w' => w'.cell? ⟨gb256, 0, none⟩ = some (.int .i64 a0_0) ∧ w'.cell? ⟨gb256, 1, none⟩ = some (.int .i64 a0_1)) (ds := []) #[ff,ff,ff,ff,ff,ff,ff,ff,ff,ff,ff] (by kernel_rfl) rfl rfl ⟨bc 0 BK256, bc 1 BK256⟩ (fun hHeld => ?_); refine with_tabW real_sum.tab4 real_sum.bits4 (fun HT_ HW_ => ?_)
  generalize w26.drew = w31 at HO261 HO264 HO267 HO270 BK256 BK257 BK258 HB hHeld ⊢
  refine pur 0 (some 36) #[tt,ff,ff,ff,ff,ff,ff,ff,ff,ff,ff] ?_
  refine pur 3 (some 39) #[tt,ff,ff,tt,ff,ff,ff,ff,ff,ff,ff] ?_
  refine pur 4 (some 40) #[tt,ff,ff,tt,tt,ff,ff,ff,ff,ff,ff] ?_
  refine pur 6 (some 42) #[tt,ff,ff,tt,tt,ff,tt,ff,ff,ff,ff] ?_
  refine tk2 1 (some 37) #[tt,tt,ff,tt,tt,ff,tt,ff,ff,ff,ff] ?_
  refine pur 2 (some 38) #[tt,tt,tt,tt,tt,ff,tt,ff,ff,ff,ff] ?_
  refine join_ (σ := Value × Value) 3 #[true, true, true, true, true, true, true, true, false, false, false] (fun s_ => [(41, s_.1), (43, s_.2)]) (fun s_ w' => (w'.cell? ⟨gb256, 0, none⟩ = some (.int .i64 a0_0) ∧ w'.cell? ⟨gb256, 1, none⟩ = some (.int .i64 a0_1)) ∧ (Kd.V (Kd.int .u32) 115 w' w.heap.size (fun k_ => some k_ ≠ (s_.2 : Value).ownBlock ∧ k_ ≠ gb256 ∧ k_ ≠ gb257 ∧ k_ ≠ gb258) (.slice Ao22 t259.length co22) t259) ∧ (Kd.V (Kd.int .u32) 115 w' w.heap.size (fun k_ => some k_ ≠ (s_.2 : Value).ownBlock ∧ k_ ≠ gb256 ∧ k_ ≠ gb257 ∧ k_ ≠ gb258) (.slice Ao29 t262.length co29) t262) ∧ (Kd.V (Kd.int .u32) 115 w' w.heap.size (fun k_ => some k_ ≠ (s_.2 : Value).ownBlock ∧ k_ ≠ gb256 ∧ k_ ≠ gb257 ∧ k_ ≠ gb258) (.slice Ao25 t265.length co25) t265) ∧ (Kd.V (Kd.int .u32) 115 w' w.heap.size (fun k_ => some k_ ≠ (s_.2 : Value).ownBlock ∧ k_ ≠ gb256 ∧ k_ ≠ gb257 ∧ k_ ≠ gb258) (.slice Ao30 t268.length co30) t268) ∧ (Kd.V (Kd.int .u32) 115 w' w.heap.size (fun k_ => some k_ ≠ (s_.2 : Value).ownBlock ∧ k_ ≠ gb256 ∧ k_ ≠ gb257 ∧ k_ ≠ gb258) s_.1 t271) ∧ (Kd.R (Kd.int .u32) 115 w' w.heap.size (fun _ => True) s_.2 y274) ∧ (w'.heap[gb256]? = some (.cells #[.int .i64 a0_0, .int .i64 a0_1] 23 (0, 0))) ∧ (w'.heap[gb257]? = some (.cells #[.int .i64 a1_0, .int .i64 a1_1] 23 (0, 0))) ∧ (w'.heap[gb258]? = some (.cells #[.int .i64 0, .int .i64 0] 23 (0, 0))) ∧ (Below w.heap.size w w')) ?_ ?_
  rotate_left
  ·intro hCont
   refine two_ (i := 5) (j := 7) (Ni := some 41) (Nj := some 43) #[true, true, true, true, true, true, true, false, false, false, false] #[true, true, true, true, true, false, true, true, false, false, false] rfl rfl rfl rfl (two_of HT_.out (by kernel_rfl)) (by decide) (by decide) (fun K hK => ?_) (fun K hK => ?_)
   ·skip
    refine gsz Tryz.func117 #[.slice Ao29 t262.length co29, .slice Ao30 t268.length co30] ?_
    with_reducible refine (real_nat_add.calls k _ _ t262 _ _ t268 t271 _ ?side1 ?side2 ?side3 ?side4 A9.out).mono ?_
    (case side1 => exact ccz (Kd.V_reads' HO264.out).2.2)
    (case side2 => exact (Kd.V_reads' HO264.out).2.1)
    (case side3 => exact ccz (Kd.V_reads' HO270.out).2.2)
    (case side4 => exact (Kd.V_reads' HO270.out).2.1)
    rintro e w32 ⟨v272, rfl, ho0, hb⟩
    refine ⟨_, rfl, ?_⟩
    have HO273 := Aside0.mk (Kd.V_lower (Kd.V_mono (ok' := fun k_ => k_ ≠ gb256 ∧ k_ ≠ gb257 ∧ k_ ≠ gb258) ho0 (fun k_ hk_ => ⟨(fb BK256 k_ hk_), (fb BK257 k_ hk_), (fb BK258 k_ hk_)⟩)) (below_size bz))
    replace HO261 := vb HO261 hb
    replace HO264 := vb HO264 hb
    replace HO267 := vb HO267 hb
    replace HO270 := vb HO270 hb
    replace BK256 := kb BK256 hb
    replace BK257 := kb BK257 hb
    replace BK258 := kb BK258 hb
    replace HB := bs hb
    (try clear hb)
    (try clear hk)
    (try clear ho0)
    refine hK.out _ _ ⟨bc 0 BK256, bc 1 BK256⟩ (fun hHeld => ?_)
    clear hK K
    refine nrm (some 41) ?_
    refine on1 7 (some 43) #[tt,tt,tt,tt,tt,tt,tt,tt,ff,ff,ff] (fun K hK => ?_)
    refine Kd.R_lit_step (Kd.int .u32) _ 115 ?hg (N := 43) ?hd (xs := ([1] : List Int)) (inner := [.int .u32 1]) (ok := fun _ => True) (okp := fun _ => True) ?hr ?hp (fun _ hk => hk) trivial (Below.refl _ _) (Nat.le_refl _) (by simp) ?_; (case hd => rfl); (case hg => rfl); (case hr => first | (go_simp; done) | (go_simp; rfl)); (case hp => exact (Reps.one (show Kd.M (Kd.int .u32) _ _ _ 1 [.int .u32 1] from rfl) (Reps.none _ _)))
    intro v275 w33 ho34 hb hg_ hnew_
    clear hg_ hnew_
    (first | rw [← Ny274.out] at ho34 | (simp only [Int.reduceToNat] at ho34; rw [← Ny274.out] at ho34))
    have HO276 := Aside0.mk (Kd.R_lower ho34 (below_size bz))
    replace HO261 := Aside0.mk (Kd.V_elder' (vz HO261) (Kd.R_base ho34) hb)
    replace HO264 := Aside0.mk (Kd.V_elder' (vz HO264) (Kd.R_base ho34) hb)
    replace HO267 := Aside0.mk (Kd.V_elder' (vz HO267) (Kd.R_base ho34) hb)
    replace HO270 := Aside0.mk (Kd.V_elder' (vz HO270) (Kd.R_base ho34) hb)
    replace HO273 := Aside0.mk (Kd.V_elder' (vz HO273) (Kd.R_base ho34) hb)
    replace BK256 := kb BK256 hb
    replace BK257 := kb BK257 hb
    replace BK258 := kb BK258 hb
    replace HB := bs hb
    clear hb ho34
    refine hK.out _ _ ⟨bc 0 BK256, bc 1 BK256⟩ (fun hHeld => ?_)
    clear hK K
    refine nrm (some 43) ?_
    exact norm_ (by simp only [putAll, Act.put, List.setIfInBounds_toArray, List.set_cons_zero, List.set_cons_succ]) (hCont (v272, v275) _ ⟨hHeld, (by (with_reducible repeat (first | apply Kd.V_alloc | apply Kd.V_drewN | apply Kd.V_drew)); exact Kd.V_mono HO261.out (fun _ hk => by first | exact ⟨hk.2, ⟨hk.1.1, ⟨hk.1.2.1, hk.1.2.2⟩⟩⟩ | exact hk.1 | exact hk | exact hk.2)), (by (with_reducible repeat (first | apply Kd.V_alloc | apply Kd.V_drewN | apply Kd.V_drew)); exact Kd.V_mono HO264.out (fun _ hk => by first | exact ⟨hk.2, ⟨hk.1.1, ⟨hk.1.2.1, hk.1.2.2⟩⟩⟩ | exact hk.1 | exact hk | exact hk.2)), (by (with_reducible repeat (first | apply Kd.V_alloc | apply Kd.V_drewN | apply Kd.V_drew)); exact Kd.V_mono HO267.out (fun _ hk => by first | exact ⟨hk.2, ⟨hk.1.1, ⟨hk.1.2.1, hk.1.2.2⟩⟩⟩ | exact hk.1 | exact hk | exact hk.2)), (by (with_reducible repeat (first | apply Kd.V_alloc | apply Kd.V_drewN | apply Kd.V_drew)); exact Kd.V_mono HO270.out (fun _ hk => by first | exact ⟨hk.2, ⟨hk.1.1, ⟨hk.1.2.1, hk.1.2.2⟩⟩⟩ | exact hk.1 | exact hk | exact hk.2)), (by (with_reducible repeat (first | apply Kd.V_alloc | apply Kd.V_drewN | apply Kd.V_drew)); exact Kd.V_mono HO273.out (fun _ hk => by first | exact ⟨hk.2, ⟨hk.1.1, ⟨hk.1.2.1, hk.1.2.2⟩⟩⟩ | exact hk.1 | exact hk | exact hk.2)), (rz HO276), (kz BK256), (kz BK257), (kz BK258), bz⟩)
   ·skip
    refine Kd.R_lit_step (Kd.int .u32) _ 115 ?hg (N := 43) ?hd (xs := ([1] : List Int)) (inner := [.int .u32 1]) (ok := fun _ => True) (okp := fun _ => True) ?hr ?hp (fun _ hk => hk) trivial (Below.refl _ _) (Nat.le_refl _) (by simp) ?_; (case hd => rfl); (case hg => rfl); (case hr => first | (go_simp; done) | (go_simp; rfl)); (case hp => exact (Reps.one (show Kd.M (Kd.int .u32) _ _ _ 1 [.int .u32 1] from rfl) (Reps.none _ _)))
    intro v275 w32 ho33 hb hg_ hnew_
    clear hg_ hnew_
    (first | rw [← Ny274.out] at ho33 | (simp only [Int.reduceToNat] at ho33; rw [← Ny274.out] at ho33))
    have HO276 := Aside0.mk (Kd.R_lower ho33 (below_size bz))
    replace HO261 := Aside0.mk (Kd.V_elder' (vz HO261) (Kd.R_base ho33) hb)
    replace HO264 := Aside0.mk (Kd.V_elder' (vz HO264) (Kd.R_base ho33) hb)
    replace HO267 := Aside0.mk (Kd.V_elder' (vz HO267) (Kd.R_base ho33) hb)
    replace HO270 := Aside0.mk (Kd.V_elder' (vz HO270) (Kd.R_base ho33) hb)
    replace BK256 := kb BK256 hb
    replace BK257 := kb BK257 hb
    replace BK258 := kb BK258 hb
    replace HB := bs hb
    clear hb ho33
    refine hK.out _ _ ⟨bc 0 BK256, bc 1 BK256⟩ (fun hHeld => ?_)
    clear hK K
    refine nrm (some 43) ?_
    refine on1 5 (some 41) #[tt,tt,tt,tt,tt,tt,tt,tt,ff,ff,ff] (fun K hK => ?_)
    refine gsz Tryz.func117 #[.slice Ao29 t262.length co29, .slice Ao30 t268.length co30] ?_
    with_reducible refine (real_nat_add.calls k _ _ t262 _ _ t268 t271 _ ?side1 ?side2 ?side3 ?side4 A9.out).mono ?_
    (case side1 => exact ccz (Kd.V_reads' HO264.out).2.2)
    (case side2 => exact (Kd.V_reads' HO264.out).2.1)
    (case side3 => exact ccz (Kd.V_reads' HO270.out).2.2)
    (case side4 => exact (Kd.V_reads' HO270.out).2.1)
    rintro e w34 ⟨v272, rfl, ho0, hb⟩
    refine ⟨_, rfl, ?_⟩
    have HO273 := Aside0.mk (Kd.V_lower (Kd.V_mono (ok' := fun k_ => some k_ ≠ (v275 : Value).ownBlock ∧ k_ ≠ gb256 ∧ k_ ≠ gb257 ∧ k_ ≠ gb258) ho0 (fun k_ hk_ => ⟨(Kd.fresh' (Kd.R_lt (rz HO276)) k_ hk_), (fb BK256 k_ hk_), (fb BK257 k_ hk_), (fb BK258 k_ hk_)⟩)) (below_size bz))
    replace HO261 := vb HO261 hb
    replace HO264 := vb HO264 hb
    replace HO267 := vb HO267 hb
    replace HO270 := vb HO270 hb
    replace HO276 := rb HO276 hb
    replace BK256 := kb BK256 hb
    replace BK257 := kb BK257 hb
    replace BK258 := kb BK258 hb
    replace HB := bs hb
    (try clear hb)
    (try clear hk)
    (try clear ho0)
    refine hK.out _ _ ⟨bc 0 BK256, bc 1 BK256⟩ (fun hHeld => ?_)
    clear hK K
    refine nrm (some 41) ?_
    exact norm_ (by simp only [putAll, Act.put, List.setIfInBounds_toArray, List.set_cons_zero, List.set_cons_succ]) (hCont (v272, v275) _ ⟨hHeld, (by (with_reducible repeat (first | apply Kd.V_alloc | apply Kd.V_drewN | apply Kd.V_drew)); exact Kd.V_mono HO261.out (fun _ hk => by first | exact ⟨hk.2, ⟨hk.1.1, ⟨hk.1.2.1, hk.1.2.2⟩⟩⟩ | exact hk.1 | exact hk | exact hk.2)), (by (with_reducible repeat (first | apply Kd.V_alloc | apply Kd.V_drewN | apply Kd.V_drew)); exact Kd.V_mono HO264.out (fun _ hk => by first | exact ⟨hk.2, ⟨hk.1.1, ⟨hk.1.2.1, hk.1.2.2⟩⟩⟩ | exact hk.1 | exact hk | exact hk.2)), (by (with_reducible repeat (first | apply Kd.V_alloc | apply Kd.V_drewN | apply Kd.V_drew)); exact Kd.V_mono HO267.out (fun _ hk => by first | exact ⟨hk.2, ⟨hk.1.1, ⟨hk.1.2.1, hk.1.2.2⟩⟩⟩ | exact hk.1 | exact hk | exact hk.2)), (by (with_reducible repeat (first | apply Kd.V_alloc | apply Kd.V_drewN | apply Kd.V_drew)); exact Kd.V_mono HO270.out (fun _ hk => by first | exact ⟨hk.2, ⟨hk.1.1, ⟨hk.1.2.1, hk.1.2.2⟩⟩⟩ | exact hk.1 | exact hk | exact hk.2)), (vz HO273), (rz HO276), (kz BK256), (kz BK257), (kz BK258), bz⟩)
  rintro ⟨v272, v275⟩ w35 ⟨hS_, h0_, h1_, h2_, h3_, h4_, h5_, h6_, h7_, h8_, h9_⟩
  have HO273 : Aside0 (Kd.V (Kd.int .u32) 115 w35 w.heap.size (fun k_ => some k_ ≠ (v275 : Value).ownBlock ∧ k_ ≠ gb256 ∧ k_ ≠ gb257 ∧ k_ ≠ gb258) v272 t271) := ⟨h4_⟩
  have HO276 : Aside0 (Kd.R (Kd.int .u32) 115 w35 w.heap.size (fun _ => True) v275 y274) := ⟨h5_⟩
  replace HO261 : Aside0 (Kd.V (Kd.int .u32) 115 w35 w.heap.size (fun k_ => some k_ ≠ (v275 : Value).ownBlock ∧ k_ ≠ gb256 ∧ k_ ≠ gb257 ∧ k_ ≠ gb258) (.slice Ao22 t259.length co22) t259) := ⟨h0_⟩
  replace HO264 : Aside0 (Kd.V (Kd.int .u32) 115 w35 w.heap.size (fun k_ => some k_ ≠ (v275 : Value).ownBlock ∧ k_ ≠ gb256 ∧ k_ ≠ gb257 ∧ k_ ≠ gb258) (.slice Ao29 t262.length co29) t262) := ⟨h1_⟩
  replace HO267 : Aside0 (Kd.V (Kd.int .u32) 115 w35 w.heap.size (fun k_ => some k_ ≠ (v275 : Value).ownBlock ∧ k_ ≠ gb256 ∧ k_ ≠ gb257 ∧ k_ ≠ gb258) (.slice Ao25 t265.length co25) t265) := ⟨h2_⟩
  replace HO270 : Aside0 (Kd.V (Kd.int .u32) 115 w35 w.heap.size (fun k_ => some k_ ≠ (v275 : Value).ownBlock ∧ k_ ≠ gb256 ∧ k_ ≠ gb257 ∧ k_ ≠ gb258) (.slice Ao30 t268.length co30) t268) := ⟨h3_⟩
  replace BK256 : Aside0 (w35.heap[gb256]? = some (.cells #[.int .i64 a0_0, .int .i64 a0_1] 23 (0, 0))) := ⟨h6_⟩
  replace BK257 : Aside0 (w35.heap[gb257]? = some (.cells #[.int .i64 a1_0, .int .i64 a1_1] 23 (0, 0))) := ⟨h7_⟩
  replace BK258 : Aside0 (w35.heap[gb258]? = some (.cells #[.int .i64 0, .int .i64 0] 23 (0, 0))) := ⟨h8_⟩
  replace HB : Aside0 (Below w.heap.size w w35) := ⟨h9_⟩
  clear h0_ h1_ h2_ h3_ h4_ h5_ h6_ h7_ h8_ h9_
  have hHeld : w35.cell? ⟨gb256, 0, none⟩ = some (.int .i64 a0_0) ∧ w35.cell? ⟨gb256, 1, none⟩ = some (.int .i64 a0_1) := hS_
  obtain ⟨Ao36, co36, eo36⟩ := Kd.V_slice HO273.out
  (first | subst eo36 | (injection eo36 with f1_ f2_ f3_; have f4_ := f1_.symm; have f5_ := f3_.symm; clear f1_ f2_ f3_; subst f4_; subst f5_))
  obtain ⟨Ao37, co37, eo37⟩ := Kd.R_slice HO276.out
  (first | subst eo37 | (injection eo37 with f1_ f2_ f3_; have f4_ := f1_.symm; have f5_ := f3_.symm; clear f1_ f2_ f3_; subst f4_; subst f5_))
  refine norm_ (a' := ?_) ?_ ?_
  rotate_left
  ·simp only [putAll, Act.put, List.setIfInBounds_toArray, List.set_cons_zero, List.set_cons_succ]
   rfl
  refine on1 8 (some 44) #[tt,tt,tt,tt,tt,tt,tt,tt,tt,ff,ff] (fun K hK => ?_)
  refine goesP_ Tryz.func97 (by kernel_rfl) rfl #[.slice Ao36 t271.length co36, .int .i64 ji3, .slice Ao37 y274.length co37] (by rfl) rfl rfl (by (try simp only [List.map_toArray, List.map_cons, List.map_nil]); first | done | (simp only [Act.eval, Array.getD_eq_getD_getElem?, Option.getD_some, *]; done) | (simp only [Act.eval, Array.getD_eq_getD_getElem?, Option.getD_some, *]; rfl) | (simp only [hji3]; rfl) | rfl | (simp only [List.length_drop, List.length_take]; rfl)) ?_
  with_reducible refine (real_rounded.calls k ?pred3_ _ _ t271 ji3 (fun k_ => some k_ = (.slice Ao37 y274.length co37 : Value).ownBlock) _ _ y274 t277 t278 _ ?side1 ?side2 A10.out).mono ?_
  (case side1 => exact HO273.out)
  (case side2 => exact Kd.R_V (Kd.R_tight rfl (Kd.R_types (Kd.R_types (Kd.R_types (HO276.out) BK256.out (by decide)) BK257.out (by decide)) BK258.out (by decide))))
  rintro e w38 ⟨he_, hb⟩
  refine ends_ he_ (fun p1_ => And.intro rfl (And.intro (by first | exact code_direct p1_ | exact code_signed (by assumption) p1_) (below_step bz hb))) (fun hpn_ => ?_)
  replace HO261 := vb HO261 hb
  replace HO264 := vb HO264 hb
  replace HO267 := vb HO267 hb
  replace HO270 := vb HO270 hb
  replace HO273 := vb HO273 hb
  replace HO276 := rb HO276 hb
  replace BK256 := kb BK256 hb
  replace BK257 := kb BK257 hb
  replace BK258 := kb BK258 hb
  replace HB := bs hb
  (try clear hb)
  (try clear hk)
  refine hK.out _ _ ⟨bc 0 BK256, bc 1 BK256⟩ (fun hHeld => ?_)
  clear hK K
  refine nrm (some 44) ?_
  refine on1 9 (some 45) #[tt,tt,tt,tt,tt,tt,tt,tt,tt,tt,ff] (fun K hK => ?_)
  refine gsz Tryz.func80 #[.bool (decide (a0_0 < 0)), .agg #[.int .i64 t277, .int .i64 t278]] ?_
  with_reducible refine (real_signed.calls (decide (a0_0 < 0)) t277 t278 t279 t280 _ A11.out).mono ?_
  rintro e w39 ⟨rfl, hb⟩
  refine ⟨_, rfl, ?_⟩
  replace HO261 := vb HO261 hb
  replace HO264 := vb HO264 hb
  replace HO267 := vb HO267 hb
  replace HO270 := vb HO270 hb
  replace HO273 := vb HO273 hb
  replace HO276 := rb HO276 hb
  replace BK256 := kb BK256 hb
  replace BK257 := kb BK257 hb
  replace BK258 := kb BK258 hb
  replace HB := bs hb
  (try clear hb)
  (try clear hk)
  refine hK.out _ _ ⟨bc 0 BK256, bc 1 BK256⟩ (fun hHeld => ?_)
  clear hK K
  refine nrm (some 45) ?_
  refine on1 10 (none) #[tt,tt,tt,tt,tt,tt,tt,tt,tt,tt,tt] (fun K hK => ?_)
  have hs40 : w39.cell? ⟨gb258, 0, none⟩ = some (.int .i64 0) := (blk_cell BK258.out 0).trans rfl
  have hfs40 := blk_frozen BK258.out 0
  have hns40_0 := NB256_258.out
  have hns40_1 := NB257_258.out
  have hms40_0 := NB258_256.out
  have hms40_1 := NB258_257.out
  have hs41 : w39.cell? ⟨gb258, 1, none⟩ = some (.int .i64 0) := (blk_cell BK258.out 1).trans rfl
  have hfs41 := blk_frozen BK258.out 1
  have hns41_0 := NB256_258.out
  have hns41_1 := NB257_258.out
  have hms41_0 := NB258_256.out
  have hms41_1 := NB258_257.out
  refine skip_ (w1 := ?_) (by rfl) rfl ?_ ?_
  rotate_left
  ·go_simp
   rfl
  refine hK.out _ _ ⟨((cell_far (p := ⟨gb258, _, none⟩) NB256_258.out _).trans (((cell_far (p := ⟨gb258, _, none⟩) NB256_258.out _).trans (hHeld.1)))), ((cell_far (p := ⟨gb258, _, none⟩) NB256_258.out _).trans (((cell_far (p := ⟨gb258, _, none⟩) NB256_258.out _).trans (hHeld.2))))⟩ (fun hHeld => ?_)
  clear hK K
  refine done_ (done_of HT_.out (by kernel_rfl)) ?_
  try go_wp2
  refine bodyPost_ret (results_cell_row rfl _ _ gb258 23 #[.int .i64 t279, .int .i64 t280] (0, 0) _ rfl (by (with_reducible repeat (first | refine blk_drewN ?_ _ | refine blk_drew ?_ | refine blk_alloc ?_ _)); refine blk_put (cs := #[.int .i64 t279, .int .i64 0]) ?_ 1 _ rfl; (with_reducible repeat (first | refine blk_drewN ?_ _ | refine blk_drew ?_ | refine blk_alloc ?_ _)); refine blk_put (cs := #[.int .i64 0, .int .i64 0]) ?_ 0 _ rfl; (with_reducible repeat (first | refine blk_drewN ?_ _ | refine blk_drew ?_ | refine blk_alloc ?_ _)); exact BK258.out) Tryz.underlying23 rfl (by kernel_rfl)) rfl ?_
  exact ⟨by first | rfl | exact ending_le (by assumption) | exact (ending_at hpn_).symm | exact (ending_at (signed_not (by assumption) hpn_)).symm | (simp [errW_none, errW_some] <;> rfl) | (simp only [← hji3]; first | rfl | (simp [errW_none, errW_some] <;> rfl)) | (simp [*, errW_none, errW_some] <;> rfl), bz⟩
 ·rw [if_neg c8] at H
  cases H

def real_quotient.f (k : Nat) (a0_0 : Int) (a0_1 : Int) (a1_0 : Int) (a1_1 : Int) : Option (Int × Int) := (real_magnitude.f k a0_0).bind fun t305 => ((real_magnitude.f k a1_0).bind fun t308 => ((real_rounded.f k t305 (wrap64 (a0_1 - a1_1)) t308).bind fun bt311 => ((real_signed.f ((decide (a0_0 < 0)) != (decide (a1_0 < 0))) bt311.1 bt311.2).bind fun bt313 => (some (bt313.1, bt313.2)))))
theorem real_quotient.mono : ∀ a0 a1 a2 a3 k, LeO (real_quotient.f k a0 a1 a2 a3) (real_quotient.f (k + 1) a0 a1 a2 a3) := by
 intro a0 a1 a2 a3 k
 unfold real_quotient.f
 repeat' first
   | (with_reducible exact real_magnitude.mono _ _)
   | (with_reducible exact real_rounded.mono _ _ _ _)
   | (with_reducible exact LeO.refl _)
   | (with_reducible exact LeO.none _)
   | (with_reducible refine LeO.ite ?_ ?_)
   | (with_reducible refine LeO.bind ?_ (fun _ => ?_))
   | exact real_magnitude.mono _ _
   | exact real_rounded.mono _ _ _ _
   | exact LeO.none _
   | refine LeO.ite ?_ ?_
   | refine LeO.bind ?_ (fun _ => ?_)
def real_quotient.T1 : Bool × List (List Nat × List Nat) := (true, [([], []), ([0], [0]), ([1], [1]), ([], []), ([3], [3]), ([4], [4]), ([2, 5], [2, 5]), ([], []), ([7], [7]), ([8], [8]), ([], []), ([10], [10]), ([], []), ([12], [12]), ([11, 13], [11, 13]), ([], []), ([15], [15]), ([16, 9], [16]), ([9, 14, 17, 17], [9, 14, 17]), ([6, 18, 18], [6, 18]), ([19, 19, 0, 1, 2, 3, 4, 5, 6, 7, 8, 9, 10, 11, 12, 13, 14, 15, 16, 17, 18, 19], [19])])
def real_quotient.B1 : List Nat := [0, 1, 3, 0, 8, 24, 63, 0, 128, 384, 0, 1024, 0, 4096, 15360, 0, 32768, 99200, 262016, 524287, 1048575]
theorem real_quotient.tab1 : rtab .any (opsOf Tryz.f68 1) = real_quotient.T1 := by kernel_rfl
theorem real_quotient.bits1 : waitsOk real_quotient.T1.2 real_quotient.B1 = true := by kernel_rfl
theorem real_quotient.calls (k : Nat) (a0_0 : Int) (a0_1 : Int) (a1_0 : Int) (a1_1 : Int) (r1 : Int) (r2 : Int) (w : World) (h : real_quotient.f k a0_0 a0_1 a1_0 a1_1 = some (r1, r2)) :
  Calls Tryz.prog 68 #[.agg #[.int .i64 a0_0, .int .i64 a0_1], .agg #[.int .i64 a1_0, .int .i64 a1_1]] w fun e w' => e = ending r1 r2 ∧ Below w.heap.size w w' := by
 have hu23 := Tryz.underlying23
 have HB := Aside0.mk (Below.refl w.heap.size w)
 have H := h; unfold real_quotient.f at H; clear h
 replace H := Option.bind_eq_some_iff.mp H
 obtain ⟨t305, A30, H⟩ := H
 try dsimp only at H
 have A3 := Aside0.mk A30
 clear A30
 replace H := Option.bind_eq_some_iff.mp H
 obtain ⟨t308, A40, H⟩ := H
 try dsimp only at H
 have A4 := Aside0.mk A40
 clear A40
 replace H := Option.bind_eq_some_iff.mp H
 obtain ⟨⟨t311, t312⟩, A50, H⟩ := H
 try dsimp only at H
 have A5 := Aside0.mk A50
 clear A50
 replace H := Option.bind_eq_some_iff.mp H
 obtain ⟨⟨t313, t314⟩, A60, H⟩ := H
 try dsimp only at H
 have A6 := Aside0.mk A60
 clear A60
 simp only [Option.some.injEq, Prod.mk.injEq] at H
 obtain ⟨rfl, rfl⟩ := H
 go_enter Tryz.func68, Tryz.ntmps68
 try go_wp2_with (first | ((with_reducible refine gate_dst (N := 2) rfl ?_); refine bxe 2 #[.int .i64 a0_0, .int .i64 a0_1] 23 ?_; intro gb302 hg w7 hbox hb; have BK302 := Aside0.mk hbox; have GW302 := ge hg; have GE302 := ge hg; replace HB := bs hb; clear hb hbox hg) | ((with_reducible refine gate_dst (N := 3) rfl ?_); refine bxe 3 #[.int .i64 a1_0, .int .i64 a1_1] 23 ?_; intro gb303 hg w8 hbox hb; have BK303 := Aside0.mk hbox; have GW303 := ge hg; have GE303 := ge hg; have NB302_303 := nl BK302 hg; have NB303_302 := nr BK302 hg; replace BK302 := kb BK302 hb; replace HB := bs hb; clear hb hbox hg) | ((with_reducible refine gate_dst (N := 4) rfl ?_); refine bxe 4 #[.int .i64 0, .int .i64 0] 23 ?_; intro gb304 hg w9 hbox hb; have BK304 := Aside0.mk hbox; have GW304 := ge hg; have GE304 := ge hg; have NB302_304 := nl BK302 hg; have NB304_302 := nr BK302 hg; have NB303_304 := nl BK303 hg; have NB304_303 := nr BK303 hg; replace BK302 := kb BK302 hb; replace BK303 := kb BK303 hb; replace HB := bs hb; clear hb hbox hg))
 replace BK302 := Aside0.mk (blk_drew BK302.out)
 replace BK303 := Aside0.mk (blk_drew BK303.out)
 replace BK304 := Aside0.mk (blk_drew BK304.out)
 replace HB := Aside0.mk (below_drew1 HB.out)
 refine start_ (n := 21) (S := fun w' => w'.cell? ⟨gb302, 0, none⟩ = some (.int .i64 a0_0) ∧ w'.cell? ⟨gb302, 1, none⟩ = some (.int .i64 a0_1) ∧ w'.cell? ⟨gb303, 0, none⟩ = some (.int .i64 a1_0) ∧ w'.cell? ⟨gb303, 1, none⟩ = some (.int .i64 a1_1)) (ds := []) #[ff,ff,ff,ff,ff,ff,ff,ff,ff,ff,ff,ff,ff,ff,ff,ff,ff,ff,ff,ff,ff] (by kernel_rfl) rfl rfl ⟨bc 0 BK302, bc 1 BK302, bc 0 BK303, bc 1 BK303⟩ (fun hHeld => ?_); refine with_tabW real_quotient.tab1 real_quotient.bits1 (fun HT_ HW_ => ?_)
 generalize w9.drew = w10 at BK302 BK303 BK304 HB hHeld ⊢
 refine pur 0 (some 5) #[tt,ff,ff,ff,ff,ff,ff,ff,ff,ff,ff,ff,ff,ff,ff,ff,ff,ff,ff,ff,ff] ?_
 refine pur 3 (some 8) #[tt,ff,ff,tt,ff,ff,ff,ff,ff,ff,ff,ff,ff,ff,ff,ff,ff,ff,ff,ff,ff] ?_
 refine pur 7 (some 12) #[tt,ff,ff,tt,ff,ff,ff,tt,ff,ff,ff,ff,ff,ff,ff,ff,ff,ff,ff,ff,ff] ?_
 refine pur 10 (some 15) #[tt,ff,ff,tt,ff,ff,ff,tt,ff,ff,tt,ff,ff,ff,ff,ff,ff,ff,ff,ff,ff] ?_
 refine pur 12 (some 17) #[tt,ff,ff,tt,ff,ff,ff,tt,ff,ff,tt,ff,tt,ff,ff,ff,ff,ff,ff,ff,ff] ?_
 refine pur 15 (some 20) #[tt,ff,ff,tt,ff,ff,ff,tt,ff,ff,tt,ff,tt,ff,ff,tt,ff,ff,ff,ff,ff] ?_
 refine tk4 1 (some 6) #[tt,tt,ff,tt,ff,ff,ff,tt,ff,ff,tt,ff,tt,ff,ff,tt,ff,ff,ff,ff,ff] ?_
 refine pur 2 (some 7) #[tt,tt,tt,tt,ff,ff,ff,tt,ff,ff,tt,ff,tt,ff,ff,tt,ff,ff,ff,ff,ff] ?_
 refine tk4 4 (some 9) #[tt,tt,tt,tt,tt,ff,ff,tt,ff,ff,tt,ff,tt,ff,ff,tt,ff,ff,ff,ff,ff] ?_
 refine pur 5 (some 10) #[tt,tt,tt,tt,tt,tt,ff,tt,ff,ff,tt,ff,tt,ff,ff,tt,ff,ff,ff,ff,ff] ?_
 refine pur 6 (some 11) #[tt,tt,tt,tt,tt,tt,tt,tt,ff,ff,tt,ff,tt,ff,ff,tt,ff,ff,ff,ff,ff] ?_
 refine tk4 8 (some 13) #[tt,tt,tt,tt,tt,tt,tt,tt,tt,ff,tt,ff,tt,ff,ff,tt,ff,ff,ff,ff,ff] ?_
 refine tk4 11 (some 16) #[tt,tt,tt,tt,tt,tt,tt,tt,tt,ff,tt,tt,tt,ff,ff,tt,ff,ff,ff,ff,ff] ?_
 refine tk4 13 (some 18) #[tt,tt,tt,tt,tt,tt,tt,tt,tt,ff,tt,tt,tt,tt,ff,tt,ff,ff,ff,ff,ff] ?_
 refine pur 14 (some 19) #[tt,tt,tt,tt,tt,tt,tt,tt,tt,ff,tt,tt,tt,tt,tt,tt,ff,ff,ff,ff,ff] ?_
 refine tk4 16 (some 21) #[tt,tt,tt,tt,tt,tt,tt,tt,tt,ff,tt,tt,tt,tt,tt,tt,tt,ff,ff,ff,ff] ?_
 refine on1 9 (some 14) #[tt,tt,tt,tt,tt,tt,tt,tt,tt,tt,tt,tt,tt,tt,tt,tt,tt,ff,ff,ff,ff] (fun K hK => ?_)
 refine gsz Tryz.func113 #[.int .i64 a0_0] ?_
 with_reducible refine (real_magnitude.calls k a0_0 t305 _ A3.out).mono ?_
 rintro e w11 ⟨v306, rfl, ho0, hb⟩
 refine ⟨_, rfl, ?_⟩
 have HO307 := Aside0.mk (Kd.V_lower (Kd.V_mono (ok' := fun k_ => k_ ≠ gb302 ∧ k_ ≠ gb303 ∧ k_ ≠ gb304) ho0 (fun k_ hk_ => ⟨(fb BK302 k_ hk_), (fb BK303 k_ hk_), (fb BK304 k_ hk_)⟩)) (below_size bz))
 replace BK302 := kb BK302 hb
 replace BK303 := kb BK303 hb
 replace BK304 := kb BK304 hb
 replace HB := bs hb
 (try clear hb)
 (try clear ho0)
 refine hK.out _ _ ⟨bc 0 BK302, bc 1 BK302, bc 0 BK303, bc 1 BK303⟩ (fun hHeld => ?_)
 clear hK K
 refine nrm (some 14) ?_
 refine on1 17 (some 22) #[tt,tt,tt,tt,tt,tt,tt,tt,tt,tt,tt,tt,tt,tt,tt,tt,tt,tt,ff,ff,ff] (fun K hK => ?_)
 refine gsz Tryz.func113 #[.int .i64 a1_0] ?_
 with_reducible refine (real_magnitude.calls k a1_0 t308 _ A4.out).mono ?_
 rintro e w12 ⟨v309, rfl, ho0, hb⟩
 refine ⟨_, rfl, ?_⟩
 have HO310 := Aside0.mk (Kd.V_lower (Kd.V_mono (ok' := fun k_ => k_ ≠ gb302 ∧ k_ ≠ gb303 ∧ k_ ≠ gb304) ho0 (fun k_ hk_ => ⟨(fb BK302 k_ hk_), (fb BK303 k_ hk_), (fb BK304 k_ hk_)⟩)) (below_size bz))
 replace HO307 := vb HO307 hb
 replace BK302 := kb BK302 hb
 replace BK303 := kb BK303 hb
 replace BK304 := kb BK304 hb
 replace HB := bs hb
 (try clear hb)
 (try clear ho0)
 obtain ⟨Ao13, co13, eo13⟩ := Kd.V_slice HO307.out
 (first | subst eo13 | (injection eo13 with f1_ f2_ f3_; have f4_ := f1_.symm; have f5_ := f3_.symm; clear f1_ f2_ f3_; subst f4_; subst f5_))
 obtain ⟨Ao14, co14, eo14⟩ := Kd.V_slice HO310.out
 (first | subst eo14 | (injection eo14 with f1_ f2_ f3_; have f4_ := f1_.symm; have f5_ := f3_.symm; clear f1_ f2_ f3_; subst f4_; subst f5_))
 refine hK.out _ _ ⟨bc 0 BK302, bc 1 BK302, bc 0 BK303, bc 1 BK303⟩ (fun hHeld => ?_)
 clear hK K
 refine nrm (some 22) ?_
 refine on1 18 (some 23) #[tt,tt,tt,tt,tt,tt,tt,tt,tt,tt,tt,tt,tt,tt,tt,tt,tt,tt,tt,ff,ff] (fun K hK => ?_)
 refine goesP_ Tryz.func97 (by kernel_rfl) rfl #[.slice Ao13 t305.length co13, .int .i64 (wrap64 (a0_1 - a1_1)), .slice Ao14 t308.length co14] (by rfl) rfl rfl ay ?_
 with_reducible refine (real_rounded.calls k ?pred1_ _ _ t305 (wrap64 (a0_1 - a1_1)) (fun k_ => (k_ ≠ gb302 ∧ (k_ ≠ gb303 ∧ k_ ≠ gb304))) _ _ t308 t311 t312 _ ?side1 ?side2 A5.out).mono ?_
 (case side1 => exact HO307.out)
 (case side2 => exact HO310.out)
 rintro e w15 ⟨he_, hb⟩
 refine ends_ he_ (fun p1_ => And.intro rfl (And.intro (by first | exact code_direct p1_ | exact code_signed (by assumption) p1_) (below_step bz hb))) (fun hpn_ => ?_)
 replace HO307 := vb HO307 hb
 replace HO310 := vb HO310 hb
 replace BK302 := kb BK302 hb
 replace BK303 := kb BK303 hb
 replace BK304 := kb BK304 hb
 replace HB := bs hb
 (try clear hb)
 refine hK.out _ _ ⟨bc 0 BK302, bc 1 BK302, bc 0 BK303, bc 1 BK303⟩ (fun hHeld => ?_)
 clear hK K
 refine nrm (some 23) ?_
 refine on1 19 (some 24) #[tt,tt,tt,tt,tt,tt,tt,tt,tt,tt,tt,tt,tt,tt,tt,tt,tt,tt,tt,tt,ff] (fun K hK => ?_)
 refine gsz Tryz.func80 #[.bool ((decide (a0_0 < 0)) != (decide (a1_0 < 0))), .agg #[.int .i64 t311, .int .i64 t312]] ?_
 with_reducible refine (real_signed.calls ((decide (a0_0 < 0)) != (decide (a1_0 < 0))) t311 t312 t313 t314 _ A6.out).mono ?_
 rintro e w16 ⟨rfl, hb⟩
 refine ⟨_, rfl, ?_⟩
 replace HO307 := vb HO307 hb
 replace HO310 := vb HO310 hb
 replace BK302 := kb BK302 hb
 replace BK303 := kb BK303 hb
 replace BK304 := kb BK304 hb
 replace HB := bs hb
 (try clear hb)
 refine hK.out _ _ ⟨bc 0 BK302, bc 1 BK302, bc 0 BK303, bc 1 BK303⟩ (fun hHeld => ?_)
 clear hK K
 refine nrm (some 24) ?_
 refine on1 20 (none) #[tt,tt,tt,tt,tt,tt,tt,tt,tt,tt,tt,tt,tt,tt,tt,tt,tt,tt,tt,tt,tt] (fun K hK => ?_)
 have hs17 : w16.cell? ⟨gb304, 0, none⟩ = some (.int .i64 0) := (blk_cell BK304.out 0).trans rfl
 have hfs17 := blk_frozen BK304.out 0
 have hns17_0 := NB302_304.out
 have hns17_1 := NB303_304.out
 have hms17_0 := NB304_302.out
 have hms17_1 := NB304_303.out
 have hs18 : w16.cell? ⟨gb304, 1, none⟩ = some (.int .i64 0) := (blk_cell BK304.out 1).trans rfl
 have hfs18 := blk_frozen BK304.out 1
 have hns18_0 := NB302_304.out
 have hns18_1 := NB303_304.out
 have hms18_0 := NB304_302.out
 have hms18_1 := NB304_303.out
 refine skip_ (w1 := ?_) (by rfl) rfl ?_ ?_
 rotate_left
 ·go_simp
  rfl
 refine hK.out _ _ ⟨((cell_far (p := ⟨gb304, _, none⟩) NB302_304.out _).trans (((cell_far (p := ⟨gb304, _, none⟩) NB302_304.out _).trans (hHeld.1)))), ((cell_far (p := ⟨gb304, _, none⟩) NB302_304.out _).trans (((cell_far (p := ⟨gb304, _, none⟩) NB302_304.out _).trans (hHeld.2.1)))), ((cell_far (p := ⟨gb304, _, none⟩) NB303_304.out _).trans (((cell_far (p := ⟨gb304, _, none⟩) NB303_304.out _).trans (hHeld.2.2.1)))), ((cell_far (p := ⟨gb304, _, none⟩) NB303_304.out _).trans (((cell_far (p := ⟨gb304, _, none⟩) NB303_304.out _).trans (hHeld.2.2.2))))⟩ (fun hHeld => ?_)
 clear hK K
 refine done_ (done_of HT_.out (by kernel_rfl)) ?_
 try go_wp2
 refine bodyPost_ret (results_cell_row rfl _ _ gb304 23 #[.int .i64 t313, .int .i64 t314] (0, 0) _ rfl (by (with_reducible repeat (first | refine blk_drewN ?_ _ | refine blk_drew ?_ | refine blk_alloc ?_ _)); refine blk_put (cs := #[.int .i64 t313, .int .i64 0]) ?_ 1 _ rfl; (with_reducible repeat (first | refine blk_drewN ?_ _ | refine blk_drew ?_ | refine blk_alloc ?_ _)); refine blk_put (cs := #[.int .i64 0, .int .i64 0]) ?_ 0 _ rfl; (with_reducible repeat (first | refine blk_drewN ?_ _ | refine blk_drew ?_ | refine blk_alloc ?_ _)); exact BK304.out) Tryz.underlying23 rfl (by kernel_rfl)) rfl ?_
 exact ⟨by first | rfl | exact ending_le (by assumption) | exact (ending_at hpn_).symm | exact (ending_at (signed_not (by assumption) hpn_)).symm | (simp [errW_none, errW_some] <;> rfl) | (simp [*, errW_none, errW_some] <;> rfl), bz⟩


attribute [local go_sem high] eqA23
def real_FromInt.j0 : Nat → Int → Int → Option (Int × Int)
 | 0, _, _ => none
 | k + 1, x0, x3 => (real_natOf.f k x3).bind fun t323 => ((real_rounded.f k t323 0 (([1] : List Int))).bind fun bt329 => ((real_signed.f (decide (x0 < 0)) bt329.1 bt329.2).bind fun bt331 => (some (bt331.1, bt331.2))))
def real_FromInt.f (k : Nat) (a0 : Int) : Option (Int × Int) := if a0 < 0 then (real_FromInt.j0 k a0 (IntKind.u64.wrap (-(IntKind.u64.wrap (a0))))) else (real_FromInt.j0 k a0 (IntKind.u64.wrap (a0)))
theorem real_FromInt.mono_l : ∀ k, (∀ y0 y1, LeO (real_FromInt.j0 k y0 y1) (real_FromInt.j0 (k + 1) y0 y1))
 | 0 => fun _ _ r h => by simp [real_FromInt.j0] at h
 | k + 1 => by
  have ih0 := real_FromInt.mono_l k
  ·intro y0 y1
   unfold real_FromInt.j0
   repeat' first
   | (with_reducible exact ih0 _ _)
   | (with_reducible exact real_natOf.mono _ _)
   | (with_reducible exact real_rounded.mono _ _ _ _)
   | (with_reducible exact LeO.refl _)
   | (with_reducible exact LeO.none _)
   | (with_reducible refine LeO.ite ?_ ?_)
   | (with_reducible refine LeO.bind ?_ (fun _ => ?_))
   | exact ih0 _ _
   | exact real_natOf.mono _ _
   | exact real_rounded.mono _ _ _ _
   | exact LeO.none _
   | refine LeO.ite ?_ ?_
   | refine LeO.bind ?_ (fun _ => ?_)
theorem real_FromInt.mono : ∀ a0 k, LeO (real_FromInt.f k a0) (real_FromInt.f (k + 1) a0) := by
 intro a0 k
 have ih0 := real_FromInt.mono_l k
 unfold real_FromInt.f
 repeat' first
   | (with_reducible exact ih0 _ _)
   | (with_reducible exact real_natOf.mono _ _)
   | (with_reducible exact real_rounded.mono _ _ _ _)
   | (with_reducible exact LeO.refl _)
   | (with_reducible exact LeO.none _)
   | (with_reducible refine LeO.ite ?_ ?_)
   | (with_reducible refine LeO.bind ?_ (fun _ => ?_))
   | exact ih0 _ _
   | exact real_natOf.mono _ _
   | exact real_rounded.mono _ _ _ _
   | exact LeO.none _
   | refine LeO.ite ?_ ?_
   | refine LeO.bind ?_ (fun _ => ?_)
theorem real_FromInt.calls (k : Nat) (a0 : Int) (r1 : Int) (r2 : Int) (w : World) (h : real_FromInt.f k a0 = some (r1, r2)) :
  Calls Tryz.prog 31 #[.int .i64 a0] w fun e w' => e = ending r1 r2 ∧ Below w.heap.size w w' := by
 have hu23 := Tryz.underlying23
 have HB := Aside0.mk (Below.refl w.heap.size w)
 have H := h; unfold real_FromInt.f at H; clear h
 have HC2 := Aside0.mk H
 clear H
 go_enter Tryz.func31, Tryz.ntmps31
 go_upto_if 7 with (first | ((with_reducible refine gate_dst (N := 2) rfl ?_); refine bxe 2 #[.int .i64 0, .int .i64 0] 23 ?_; intro gb322 hg w3 hbox hb; have BK322 := Aside0.mk hbox; have GW322 := ge hg; have GE322 := ge hg; replace HB := bs hb; clear hb hbox hg))
 (try simp only [Act.put, List.setIfInBounds_toArray, List.set_cons_zero, List.set_cons_succ])
 go_cut [3] (fun v3 wc => ∃ (kq : Nat) (x3_1 : Int), v3 = .int .u64 x3_1 ∧ Aside0 (real_FromInt.j0 kq a0 x3_1 = some (r1, r2)) ∧ Aside0 (kq ≤ k) ∧ Aside0 (wc.heap[gb322]? = some (.cells #[.int .i64 0, .int .i64 0] 23 (0, 0))) ∧ Aside0 (Below w.heap.size w wc))
 case first => as_aux_lemma =>
  have H := HC2.out
  clear HC2
  by_cases c4 : a0 < 0
  ·rw [if_pos c4] at H
   have c4b0 : decide (a0 < 0) = true := decide_eq_true c4
   clear c4
   (first | rw [c4b0] | (simp only [i64_w, i32_w]; rw [c4b0]) | skip)
   have H' := Aside0.mk H
   clear H
   go_wp2
   go_meet
   case rel => exact ⟨_, (IntKind.u64.wrap (-(IntKind.u64.wrap (a0)))), (by first | rfl | (simp; done) | (simp [*]; done)), H', ⟨by first | omega | exact Nat.le_refl _⟩, ⟨kz BK322⟩, ⟨bz⟩⟩
  ·rw [if_neg c4] at H
   have c4b0 : decide (a0 < 0) = false := decide_eq_false c4
   clear c4
   (first | rw [c4b0] | (simp only [i64_w, i32_w]; rw [c4b0]) | skip)
   have H' := Aside0.mk H
   clear H
   go_wp2
   go_meet
   case rel => exact ⟨_, (IntKind.u64.wrap (a0)), (by first | rfl | (simp; done) | (simp [*]; done)), H', ⟨by first | omega | exact Nat.le_refl _⟩, ⟨kz BK322⟩, ⟨bz⟩⟩
 case rest => as_aux_lemma =>
  clear HC2
  try clear c4
  try clear c4b0
  obtain ⟨kq, x3_1, rfl, HA, HJ1, BK322, HB⟩ := hcut
  cases kq with
  | zero => exact absurd HA.out (by simp [real_FromInt.j0])
  | succ kj1 =>
   have H := HA.out
   clear HA
   simp only [real_FromInt.j0] at H
   replace H := Option.bind_eq_some_iff.mp H
   obtain ⟨t323, A50, H⟩ := H
   try dsimp only at H
   have A5 := Aside0.mk A50
   clear A50
   obtain ⟨y326, hy326⟩ : ∃ y_ : List Int, y_ = (([1] : List Int)) := ⟨_, rfl⟩
   replace H : ((real_rounded.f kj1 t323 0 y326).bind fun bt329 => ((real_signed.f (decide (a0 < 0)) bt329.1 bt329.2).bind fun bt331 => (some (bt331.1, bt331.2)))) = some (r1, r2) := by first | (rw [hy326]; with_reducible exact H) | (have H2_ := (Option.bind_some _ _).symm.trans H; rw [hy326]; with_reducible exact H2_) | (have H2_ := (Option.bind_some _ _).symm.trans H; with_reducible exact H2_) | with_reducible exact H | (rw [hy326]; exact H) | exact H
   have Ny326 := Aside0.mk hy326
   clear hy326
   replace H := Option.bind_eq_some_iff.mp H
   obtain ⟨⟨t329, t330⟩, A60, H⟩ := H
   try dsimp only at H
   have A6 := Aside0.mk A60
   clear A60
   replace H := Option.bind_eq_some_iff.mp H
   obtain ⟨⟨t331, t332⟩, A70, H⟩ := H
   try dsimp only at H
   have A7 := Aside0.mk A70
   clear A70
   simp only [Option.some.injEq, Prod.mk.injEq] at H
   obtain ⟨rfl, rfl⟩ := H
   go_wp2_with (first | ((with_reducible refine gate_callee (f := 98) rfl ?_); refine gL 13 Tryz.func98 #[.int .u64 x3_1] ?_; (with_reducible refine (real_natOf.calls kj1 x3_1 t323 _ A5.out).mono ?_); rintro e w8 ⟨v324, rfl, ho0, hb⟩; refine ⟨_, rfl, ?_⟩; have HO325 := Aside0.mk (Kd.V_lower (Kd.V_mono (ok' := fun k_ => k_ ≠ gb322) ho0 (fun k_ hk_ => (fb BK322 k_ hk_))) (below_size bz)); replace BK322 := kb BK322 hb; replace HB := bs hb; (try clear hb); (try clear hk); (try clear ho0)) | ((with_reducible refine gate_dst (N := 14) rfl ?_); refine Kd.R_lit (Kd.int .u32) _ 115 ?hg (N := 14) ?hd (xs := ([1] : List Int)) (inner := [.int .u32 1]) (ok := fun _ => True) (okp := fun _ => True) ?hr ?hp (fun _ hk => hk) trivial (Below.refl _ _) (Nat.le_refl _) (by simp) ?_; (case hd => rfl); (case hg => rfl); (case hr => first | (go_simp; done) | (go_simp; rfl)); (case hp => exact (Reps.one (show Kd.M (Kd.int .u32) _ _ _ 1 [.int .u32 1] from rfl) (Reps.none _ _))); intro v327 w9 ho10 hb hg_ hnew_; clear hg_ hnew_; (first | rw [← Ny326.out] at ho10 | (simp only [Int.reduceToNat] at ho10; rw [← Ny326.out] at ho10)); have HO328 := Aside0.mk (Kd.R_lower ho10 (below_size bz)); replace HO325 := Aside0.mk (Kd.V_elder' (vz HO325) (Kd.R_base ho10) hb); replace BK322 := kb BK322 hb; replace HB := bs hb; clear hb ho10; obtain ⟨Ao11, co11, eo11⟩ := Kd.V_slice HO325.out; subst eo11; obtain ⟨Ao12, co12, eo12⟩ := Kd.R_slice HO328.out; subst eo12) | ((with_reducible refine gate_callee (f := 97) rfl ?_); refine goesLP_ (some 15) rfl rfl Tryz.func97 (by kernel_rfl) rfl #[.slice Ao11 t323.length co11, .int .i64 0, .slice Ao12 y326.length co12] rfl az ?_; (with_reducible refine (real_rounded.calls kj1 (fun k_ => (k_ ≠ gb322 ∧ some k_ ≠ (.slice Ao12 y326.length co12 : Value).ownBlock)) _ _ t323 0 (fun k_ => some k_ = (.slice Ao12 y326.length co12 : Value).ownBlock) _ _ y326 t329 t330 _ ?side1 ?side2 A6.out).mono ?_); (case side1 => exact HO325.out); (case side2 => exact Kd.R_V (Kd.R_tight rfl (Kd.R_types (HO328.out) BK322.out (by decide)))); rintro e w13 ⟨he_, hb⟩; refine ends_ he_ (fun p1_ => And.intro rfl (And.intro (by first | exact code_direct p1_ | exact code_signed (by assumption) p1_) (below_step bz hb))) (fun hpn_ => ?_); replace HO325 := vb HO325 hb; replace HO328 := rb HO328 hb; replace BK322 := kb BK322 hb; replace HB := bs hb; (try clear hb); (try clear hk)) | ((with_reducible refine gate_callee (f := 80) rfl ?_); refine gL 16 Tryz.func80 #[.bool (decide (a0 < 0)), .agg #[.int .i64 t329, .int .i64 t330]] ?_; (with_reducible refine (real_signed.calls (decide (a0 < 0)) t329 t330 t331 t332 _ A7.out).mono ?_); rintro e w14 ⟨rfl, hb⟩; refine ⟨_, rfl, ?_⟩; replace HO325 := vb HO325 hb; replace HO328 := rb HO328 hb; replace BK322 := kb BK322 hb; replace HB := bs hb; (try clear hb); (try clear hk); have hcz15_0 := c20 BK322; have hcz15_1 := c21 BK322; have hfz15_0 := blk_frozen BK322.out 0; have hfz15_1 := blk_frozen BK322.out 1))
   refine bodyPost_ret (results_cell_row rfl _ _ gb322 23 #[.int .i64 t331, .int .i64 t332] (0, 0) _ rfl (by (with_reducible repeat (first | refine blk_drewN ?_ _ | refine blk_drew ?_ | refine blk_alloc ?_ _)); refine blk_put (cs := #[.int .i64 t331, .int .i64 0]) ?_ 1 _ rfl; (with_reducible repeat (first | refine blk_drewN ?_ _ | refine blk_drew ?_ | refine blk_alloc ?_ _)); refine blk_put (cs := #[.int .i64 0, .int .i64 0]) ?_ 0 _ rfl; (with_reducible repeat (first | refine blk_drewN ?_ _ | refine blk_drew ?_ | refine blk_alloc ?_ _)); exact BK322.out) Tryz.underlying23 rfl (by kernel_rfl)) rfl ?_
   exact ⟨by first | rfl | exact ending_le (by assumption) | exact (ending_at hpn_).symm | exact (ending_at (signed_not (by assumption) hpn_)).symm | (simp [errW_none, errW_some] <;> rfl) | (simp [*, errW_none, errW_some] <;> rfl), bz⟩

def real_Valid.f (a0_0 : Int) (a0_1 : Int) : Option (Bool) := if (a0_0 == 0 && (a0_1 == 0)) = true then (some true) else (if (mx a0_0 (wrap64 (-a0_0))) < 1 then (some false) else (if (mx a0_0 (wrap64 (-a0_0))) ≥ 16777216 then (some false) else (if a0_1 = (-150) then (some true) else (if (mx a0_0 (wrap64 (-a0_0))) ≥ 8388608 then (if a0_1 > (-150) then (some (decide (a0_1 ≤ 150))) else (some false)) else (some false)))))
theorem real_Valid.calls (a0_0 : Int) (a0_1 : Int) (r : Bool) (w : World) (h : real_Valid.f a0_0 a0_1 = some r) :
  Calls Tryz.prog 53 #[.agg #[.int .i64 a0_0, .int .i64 a0_1]] w fun e w' => e = .returned (.bool r) ∧ Below w.heap.size w w' := by
 have hu23 := Tryz.underlying23
 have HB := Aside0.mk (Below.refl w.heap.size w)
 have H := h; unfold real_Valid.f at H; clear h
 by_cases c2 : (a0_0 == 0 && (a0_1 == 0)) = true
 ·rw [if_pos c2] at H
  have c2b0 : (a0_0 == 0 && (a0_1 == 0)) = true := c2
  (try (have c2b1 : decide (a0_0 = 0 && (a0_1 == 0)) = true := by simpa using c2))
  (try (have c2b2 : (a0_0 == 0 && (a0_1 == 0)) = true := by simpa using c2))
  clear c2
  obtain rfl := Option.some.inj H
  go_enter Tryz.func53, Tryz.ntmps53
  go_wp2_with (first | ((with_reducible refine gate_dst (N := 1) rfl ?_); refine bxe 1 #[.int .i64 a0_0, .int .i64 a0_1] 23 ?_; intro gb333 hg w3 hbox hb; have BK333 := Aside0.mk hbox; have GW333 := ge hg; have GE333 := ge hg; replace HB := bs hb; clear hb hbox hg; have hcz4_0 := c20 BK333; have hcz4_1 := c21 BK333; have hfz4_0 := blk_frozen BK333.out 0; have hfz4_1 := blk_frozen BK333.out 1))
  go_ret
  exact ⟨by first | rfl | (simp [errW_none, errW_some] <;> rfl) | (simp [*, errW_none, errW_some] <;> rfl), bz⟩
 ·rw [if_neg c2] at H
  have c2b0 : (a0_0 == 0 && (a0_1 == 0)) = false := by simpa using c2
  (try (have c2b1 : decide (a0_0 = 0 && (a0_1 == 0)) = false := by simpa using c2))
  (try (have c2b2 : (a0_0 == 0 && (a0_1 == 0)) = false := by simpa using c2))
  (try (have c2b3 : ¬ (a0_0 = 0 && (a0_1 == 0)) := by simpa using c2))
  clear c2
  obtain ⟨ji5, hji5⟩ : ∃ j_ : Int, (mx a0_0 (wrap64 (-a0_0))) = j_ := ⟨_, rfl⟩
  first | rw [hji5] at H | simp only [hji5] at H
  have hji5_ : (if a0_0 < (wrap64 (-a0_0)) then (wrap64 (-a0_0)) else a0_0) = ji5 := hji5
  by_cases c6 : (ji5) < 1
  ·rw [if_pos c6] at H
   have c6b0 : decide ((ji5) < 1) = true := decide_eq_true c6
   clear c6
   obtain rfl := Option.some.inj H
   go_enter Tryz.func53, Tryz.ntmps53
   go_wp2_with (first | ((with_reducible refine gate_dst (N := 1) rfl ?_); refine bxe 1 #[.int .i64 a0_0, .int .i64 a0_1] 23 ?_; intro gb333 hg w7 hbox hb; have BK333 := Aside0.mk hbox; have GW333 := ge hg; have GE333 := ge hg; replace HB := bs hb; clear hb hbox hg; have hcz8_0 := c20 BK333; have hcz8_1 := c21 BK333; have hfz8_0 := blk_frozen BK333.out 0; have hfz8_1 := blk_frozen BK333.out 1))
   go_ret
   exact ⟨by first | rfl | (simp [errW_none, errW_some] <;> rfl) | (simp only [← hji5]; first | rfl | (simp [errW_none, errW_some] <;> rfl)) | (simp [*, errW_none, errW_some] <;> rfl), bz⟩
  ·rw [if_neg c6] at H
   have c6b0 : decide ((ji5) < 1) = false := decide_eq_false c6
   clear c6
   by_cases c9 : (ji5) ≥ 16777216
   ·rw [if_pos c9] at H
    have c9b0 : decide (16777216 ≤ (ji5)) = true := decide_eq_true c9
    clear c9
    obtain rfl := Option.some.inj H
    go_enter Tryz.func53, Tryz.ntmps53
    go_wp2_with (first | ((with_reducible refine gate_dst (N := 1) rfl ?_); refine bxe 1 #[.int .i64 a0_0, .int .i64 a0_1] 23 ?_; intro gb333 hg w10 hbox hb; have BK333 := Aside0.mk hbox; have GW333 := ge hg; have GE333 := ge hg; replace HB := bs hb; clear hb hbox hg; have hcz11_0 := c20 BK333; have hcz11_1 := c21 BK333; have hfz11_0 := blk_frozen BK333.out 0; have hfz11_1 := blk_frozen BK333.out 1))
    go_ret
    exact ⟨by first | rfl | (simp [errW_none, errW_some] <;> rfl) | (simp only [← hji5]; first | rfl | (simp [errW_none, errW_some] <;> rfl)) | (simp [*, errW_none, errW_some] <;> rfl), bz⟩
   ·rw [if_neg c9] at H
    have c9b0 : decide (16777216 ≤ (ji5)) = false := decide_eq_false c9
    clear c9
    by_cases c12 : a0_1 = (-150)
    ·rw [if_pos c12] at H
     have c12b0 : (a0_1 == (-150)) = true := beq_iff_eq.mpr c12
     have c12b1 : (a0_1 != (-150)) = false := bne_eq_false_iff_eq.mpr c12
     clear c12
     obtain rfl := Option.some.inj H
     go_enter Tryz.func53, Tryz.ntmps53
     go_wp2_with (first | ((with_reducible refine gate_dst (N := 1) rfl ?_); refine bxe 1 #[.int .i64 a0_0, .int .i64 a0_1] 23 ?_; intro gb333 hg w13 hbox hb; have BK333 := Aside0.mk hbox; have GW333 := ge hg; have GE333 := ge hg; replace HB := bs hb; clear hb hbox hg; have hcz14_0 := c20 BK333; have hcz14_1 := c21 BK333; have hfz14_0 := blk_frozen BK333.out 0; have hfz14_1 := blk_frozen BK333.out 1))
     go_ret
     exact ⟨by first | rfl | (simp [errW_none, errW_some] <;> rfl) | (simp only [← hji5]; first | rfl | (simp [errW_none, errW_some] <;> rfl)) | (simp [*, errW_none, errW_some] <;> rfl), bz⟩
    ·rw [if_neg c12] at H
     have c12b0 : (a0_1 == (-150)) = false := beq_eq_false_iff_ne.mpr c12
     have c12b1 : (a0_1 != (-150)) = true := bne_iff_ne.mpr c12
     by_cases c15 : (ji5) ≥ 8388608
     ·rw [if_pos c15] at H
      have c15b0 : decide (8388608 ≤ (ji5)) = true := decide_eq_true c15
      clear c15
      by_cases c16 : a0_1 > (-150)
      ·rw [if_pos c16] at H
       have c16b0 : decide ((-150) < a0_1) = true := decide_eq_true c16
       clear c16
       obtain rfl := Option.some.inj H
       go_enter Tryz.func53, Tryz.ntmps53
       go_wp2_with (first | ((with_reducible refine gate_dst (N := 1) rfl ?_); refine bxe 1 #[.int .i64 a0_0, .int .i64 a0_1] 23 ?_; intro gb333 hg w17 hbox hb; have BK333 := Aside0.mk hbox; have GW333 := ge hg; have GE333 := ge hg; replace HB := bs hb; clear hb hbox hg; have hcz18_0 := c20 BK333; have hcz18_1 := c21 BK333; have hfz18_0 := blk_frozen BK333.out 0; have hfz18_1 := blk_frozen BK333.out 1))
       go_ret
       exact ⟨by first | rfl | (simp [errW_none, errW_some] <;> rfl) | (simp only [← hji5]; first | rfl | (simp [errW_none, errW_some] <;> rfl)) | (simp [*, errW_none, errW_some] <;> rfl), bz⟩
      ·rw [if_neg c16] at H
       have c16b0 : decide ((-150) < a0_1) = false := decide_eq_false c16
       clear c16
       obtain rfl := Option.some.inj H
       go_enter Tryz.func53, Tryz.ntmps53
       go_wp2_with (first | ((with_reducible refine gate_dst (N := 1) rfl ?_); refine bxe 1 #[.int .i64 a0_0, .int .i64 a0_1] 23 ?_; intro gb333 hg w19 hbox hb; have BK333 := Aside0.mk hbox; have GW333 := ge hg; have GE333 := ge hg; replace HB := bs hb; clear hb hbox hg; have hcz20_0 := c20 BK333; have hcz20_1 := c21 BK333; have hfz20_0 := blk_frozen BK333.out 0; have hfz20_1 := blk_frozen BK333.out 1))
       go_ret
       exact ⟨by first | rfl | (simp [errW_none, errW_some] <;> rfl) | (simp only [← hji5]; first | rfl | (simp [errW_none, errW_some] <;> rfl)) | (simp [*, errW_none, errW_some] <;> rfl), bz⟩
     ·rw [if_neg c15] at H
      have c15b0 : decide (8388608 ≤ (ji5)) = false := decide_eq_false c15
      clear c15
      obtain rfl := Option.some.inj H
      go_enter Tryz.func53, Tryz.ntmps53
      go_wp2_with (first | ((with_reducible refine gate_dst (N := 1) rfl ?_); refine bxe 1 #[.int .i64 a0_0, .int .i64 a0_1] 23 ?_; intro gb333 hg w21 hbox hb; have BK333 := Aside0.mk hbox; have GW333 := ge hg; have GE333 := ge hg; replace HB := bs hb; clear hb hbox hg; have hcz22_0 := c20 BK333; have hcz22_1 := c21 BK333; have hfz22_0 := blk_frozen BK333.out 0; have hfz22_1 := blk_frozen BK333.out 1))
      go_ret
      exact ⟨by first | rfl | (simp [errW_none, errW_some] <;> rfl) | (simp only [← hji5]; first | rfl | (simp [errW_none, errW_some] <;> rfl)) | (simp [*, errW_none, errW_some] <;> rfl), bz⟩

def real_whole.f (a0 : Int) (a1 : Bool) : Option (Int × Int) := if a1 = true then (some (a0, 0)) else (some (0, 3))
theorem real_whole.calls (a0 : Int) (a1 : Bool) (r1 : Int) (r2 : Int) (w : World) (h : real_whole.f a0 a1 = some (r1, r2)) :
  Calls Tryz.prog 72 #[.int .i64 a0, .bool a1] w fun e w' => e = .returned (.tuple #[.int .i64 r1, .int .i64 r2]) ∧ Drawn0 w w' := by
 have H := h; unfold real_whole.f at H; clear h
 by_cases c3 : a1 = true
 ·subst c3
  rw [if_pos rfl] at H
  simp only [Option.some.injEq, Prod.mk.injEq] at H
  obtain ⟨rfl, rfl⟩ := H
  go_enter Tryz.func72, Tryz.ntmps72
  go_wp2
  go_ret2
  exact ⟨by first | rfl | (simp; done) | (simp [*]; done) | (exfalso; simp at *; done), by repeat (first | exact Drawn0.refl _ | apply Drawn0.step)⟩
 ·replace c3 := Bool.eq_false_iff.mpr c3
  subst c3
  rw [if_neg (show ¬ (false = true) by decide)] at H
  simp only [Option.some.injEq, Prod.mk.injEq] at H
  obtain ⟨rfl, rfl⟩ := H
  go_enter Tryz.func72, Tryz.ntmps72
  go_wp2
  go_ret2
  exact ⟨by first | rfl | (simp; done) | (simp [*]; done) | (exfalso; simp at *; done), by repeat (first | exact Drawn0.refl _ | apply Drawn0.step)⟩

end Go.Proofs.YteigbokklclmbaaGreatDoor.Z
end
section
namespace Go.Proofs.YteigbokklclmbaaGreatDoor.Z
open Go.RowKit Go.Proofs.YteigbokklclmbaaGreatDoor.Given Go.Proofs.YteigbokklclmbaaGreatDoorW.PrintWords Go.Proofs.YteigbokklclmbaaGreatDoorW.PrintLast Go.Proofs.YteigbokklclmbaaGreatDoorW.PrintMore
attribute [local go_sem] max2_int min2_int max_two min_two max_three min_three max_four min_four

attribute [local go_sem high] eqA23
def real_floor.f (a0 : Int) (a1 : Int) : Option (Int × Bool) := if a0 = 0 then (some (0, true)) else (if a1 > 31 then (some (0, false)) else (if a1 ≥ 0 then (if 0 ≤ a1 then (if (shl .i64 a0 a1) ≥ (-2147483647) then (some (shl .i64 a0 a1, decide ((shl .i64 a0 a1) ≤ 2147483647))) else (some (shl .i64 a0 a1, false))) else (none)) else (if a1 > (-60) then (if 0 ≤ (wrap64 (-a1)) then (if (shr .i64 a0 (wrap64 (-a1))) ≥ (-2147483647) then (some (shr .i64 a0 (wrap64 (-a1)), decide ((shr .i64 a0 (wrap64 (-a1))) ≤ 2147483647))) else (some (shr .i64 a0 (wrap64 (-a1)), false))) else (none)) else (if a0 < 0 then (if (-1) ≥ (-2147483647) then (some ((-1), decide ((-1) ≤ 2147483647))) else (some ((-1), false))) else (if 0 ≥ (-2147483647) then (some (0, decide (0 ≤ 2147483647))) else (some (0, false)))))))
theorem real_floor.calls (a0 : Int) (a1 : Int) (r1 : Int) (r2 : Bool) (w : World) (h : real_floor.f a0 a1 = some (r1, r2)) :
  Calls Tryz.prog 73 #[.int .i64 a0, .int .i64 a1] w fun e w' => e = .returned (.tuple #[.int .i64 r1, .bool r2]) ∧ Drawn0 w w' := by
 have H := h; unfold real_floor.f at H; clear h
 by_cases c3 : a0 = 0
 ·rw [if_pos c3] at H
  have c3b0 : (a0 == 0) = true := beq_iff_eq.mpr c3
  have c3b1 : (a0 != 0) = false := bne_eq_false_iff_eq.mpr c3
  clear c3
  simp only [Option.some.injEq, Prod.mk.injEq] at H
  obtain ⟨rfl, rfl⟩ := H
  go_enter Tryz.func73, Tryz.ntmps73
  go_wp2
  go_ret2
  exact ⟨by first | rfl | (simp; done) | (simp [*]; done) | (exfalso; simp at *; done), by repeat (first | exact Drawn0.refl _ | apply Drawn0.step)⟩
 ·rw [if_neg c3] at H
  have c3b0 : (a0 == 0) = false := beq_eq_false_iff_ne.mpr c3
  have c3b1 : (a0 != 0) = true := bne_iff_ne.mpr c3
  by_cases c4 : a1 > 31
  ·rw [if_pos c4] at H
   have c4b0 : decide (31 < a1) = true := decide_eq_true c4
   clear c4
   simp only [Option.some.injEq, Prod.mk.injEq] at H
   obtain ⟨rfl, rfl⟩ := H
   go_enter Tryz.func73, Tryz.ntmps73
   go_wp2
   go_ret2
   exact ⟨by first | rfl | (simp; done) | (simp [*]; done) | (exfalso; simp at *; done), by repeat (first | exact Drawn0.refl _ | apply Drawn0.step)⟩
  ·rw [if_neg c4] at H
   have c4b0 : decide (31 < a1) = false := decide_eq_false c4
   clear c4
   by_cases c5 : a1 ≥ 0
   ·rw [if_pos c5] at H
    have c5b0 : decide (0 ≤ a1) = true := decide_eq_true c5
    clear c5
    by_cases c6 : 0 ≤ a1
    ·rw [if_pos c6] at H
     have c6b0 := eq_true c6
     have c6b1 : decide (0 ≤ a1) = true := decide_eq_true c6
     clear c6
     obtain ⟨ji7, hji7⟩ : ∃ j_ : Int, (shl .i64 a0 a1) = j_ := ⟨_, rfl⟩
     first | rw [hji7] at H | simp only [hji7] at H
     have hji7_ : (IntKind.i64.wrap (a0 * 2 ^ min a1.toNat 64)) = ji7 := hji7
     have hji7z : a1 ≤ 64 → (IntKind.i64.wrap (a0 * 2 ^ a1.toNat)) = ji7 := shl_small hji7
     have hji7y : (wrap64 (a0 * 2 ^ min a1.toNat 64)) = ji7 := (i64_w _).symm.trans hji7_
     have hji7x : a1 ≤ 64 → (wrap64 (a0 * 2 ^ a1.toNat)) = ji7 := fun h_ => (i64_w _).symm.trans (hji7z h_)
     by_cases c8 : (ji7) ≥ (-2147483647)
     ·rw [if_pos c8] at H
      have c8b0 : decide ((-2147483647) ≤ (ji7)) = true := decide_eq_true c8
      clear c8
      simp only [Option.some.injEq, Prod.mk.injEq] at H
      obtain ⟨rfl, rfl⟩ := H
      go_enter Tryz.func73, Tryz.ntmps73
      go_wp2
      go_ret2
      exact ⟨by first | rfl | (simp; done) | (simp only [← hji7] <;> (first | rfl | simp)) | (simp [*]; done), by repeat (first | exact Drawn0.refl _ | apply Drawn0.step)⟩
     ·rw [if_neg c8] at H
      have c8b0 : decide ((-2147483647) ≤ (ji7)) = false := decide_eq_false c8
      clear c8
      simp only [Option.some.injEq, Prod.mk.injEq] at H
      obtain ⟨rfl, rfl⟩ := H
      go_enter Tryz.func73, Tryz.ntmps73
      go_wp2
      go_ret2
      exact ⟨by first | rfl | (simp; done) | (simp only [← hji7] <;> (first | rfl | simp)) | (simp [*]; done), by repeat (first | exact Drawn0.refl _ | apply Drawn0.step)⟩
    ·rw [if_neg c6] at H
     exact absurd H (by simp)
   ·rw [if_neg c5] at H
    have c5b0 : decide (0 ≤ a1) = false := decide_eq_false c5
    clear c5
    by_cases c9 : a1 > (-60)
    ·rw [if_pos c9] at H
     have c9b0 : decide ((-60) < a1) = true := decide_eq_true c9
     clear c9
     obtain ⟨ji10, hji10⟩ : ∃ j_ : Int, (wrap64 (-a1)) = j_ := ⟨_, rfl⟩
     first | rw [hji10] at H | simp only [hji10] at H
     have hji10w : (IntKind.i64.wrap (-a1)) = ji10 := (i64_w _).trans hji10
     by_cases c11 : 0 ≤ (ji10)
     ·rw [if_pos c11] at H
      have c11b0 := eq_true c11
      have c11b1 : decide (0 ≤ (ji10)) = true := decide_eq_true c11
      clear c11
      obtain ⟨ji12, hji12⟩ : ∃ j_ : Int, (shr .i64 a0 (ji10)) = j_ := ⟨_, rfl⟩
      first | rw [hji12] at H | simp only [hji12] at H
      have hji12_ : (a0 / 2 ^ min (ji10).toNat 64) = ji12 := hji12
      have hji12z : (ji10) ≤ 64 → (a0 / 2 ^ (ji10).toNat) = ji12 := shr_small hji12
      by_cases c13 : (ji12) ≥ (-2147483647)
      ·rw [if_pos c13] at H
       have c13b0 : decide ((-2147483647) ≤ (ji12)) = true := decide_eq_true c13
       clear c13
       simp only [Option.some.injEq, Prod.mk.injEq] at H
       obtain ⟨rfl, rfl⟩ := H
       go_enter Tryz.func73, Tryz.ntmps73
       go_wp2
       go_ret2
       exact ⟨by first | rfl | (simp; done) | (simp only [← hji10, ← hji12] <;> (first | rfl | simp)) | (simp [*]; done), by repeat (first | exact Drawn0.refl _ | apply Drawn0.step)⟩
      ·rw [if_neg c13] at H
       have c13b0 : decide ((-2147483647) ≤ (ji12)) = false := decide_eq_false c13
       clear c13
       simp only [Option.some.injEq, Prod.mk.injEq] at H
       obtain ⟨rfl, rfl⟩ := H
       go_enter Tryz.func73, Tryz.ntmps73
       go_wp2
       go_ret2
       exact ⟨by first | rfl | (simp; done) | (simp only [← hji10, ← hji12] <;> (first | rfl | simp)) | (simp [*]; done), by repeat (first | exact Drawn0.refl _ | apply Drawn0.step)⟩
     ·rw [if_neg c11] at H
      exact absurd H (by simp)
    ·rw [if_neg c9] at H
     have c9b0 : decide ((-60) < a1) = false := decide_eq_false c9
     clear c9
     by_cases c14 : a0 < 0
     ·rw [if_pos c14] at H
      have c14b0 : decide (a0 < 0) = true := decide_eq_true c14
      clear c14
      by_cases c15 : (-1) ≥ (-2147483647)
      ·rw [if_pos c15] at H
       have c15b0 : decide ((-2147483647) ≤ (-1)) = true := decide_eq_true c15
       clear c15
       simp only [Option.some.injEq, Prod.mk.injEq] at H
       obtain ⟨rfl, rfl⟩ := H
       go_enter Tryz.func73, Tryz.ntmps73
       go_wp2
       go_ret2
       exact ⟨by first | rfl | (simp; done) | (simp [*]; done) | (exfalso; simp at *; done), by repeat (first | exact Drawn0.refl _ | apply Drawn0.step)⟩
      ·rw [if_neg c15] at H
       have c15b0 : decide ((-2147483647) ≤ (-1)) = false := decide_eq_false c15
       clear c15
       simp only [Option.some.injEq, Prod.mk.injEq] at H
       obtain ⟨rfl, rfl⟩ := H
       go_enter Tryz.func73, Tryz.ntmps73
       go_wp2
       go_ret2
       exact ⟨by first | rfl | (simp; done) | (simp [*]; done) | (exfalso; simp at *; done), by repeat (first | exact Drawn0.refl _ | apply Drawn0.step)⟩
     ·rw [if_neg c14] at H
      have c14b0 : decide (a0 < 0) = false := decide_eq_false c14
      clear c14
      by_cases c16 : 0 ≥ (-2147483647)
      ·rw [if_pos c16] at H
       have c16b0 : decide ((-2147483647) ≤ 0) = true := decide_eq_true c16
       clear c16
       simp only [Option.some.injEq, Prod.mk.injEq] at H
       obtain ⟨rfl, rfl⟩ := H
       go_enter Tryz.func73, Tryz.ntmps73
       go_wp2
       go_ret2
       exact ⟨by first | rfl | (simp; done) | (simp [*]; done) | (exfalso; simp at *; done), by repeat (first | exact Drawn0.refl _ | apply Drawn0.step)⟩
      ·rw [if_neg c16] at H
       have c16b0 : decide ((-2147483647) ≤ 0) = false := decide_eq_false c16
       clear c16
       simp only [Option.some.injEq, Prod.mk.injEq] at H
       obtain ⟨rfl, rfl⟩ := H
       go_enter Tryz.func73, Tryz.ntmps73
       go_wp2
       go_ret2
       exact ⟨by first | rfl | (simp; done) | (simp [*]; done) | (exfalso; simp at *; done), by repeat (first | exact Drawn0.refl _ | apply Drawn0.step)⟩

def real_Entier.f (a0_0 : Int) (a0_1 : Int) : Option (Int × Int) := (real_Valid.f a0_0 a0_1).bind fun t335 => (if t335 = true then ((real_floor.f a0_0 a0_1).bind fun bt336 => ((real_whole.f bt336.1 bt336.2).bind fun bt338 => (some (bt338.1, bt338.2)))) else (some (0, 1)))
theorem real_Entier.calls (a0_0 : Int) (a0_1 : Int) (r1 : Int) (r2 : Int) (w : World) (h : real_Entier.f a0_0 a0_1 = some (r1, r2)) :
  Calls Tryz.prog 21 #[.agg #[.int .i64 a0_0, .int .i64 a0_1]] w fun e w' => e = .returned (.tuple #[.int .i64 r1, .int .i64 r2]) ∧ Below w.heap.size w w' := by
 have hu23 := Tryz.underlying23
 have HB := Aside0.mk (Below.refl w.heap.size w)
 have H := h; unfold real_Entier.f at H; clear h
 replace H := Option.bind_eq_some_iff.mp H
 obtain ⟨t335, A20, H⟩ := H
 try dsimp only at H
 have A2 := Aside0.mk A20
 clear A20
 by_cases c3 : t335 = true
 ·subst c3
  rw [if_pos rfl] at H
  replace H := Option.bind_eq_some_iff.mp H
  obtain ⟨⟨t336, t337⟩, A40, H⟩ := H
  try dsimp only at H
  have A4 := Aside0.mk A40
  clear A40
  replace H := Option.bind_eq_some_iff.mp H
  obtain ⟨⟨t338, t339⟩, A50, H⟩ := H
  try dsimp only at H
  have A5 := Aside0.mk A50
  clear A50
  simp only [Option.some.injEq, Prod.mk.injEq] at H
  obtain ⟨rfl, rfl⟩ := H
  go_enter Tryz.func21, Tryz.ntmps21
  go_wp2_with (first | ((with_reducible refine gate_dst (N := 1) rfl ?_); refine bxe 1 #[.int .i64 a0_0, .int .i64 a0_1] 23 ?_; intro gb334 hg w6 hbox hb; have BK334 := Aside0.mk hbox; have GW334 := ge hg; have GE334 := ge hg; replace HB := bs hb; clear hb hbox hg; have hcz7_0 := c20 BK334; have hcz7_1 := c21 BK334; have hfz7_0 := blk_frozen BK334.out 0; have hfz7_1 := blk_frozen BK334.out 1) | ((with_reducible refine gate_callee (f := 53) rfl ?_); refine gL 5 Tryz.func53 #[.agg #[.int .i64 a0_0, .int .i64 a0_1]] ?_; (with_reducible refine (real_Valid.calls a0_0 a0_1 true _ A2.out).mono ?_); rintro e w8 ⟨rfl, hb⟩; refine ⟨_, rfl, ?_⟩; replace BK334 := kb BK334 hb; replace HB := bs hb; (try clear hb); have hcz9_0 := c20 BK334; have hcz9_1 := c21 BK334; have hfz9_0 := blk_frozen BK334.out 0; have hfz9_1 := blk_frozen BK334.out 1) | ((with_reducible refine gate_callee (f := 73) rfl ?_); refine gL 11 Tryz.func73 #[.int .i64 a0_0, .int .i64 a0_1] ?_; (with_reducible refine (real_floor.calls a0_0 a0_1 t336 t337 _ A4.out).mono ?_); rintro e w' ⟨rfl, ⟨nd, rfl⟩⟩; refine ⟨_, rfl, ?_⟩) | ((with_reducible refine gate_callee (f := 72) rfl ?_); refine gL 14 Tryz.func72 #[.int .i64 t336, .bool t337] ?_; (with_reducible refine (real_whole.calls t336 t337 t338 t339 _ A5.out).mono ?_); rintro e w' ⟨rfl, ⟨nd, rfl⟩⟩; refine ⟨_, rfl, ?_⟩))
  go_ret2
  exact ⟨by first | rfl | (simp [errW_none, errW_some] <;> rfl) | (simp [*, errW_none, errW_some] <;> rfl), bz⟩
 ·replace c3 := Bool.eq_false_iff.mpr c3
  subst c3
  rw [if_neg (show ¬ (false = true) by decide)] at H
  simp only [Option.some.injEq, Prod.mk.injEq] at H
  obtain ⟨rfl, rfl⟩ := H
  go_enter Tryz.func21, Tryz.ntmps21
  go_wp2_with (first | ((with_reducible refine gate_dst (N := 1) rfl ?_); refine bxe 1 #[.int .i64 a0_0, .int .i64 a0_1] 23 ?_; intro gb334 hg w10 hbox hb; have BK334 := Aside0.mk hbox; have GW334 := ge hg; have GE334 := ge hg; replace HB := bs hb; clear hb hbox hg; have hcz11_0 := c20 BK334; have hcz11_1 := c21 BK334; have hfz11_0 := blk_frozen BK334.out 0; have hfz11_1 := blk_frozen BK334.out 1) | ((with_reducible refine gate_callee (f := 53) rfl ?_); refine gL 5 Tryz.func53 #[.agg #[.int .i64 a0_0, .int .i64 a0_1]] ?_; (with_reducible refine (real_Valid.calls a0_0 a0_1 false _ A2.out).mono ?_); rintro e w12 ⟨rfl, hb⟩; refine ⟨_, rfl, ?_⟩; replace BK334 := kb BK334 hb; replace HB := bs hb; (try clear hb)))
  go_ret2
  exact ⟨by first | rfl | (simp [errW_none, errW_some] <;> rfl) | (simp [*, errW_none, errW_some] <;> rfl), bz⟩

def real_Round.f (a0_0 : Int) (a0_1 : Int) : Option (Int × Int) := (real_Valid.f a0_0 a0_1).bind fun t341 => (if t341 = true then (if a0_1 ≥ 0 then ((real_floor.f a0_0 a0_1).bind fun bt342 => ((real_whole.f bt342.1 bt342.2).bind fun bt344 => (some (bt344.1, bt344.2)))) else (if a0_1 < (-40) then (some (0, 0)) else (if 0 ≤ (wrap64 ((wrap64 (-a0_1)) - 1)) then ((real_floor.f (wrap64 (a0_0 + (shl .i64 1 (wrap64 ((wrap64 (-a0_1)) - 1))))) a0_1).bind fun bt346 => ((real_whole.f bt346.1 bt346.2).bind fun bt348 => (some (bt348.1, bt348.2)))) else (none)))) else (some (0, 1)))
theorem real_Round.calls (a0_0 : Int) (a0_1 : Int) (r1 : Int) (r2 : Int) (w : World) (h : real_Round.f a0_0 a0_1 = some (r1, r2)) :
  Calls Tryz.prog 22 #[.agg #[.int .i64 a0_0, .int .i64 a0_1]] w fun e w' => e = .returned (.tuple #[.int .i64 r1, .int .i64 r2]) ∧ Below w.heap.size w w' := by
 have hu23 := Tryz.underlying23
 have HB := Aside0.mk (Below.refl w.heap.size w)
 have H := h; unfold real_Round.f at H; clear h
 replace H := Option.bind_eq_some_iff.mp H
 obtain ⟨t341, A20, H⟩ := H
 try dsimp only at H
 have A2 := Aside0.mk A20
 clear A20
 by_cases c3 : t341 = true
 ·subst c3
  rw [if_pos rfl] at H
  by_cases c4 : a0_1 ≥ 0
  ·rw [if_pos c4] at H
   have c4b0 : decide (0 ≤ a0_1) = true := decide_eq_true c4
   clear c4
   replace H := Option.bind_eq_some_iff.mp H
   obtain ⟨⟨t342, t343⟩, A50, H⟩ := H
   try dsimp only at H
   have A5 := Aside0.mk A50
   clear A50
   replace H := Option.bind_eq_some_iff.mp H
   obtain ⟨⟨t344, t345⟩, A60, H⟩ := H
   try dsimp only at H
   have A6 := Aside0.mk A60
   clear A60
   simp only [Option.some.injEq, Prod.mk.injEq] at H
   obtain ⟨rfl, rfl⟩ := H
   go_enter Tryz.func22, Tryz.ntmps22
   go_wp2_with (first | ((with_reducible refine gate_dst (N := 1) rfl ?_); refine bxe 1 #[.int .i64 a0_0, .int .i64 a0_1] 23 ?_; intro gb340 hg w7 hbox hb; have BK340 := Aside0.mk hbox; have GW340 := ge hg; have GE340 := ge hg; replace HB := bs hb; clear hb hbox hg; have hcz8_0 := c20 BK340; have hcz8_1 := c21 BK340; have hfz8_0 := blk_frozen BK340.out 0; have hfz8_1 := blk_frozen BK340.out 1) | (go_at_call 53; (with_reducible refine (real_Valid.calls a0_0 a0_1 true _ A2.out).mono ?_); rintro e w9 ⟨rfl, hb⟩; replace BK340 := kb BK340 hb; replace HB := bs hb; (try clear hb); have hcz10_0 := c20 BK340; have hcz10_1 := c21 BK340; have hfz10_0 := blk_frozen BK340.out 0; have hfz10_1 := blk_frozen BK340.out 1) | (go_at_call 73; (with_reducible refine (real_floor.calls a0_0 a0_1 t342 t343 _ A5.out).mono ?_); rintro e w' ⟨rfl, ⟨nd, rfl⟩⟩; (try first | exact ⟨rfl, _, World.drewN_drewN _ _ _⟩ | exact ⟨rfl, _, Eq.trans (World.drewN_drewN _ _ _) (congrArg (World.drewN _) (Nat.add_assoc _ _ _))⟩)) | (go_at_call 72; (with_reducible refine (real_whole.calls t342 t343 t344 t345 _ A6.out).mono ?_); rintro e w' ⟨rfl, ⟨nd, rfl⟩⟩; (try first | exact ⟨rfl, _, World.drewN_drewN _ _ _⟩ | exact ⟨rfl, _, Eq.trans (World.drewN_drewN _ _ _) (congrArg (World.drewN _) (Nat.add_assoc _ _ _))⟩)))
   repeat (go_quiet (first | ((with_reducible refine gate_dst (N := 1) rfl ?_); refine bxe 1 #[.int .i64 a0_0, .int .i64 a0_1] 23 ?_; intro gb340 hg w7 hbox hb; have BK340 := Aside0.mk hbox; have GW340 := ge hg; have GE340 := ge hg; replace HB := bs hb; clear hb hbox hg; have hcz8_0 := c20 BK340; have hcz8_1 := c21 BK340; have hfz8_0 := blk_frozen BK340.out 0; have hfz8_1 := blk_frozen BK340.out 1) | (go_at_call 53; (with_reducible refine (real_Valid.calls a0_0 a0_1 true _ A2.out).mono ?_); rintro e w9 ⟨rfl, hb⟩; replace BK340 := kb BK340 hb; replace HB := bs hb; (try clear hb); have hcz10_0 := c20 BK340; have hcz10_1 := c21 BK340; have hfz10_0 := blk_frozen BK340.out 0; have hfz10_1 := blk_frozen BK340.out 1) | (go_at_call 73; (with_reducible refine (real_floor.calls a0_0 a0_1 t342 t343 _ A5.out).mono ?_); rintro e w' ⟨rfl, ⟨nd, rfl⟩⟩; (try first | exact ⟨rfl, _, World.drewN_drewN _ _ _⟩ | exact ⟨rfl, _, Eq.trans (World.drewN_drewN _ _ _) (congrArg (World.drewN _) (Nat.add_assoc _ _ _))⟩)) | (go_at_call 72; (with_reducible refine (real_whole.calls t342 t343 t344 t345 _ A6.out).mono ?_); rintro e w' ⟨rfl, ⟨nd, rfl⟩⟩; (try first | exact ⟨rfl, _, World.drewN_drewN _ _ _⟩ | exact ⟨rfl, _, Eq.trans (World.drewN_drewN _ _ _) (congrArg (World.drewN _) (Nat.add_assoc _ _ _))⟩))); try go_wp2_with (first | ((with_reducible refine gate_dst (N := 1) rfl ?_); refine bxe 1 #[.int .i64 a0_0, .int .i64 a0_1] 23 ?_; intro gb340 hg w7 hbox hb; have BK340 := Aside0.mk hbox; have GW340 := ge hg; have GE340 := ge hg; replace HB := bs hb; clear hb hbox hg; have hcz8_0 := c20 BK340; have hcz8_1 := c21 BK340; have hfz8_0 := blk_frozen BK340.out 0; have hfz8_1 := blk_frozen BK340.out 1) | (go_at_call 53; (with_reducible refine (real_Valid.calls a0_0 a0_1 true _ A2.out).mono ?_); rintro e w9 ⟨rfl, hb⟩; replace BK340 := kb BK340 hb; replace HB := bs hb; (try clear hb); have hcz10_0 := c20 BK340; have hcz10_1 := c21 BK340; have hfz10_0 := blk_frozen BK340.out 0; have hfz10_1 := blk_frozen BK340.out 1) | (go_at_call 73; (with_reducible refine (real_floor.calls a0_0 a0_1 t342 t343 _ A5.out).mono ?_); rintro e w' ⟨rfl, ⟨nd, rfl⟩⟩; (try first | exact ⟨rfl, _, World.drewN_drewN _ _ _⟩ | exact ⟨rfl, _, Eq.trans (World.drewN_drewN _ _ _) (congrArg (World.drewN _) (Nat.add_assoc _ _ _))⟩)) | (go_at_call 72; (with_reducible refine (real_whole.calls t342 t343 t344 t345 _ A6.out).mono ?_); rintro e w' ⟨rfl, ⟨nd, rfl⟩⟩; (try first | exact ⟨rfl, _, World.drewN_drewN _ _ _⟩ | exact ⟨rfl, _, Eq.trans (World.drewN_drewN _ _ _) (congrArg (World.drewN _) (Nat.add_assoc _ _ _))⟩))))
   go_ret2
   exact ⟨by first | rfl | (simp [errW_none, errW_some] <;> rfl) | (simp [*, errW_none, errW_some] <;> rfl), bz⟩
  ·rw [if_neg c4] at H
   have c4b0 : decide (0 ≤ a0_1) = false := decide_eq_false c4
   clear c4
   by_cases c11 : a0_1 < (-40)
   ·rw [if_pos c11] at H
    have c11b0 : decide (a0_1 < (-40)) = true := decide_eq_true c11
    clear c11
    simp only [Option.some.injEq, Prod.mk.injEq] at H
    obtain ⟨rfl, rfl⟩ := H
    go_enter Tryz.func22, Tryz.ntmps22
    go_wp2_with (first | ((with_reducible refine gate_dst (N := 1) rfl ?_); refine bxe 1 #[.int .i64 a0_0, .int .i64 a0_1] 23 ?_; intro gb340 hg w12 hbox hb; have BK340 := Aside0.mk hbox; have GW340 := ge hg; have GE340 := ge hg; replace HB := bs hb; clear hb hbox hg; have hcz13_0 := c20 BK340; have hcz13_1 := c21 BK340; have hfz13_0 := blk_frozen BK340.out 0; have hfz13_1 := blk_frozen BK340.out 1) | (go_at_call 53; (with_reducible refine (real_Valid.calls a0_0 a0_1 true _ A2.out).mono ?_); rintro e w14 ⟨rfl, hb⟩; replace BK340 := kb BK340 hb; replace HB := bs hb; (try clear hb); have hcz15_0 := c20 BK340; have hcz15_1 := c21 BK340; have hfz15_0 := blk_frozen BK340.out 0; have hfz15_1 := blk_frozen BK340.out 1))
    repeat (go_quiet (first | ((with_reducible refine gate_dst (N := 1) rfl ?_); refine bxe 1 #[.int .i64 a0_0, .int .i64 a0_1] 23 ?_; intro gb340 hg w12 hbox hb; have BK340 := Aside0.mk hbox; have GW340 := ge hg; have GE340 := ge hg; replace HB := bs hb; clear hb hbox hg; have hcz13_0 := c20 BK340; have hcz13_1 := c21 BK340; have hfz13_0 := blk_frozen BK340.out 0; have hfz13_1 := blk_frozen BK340.out 1) | (go_at_call 53; (with_reducible refine (real_Valid.calls a0_0 a0_1 true _ A2.out).mono ?_); rintro e w14 ⟨rfl, hb⟩; replace BK340 := kb BK340 hb; replace HB := bs hb; (try clear hb); have hcz15_0 := c20 BK340; have hcz15_1 := c21 BK340; have hfz15_0 := blk_frozen BK340.out 0; have hfz15_1 := blk_frozen BK340.out 1)); try go_wp2_with (first | ((with_reducible refine gate_dst (N := 1) rfl ?_); refine bxe 1 #[.int .i64 a0_0, .int .i64 a0_1] 23 ?_; intro gb340 hg w12 hbox hb; have BK340 := Aside0.mk hbox; have GW340 := ge hg; have GE340 := ge hg; replace HB := bs hb; clear hb hbox hg; have hcz13_0 := c20 BK340; have hcz13_1 := c21 BK340; have hfz13_0 := blk_frozen BK340.out 0; have hfz13_1 := blk_frozen BK340.out 1) | (go_at_call 53; (with_reducible refine (real_Valid.calls a0_0 a0_1 true _ A2.out).mono ?_); rintro e w14 ⟨rfl, hb⟩; replace BK340 := kb BK340 hb; replace HB := bs hb; (try clear hb); have hcz15_0 := c20 BK340; have hcz15_1 := c21 BK340; have hfz15_0 := blk_frozen BK340.out 0; have hfz15_1 := blk_frozen BK340.out 1)))
    go_ret2
    exact ⟨by first | rfl | (simp [errW_none, errW_some] <;> rfl) | (simp [*, errW_none, errW_some] <;> rfl), bz⟩
   ·rw [if_neg c11] at H
    have c11b0 : decide (a0_1 < (-40)) = false := decide_eq_false c11
    clear c11
    obtain ⟨ji16, hji16⟩ : ∃ j_ : Int, (wrap64 ((wrap64 (-a0_1)) - 1)) = j_ := ⟨_, rfl⟩
    first | rw [hji16] at H | simp only [hji16] at H
    (try rw [hji16] at A2)
    have hji16w : (IntKind.i64.wrap ((wrap64 (-a0_1)) - 1)) = ji16 := (i64_w _).trans hji16
    by_cases c17 : 0 ≤ (ji16)
    ·rw [if_pos c17] at H
     have c17b0 := eq_true c17
     have c17b1 : decide (0 ≤ (ji16)) = true := decide_eq_true c17
     clear c17
     obtain ⟨ji18, hji18⟩ : ∃ j_ : Int, (shl .i64 1 (ji16)) = j_ := ⟨_, rfl⟩
     first | rw [hji18] at H | simp only [hji18] at H
     (try rw [hji18] at A2)
     have hji18_ : (IntKind.i64.wrap (1 * 2 ^ min (ji16).toNat 64)) = ji18 := hji18
     have hji18z : (ji16) ≤ 64 → (IntKind.i64.wrap (1 * 2 ^ (ji16).toNat)) = ji18 := shl_small hji18
     have hji18u : (IntKind.i64.wrap (2 ^ min (ji16).toNat 64)) = ji18 := by have h_ := hji18_; rw [Int.one_mul] at h_; exact h_
     have hji18v : (ji16) ≤ 64 → (IntKind.i64.wrap (2 ^ (ji16).toNat)) = ji18 := fun hle_ => by have h_ := hji18z hle_; rw [Int.one_mul] at h_; exact h_
     have hji18y : (wrap64 (1 * 2 ^ min (ji16).toNat 64)) = ji18 := (i64_w _).symm.trans hji18_
     have hji18x : (ji16) ≤ 64 → (wrap64 (1 * 2 ^ (ji16).toNat)) = ji18 := fun h_ => (i64_w _).symm.trans (hji18z h_)
     replace H := Option.bind_eq_some_iff.mp H
     obtain ⟨⟨t346, t347⟩, A190, H⟩ := H
     try dsimp only at H
     have A19 := Aside0.mk A190
     clear A190
     replace H := Option.bind_eq_some_iff.mp H
     obtain ⟨⟨t348, t349⟩, A200, H⟩ := H
     try dsimp only at H
     have A20 := Aside0.mk A200
     clear A200
     simp only [Option.some.injEq, Prod.mk.injEq] at H
     obtain ⟨rfl, rfl⟩ := H
     go_enter Tryz.func22, Tryz.ntmps22
     go_wp2_with (first | ((with_reducible refine gate_dst (N := 1) rfl ?_); refine bxe 1 #[.int .i64 a0_0, .int .i64 a0_1] 23 ?_; intro gb340 hg w21 hbox hb; have BK340 := Aside0.mk hbox; have GW340 := ge hg; have GE340 := ge hg; replace HB := bs hb; clear hb hbox hg; have hcz22_0 := c20 BK340; have hcz22_1 := c21 BK340; have hfz22_0 := blk_frozen BK340.out 0; have hfz22_1 := blk_frozen BK340.out 1) | (go_at_call 53; (with_reducible refine (real_Valid.calls a0_0 a0_1 true _ A2.out).mono ?_); rintro e w23 ⟨rfl, hb⟩; replace BK340 := kb BK340 hb; replace HB := bs hb; (try clear hb); have hcz24_0 := c20 BK340; have hcz24_1 := c21 BK340; have hfz24_0 := blk_frozen BK340.out 0; have hfz24_1 := blk_frozen BK340.out 1) | (go_at_call 73; (with_reducible refine (real_floor.calls (wrap64 (a0_0 + (ji18))) a0_1 t346 t347 _ A19.out).mono ?_); rintro e w' ⟨rfl, ⟨nd, rfl⟩⟩; (try first | exact ⟨rfl, _, World.drewN_drewN _ _ _⟩ | exact ⟨rfl, _, Eq.trans (World.drewN_drewN _ _ _) (congrArg (World.drewN _) (Nat.add_assoc _ _ _))⟩)) | (go_at_call 72; (with_reducible refine (real_whole.calls t346 t347 t348 t349 _ A20.out).mono ?_); rintro e w' ⟨rfl, ⟨nd, rfl⟩⟩; (try first | exact ⟨rfl, _, World.drewN_drewN _ _ _⟩ | exact ⟨rfl, _, Eq.trans (World.drewN_drewN _ _ _) (congrArg (World.drewN _) (Nat.add_assoc _ _ _))⟩)))
     repeat (go_quiet (first | ((with_reducible refine gate_dst (N := 1) rfl ?_); refine bxe 1 #[.int .i64 a0_0, .int .i64 a0_1] 23 ?_; intro gb340 hg w21 hbox hb; have BK340 := Aside0.mk hbox; have GW340 := ge hg; have GE340 := ge hg; replace HB := bs hb; clear hb hbox hg; have hcz22_0 := c20 BK340; have hcz22_1 := c21 BK340; have hfz22_0 := blk_frozen BK340.out 0; have hfz22_1 := blk_frozen BK340.out 1) | (go_at_call 53; (with_reducible refine (real_Valid.calls a0_0 a0_1 true _ A2.out).mono ?_); rintro e w23 ⟨rfl, hb⟩; replace BK340 := kb BK340 hb; replace HB := bs hb; (try clear hb); have hcz24_0 := c20 BK340; have hcz24_1 := c21 BK340; have hfz24_0 := blk_frozen BK340.out 0; have hfz24_1 := blk_frozen BK340.out 1) | (go_at_call 73; (with_reducible refine (real_floor.calls (wrap64 (a0_0 + (ji18))) a0_1 t346 t347 _ A19.out).mono ?_); rintro e w' ⟨rfl, ⟨nd, rfl⟩⟩; (try first | exact ⟨rfl, _, World.drewN_drewN _ _ _⟩ | exact ⟨rfl, _, Eq.trans (World.drewN_drewN _ _ _) (congrArg (World.drewN _) (Nat.add_assoc _ _ _))⟩)) | (go_at_call 72; (with_reducible refine (real_whole.calls t346 t347 t348 t349 _ A20.out).mono ?_); rintro e w' ⟨rfl, ⟨nd, rfl⟩⟩; (try first | exact ⟨rfl, _, World.drewN_drewN _ _ _⟩ | exact ⟨rfl, _, Eq.trans (World.drewN_drewN _ _ _) (congrArg (World.drewN _) (Nat.add_assoc _ _ _))⟩))); try go_wp2_with (first | ((with_reducible refine gate_dst (N := 1) rfl ?_); refine bxe 1 #[.int .i64 a0_0, .int .i64 a0_1] 23 ?_; intro gb340 hg w21 hbox hb; have BK340 := Aside0.mk hbox; have GW340 := ge hg; have GE340 := ge hg; replace HB := bs hb; clear hb hbox hg; have hcz22_0 := c20 BK340; have hcz22_1 := c21 BK340; have hfz22_0 := blk_frozen BK340.out 0; have hfz22_1 := blk_frozen BK340.out 1) | (go_at_call 53; (with_reducible refine (real_Valid.calls a0_0 a0_1 true _ A2.out).mono ?_); rintro e w23 ⟨rfl, hb⟩; replace BK340 := kb BK340 hb; replace HB := bs hb; (try clear hb); have hcz24_0 := c20 BK340; have hcz24_1 := c21 BK340; have hfz24_0 := blk_frozen BK340.out 0; have hfz24_1 := blk_frozen BK340.out 1) | (go_at_call 73; (with_reducible refine (real_floor.calls (wrap64 (a0_0 + (ji18))) a0_1 t346 t347 _ A19.out).mono ?_); rintro e w' ⟨rfl, ⟨nd, rfl⟩⟩; (try first | exact ⟨rfl, _, World.drewN_drewN _ _ _⟩ | exact ⟨rfl, _, Eq.trans (World.drewN_drewN _ _ _) (congrArg (World.drewN _) (Nat.add_assoc _ _ _))⟩)) | (go_at_call 72; (with_reducible refine (real_whole.calls t346 t347 t348 t349 _ A20.out).mono ?_); rintro e w' ⟨rfl, ⟨nd, rfl⟩⟩; (try first | exact ⟨rfl, _, World.drewN_drewN _ _ _⟩ | exact ⟨rfl, _, Eq.trans (World.drewN_drewN _ _ _) (congrArg (World.drewN _) (Nat.add_assoc _ _ _))⟩))))
     go_ret2
     exact ⟨by first | rfl | (simp [errW_none, errW_some] <;> rfl) | (simp only [← hji16, ← hji18]; first | rfl | (simp [errW_none, errW_some] <;> rfl)) | (simp [*, errW_none, errW_some] <;> rfl), bz⟩
    ·rw [if_neg c17] at H
     exact absurd H (by simp)
 ·replace c3 := Bool.eq_false_iff.mpr c3
  subst c3
  rw [if_neg (show ¬ (false = true) by decide)] at H
  simp only [Option.some.injEq, Prod.mk.injEq] at H
  obtain ⟨rfl, rfl⟩ := H
  go_enter Tryz.func22, Tryz.ntmps22
  go_wp2_with (first | ((with_reducible refine gate_dst (N := 1) rfl ?_); refine bxe 1 #[.int .i64 a0_0, .int .i64 a0_1] 23 ?_; intro gb340 hg w25 hbox hb; have BK340 := Aside0.mk hbox; have GW340 := ge hg; have GE340 := ge hg; replace HB := bs hb; clear hb hbox hg; have hcz26_0 := c20 BK340; have hcz26_1 := c21 BK340; have hfz26_0 := blk_frozen BK340.out 0; have hfz26_1 := blk_frozen BK340.out 1) | (go_at_call 53; (with_reducible refine (real_Valid.calls a0_0 a0_1 false _ A2.out).mono ?_); rintro e w27 ⟨rfl, hb⟩; replace BK340 := kb BK340 hb; replace HB := bs hb; (try clear hb)))
  repeat (go_quiet (first | ((with_reducible refine gate_dst (N := 1) rfl ?_); refine bxe 1 #[.int .i64 a0_0, .int .i64 a0_1] 23 ?_; intro gb340 hg w25 hbox hb; have BK340 := Aside0.mk hbox; have GW340 := ge hg; have GE340 := ge hg; replace HB := bs hb; clear hb hbox hg; have hcz26_0 := c20 BK340; have hcz26_1 := c21 BK340; have hfz26_0 := blk_frozen BK340.out 0; have hfz26_1 := blk_frozen BK340.out 1) | (go_at_call 53; (with_reducible refine (real_Valid.calls a0_0 a0_1 false _ A2.out).mono ?_); rintro e w27 ⟨rfl, hb⟩; replace BK340 := kb BK340 hb; replace HB := bs hb; (try clear hb))); try go_wp2_with (first | ((with_reducible refine gate_dst (N := 1) rfl ?_); refine bxe 1 #[.int .i64 a0_0, .int .i64 a0_1] 23 ?_; intro gb340 hg w25 hbox hb; have BK340 := Aside0.mk hbox; have GW340 := ge hg; have GE340 := ge hg; replace HB := bs hb; clear hb hbox hg; have hcz26_0 := c20 BK340; have hcz26_1 := c21 BK340; have hfz26_0 := blk_frozen BK340.out 0; have hfz26_1 := blk_frozen BK340.out 1) | (go_at_call 53; (with_reducible refine (real_Valid.calls a0_0 a0_1 false _ A2.out).mono ?_); rintro e w27 ⟨rfl, hb⟩; replace BK340 := kb BK340 hb; replace HB := bs hb; (try clear hb))))
  go_ret2
  exact ⟨by first | rfl | (simp [errW_none, errW_some] <;> rfl) | (simp [*, errW_none, errW_some] <;> rfl), bz⟩

def stringslite_HasPrefix.f (a0 : ByteArray) (a1 : ByteArray) : Option (Bool) := if (a0.size : Int) ≥ (a1.size : Int) then (if 0 ≤ (a1.size : Int) then (if (a1.size : Int) ≤ (a0.size : Int) then (some ((a0.extract 0 ((a1.size : Int) : Int).toNat).toList == a1.toList)) else (none)) else (none)) else (some false)
theorem stringslite_HasPrefix.calls (a0 : ByteArray) (a1 : ByteArray) (r : Bool) (w : World) (h : stringslite_HasPrefix.f a0 a1 = some r) :
  Calls Tryz.prog 146 #[.string a0, .string a1] w fun e w' => e = .returned (.bool r) ∧ Drawn0 w w' := by
 have H := h; unfold stringslite_HasPrefix.f at H; clear h
 by_cases c3 : (a0.size : Int) ≥ (a1.size : Int)
 ·rw [if_pos c3] at H
  have c3b0 : decide ((a1.size : Int) ≤ (a0.size : Int)) = true := decide_eq_true c3
  have c3b1 : decide (a1.size ≤ a0.size) = true := decide_eq_true (Int.ofNat_le.mp c3)
  clear c3
  by_cases c4 : 0 ≤ (a1.size : Int)
  ·rw [if_pos c4] at H
   have c4b0 := eq_true c4
   have c4b1 : decide (0 ≤ (a1.size : Int)) = true := decide_eq_true c4
   clear c4
   by_cases c5 : (a1.size : Int) ≤ (a0.size : Int)
   ·rw [if_pos c5] at H
    have c5b0 := eq_true c5
    have c5b1 : decide ((a1.size : Int) ≤ (a0.size : Int)) = true := decide_eq_true c5
    clear c5
    obtain rfl := Option.some.inj H
    go_enter Tryz.func146, Tryz.ntmps146
    go_wp2
    go_ret
    exact ⟨by first | rfl | (simp; done) | (simp [*]; done) | (exfalso; simp at *; done), by repeat (first | exact Drawn0.refl _ | apply Drawn0.step)⟩
   ·rw [if_neg c5] at H
    exact absurd H (by simp)
  ·rw [if_neg c4] at H
   exact absurd H (by simp)
 ·rw [if_neg c3] at H
  have c3b0 : decide ((a1.size : Int) ≤ (a0.size : Int)) = false := decide_eq_false c3
  have c3b1 : decide (a1.size ≤ a0.size) = false := decide_eq_false (fun h => c3 (Int.ofNat_le.mpr h))
  clear c3
  obtain rfl := Option.some.inj H
  go_enter Tryz.func146, Tryz.ntmps146
  go_wp2
  go_ret
  exact ⟨by first | rfl | (simp; done) | (simp [*]; done) | (exfalso; simp at *; done), by repeat (first | exact Drawn0.refl _ | apply Drawn0.step)⟩

def stringslite_CutPrefix.f (a0 : ByteArray) (a1 : ByteArray) : Option (ByteArray × Bool) := (stringslite_HasPrefix.f a0 a1).bind fun t350 => (if t350 = true then (if 0 ≤ (a1.size : Int) then (if (a1.size : Int) ≤ (a0.size : Int) then (some (a0.extract ((a1.size : Int) : Int).toNat a0.size, true)) else (none)) else (none)) else (some (a0, false)))
theorem stringslite_CutPrefix.calls (a0 : ByteArray) (a1 : ByteArray) (r1 : ByteArray) (r2 : Bool) (w : World) (h : stringslite_CutPrefix.f a0 a1 = some (r1, r2)) :
  Calls Tryz.prog 114 #[.string a0, .string a1] w fun e w' => e = .returned (.tuple #[.string r1, .bool r2]) ∧ Drawn0 w w' := by
 have H := h; unfold stringslite_CutPrefix.f at H; clear h
 replace H := Option.bind_eq_some_iff.mp H
 obtain ⟨t350, A30, H⟩ := H
 try dsimp only at H
 have A3 := Aside0.mk A30
 clear A30
 by_cases c4 : t350 = true
 ·subst c4
  rw [if_pos rfl] at H
  by_cases c5 : 0 ≤ (a1.size : Int)
  ·rw [if_pos c5] at H
   have c5b0 := eq_true c5
   have c5b1 : decide (0 ≤ (a1.size : Int)) = true := decide_eq_true c5
   clear c5
   by_cases c6 : (a1.size : Int) ≤ (a0.size : Int)
   ·rw [if_pos c6] at H
    have c6b0 := eq_true c6
    have c6b1 : decide ((a1.size : Int) ≤ (a0.size : Int)) = true := decide_eq_true c6
    clear c6
    simp only [Option.some.injEq, Prod.mk.injEq] at H
    obtain ⟨rfl, rfl⟩ := H
    go_enter Tryz.func114, Tryz.ntmps114
    go_wp2_with (first | ((with_reducible refine gate_callee (f := 146) rfl ?_); refine gL 8 Tryz.func146 #[.string a0, .string a1] ?_; (with_reducible refine (stringslite_HasPrefix.calls a0 a1 true _ A3.out).mono ?_); rintro e w' ⟨rfl, ⟨nd, rfl⟩⟩; refine ⟨_, rfl, ?_⟩))
    go_ret2
    exact ⟨by first | rfl | (simp; done) | (simp [*]; done) | (exfalso; simp at *; done), by repeat (first | exact Drawn0.refl _ | apply Drawn0.step)⟩
   ·rw [if_neg c6] at H
    exact absurd H (by simp)
  ·rw [if_neg c5] at H
   exact absurd H (by simp)
 ·replace c4 := Bool.eq_false_iff.mpr c4
  subst c4
  rw [if_neg (show ¬ (false = true) by decide)] at H
  simp only [Option.some.injEq, Prod.mk.injEq] at H
  obtain ⟨rfl, rfl⟩ := H
  go_enter Tryz.func114, Tryz.ntmps114
  go_wp2_with (first | ((with_reducible refine gate_callee (f := 146) rfl ?_); refine gL 8 Tryz.func146 #[.string a0, .string a1] ?_; (with_reducible refine (stringslite_HasPrefix.calls a0 a1 false _ A3.out).mono ?_); rintro e w' ⟨rfl, ⟨nd, rfl⟩⟩; refine ⟨_, rfl, ?_⟩))
  go_ret2
  exact ⟨by first | rfl | (simp; done) | (simp [*]; done) | (exfalso; simp at *; done), by repeat (first | exact Drawn0.refl _ | apply Drawn0.step)⟩

def strings_CutPrefix.f (a0 : ByteArray) (a1 : ByteArray) : Option (ByteArray × Bool) := (stringslite_CutPrefix.f a0 a1).bind fun bt351 => (some (bt351.1, bt351.2))
theorem strings_CutPrefix.calls (a0 : ByteArray) (a1 : ByteArray) (r1 : ByteArray) (r2 : Bool) (w : World) (h : strings_CutPrefix.f a0 a1 = some (r1, r2)) :
  Calls Tryz.prog 76 #[.string a0, .string a1] w fun e w' => e = .returned (.tuple #[.string r1, .bool r2]) ∧ Drawn0 w w' := by
 have H := h; unfold strings_CutPrefix.f at H; clear h
 replace H := Option.bind_eq_some_iff.mp H
 obtain ⟨⟨t351, t352⟩, A30, H⟩ := H
 try dsimp only at H
 have A3 := Aside0.mk A30
 clear A30
 simp only [Option.some.injEq, Prod.mk.injEq] at H
 obtain ⟨rfl, rfl⟩ := H
 go_enter Tryz.func76, Tryz.ntmps76
 go_wp2_with (first | ((with_reducible refine gate_callee (f := 114) rfl ?_); refine gL 8 Tryz.func114 #[.string a0, .string a1] ?_; (with_reducible refine (stringslite_CutPrefix.calls a0 a1 t351 t352 _ A3.out).mono ?_); rintro e w' ⟨rfl, ⟨nd, rfl⟩⟩; refine ⟨_, rfl, ?_⟩))
 go_ret2
 exact ⟨by first | rfl | (simp; done) | (simp [*]; done) | (exfalso; simp at *; done), by repeat (first | exact Drawn0.refl _ | apply Drawn0.step)⟩

def strings_HasPrefix.f (a0 : ByteArray) (a1 : ByteArray) : Option (Bool) := (stringslite_HasPrefix.f a0 a1).bind fun t353 => (some t353)
theorem strings_HasPrefix.calls (a0 : ByteArray) (a1 : ByteArray) (r : Bool) (w : World) (h : strings_HasPrefix.f a0 a1 = some r) :
  Calls Tryz.prog 118 #[.string a0, .string a1] w fun e w' => e = .returned (.bool r) ∧ Drawn0 w w' := by
 have H := h; unfold strings_HasPrefix.f at H; clear h
 replace H := Option.bind_eq_some_iff.mp H
 obtain ⟨t353, A30, H⟩ := H
 try dsimp only at H
 have A3 := Aside0.mk A30
 clear A30
 obtain rfl := Option.some.inj H
 go_enter Tryz.func118, Tryz.ntmps118
 go_wp2_with (first | ((with_reducible refine gate_callee (f := 146) rfl ?_); refine gL 7 Tryz.func146 #[.string a0, .string a1] ?_; (with_reducible refine (stringslite_HasPrefix.calls a0 a1 t353 _ A3.out).mono ?_); rintro e w' ⟨rfl, ⟨nd, rfl⟩⟩; refine ⟨_, rfl, ?_⟩))
 go_ret
 exact ⟨by first | rfl | (simp; done) | (simp [*]; done) | (exfalso; simp at *; done), by repeat (first | exact Drawn0.refl _ | apply Drawn0.step)⟩

def manorboylaw02_two.f (a0 : Int) : Option (Int × Int) := some (8388608, wrap64 (a0 - 23))
theorem manorboylaw02_two.calls (a0 : Int) (r1 : Int) (r2 : Int) (w : World) (h : manorboylaw02_two.f a0 = some (r1, r2)) :
  Calls Tryz.prog 49 #[.int .i64 a0] w fun e w' => e = .returned (.agg #[.int .i64 r1, .int .i64 r2]) ∧ Below w.heap.size w w' := by
 have hu23 := Tryz.underlying23
 have HB := Aside0.mk (Below.refl w.heap.size w)
 have H := h; unfold manorboylaw02_two.f at H; clear h
 simp only [Option.some.injEq, Prod.mk.injEq] at H
 obtain ⟨rfl, rfl⟩ := H
 go_enter Tryz.func49, Tryz.ntmps49
 go_wp2_with (first | ((with_reducible refine gate_dst (N := 2) rfl ?_); refine bxe 2 #[.int .i64 0, .int .i64 0] 23 ?_; intro gb354 hg w2 hbox hb; have BK354 := Aside0.mk hbox; have GW354 := ge hg; have GE354 := ge hg; replace HB := bs hb; clear hb hbox hg; have hcz3_0 := c20 BK354; have hcz3_1 := c21 BK354; have hfz3_0 := blk_frozen BK354.out 0; have hfz3_1 := blk_frozen BK354.out 1))
 refine bodyPost_ret (results_cell_row rfl _ _ gb354 23 #[.int .i64 8388608, .int .i64 (wrap64 (a0 - 23))] (0, 0) _ rfl (by (with_reducible repeat (first | refine blk_drewN ?_ _ | refine blk_drew ?_ | refine blk_alloc ?_ _)); refine blk_put (cs := #[.int .i64 8388608, .int .i64 0]) ?_ 1 _ rfl; (with_reducible repeat (first | refine blk_drewN ?_ _ | refine blk_drew ?_ | refine blk_alloc ?_ _)); refine blk_put (cs := #[.int .i64 0, .int .i64 0]) ?_ 0 _ rfl; (with_reducible repeat (first | refine blk_drewN ?_ _ | refine blk_drew ?_ | refine blk_alloc ?_ _)); exact BK354.out) Tryz.underlying23 rfl (by kernel_rfl)) rfl ?_
 exact ⟨by first | rfl | (simp [errW_none, errW_some] <;> rfl) | (simp [*, errW_none, errW_some] <;> rfl), bz⟩

def manorboylaw02_is.f (a0_0 : Int) (a0_1 : Int) (a1 : Int) (a2_0 : Int) (a2_1 : Int) : Option (Bool) := if a1 = 0 then (some (a0_0 == a2_0 && (a0_1 == a2_1))) else (some false)
theorem manorboylaw02_is.calls (a0_0 : Int) (a0_1 : Int) (a1 : Int) (a2_0 : Int) (a2_1 : Int) (r : Bool) (w : World) (h : manorboylaw02_is.f a0_0 a0_1 a1 a2_0 a2_1 = some r) :
  Calls Tryz.prog 39 #[.agg #[.int .i64 a0_0, .int .i64 a0_1], .int .i64 a1, .agg #[.int .i64 a2_0, .int .i64 a2_1]] w fun e w' => e = .returned (.bool r) ∧ Below w.heap.size w w' := by
 have hu23 := Tryz.underlying23
 have HB := Aside0.mk (Below.refl w.heap.size w)
 have H := h; unfold manorboylaw02_is.f at H; clear h
 by_cases c4 : a1 = 0
 ·rw [if_pos c4] at H
  have c4b0 : (a1 == 0) = true := beq_iff_eq.mpr c4
  have c4b1 : (a1 != 0) = false := bne_eq_false_iff_eq.mpr c4
  clear c4
  obtain rfl := Option.some.inj H
  go_enter Tryz.func39, Tryz.ntmps39
  go_wp2_with (first | ((with_reducible refine gate_dst (N := 3) rfl ?_); refine bxe 3 #[.int .i64 a0_0, .int .i64 a0_1] 23 ?_; intro gb355 hg w5 hbox hb; have BK355 := Aside0.mk hbox; have GW355 := ge hg; have GE355 := ge hg; replace HB := bs hb; clear hb hbox hg) | ((with_reducible refine gate_dst (N := 5) rfl ?_); refine bxe 5 #[.int .i64 a2_0, .int .i64 a2_1] 23 ?_; intro gb356 hg w6 hbox hb; have BK356 := Aside0.mk hbox; have GW356 := ge hg; have GE356 := ge hg; have NB355_356 := nl BK355 hg; have NB356_355 := nr BK355 hg; replace BK355 := kb BK355 hb; replace HB := bs hb; clear hb hbox hg; have hnb7 := NB355_356.out; have hnc7 := NB356_355.out; have hcz8_0 := c20 BK355; have hcz8_1 := c21 BK355; have hfz8_0 := blk_frozen BK355.out 0; have hfz8_1 := blk_frozen BK355.out 1; have hcz9_0 := c20 BK356; have hcz9_1 := c21 BK356; have hfz9_0 := blk_frozen BK356.out 0; have hfz9_1 := blk_frozen BK356.out 1))
  go_ret
  exact ⟨by first | rfl | (simp [errW_none, errW_some] <;> rfl) | (simp [*, errW_none, errW_some] <;> rfl), bz⟩
 ·rw [if_neg c4] at H
  have c4b0 : (a1 == 0) = false := beq_eq_false_iff_ne.mpr c4
  have c4b1 : (a1 != 0) = true := bne_iff_ne.mpr c4
  obtain rfl := Option.some.inj H
  go_enter Tryz.func39, Tryz.ntmps39
  go_wp2_with (first | ((with_reducible refine gate_dst (N := 3) rfl ?_); refine bxe 3 #[.int .i64 a0_0, .int .i64 a0_1] 23 ?_; intro gb355 hg w10 hbox hb; have BK355 := Aside0.mk hbox; have GW355 := ge hg; have GE355 := ge hg; replace HB := bs hb; clear hb hbox hg) | ((with_reducible refine gate_dst (N := 5) rfl ?_); refine bxe 5 #[.int .i64 a2_0, .int .i64 a2_1] 23 ?_; intro gb356 hg w11 hbox hb; have BK356 := Aside0.mk hbox; have GW356 := ge hg; have GE356 := ge hg; have NB355_356 := nl BK355 hg; have NB356_355 := nr BK355 hg; replace BK355 := kb BK355 hb; replace HB := bs hb; clear hb hbox hg))
  go_ret
  exact ⟨by first | rfl | (simp [errW_none, errW_some] <;> rfl) | (simp [*, errW_none, errW_some] <;> rfl), bz⟩

end Go.Proofs.YteigbokklclmbaaGreatDoor.Z
end
section
namespace Go.Proofs
open Go.Shelf
def Tryz.lays162_ren : Go.Shelf.Ren := ⟨fun | 162 => 129 | 232 => 153 | 227 => 154 | 234 => 155 | 236 => 156 | 228 => 168 | 271 => 169 | 151 => 170 | 120 => 178 | 197 => 179 | 152 => 180 | 260 => 183 | 137 => 184 | 119 => 185 | 224 => 186 | 225 => 187 | 217 => 188 | 266 => 189 | n => n, fun | 9 => 9 | 4 => 4 | 3 => 3 | 5 => 5 | 117 => 164 | 116 => 163 | 0 => 0 | 124 => 167 | 21 => 21 | 105 => 181 | 46 => 119 | 119 => 198 | 139 => 201 | 138 => 200 | n => n, fun | 3 => 4 | 4 => 5 | n => n⟩
theorem Tryz.lays162 : Go.Proofs.Lays.n162 Tryz.prog Tryz.lays162_ren := {
  mixed := by kernel_rfl
  f119 := Tryz.func185.trans (congrArg some (by kernel_rfl))
  f120 := Tryz.func178.trans (congrArg some (by kernel_rfl))
  f137 := Tryz.func184.trans (congrArg some (by kernel_rfl))
  f151 := Tryz.func170.trans (congrArg some (by kernel_rfl))
  f152 := Tryz.func180.trans (congrArg some (by kernel_rfl))
  f162 := Tryz.func129.trans (congrArg some (by kernel_rfl))
  f197 := Tryz.func179.trans (congrArg some (by kernel_rfl))
  f217 := Tryz.func188.trans (congrArg some (by kernel_rfl))
  f224 := Tryz.func186.trans (congrArg some (by kernel_rfl))
  f225 := Tryz.func187.trans (congrArg some (by kernel_rfl))
  f227 := Tryz.func154.trans (congrArg some (by kernel_rfl))
  f228 := Tryz.func168.trans (congrArg some (by kernel_rfl))
  f232 := Tryz.func153.trans (congrArg some (by kernel_rfl))
  f234 := Tryz.func155.trans (congrArg some (by kernel_rfl))
  f236 := Tryz.func156.trans (congrArg some (by kernel_rfl))
  f260 := Tryz.func183.trans (congrArg some (by kernel_rfl))
  f266 := Tryz.func189.trans (congrArg some (by kernel_rfl))
  f271 := Tryz.func169.trans (congrArg some (by kernel_rfl))
  t0 := Tryz.underlying0
  a0 := Tryz.isAgg0
  z0 := Tryz.sizeOf0
  v0 := Tryz.zeroValue0
  t3 := Tryz.underlying3
  a3 := Tryz.isAgg3
  z3 := Tryz.sizeOf3
  v3 := Tryz.zeroValue3
  t4 := Tryz.underlying4
  a4 := Tryz.isAgg4
  z4 := Tryz.sizeOf4
  v4 := Tryz.zeroValue4
  t5 := Tryz.underlying5
  a5 := Tryz.isAgg5
  z5 := Tryz.sizeOf5
  v5 := Tryz.zeroValue5
  t9 := Tryz.underlying9
  a9 := Tryz.isAgg9
  z9 := Tryz.sizeOf9
  v9 := Tryz.zeroValue9
  t21 := Tryz.underlying21
  a21 := Tryz.isAgg21
  z21 := Tryz.sizeOf21
  v21 := Tryz.zeroValue21
  t46 := Tryz.underlying119
  a46 := Tryz.isAgg119
  z46 := Tryz.sizeOf119
  v46 := Tryz.zeroValue119
  t105 := Tryz.underlying181
  a105 := Tryz.isAgg181
  z105 := Tryz.sizeOf181
  v105 := Tryz.zeroValue181
  t116 := Tryz.underlying163
  a116 := Tryz.isAgg163
  z116 := Tryz.sizeOf163
  t117 := Tryz.underlying164
  a117 := Tryz.isAgg164
  z117 := Tryz.sizeOf164
  v117 := Tryz.zeroValue164
  t119 := Tryz.underlying198
  a119 := Tryz.isAgg198
  z119 := Tryz.sizeOf198
  t124 := Tryz.underlying167
  a124 := Tryz.isAgg167
  z124 := Tryz.sizeOf167
  v124 := Tryz.zeroValue167
  t138 := Tryz.underlying200
  a138 := Tryz.isAgg200
  z138 := Tryz.sizeOf200
  v138 := Tryz.zeroValue200
  t139 := Tryz.underlying201
  a139 := Tryz.isAgg201
  z139 := Tryz.sizeOf201
  v139 := Tryz.zeroValue201
  g3 := by kernel_rfl
  g4 := by kernel_rfl }
open Go.RowKit in
theorem Tryz.strings_TrimRight_one (s : ByteArray) (c : UInt8) (hc : c.toNat < 128) (w : World) (hs : s.size ≤ 9223372036854775807) :
    Calls Tryz.prog 129 #[.string s, .string ⟨#[c]⟩] w fun e w' => e = .returned (.string ⟨(Lib.trimRightB s.data.toList c).toArray⟩) ∧ w' = w := Any.strings_TrimRight_one Tryz.lays162 s c hc w hs
def Tryz.lays283_ren : Go.Shelf.Ren := ⟨fun | 283 => 164 | n => n, fun | 3 => 3 | 9 => 9 | 4 => 4 | n => n, fun | n => n⟩
theorem Tryz.lays283 : Go.Proofs.Lays.n283 Tryz.prog Tryz.lays283_ren := {
  mixed := by kernel_rfl
  f283 := Tryz.func164.trans (congrArg some (by kernel_rfl))
  t3 := Tryz.underlying3
  a3 := Tryz.isAgg3
  z3 := Tryz.sizeOf3
  v3 := Tryz.zeroValue3
  t4 := Tryz.underlying4
  a4 := Tryz.isAgg4
  z4 := Tryz.sizeOf4
  v4 := Tryz.zeroValue4
  t9 := Tryz.underlying9
  a9 := Tryz.isAgg9
  z9 := Tryz.sizeOf9
  v9 := Tryz.zeroValue9 }
open Go.Lib in
theorem Tryz.internal_strconv_small (i : Nat) (h : i < 100) (w : World) :
    Calls Tryz.prog 164 #[.int .i64 i] w fun e w' => e = .returned (.string ⟨(Lib.decDigits i).toArray⟩) ∧ w' = w := Any.internal_strconv_small Tryz.lays283 i h w
def Tryz.laysM284_ren : Go.Shelf.Ren := ⟨fun | 284 => 165 | 129 => 174 | 317 => 173 | 318 => 175 | n => n, fun | 53 => 72 | 3 => 3 | 212 => 188 | 0 => 0 | 4 => 4 | 46 => 119 | 5 => 5 | 9 => 9 | n => n, fun | 17 => 0 | n => n⟩
theorem Tryz.laysM284 : Go.Proofs.LaysM.n284 Tryz.prog Tryz.laysM284_ren := {
  mixed := by kernel_rfl
  f129 := Tryz.func174.trans (congrArg some (by kernel_rfl))
  f284 := Tryz.func165.trans (congrArg some (by kernel_rfl))
  f317 := Tryz.func173.trans (congrArg some (by kernel_rfl))
  f318 := Tryz.func175.trans (congrArg some (by kernel_rfl))
  t0 := Tryz.underlying0
  a0 := Tryz.isAgg0
  z0 := Tryz.sizeOf0
  v0 := Tryz.zeroValue0
  t3 := Tryz.underlying3
  a3 := Tryz.isAgg3
  z3 := Tryz.sizeOf3
  v3 := Tryz.zeroValue3
  t4 := Tryz.underlying4
  a4 := Tryz.isAgg4
  z4 := Tryz.sizeOf4
  v4 := Tryz.zeroValue4
  t5 := Tryz.underlying5
  a5 := Tryz.isAgg5
  z5 := Tryz.sizeOf5
  v5 := Tryz.zeroValue5
  t9 := Tryz.underlying9
  a9 := Tryz.isAgg9
  z9 := Tryz.sizeOf9
  v9 := Tryz.zeroValue9
  t46 := Tryz.underlying119
  a46 := Tryz.isAgg119
  z46 := Tryz.sizeOf119
  v46 := Tryz.zeroValue119
  t53 := Tryz.underlying72
  a53 := Tryz.isAgg72
  z53 := Tryz.sizeOf72
  v53 := Tryz.zeroValue72
  t212 := Tryz.underlying188
  a212 := Tryz.isAgg188
  z212 := Tryz.sizeOf188
  v212 := Tryz.zeroValue188
  g17 := by kernel_rfl
  i0 := by kernel_rfl
  i3 := by kernel_rfl
  i4 := by kernel_rfl
  i5 := by kernel_rfl
  i9 := by kernel_rfl
  i46 := by kernel_rfl
  i53 := by kernel_rfl
  i212 := by kernel_rfl
  m17 := by kernel_rfl }
open Go.Lib in
theorem Tryz.internal_strconv_numDigits (u : Nat) (h1 : 1 ≤ u) (h2 : u < 18446744073709551616) (w : World) (htab : Lib.TabIs Tryz.prog w "internal/strconv.uint64pow10" .u64 Lib.pow10Tab) :
    Calls Tryz.prog 165 #[.int .u64 u] w fun e w' => e = .returned (.int .i64 (Lib.nDigits u)) ∧ w' = w := Any.internal_strconv_numDigits Tryz.laysM284 u h1 h2 w htab
def Tryz.lays285_ren : Go.Shelf.Ren := ⟨fun | 285 => 166 | n => n, fun | 37 => 141 | 53 => 72 | 3 => 3 | 4 => 4 | 51 => 115 | 9 => 9 | 5 => 5 | 0 => 0 | n => n, fun | n => n⟩
theorem Tryz.lays285 : Go.Proofs.Lays.n285 Tryz.prog Tryz.lays285_ren := {
  mixed := by kernel_rfl
  f285 := Tryz.func166.trans (congrArg some (by kernel_rfl))
  t0 := Tryz.underlying0
  a0 := Tryz.isAgg0
  z0 := Tryz.sizeOf0
  v0 := Tryz.zeroValue0
  t3 := Tryz.underlying3
  a3 := Tryz.isAgg3
  z3 := Tryz.sizeOf3
  v3 := Tryz.zeroValue3
  t4 := Tryz.underlying4
  a4 := Tryz.isAgg4
  z4 := Tryz.sizeOf4
  v4 := Tryz.zeroValue4
  t5 := Tryz.underlying5
  a5 := Tryz.isAgg5
  z5 := Tryz.sizeOf5
  v5 := Tryz.zeroValue5
  t9 := Tryz.underlying9
  a9 := Tryz.isAgg9
  z9 := Tryz.sizeOf9
  v9 := Tryz.zeroValue9
  t37 := Tryz.underlying141
  a37 := Tryz.isAgg141
  z37 := Tryz.sizeOf141
  v37 := Tryz.zeroValue141
  t51 := Tryz.underlying115
  a51 := Tryz.isAgg115
  z51 := Tryz.sizeOf115
  v51 := Tryz.zeroValue115
  t53 := Tryz.underlying72
  a53 := Tryz.isAgg72
  z53 := Tryz.sizeOf72
  v53 := Tryz.zeroValue72 }
open Go.RowKit Go.Sort Go.Lib in
theorem Tryz.internal_strconv_formatBase10 (blk off cap : Nat) (u : Nat) (d : Array UInt8) (w : World) (hH : Holds (fun (b : UInt8) => Value.int .u8 (b.toNat : Int)) w blk off d) (hu : u < 10 ^ d.size) (hu64 : u < 18446744073709551616) (hsz : d.size < 4611686018427387904) :
    Calls Tryz.prog 166 #[.slice (some ⟨blk, off, none⟩) d.size cap, .int .u64 u] w fun e w' =>
      e = .returned (.tuple #[]) ∧ ∃ (n v' : Nat) (dk : Array UInt8), w' = (putRow (fun (b : UInt8) => Value.int .u8 (b.toNat : Int)) w blk off dk).drewN n ∧ FmtInv d.size u 0 v' dk := Any.internal_strconv_formatBase10 Tryz.lays285 blk off cap u d w hH hu hu64 hsz
def Tryz.laysM171_ren : Go.Shelf.Ren := ⟨fun | 171 => 90 | 243 => 130 | 246 => 157 | 283 => 164 | 284 => 165 | 285 => 166 | 286 => 167 | 129 => 174 | 317 => 173 | 318 => 175 | 319 => 176 | 320 => 177 | 337 => 181 | 338 => 182 | n => n, fun | 3 => 3 | 9 => 9 | 2 => 2 | 4 => 4 | 171 => 176 | 0 => 0 | 53 => 72 | 37 => 141 | 5 => 5 | 173 => 179 | 212 => 188 | 51 => 115 | 20 => 20 | 213 => 189 | 46 => 119 | 232 => 196 | 233 => 197 | n => n, fun | 17 => 0 | 18 => 2 | 19 => 3 | n => n⟩
theorem Tryz.laysM171 : Go.Proofs.LaysM.n171 Tryz.prog Tryz.laysM171_ren := {
  mixed := by kernel_rfl
  f129 := Tryz.func174.trans (congrArg some (by kernel_rfl))
  f171 := Tryz.func90.trans (congrArg some (by kernel_rfl))
  f243 := Tryz.func130.trans (congrArg some (by kernel_rfl))
  f246 := Tryz.func157.trans (congrArg some (by kernel_rfl))
  f283 := Tryz.func164.trans (congrArg some (by kernel_rfl))
  f284 := Tryz.func165.trans (congrArg some (by kernel_rfl))
  f285 := Tryz.func166.trans (congrArg some (by kernel_rfl))
  f286 := Tryz.func167.trans (congrArg some (by kernel_rfl))
  f317 := Tryz.func173.trans (congrArg some (by kernel_rfl))
  f318 := Tryz.func175.trans (congrArg some (by kernel_rfl))
  f319 := Tryz.func176.trans (congrArg some (by kernel_rfl))
  f320 := Tryz.func177.trans (congrArg some (by kernel_rfl))
  f337 := Tryz.func181.trans (congrArg some (by kernel_rfl))
  f338 := Tryz.func182.trans (congrArg some (by kernel_rfl))
  t0 := Tryz.underlying0
  a0 := Tryz.isAgg0
  z0 := Tryz.sizeOf0
  v0 := Tryz.zeroValue0
  t2 := Tryz.underlying2
  a2 := Tryz.isAgg2
  z2 := Tryz.sizeOf2
  v2 := Tryz.zeroValue2
  t3 := Tryz.underlying3
  a3 := Tryz.isAgg3
  z3 := Tryz.sizeOf3
  v3 := Tryz.zeroValue3
  t4 := Tryz.underlying4
  a4 := Tryz.isAgg4
  z4 := Tryz.sizeOf4
  v4 := Tryz.zeroValue4
  t5 := Tryz.underlying5
  a5 := Tryz.isAgg5
  z5 := Tryz.sizeOf5
  v5 := Tryz.zeroValue5
  t9 := Tryz.underlying9
  a9 := Tryz.isAgg9
  z9 := Tryz.sizeOf9
  v9 := Tryz.zeroValue9
  t20 := Tryz.underlying20
  a20 := Tryz.isAgg20
  z20 := Tryz.sizeOf20
  v20 := Tryz.zeroValue20
  t37 := Tryz.underlying141
  a37 := Tryz.isAgg141
  z37 := Tryz.sizeOf141
  v37 := Tryz.zeroValue141
  t46 := Tryz.underlying119
  a46 := Tryz.isAgg119
  z46 := Tryz.sizeOf119
  v46 := Tryz.zeroValue119
  t51 := Tryz.underlying115
  a51 := Tryz.isAgg115
  z51 := Tryz.sizeOf115
  v51 := Tryz.zeroValue115
  t53 := Tryz.underlying72
  a53 := Tryz.isAgg72
  z53 := Tryz.sizeOf72
  v53 := Tryz.zeroValue72
  t171 := Tryz.underlying176
  a171 := Tryz.isAgg176
  z171 := Tryz.sizeOf176
  v171 := Tryz.zeroValue176
  t173 := Tryz.underlying179
  a173 := Tryz.isAgg179
  z173 := Tryz.sizeOf179
  v173 := Tryz.zeroValue179
  t212 := Tryz.underlying188
  a212 := Tryz.isAgg188
  z212 := Tryz.sizeOf188
  v212 := Tryz.zeroValue188
  t213 := Tryz.underlying189
  a213 := Tryz.isAgg189
  z213 := Tryz.sizeOf189
  t232 := Tryz.underlying196
  a232 := Tryz.isAgg196
  z232 := Tryz.sizeOf196
  v232 := Tryz.zeroValue196
  t233 := Tryz.underlying197
  a233 := Tryz.isAgg197
  z233 := Tryz.sizeOf197
  v233 := Tryz.zeroValue197
  g17 := by kernel_rfl
  g18 := by kernel_rfl
  g19 := by kernel_rfl
  i0 := by kernel_rfl
  i2 := by kernel_rfl
  i3 := by kernel_rfl
  i4 := by kernel_rfl
  i5 := by kernel_rfl
  i9 := by kernel_rfl
  i20 := by kernel_rfl
  i37 := by kernel_rfl
  i46 := by kernel_rfl
  i51 := by kernel_rfl
  i53 := by kernel_rfl
  i171 := by kernel_rfl
  i173 := by kernel_rfl
  i212 := by kernel_rfl
  i232 := by kernel_rfl
  i233 := by kernel_rfl
  m17 := by kernel_rfl
  m18 := by kernel_rfl
  m19 := by kernel_rfl }
open Go.RowKit Go.Sort Go.Lib in
theorem Tryz.strconv_Itoa (n : Int) (h0 : -9223372036854775808 ≤ n) (h1 : n ≤ 9223372036854775807) (w : World) (htab : Lib.TabIs Tryz.prog w "internal/strconv.uint64pow10" .u64 Lib.pow10Tab) :
    Calls Tryz.prog 90 #[.int .i64 n] w fun e w' => e = .returned (.string ⟨(Lib.itoa n).toArray⟩) ∧ ∃ k os, w' = grow (w.drewN k) os := Any.strconv_Itoa Tryz.laysM171 n h0 h1 w htab
def Tryz.lays105_ren : Go.Shelf.Ren := ⟨fun | 105 => 91 | 212 => 131 | 99 => 118 | 165 => 132 | 166 => 133 | 170 => 134 | 169 => 135 | 263 => 158 | 264 => 159 | 206 => 146 | 240 => 160 | 241 => 161 | 276 => 171 | 277 => 172 | n => n, fun | 9 => 9 | 3 => 3 | 4 => 4 | 20 => 20 | 0 => 0 | 46 => 119 | 109 => 138 | 5 => 5 | 72 => 143 | 76 => 147 | 51 => 115 | 146 => 169 | 53 => 72 | 148 => 171 | 70 => 140 | 37 => 141 | 75 => 146 | 127 => 173 | 164 => 184 | 80 => 150 | n => n, fun | n => n⟩
theorem Tryz.lays105 : Go.Proofs.Lays.n105 Tryz.prog Tryz.lays105_ren := {
  mixed := by kernel_rfl
  f99 := Tryz.func118.trans (congrArg some (by kernel_rfl))
  f105 := Tryz.func91.trans (congrArg some (by kernel_rfl))
  f165 := Tryz.func132.trans (congrArg some (by kernel_rfl))
  f166 := Tryz.func133.trans (congrArg some (by kernel_rfl))
  f169 := Tryz.func135.trans (congrArg some (by kernel_rfl))
  f170 := Tryz.func134.trans (congrArg some (by kernel_rfl))
  f206 := Tryz.func146.trans (congrArg some (by kernel_rfl))
  f212 := Tryz.func131.trans (congrArg some (by kernel_rfl))
  f240 := Tryz.func160.trans (congrArg some (by kernel_rfl))
  f241 := Tryz.func161.trans (congrArg some (by kernel_rfl))
  f263 := Tryz.func158.trans (congrArg some (by kernel_rfl))
  f264 := Tryz.func159.trans (congrArg some (by kernel_rfl))
  f276 := Tryz.func171.trans (congrArg some (by kernel_rfl))
  f277 := Tryz.func172.trans (congrArg some (by kernel_rfl))
  t0 := Tryz.underlying0
  a0 := Tryz.isAgg0
  z0 := Tryz.sizeOf0
  v0 := Tryz.zeroValue0
  t3 := Tryz.underlying3
  a3 := Tryz.isAgg3
  z3 := Tryz.sizeOf3
  v3 := Tryz.zeroValue3
  t4 := Tryz.underlying4
  a4 := Tryz.isAgg4
  z4 := Tryz.sizeOf4
  v4 := Tryz.zeroValue4
  t5 := Tryz.underlying5
  a5 := Tryz.isAgg5
  z5 := Tryz.sizeOf5
  v5 := Tryz.zeroValue5
  t9 := Tryz.underlying9
  a9 := Tryz.isAgg9
  z9 := Tryz.sizeOf9
  v9 := Tryz.zeroValue9
  t20 := Tryz.underlying20
  a20 := Tryz.isAgg20
  z20 := Tryz.sizeOf20
  v20 := Tryz.zeroValue20
  t37 := Tryz.underlying141
  a37 := Tryz.isAgg141
  z37 := Tryz.sizeOf141
  v37 := Tryz.zeroValue141
  t46 := Tryz.underlying119
  a46 := Tryz.isAgg119
  z46 := Tryz.sizeOf119
  v46 := Tryz.zeroValue119
  t51 := Tryz.underlying115
  a51 := Tryz.isAgg115
  z51 := Tryz.sizeOf115
  v51 := Tryz.zeroValue115
  t53 := Tryz.underlying72
  a53 := Tryz.isAgg72
  z53 := Tryz.sizeOf72
  v53 := Tryz.zeroValue72
  t70 := Tryz.underlying140
  a70 := Tryz.isAgg140
  z70 := Tryz.sizeOf140
  v70 := Tryz.zeroValue140
  t72 := Tryz.underlying143
  a72 := Tryz.isAgg143
  z72 := Tryz.sizeOf143
  v72 := Tryz.zeroValue143
  t75 := Tryz.underlying146
  a75 := Tryz.isAgg146
  z75 := Tryz.sizeOf146
  v75 := Tryz.zeroValue146
  t76 := Tryz.underlying147
  a76 := Tryz.isAgg147
  z76 := Tryz.sizeOf147
  v76 := Tryz.zeroValue147
  t109 := Tryz.underlying138
  a109 := Tryz.isAgg138
  z109 := Tryz.sizeOf138
  v109 := Tryz.zeroValue138
  t127 := Tryz.underlying173
  a127 := Tryz.isAgg173
  z127 := Tryz.sizeOf173
  v127 := Tryz.zeroValue173
  t146 := Tryz.underlying169
  a146 := Tryz.isAgg169
  z146 := Tryz.sizeOf169
  v146 := Tryz.zeroValue169
  t148 := Tryz.underlying171
  a148 := Tryz.isAgg171
  z148 := Tryz.sizeOf171
  v148 := Tryz.zeroValue171
  t164 := Tryz.underlying184
  a164 := Tryz.isAgg184
  z164 := Tryz.sizeOf184
  v164 := Tryz.zeroValue184 }
theorem Tryz.Builder_Extra_105 : Builder.Extra Tryz.prog Tryz.lays105_ren := {
  sizeBuilder := by kernel_rfl
  liesBuilder := by kernel_rfl
  t5 := Tryz.underlying5
  a5 := Tryz.isAgg5
  z5 := Tryz.sizeOf5
  v5 := Tryz.zeroValue5
  infoByte := by kernel_rfl
  cellsByte := by kernel_rfl
  sizeByte := by kernel_rfl
  neB5 := by decide }
open Go.RowKit Go.Lib in
theorem Tryz.strings_Repeat (s : ByteArray) (c : Nat) (w : World) (hc : c ≤ 9223372036854775807) (hlen : s.size * c ≤ 140737488355328) :
    Calls Tryz.prog 91 #[.string s, .int .i64 c] w fun e w' => e = .returned (.string ⟨(Lib.repeatL s.data.toList c).toArray⟩) ∧ Below w.heap.size w w' := Any.strings_Repeat Tryz.lays105 Tryz.Builder_Extra_105 s c w hc hlen
end Go.Proofs
end
section
namespace Go.Proofs.YteigbokklclmbaaGreatDoor.Z
open Go Go.RowKit Go.Sort Go.Proofs.YteigbokklclmbaaGreatDoor.Given Go.Proofs.YteigbokklclmbaaGreatDoorW.PrintWords Go.Proofs.YteigbokklclmbaaGreatDoorW.PrintLast Go.Proofs.YteigbokklclmbaaGreatDoorW.PrintMore
abbrev Table (w : World) : Prop := Lib.TabIs Tryz.prog w "internal/strconv.uint64pow10" .u64 Lib.pow10Tab
theorem tabAt {B : Nat} {w w' : World} (h : Lib.TabBelow Tryz.prog B w "internal/strconv.uint64pow10" .u64 Lib.pow10Tab) (hb : Below B w w') : Table w' := h w' hb
theorem iFormatUint_c (u : Nat) (hu64 : u < 18446744073709551616) (w : World) (ht : Table w) :
    Calls Tryz.prog 152 #[.int .u64 u, .int .i64 10] w fun e w' => e = .returned (.string ⟨(Lib.decDigits u).toArray⟩) ∧ Below w.heap.size w w' := by
  by_cases hs : u < 100
  · go_enter Tryz.func152, Tryz.ntmps152
    go_wp2_with fail
    refine (Tryz.internal_strconv_small u hs _).mono ?_
    rintro e w' ⟨rfl, rfl⟩
    go_wp2
    go_ret
    exact ⟨rfl, Below.refl _ _⟩
  · have hu1 : 1 ≤ u := by omega
    have hnd20 : Lib.nDigits u ≤ 20 := by have := Lib.numDigits_eq u hu1 hu64; split at this <;> omega
    have hal : Tryz.prog.arrayLen 176 = 24 := by simp [Program.arrayLen, Tryz.underlying176]
    have hsl : ∀ W, (Instr.sliceAt 176 (.pointer (some ⟨w.heap.size, 0, none⟩)) none (some (.int .i64 (Lib.nDigits u : Int))) none).run Tryz.prog W = .ok (.slice (some ⟨w.heap.size, 0, none⟩) (Lib.nDigits u) 24) W := fun W => by
      rw [run_sliceAt_array_h W 176 ⟨w.heap.size, 0, none⟩ (by simp [Program.arrayLen, Program.elem, Tryz.underlying176]) .i64 (Lib.nDigits u : Int) (by omega) (by rw [hal]; omega)]
      rw [hal]
      go_simp
      try omega
    have hH0 := Lib.holds_zero0 w 176 (Lib.nDigits u) (by omega)
    have hfmt := Tryz.internal_strconv_formatBase10 w.heap.size 0 24 u (Array.replicate (Lib.nDigits u) 0) (w.alloc (.cells Lib.zeros24 176)) hH0 (by rw [Array.size_replicate]; exact Lib.lt_pow_nDigits u) hu64 (by rw [Array.size_replicate]; omega)
    rw [Array.size_replicate] at hfmt
    have HH0 := Lib.hid hH0
    have HND := Lib.hid (Tryz.internal_strconv_numDigits u hu1 hu64 (w.alloc (.cells Lib.zeros24 176)) (Lib.tabIs_alloc ht _))
    have HF := Lib.hid hfmt
    clear hH0 hal hfmt ht
    go_enter Tryz.func152, Tryz.ntmps152
    go_wp2_with fail
    refine HND.out.mono ?_
    rintro e w' ⟨rfl, rfl⟩
    go_wp2_with fail
    refine HF.out.mono ?_
    rintro e w' ⟨rfl, k, v', dk, rfl, hF⟩
    have hcv : (convert 141 9 (.slice (some ⟨w.heap.size, 0, none⟩) (Lib.nDigits u) 24)).run Tryz.prog ((putRow (fun (b : UInt8) => Value.int .u8 (b.toNat : Int)) (w.alloc (.cells Lib.zeros24 176)) w.heap.size 0 dk).drewN k) = .ok (.string ⟨(Lib.decDigits u).toArray⟩) ((putRow (fun (b : UInt8) => Value.int .u8 (b.toNat : Int)) (w.alloc (.cells Lib.zeros24 176)) w.heap.size 0 dk).drewN k) := by
      have h := run_convert_bytes_back (P := Tryz.prog) ((putRow (fun (b : UInt8) => Value.int .u8 (b.toNat : Int)) (w.alloc (.cells Lib.zeros24 176)) w.heap.size 0 dk).drewN k) 141 9 5 ⟨w.heap.size, 0, none⟩ 24 (Lib.decDigits u) Tryz.underlying141 Tryz.underlying5 Tryz.underlying9 (fun j hj => by
        rw [Lib.row_is_numeral hF j hj, Lib.add_plain, World.cell?_drewN]
        exact cell?_putRow (fun (b : UInt8) => Value.int .u8 (b.toNat : Int)) _ w.heap.size 0 _ dk HH0.out (by rw [hF.size, Array.size_replicate]) j (by rw [hF.size]; rw [Lib.decDigits_length] at hj; exact hj))
      rw [Lib.decDigits_length] at h
      exact h
    go_wp2
    go_ret
    obtain ⟨os, eo⟩ := Lib.fin_at w (.cells Lib.zeros24 176) dk k 0
    exact ⟨rfl, by rw [eo]; exact Lib.below_grow w.heap.size w (Nat.le_refl _) k os⟩
theorem FormatUint_c (u : Nat) (hu64 : u < 18446744073709551616) (w : World) (ht : Table w) :
    Calls Tryz.prog 128 #[.int .u64 u, .int .i64 10] w fun e w' => e = .returned (.string ⟨(Lib.decDigits u).toArray⟩) ∧ Below w.heap.size w w' := by
  have H := Lib.hid (iFormatUint_c u hu64 w ht)
  clear ht
  go_enter Tryz.func128, Tryz.ntmps128
  go_wp2_with fail
  refine H.out.mono ?_
  rintro e w' ⟨rfl, hb⟩
  go_wp2
  go_ret
  exact ⟨rfl, hb⟩
def strconv_FormatUint.f (a0 a1 : Int) : Option ByteArray := if 0 ≤ a0 ∧ a0 < 18446744073709551616 ∧ a1 = 10 then some ⟨(Lib.decDigits a0.toNat).toArray⟩ else none
theorem strconv_FormatUint.calls (a0 a1 : Int) (r : ByteArray) (w : World) (h : strconv_FormatUint.f a0 a1 = some r) (ht : Table w) :
    Calls Tryz.prog 128 #[.int .u64 a0, .int .i64 a1] w fun e w' => e = .returned (.string r) ∧ Below w.heap.size w w' := by
  unfold strconv_FormatUint.f at h
  by_cases hc : 0 ≤ a0 ∧ a0 < 18446744073709551616 ∧ a1 = 10
  · rw [if_pos hc] at h
    obtain ⟨h0, h1, rfl⟩ := hc
    obtain ⟨u, rfl⟩ : ∃ u : Nat, a0 = u := ⟨a0.toNat, by omega⟩
    cases h
    exact FormatUint_c u (by omega) w ht
  · rw [if_neg hc] at h; cases h
def strconv_Itoa.f (a0 : Int) : Option ByteArray := if -9223372036854775808 ≤ a0 ∧ a0 ≤ 9223372036854775807 then some ⟨(Lib.itoa a0).toArray⟩ else none
theorem strconv_Itoa.calls (a0 : Int) (r : ByteArray) (w : World) (h : strconv_Itoa.f a0 = some r) (ht : Table w) :
    Calls Tryz.prog 90 #[.int .i64 a0] w fun e w' => e = .returned (.string r) ∧ Below w.heap.size w w' := by
  unfold strconv_Itoa.f at h
  by_cases hc : -9223372036854775808 ≤ a0 ∧ a0 ≤ 9223372036854775807
  · rw [if_pos hc] at h
    cases h
    refine (Tryz.strconv_Itoa a0 hc.1 hc.2 w ht).mono ?_
    rintro e w1 ⟨rfl, k, os, rfl⟩
    exact ⟨rfl, Lib.below_grow w.heap.size w (Nat.le_refl _) k os⟩
  · rw [if_neg hc] at h; cases h
def strings_TrimRight.f (a0 a1 : ByteArray) : Option ByteArray := if a0.size ≤ 9223372036854775807 ∧ a1 = ⟨#[48]⟩ then some ⟨(Lib.trimRightB a0.data.toList 48).toArray⟩ else none
theorem strings_TrimRight.calls (a0 a1 : ByteArray) (r : ByteArray) (w : World) (h : strings_TrimRight.f a0 a1 = some r) :
    Calls Tryz.prog 129 #[.string a0, .string a1] w fun e w' => e = .returned (.string r) ∧ Below w.heap.size w w' := by
  unfold strings_TrimRight.f at h
  by_cases hc : a0.size ≤ 9223372036854775807 ∧ a1 = ⟨#[48]⟩
  · rw [if_pos hc] at h
    obtain ⟨h0, rfl⟩ := hc
    cases h
    refine (Tryz.strings_TrimRight_one a0 48 (by decide) w h0).mono ?_
    rintro e w1 ⟨rfl, rfl⟩
    exact ⟨rfl, Below.refl _ _⟩
  · rw [if_neg hc] at h; cases h
def strings_Repeat.f (a0 : ByteArray) (a1 : Int) : Option ByteArray := if 0 ≤ a1 ∧ a1 ≤ 9223372036854775807 ∧ (a0.size : Int) * a1 ≤ 140737488355328 then some ⟨(Lib.repeatL a0.data.toList a1.toNat).toArray⟩ else none
theorem strings_Repeat.calls (a0 : ByteArray) (a1 : Int) (r : ByteArray) (w : World) (h : strings_Repeat.f a0 a1 = some r) :
    Calls Tryz.prog 91 #[.string a0, .int .i64 a1] w fun e w' => e = .returned (.string r) ∧ Below w.heap.size w w' := by
  unfold strings_Repeat.f at h
  by_cases hc : 0 ≤ a1 ∧ a1 ≤ 9223372036854775807 ∧ (a0.size : Int) * a1 ≤ 140737488355328
  · rw [if_pos hc] at h
    obtain ⟨h0, h1, h2⟩ := hc
    obtain ⟨c, rfl⟩ : ∃ c : Nat, a1 = c := ⟨a1.toNat, by omega⟩
    cases h
    exact Tryz.strings_Repeat a0 c w (by omega) (Int.ofNat_le.mp (by rw [Int.natCast_mul]; exact h2))
  · rw [if_neg hc] at h; cases h
end Go.Proofs.YteigbokklclmbaaGreatDoor.Z
end
section
namespace Go.Proofs.YteigbokklclmbaaGreatDoor.Z
open Go.RowKit Go.Proofs.YteigbokklclmbaaGreatDoor.Given Go.Proofs.YteigbokklclmbaaGreatDoorW.PrintWords Go.Proofs.YteigbokklclmbaaGreatDoorW.PrintLast Go.Proofs.YteigbokklclmbaaGreatDoorW.PrintMore
attribute [local go_sem] max2_int min2_int max_two min_two max_three min_three max_four min_four

def real_scaled.j0 : Nat → Int → List Int → List Int → Option (List Int × List Int)
 | 0, _, _, _ => none
 | k + 1, x2, x8, x9 => if x2 ≥ 0 then ((real_pow10.f k x2).bind fun t366 => ((real_nat_mul.f k x8 t366).bind fun t369 => (some (t369, x9)))) else ((real_pow10.f k (wrap64 (-x2))).bind fun t372 => ((real_nat_mul.f k x9 t372).bind fun t375 => (some (x8, t375))))
def real_scaled.f (k : Nat) (l0 : List Int) (a1 : Int) (a2 : Int) : Option (List Int × List Int) := (some (([1] : List Int) : List Int)).bind fun y357 => (if a1 ≥ 0 then ((real_nat_shl.f k l0 a1).bind fun t360 => (real_scaled.j0 k a2 t360 y357)) else ((real_nat_shl.f k y357 (wrap64 (-a1))).bind fun t363 => (real_scaled.j0 k a2 l0 t363)))
theorem real_scaled.mono_l : ∀ k, (∀ y0 y1 y2, LeO (real_scaled.j0 k y0 y1 y2) (real_scaled.j0 (k + 1) y0 y1 y2))
 | 0 => fun _ _ _ r h => by simp [real_scaled.j0] at h
 | k + 1 => by
  have ih0 := real_scaled.mono_l k
  ·intro y0 y1 y2
   unfold real_scaled.j0
   repeat' first
   | (with_reducible exact ih0 _ _ _)
   | (with_reducible exact real_nat_mul.mono _ _ _)
   | (with_reducible exact real_nat_shl.mono _ _ _)
   | (with_reducible exact real_pow10.mono _ _)
   | (with_reducible exact LeO.refl _)
   | (with_reducible exact LeO.none _)
   | (with_reducible refine LeO.ite ?_ ?_)
   | (with_reducible refine LeO.bind ?_ (fun _ => ?_))
   | exact ih0 _ _ _
   | exact real_nat_mul.mono _ _ _
   | exact real_nat_shl.mono _ _ _
   | exact real_pow10.mono _ _
   | exact LeO.none _
   | refine LeO.ite ?_ ?_
   | refine LeO.bind ?_ (fun _ => ?_)
theorem real_scaled.mono : ∀ a0 a1 a2 k, LeO (real_scaled.f k a0 a1 a2) (real_scaled.f (k + 1) a0 a1 a2) := by
 intro a0 a1 a2 k
 have ih0 := real_scaled.mono_l k
 unfold real_scaled.f
 repeat' first
   | (with_reducible exact ih0 _ _ _)
   | (with_reducible exact real_nat_mul.mono _ _ _)
   | (with_reducible exact real_nat_shl.mono _ _ _)
   | (with_reducible exact real_pow10.mono _ _)
   | (with_reducible exact LeO.refl _)
   | (with_reducible exact LeO.none _)
   | (with_reducible refine LeO.ite ?_ ?_)
   | (with_reducible refine LeO.bind ?_ (fun _ => ?_))
   | exact ih0 _ _ _
   | exact real_nat_mul.mono _ _ _
   | exact real_nat_shl.mono _ _ _
   | exact real_pow10.mono _ _
   | exact LeO.none _
   | refine LeO.ite ?_ ?_
   | refine LeO.bind ?_ (fun _ => ?_)
theorem real_scaled.calls (k : Nat) (P0_ : Nat → Prop) (A0 : Option Addr) (c0 : Nat) (l0 : List Int) (a1 : Int) (a2 : Int) (r1 : List Int) (r2 : List Int) (w : World) (hs0 : Kd.V (Kd.int .u32) 115 w w.heap.size (fun k_ => P0_ k_) (.slice A0 l0.length c0) l0) (h : real_scaled.f k l0 a1 a2 = some (r1, r2)) :
  Calls Tryz.prog 122 #[.slice A0 l0.length c0, .int .i64 a1, .int .i64 a2] w fun e w' => ∃ v0_ v1_ : Value, e = .returned (.tuple #[v0_, v1_]) ∧ Kd.V (Kd.int .u32) 115 w' w.heap.size (fun k_ => (P0_ k_ ∨ w.heap.size ≤ k_)) v0_ r1 ∧ Kd.V (Kd.int .u32) 115 w' w.heap.size (fun k_ => (P0_ k_ ∨ w.heap.size ≤ k_)) v1_ r2 ∧ Below w.heap.size w w' := by
 have HO0 := Aside0.mk (show Kd.V (Kd.int .u32) 115 w w.heap.size (fun k_ => (P0_ k_ ∨ w.heap.size ≤ k_)) (.slice A0 l0.length c0) l0 from Kd.V_mono hs0 (fun k_ hk => .inl hk))
 have HB := Aside0.mk (Below.refl w.heap.size w)
 have H := h; unfold real_scaled.f at H; clear h
 obtain ⟨y357, hy357⟩ : ∃ y_ : List Int, y_ = (([1] : List Int)) := ⟨_, rfl⟩
 replace H : (if a1 ≥ 0 then ((real_nat_shl.f k l0 a1).bind fun t360 => (real_scaled.j0 k a2 t360 y357)) else ((real_nat_shl.f k y357 (wrap64 (-a1))).bind fun t363 => (real_scaled.j0 k a2 l0 t363))) = some (r1, r2) := by first | (rw [hy357]; with_reducible exact H) | (have H2_ := (Option.bind_some _ _).symm.trans H; rw [hy357]; with_reducible exact H2_) | (have H2_ := (Option.bind_some _ _).symm.trans H; with_reducible exact H2_) | with_reducible exact H | (rw [hy357]; exact H) | exact H
 have Ny357 := Aside0.mk hy357
 clear hy357
 have HC4 := Aside0.mk H
 clear H
 go_enter Tryz.func122, Tryz.ntmps122
 go_upto_if 13 with (first | ((with_reducible refine gate_dst (N := 11) rfl ?_); refine Kd.R_lit (Kd.int .u32) _ 115 ?hg (N := 11) ?hd (xs := ([1] : List Int)) (inner := [.int .u32 1]) (ok := fun _ => True) (okp := fun _ => True) ?hr ?hp (fun _ hk => hk) trivial (Below.refl _ _) (Nat.le_refl _) (by simp) ?_; (case hd => rfl); (case hg => rfl); (case hr => first | (go_simp; done) | (go_simp; rfl)); (case hp => exact (Reps.one (show Kd.M (Kd.int .u32) _ _ _ 1 [.int .u32 1] from rfl) (Reps.none _ _))); intro v358 w5 ho6 hb hg_ hnew_; clear hg_ hnew_; (first | rw [← Ny357.out] at ho6 | (simp only [Int.reduceToNat] at ho6; rw [← Ny357.out] at ho6)); have HO359 := Aside0.mk (Kd.R_lower (Kd.R_newM (M := fun k_ => (w.heap.size ≤ k_)) ho6 (below_size bz) (fun k_ h_ => h_)) (below_size bz)); replace HO0 := Aside0.mk (Kd.V_elder' (vz HO0) (Kd.R_base ho6) hb); replace HB := bs hb; clear hb ho6))
 (try simp only [Act.put, List.setIfInBounds_toArray, List.set_cons_zero, List.set_cons_succ])
 go_cut [8, 9] (fun v8 v9 wc => ∃ (kq : Nat) (x8_3 : List Int) (x9_3 : List Int), Aside0 (real_scaled.j0 kq a2 x8_3 x9_3 = some (r1, r2)) ∧ Aside0 (kq ≤ k) ∧ Aside0 (Kd.V (Kd.int .u32) 115 wc w.heap.size (fun k_ => (P0_ k_ ∨ w.heap.size ≤ k_)) v8 x8_3) ∧ Aside0 (Kd.V (Kd.int .u32) 115 wc w.heap.size (fun k_ => (P0_ k_ ∨ w.heap.size ≤ k_)) v9 x9_3) ∧ Aside0 (Below w.heap.size w wc))
 case first => as_aux_lemma =>
  have H := HC4.out
  clear HC4
  by_cases c7 : a1 ≥ 0
  ·rw [if_pos c7] at H
   have c7b0 : decide (0 ≤ a1) = true := decide_eq_true c7
   clear c7
   (first | rw [c7b0] | (simp only [i64_w, i32_w]; rw [c7b0]) | skip)
   replace H := Option.bind_eq_some_iff.mp H
   obtain ⟨t360, A80, H⟩ := H
   try dsimp only at H
   have A8 := Aside0.mk A80
   clear A80
   have H' := Aside0.mk H
   clear H
   go_wp2_with (first | ((with_reducible refine gate_callee (f := 126) rfl ?_); refine gL 16 Tryz.func126 #[.slice A0 l0.length c0, .int .i64 a1] ?_; (with_reducible refine (real_nat_shl.calls k _ _ l0 a1 t360 _ ?side1 ?side2 A8.out).mono ?_); (case side1 => exact ccz (Kd.V_reads' HO0.out).2.2); (case side2 => exact (Kd.V_reads' HO0.out).2.1); rintro e w9 ⟨v361, rfl, ho0, hb⟩; refine ⟨_, rfl, ?_⟩; have HO362 := Aside0.mk (Kd.V_lower (Kd.V_mono (ok' := fun k_ => (P0_ k_ ∨ w.heap.size ≤ k_) ∧ some k_ ≠ (v358 : Value).ownBlock) ho0 (fun k_ hk_ => ⟨(.inr (Nat.le_trans (below_size bz) hk_)), (Kd.fresh' (Kd.R_lt (rz HO359)) k_ hk_)⟩)) (below_size bz)); replace HO0 := vb HO0 hb; replace HO359 := rb HO359 hb; replace HB := bs hb; (try clear hb); (try clear hk); (try clear ho0)))
   go_meet
   case rel => exact ⟨_, (t360), (y357), H', ⟨by first | omega | exact Nat.le_refl _⟩, ⟨by (with_reducible repeat (first | apply Kd.V_alloc | apply Kd.V_drewN | apply Kd.V_drew)); exact Kd.V_mono HO362.out (fun _ hk => hk.1)⟩, ⟨Kd.V_mono (Kd.R_V (by (with_reducible repeat (first | apply Kd.R_alloc | apply Kd.R_drewN | apply Kd.R_drew)); exact Kd.R_mono HO359.out (fun _ hk => hk.1))) (fun k_ hk => by first | exact ⟨(.inr (hk.1)), hk.2⟩ | exact (.inr (hk)))⟩, ⟨bz⟩⟩
  ·rw [if_neg c7] at H
   have c7b0 : decide (0 ≤ a1) = false := decide_eq_false c7
   clear c7
   (first | rw [c7b0] | (simp only [i64_w, i32_w]; rw [c7b0]) | skip)
   replace H := Option.bind_eq_some_iff.mp H
   obtain ⟨t363, A100, H⟩ := H
   try dsimp only at H
   have A10 := Aside0.mk A100
   clear A100
   have H' := Aside0.mk H
   clear H
   obtain ⟨Ao11, co11, eo11⟩ := Kd.R_slice HO359.out
   subst eo11
   go_wp2_with (first | ((with_reducible refine gate_callee (f := 126) rfl ?_); refine gL 20 Tryz.func126 #[.slice Ao11 y357.length co11, .int .i64 (wrap64 (-a1))] ?_; (with_reducible refine (real_nat_shl.calls k _ _ y357 (wrap64 (-a1)) t363 _ ?side1 ?side2 A10.out).mono ?_); (case side1 => exact ccz (Kd.R_reads' HO359.out).2.2); (case side2 => exact (Kd.R_reads' HO359.out).2.1); rintro e w12 ⟨v364, rfl, ho0, hb⟩; refine ⟨_, rfl, ?_⟩; have HO365 := Aside0.mk (Kd.V_lower (Kd.V_mono (ok' := fun k_ => (P0_ k_ ∨ w.heap.size ≤ k_) ∧ some k_ ≠ (.slice Ao11 y357.length co11 : Value).ownBlock) ho0 (fun k_ hk_ => ⟨(.inr (Nat.le_trans (below_size bz) hk_)), (Kd.fresh' (Kd.R_lt (rz HO359)) k_ hk_)⟩)) (below_size bz)); replace HO0 := vb HO0 hb; replace HO359 := rb HO359 hb; replace HB := bs hb; (try clear hb); (try clear hk); (try clear ho0)))
   go_meet
   case rel => exact ⟨_, (l0), (t363), H', ⟨by first | omega | exact Nat.le_refl _⟩, ⟨by (with_reducible repeat (first | apply Kd.V_alloc | apply Kd.V_drewN | apply Kd.V_drew)); exact Kd.V_mono HO0.out (fun _ hk => hk.1)⟩, ⟨by (with_reducible repeat (first | apply Kd.V_alloc | apply Kd.V_drewN | apply Kd.V_drew)); exact Kd.V_mono HO365.out (fun _ hk => hk.1)⟩, ⟨bz⟩⟩
 case rest => as_aux_lemma =>
  clear HC4
  try clear c7
  try clear c7b0
  obtain ⟨kq, x8_3, x9_3, HA, HJ3, HO_8, HO_9, HB⟩ := hcut
  cases kq with
  | zero => exact absurd HA.out (by simp [real_scaled.j0])
  | succ kj3 =>
   have H := HA.out
   clear HA
   simp only [real_scaled.j0] at H
   by_cases c13 : a2 ≥ 0
   ·rw [if_pos c13] at H
    have c13b0 : decide (0 ≤ a2) = true := decide_eq_true c13
    clear c13
    replace H := Option.bind_eq_some_iff.mp H
    obtain ⟨t366, A140, H⟩ := H
    try dsimp only at H
    have A14 := Aside0.mk A140
    clear A140
    replace H := Option.bind_eq_some_iff.mp H
    obtain ⟨t369, A150, H⟩ := H
    try dsimp only at H
    have A15 := Aside0.mk A150
    clear A150
    simp only [Option.some.injEq, Prod.mk.injEq] at H
    obtain ⟨rfl, rfl⟩ := H
    go_wp2_with (first | ((with_reducible refine gate_callee (f := 119) rfl ?_); refine gL 25 Tryz.func119 #[.int .i64 a2] ?_; (with_reducible refine (real_pow10.calls kj3 a2 t366 _ A14.out).mono ?_); rintro e w16 ⟨v367, rfl, ho0, hb⟩; refine ⟨_, rfl, ?_⟩; have HO368 := Aside0.mk (Kd.V_lower (Kd.V_mono (ok' := fun k_ => (P0_ k_ ∨ w.heap.size ≤ k_)) ho0 (fun k_ hk_ => (.inr (Nat.le_trans (below_size bz) hk_)))) (below_size bz)); replace HO_8 := vb HO_8 hb; replace HO_9 := vb HO_9 hb; replace HB := bs hb; (try clear hb); (try clear hk); (try clear ho0); obtain ⟨Ao17, co17, eo17⟩ := Kd.V_slice HO_8.out; subst eo17; obtain ⟨Ao18, co18, eo18⟩ := Kd.V_slice HO368.out; subst eo18) | ((with_reducible refine gate_callee (f := 116) rfl ?_); refine gL 26 Tryz.func116 #[.slice Ao17 x8_3.length co17, .slice Ao18 t366.length co18] ?_; (with_reducible refine (real_nat_mul.calls kj3 _ _ x8_3 _ _ t366 t369 _ ?side1 ?side2 ?side3 ?side4 A15.out).mono ?_); (case side1 => exact ccz (Kd.V_reads' HO_8.out).2.2); (case side2 => exact (Kd.V_reads' HO_8.out).2.1); (case side3 => exact ccz (Kd.V_reads' HO368.out).2.2); (case side4 => exact (Kd.V_reads' HO368.out).2.1); rintro e w19 ⟨v370, rfl, ho0, hb⟩; refine ⟨_, rfl, ?_⟩; have HO371 := Aside0.mk (Kd.V_lower (Kd.V_mono (ok' := fun k_ => (P0_ k_ ∨ w.heap.size ≤ k_)) ho0 (fun k_ hk_ => (.inr (Nat.le_trans (below_size bz) hk_)))) (below_size bz)); replace HO_8 := vb HO_8 hb; replace HO_9 := vb HO_9 hb; replace HO368 := vb HO368 hb; replace HB := bs hb; (try clear hb); (try clear hk); (try clear ho0)))
    go_ret2
    exact ⟨_, _, by first | rfl | (simp [errW_none, errW_some] <;> rfl) | (simp [*, errW_none, errW_some] <;> rfl), by (with_reducible repeat (first | apply Kd.V_alloc | apply Kd.V_drewN | apply Kd.V_drew)); exact HO371.out, by (with_reducible repeat (first | apply Kd.V_alloc | apply Kd.V_drewN | apply Kd.V_drew)); exact HO_9.out, bz⟩
   ·rw [if_neg c13] at H
    have c13b0 : decide (0 ≤ a2) = false := decide_eq_false c13
    clear c13
    replace H := Option.bind_eq_some_iff.mp H
    obtain ⟨t372, A200, H⟩ := H
    try dsimp only at H
    have A20 := Aside0.mk A200
    clear A200
    replace H := Option.bind_eq_some_iff.mp H
    obtain ⟨t375, A210, H⟩ := H
    try dsimp only at H
    have A21 := Aside0.mk A210
    clear A210
    simp only [Option.some.injEq, Prod.mk.injEq] at H
    obtain ⟨rfl, rfl⟩ := H
    go_wp2_with (first | ((with_reducible refine gate_callee (f := 119) rfl ?_); refine gL 30 Tryz.func119 #[.int .i64 (wrap64 (-a2))] ?_; (with_reducible refine (real_pow10.calls kj3 (wrap64 (-a2)) t372 _ A20.out).mono ?_); rintro e w22 ⟨v373, rfl, ho0, hb⟩; refine ⟨_, rfl, ?_⟩; have HO374 := Aside0.mk (Kd.V_lower (Kd.V_mono (ok' := fun k_ => (P0_ k_ ∨ w.heap.size ≤ k_)) ho0 (fun k_ hk_ => (.inr (Nat.le_trans (below_size bz) hk_)))) (below_size bz)); replace HO_8 := vb HO_8 hb; replace HO_9 := vb HO_9 hb; replace HB := bs hb; (try clear hb); (try clear hk); (try clear ho0); obtain ⟨Ao23, co23, eo23⟩ := Kd.V_slice HO_9.out; subst eo23; obtain ⟨Ao24, co24, eo24⟩ := Kd.V_slice HO374.out; subst eo24) | ((with_reducible refine gate_callee (f := 116) rfl ?_); refine gL 31 Tryz.func116 #[.slice Ao23 x9_3.length co23, .slice Ao24 t372.length co24] ?_; (with_reducible refine (real_nat_mul.calls kj3 _ _ x9_3 _ _ t372 t375 _ ?side1 ?side2 ?side3 ?side4 A21.out).mono ?_); (case side1 => exact ccz (Kd.V_reads' HO_9.out).2.2); (case side2 => exact (Kd.V_reads' HO_9.out).2.1); (case side3 => exact ccz (Kd.V_reads' HO374.out).2.2); (case side4 => exact (Kd.V_reads' HO374.out).2.1); rintro e w25 ⟨v376, rfl, ho0, hb⟩; refine ⟨_, rfl, ?_⟩; have HO377 := Aside0.mk (Kd.V_lower (Kd.V_mono (ok' := fun k_ => (P0_ k_ ∨ w.heap.size ≤ k_)) ho0 (fun k_ hk_ => (.inr (Nat.le_trans (below_size bz) hk_)))) (below_size bz)); replace HO_8 := vb HO_8 hb; replace HO_9 := vb HO_9 hb; replace HO374 := vb HO374 hb; replace HB := bs hb; (try clear hb); (try clear hk); (try clear ho0)))
    go_ret2
    exact ⟨_, _, by first | rfl | (simp [errW_none, errW_some] <;> rfl) | (simp [*, errW_none, errW_some] <;> rfl), by (with_reducible repeat (first | apply Kd.V_alloc | apply Kd.V_drewN | apply Kd.V_drew)); exact HO_8.out, by (with_reducible repeat (first | apply Kd.V_alloc | apply Kd.V_drewN | apply Kd.V_drew)); exact HO377.out, bz⟩

end Go.Proofs.YteigbokklclmbaaGreatDoor.Z
end
section
namespace Go.Proofs.YteigbokklclmbaaGreatDoor.Z
open Go Go.RowKit Go.Shelf Go.Proofs.YteigbokklclmbaaGreatDoor.Given Go.Proofs.YteigbokklclmbaaGreatDoorW.PrintWords Go.Proofs.YteigbokklclmbaaGreatDoorW.PrintLast Go.Proofs.YteigbokklclmbaaGreatDoorW.PrintMore
attribute [local go_sem] Oper.semAt_some
/-- The digits from a place on. -/
def digsFrom (s : ByteArray) : Nat → Nat → List Int
  | 0, _ => []
  | f + 1, i => if 48 ≤ bt s (i : Int) then (if bt s (i : Int) ≤ 57 then (bt s (i : Int) - 48) :: digsFrom s f (i + 1) else []) else []
def digs (s : ByteArray) : List Int := digsFrom s s.size 0
theorem digsFrom_len (s : ByteArray) : ∀ f i, (digsFrom s f i).length ≤ f
  | 0, _ => Nat.le_refl _
  | f + 1, i => by
    unfold digsFrom; split
    · split
      · have := digsFrom_len s f (i + 1); simp; exact this
      · simp
    · simp
theorem digs_len (s : ByteArray) : (digs s).length ≤ s.size := digsFrom_len s _ _
/-- The string's box lies as it lay. -/
def KB (Bn : Nat) (W W' : World) : Prop := W'.heap[Bn]? = W.heap[Bn]?
theorem digits1_in (n : Nat) (hn : 1 ≤ n) (l Bn : Nat) (s : ByteArray) (hs : s.size < 1000000000000) (J Jx : List Int → World → Prop)
    (hY : ∀ pre x W, J pre W → pre.length < s.size → YieldAt Fence.wide (n - 1) Tryz.prog l #[.int .i64 x] W fun e W' =>
      (e = .returned (.bool true) ∧ J (pre ++ [x]) W' ∧ KB Bn W W') ∨ (e = .returned (.bool false) ∧ Jx (pre ++ [x]) W'))
    (W : World) (hBn : W.cell? ⟨Bn, 0, none⟩ = some (.string s)) (h0 : J [] W) :
    CallsIn Fence.wide n Tryz.prog 147 #[.func (.yield l) #[] #[], .pointer (some ⟨Bn, 0, none⟩)] W fun e W' => (∃ v, e = .returned v) ∧
      ((∃ ys, ys = digs s ∧ J ys W') ∨ (∃ pre, pre <+: digs s ∧ Jx pre W')) := by
  refine callsIn_of_wp Tryz.func147 rfl trivial ?_ rfl
  simp only [Tryz.ntmps147, List.size_toArray, List.length_cons, List.length_nil, Nat.reduceAdd, Nat.reduceSub, Array.replicate_succ, Array.replicate_zero, List.push_toArray, List.append_toArray, List.nil_append, List.cons_append]
  have HS := Lib.hid hs
  have HY := Lib.hid hY
  clear hY hs
  gi_wp2
  gi_loopw [3] (fun p wr => ∃ (pre : List Int), p = .int .i64 (pre.length : Int) ∧ Hid (digs s = pre ++ digsFrom s (s.size - pre.length) pre.length ∧ pre.length ≤ s.size ∧ J pre wr ∧ wr.cell? ⟨Bn, 0, none⟩ = some (.string s)))
    (fun p wr => s.size - (intOf p).toNat)
  case atStart =>
    exact ⟨[], rfl, ⟨rfl, by simp, h0, hBn⟩⟩
  case round =>
    obtain ⟨pre, rfl, hx⟩ := hrel
    have hcell := hx.out.2.2.2
    have hsz := HS.out
    by_cases hlt : pre.length < s.size
    · have hbt : ((s[pre.length]'hlt).toNat : Int) = bt s (pre.length : Int) := bt_at s (pre.length : Int) hlt
      have hbr := bt_range s (pre.length : Int)
      have hstep : digsFrom s (s.size - pre.length) pre.length = if 48 ≤ bt s (pre.length : Int) then (if bt s (pre.length : Int) ≤ 57 then (bt s (pre.length : Int) - 48) :: digsFrom s (s.size - (pre.length + 1)) (pre.length + 1) else []) else [] := by
        rw [show s.size - pre.length = (s.size - (pre.length + 1)) + 1 by omega, digsFrom]
      have HST := Lib.hid hstep
      clear hstep
      obtain ⟨d, hd⟩ : ∃ d, bt s (pre.length : Int) = d := ⟨_, rfl⟩
      have HD := Lib.hid hd
      rw [hd] at hbt hbr
      clear hd
      have hw : wrap64 ((pre.length : Int) + 1) = ((pre.length + 1 : Nat) : Int) := by rw [w64 _ (by omega) (by omega)]; omega
      by_cases h48 : 48 ≤ d
      · by_cases h57 : d ≤ 57
        · have hsub : IntKind.u8.wrap (d - 48) = d - 48 := by simp [IntKind.wrap, IntKind.bits, IntKind.signed]; omega
          obtain ⟨fn, tmps, assign, body, hy, hR⟩ := HY.out pre (d - 48) wr hx.out.2.2.1 hlt
          have hcons : digs s = (pre ++ [d - 48]) ++ digsFrom s (s.size - (pre ++ [d - 48]).length) (pre ++ [d - 48]).length := by
            rw [hx.out.1, HST.out, HD.out, if_pos h48, if_pos h57]; simp
          have HC := Lib.hid hcons
          clear hcons
          gi_wp2
          refine hR.mono ?_
          rintro e W3 (⟨rfl, hJ3, hk3⟩ | ⟨rfl, hJx3⟩)
          · have hcell3 : W3.cell? ⟨Bn, 0, none⟩ = some (.string s) := (World.cell?_of_block (a := ⟨Bn, 0, none⟩) (show W3.heap[Bn]? = wr.heap[Bn]? from hk3)).trans hcell
            gi_wp2
            go_roundw
            case rel => exact ⟨pre ++ [d - 48], by simp, ⟨HC.out, by simp; omega, hJ3, hcell3⟩⟩
            case measure => simp [intOf]; omega
          · gi_wp2
            refine bodyPost_ret (results_none rfl _ _ _) rfl ?_
            refine ⟨⟨_, rfl⟩, .inr ⟨pre ++ [d - 48], ?_, hJx3⟩⟩
            rw [HC.out]
            exact List.prefix_append _ _
        · have hall : digs s = pre := by rw [hx.out.1, HST.out, HD.out, if_pos h48, if_neg h57, List.append_nil]
          gi_wp2
          go_end0
          refine ⟨⟨_, rfl⟩, .inl ?_⟩
          first | exact ⟨pre, hall.symm, hx.out.2.2.1⟩ | exact hx.out.2.2.1 | (rw [hall]; exact hx.out.2.2.1)
      · have hall : digs s = pre := by rw [hx.out.1, HST.out, HD.out, if_neg h48, List.append_nil]
        gi_wp2
        go_end0
        refine ⟨⟨_, rfl⟩, .inl ?_⟩
        first | exact ⟨pre, hall.symm, hx.out.2.2.1⟩ | exact hx.out.2.2.1 | (rw [hall]; exact hx.out.2.2.1)
    · have hall : digs s = pre := by rw [hx.out.1, show s.size - pre.length = 0 by omega, digsFrom, List.append_nil]
      gi_wp2
      go_end0
      refine ⟨⟨_, rfl⟩, .inl ?_⟩
      first | exact ⟨pre, hall.symm, hx.out.2.2.1⟩ | exact hx.out.2.2.1 | (rw [hall]; exact hx.out.2.2.1)
/-- digits hands back the iterator; the string lies in a box of its own. -/
theorem digits_c (s : ByteArray) (w : World) : Calls Tryz.prog 115 #[.string s] w fun e w' => e = .returned (.func (.func 147) #[] #[.pointer (some ⟨w.heap.size, 0, none⟩)]) ∧ w' = w.alloc (.cells #[.string s] 9) := by
  have hmf : ∀ (fn : Fn) (first cap : Array Value) (w : World), (Instr.makeFunc fn first cap).run Tryz.prog w = .ok (.func fn first cap) w := fun _ _ _ _ => rfl
  go_enter Tryz.func115, Tryz.ntmps115
  go_wp2
  go_ret
  exact ⟨rfl, rfl⟩
theorem digits_stops (n : Nat) (hn : 1 ≤ n) (Bn : Nat) (s : ByteArray) (hs : s.size < 1000000000000) (w : World) (hBn : Bn < w.heap.size) (hb : w.cell? ⟨Bn, 0, none⟩ = some (.string s)) :
    SeqStopsK Fence.wide n Tryz.prog 147 #[.pointer (some ⟨Bn, 0, none⟩)] (fun x : Int => #[.int .i64 x]) (KB Bn) (fun xs => xs = digs s) (fun xs => xs <+: digs s) s.size w :=
  fun l J Jx W hW hJ hJx hY h0 => digits1_in n hn l Bn s hs J Jx hY W ((hW.cell (p := ⟨Bn, 0, none⟩) hBn).trans hb) h0
theorem KB_t {Bn : Nat} {A B C : World} (h : KB Bn A B) (k : KB Bn B C) : KB Bn A C := Eq.trans k h
theorem KB_b {Bn : Nat} {w : World} (hn : Bn < w.heap.size) (W : World) (l : Nat) (o o' : Obj) (hl : w.heap.size ≤ l) (h : W.heap[l]? = some o) (_ : o.isCells = false) (_ : o.isWalk = false) : KB Bn W (W.putObj l o') := World.putObj_heap_other (by omega)
end Go.Proofs.YteigbokklclmbaaGreatDoor.Z
end
section
namespace Go.Proofs.YteigbokklclmbaaGreatDoor.Z
open Go Go.RowKit Go.Proofs.YteigbokklclmbaaGreatDoor.Given Go.Proofs.YteigbokklclmbaaGreatDoorW.PrintWords Go.Proofs.YteigbokklclmbaaGreatDoorW.PrintLast Go.Proofs.YteigbokklclmbaaGreatDoorW.PrintMore
theorem catch_idle (p q : Addr) (w : World) :
    CallsD Tryz.prog 112 #[.pointer (some p), .pointer (some q)] .returning w fun e u' w' => e = .returned (.tuple #[]) ∧ u' = .returning ∧ w' = w := by
  refine callsD_of_wpS Tryz.func112 rfl fun c₀ cs hu => ?_
  apply wpS_seq
  apply wpS_region
  simp [wpOpsS, go_sem, recoverD, hu, Tryz.ntmps112, Exit.thenS]
  refine wpS_of_wp ?_
  change Code.wp _ _ _ { tmps := #[.pointer (some p), .pointer (some q), .nilIface, undef, undef, .nilIface, undef, undef, undef, undef, undef, undef, undef, undef, undef, undef, undef], defers := [] } _
  go_wp2
  cases c₀
  simp_all [bodyPostS, results, Tryz.results112]
theorem isOverflow (w : World) : Sem.run Tryz.prog (Instr.typeAssert (Value.iface 75 (Value.agg #[])) 20 75 true) w = .ok (.tuple #[.agg #[], .bool true]) w := by kernel_rfl
/-- What the deferred function does behind a panic: the result is laid. -/
def laidEnd (b c : Nat) (w : World) : World := (((w.setCell ⟨b, 0, none⟩ (.int .i64 0)).setCell ⟨b, 1, none⟩ (.int .i64 0)).setCell ⟨c, 0, none⟩ (.int .i64 3)).alloc (.cells #[] 75)
theorem catch_panicking (b c : Nat) (x0 x1 y0 : Value) (older : List PanicEntry) (w : World) (hb : w.heap[b]? = some (.cells #[x0, x1] 23 (0, 0))) (hc : w.heap[c]? = some (.cells #[y0] 24 (0, 0))) (hne : b ≠ c) :
    CallsD Tryz.prog 112 #[.pointer (some ⟨b, 0, none⟩), .pointer (some ⟨c, 0, none⟩)] (.panicking ({ v := .iface 75 (.agg #[]), recovered := false } :: older)) w fun e u' w' => e = .returned (.tuple #[]) ∧ u' = .panicking ({ v := .iface 75 (.agg #[]), recovered := true } :: older) ∧ w' = laidEnd b c w := by
  have h0 := blk_cell hb 0
  have h1 := blk_cell hb 1
  have h2 := blk_cell hc 0
  have g0 := blk_frozen hb 0
  have g1 := blk_frozen hb 1
  have g2 := blk_frozen hc 0
  have l0 := blk_lt hb
  have l1 := blk_lt hc
  simp at h0 h1 h2
  have hta := isOverflow
  clear hb hc
  refine callsD_of_wpS Tryz.func112 rfl fun c₀ cs hu => ?_
  apply wpS_seq
  apply wpS_region
  simp [wpOpsS, go_sem, recoverD, hu, Tryz.ntmps112, Exit.thenS]
  refine wpS_of_wp ?_
  change Code.wp _ _ _ { tmps := #[.pointer (some ⟨b, 0, none⟩), .pointer (some ⟨c, 0, none⟩), .iface 75 (.agg #[]), undef, undef, .iface 75 (.agg #[]), undef, undef, undef, undef, undef, undef, undef, undef, undef, undef, undef], defers := [] } _
  go_wp2
  exact ⟨rfl, _, rfl, .tuple #[], by simp [results, Tryz.results112], rfl, rfl, rfl⟩
theorem laid_cells {b c : Nat} {x0 x1 y0 : Value} {w : World} (hb : w.heap[b]? = some (.cells #[x0, x1] 23 (0, 0))) (hc : w.heap[c]? = some (.cells #[y0] 24 (0, 0))) (hne : b ≠ c) (u0 u1 v0 : Value) :
    (((w.setCell ⟨b, 0, none⟩ u0).setCell ⟨b, 1, none⟩ u1).setCell ⟨c, 0, none⟩ v0).heap[b]? = some (.cells #[u0, u1] 23 (0, 0)) ∧
    (((w.setCell ⟨b, 0, none⟩ u0).setCell ⟨b, 1, none⟩ u1).setCell ⟨c, 0, none⟩ v0).heap[c]? = some (.cells #[v0] 24 (0, 0)) := by
  refine ⟨?_, ?_⟩
  · rw [heap_setCell_other _ _ _ _ hne]
    have h1 := heap_setCell_same w b 0 _ _ u0 hb
    have h2 := heap_setCell_same (w.setCell ⟨b, 0, none⟩ u0) b 1 _ _ u1 h1
    exact h2
  · have h1 : ((w.setCell ⟨b, 0, none⟩ u0).setCell ⟨b, 1, none⟩ u1).heap[c]? = some (.cells #[y0] 24 (0, 0)) := by
      rw [heap_setCell_other _ _ _ _ (by exact fun e => hne e.symm), heap_setCell_other _ _ _ _ (by exact fun e => hne e.symm)]
      exact hc
    exact heap_setCell_same _ c 0 _ _ v0 h1
/-- How caught tells an end. -/
def caughtS (m x : Int) : Int × Int × Int := if x = 1000 then (0, 0, 3) else (m, x, 0)
theorem caught_c (g : FuncId) (caps : Array Value) (m x : Int) (w : World) (he : ∀ args (w : World), (callFunc g args).run Tryz.prog w = .ok (.enter g args) w)
    (hg : ∀ w1, Below w.heap.size w w1 → Calls Tryz.prog g caps w1 fun e w' => e = ending m x ∧ Below w1.heap.size w1 w') :
    Calls Tryz.prog 64 #[.func (.func g) #[] caps] w fun e w' => e = .returned (.tuple #[.agg #[.int .i64 (caughtS m x).1, .int .i64 (caughtS m x).2.1], .int .i64 (caughtS m x).2.2]) ∧ Below w.heap.size w w' := by
  have HG := Lib.hid hg
  have HE := Lib.hid he
  clear hg he
  have hmf : ∀ (fn : Fn) (first cap : Array Value) (w : World), (Instr.makeFunc fn first cap).run Tryz.prog w = .ok (.func fn first cap) w := fun _ _ _ _ => rfl
  by_cases hx : x = 1000
  · have e1 : ending m x = .panicked chain := by unfold ending; rw [if_pos hx]
    have e2 : caughtS m x = (0, 0, 3) := by unfold caughtS; rw [if_pos hx]
    rw [e2]
    go_enter_defers Tryz.func64, Tryz.ntmps64
    go_wp2_with fail
    rw [HE.out]
    go_wp2_with fail
    refine (HG.out _ (((Below.refl _ w).alloc (Nat.le_refl _) _).alloc (by simp) _)).mono ?_
    rintro e w3 ⟨rfl, hb⟩
    have hz : w3.heap[w.heap.size]? = some (.cells #[.int .i64 0, .int .i64 0] 23 (0, 0)) := blk_below (blk_alloc (blk_new _ _) _) hb
    have hy : w3.heap[w.heap.size + 1]? = some (.cells #[.int .i64 0] 24 (0, 0)) := by
      have h := blk_new (w.alloc (.cells #[.int .i64 0, .int .i64 0] 23)) (.cells #[.int .i64 0] 24)
      rw [World.size_alloc] at h
      exact blk_below h hb
    have hB : Below w.heap.size w w3 := (((Below.refl _ w).alloc (Nat.le_refl _) _).alloc (by simp) _).trans (hb.mono (by simp; omega))
    have hne : w.heap.size ≠ w.heap.size + 1 := by omega
    have HZ := Lib.hid hz
    have HY := Lib.hid hy
    clear hb
    rw [e1]
    clear hz hy
    refine leaves_cons (f := 112) (args := #[.pointer (some ⟨w.heap.size, 0, none⟩), .pointer (some ⟨w.heap.size + 1, 0, none⟩)]) (by simp) (by simp [go_sem]) ?_
    refine (catch_panicking w.heap.size (w.heap.size + 1) _ _ _ [] w3 HZ.out HY.out hne).mono ?_
    rintro e u' w'' ⟨rfl, rfl, rfl⟩
    obtain ⟨fz, fy⟩ := laid_cells HZ.out HY.out hne (.int .i64 0) (.int .i64 0) (.int .i64 3)
    have fz : (laidEnd w.heap.size (w.heap.size + 1) w3).heap[w.heap.size]? = _ := blk_alloc fz (.cells #[] 75)
    have fy : (laidEnd w.heap.size (w.heap.size + 1) w3).heap[w.heap.size + 1]? = _ := blk_alloc fy (.cells #[] 75)
    change ∃ v, (results Tryz.f64 _).run Tryz.prog (laidEnd w.heap.size (w.heap.size + 1) w3) = .ok v _ ∧ _
    refine ⟨_, ?_, rfl, (((hB.setCell (Nat.le_refl _) _).setCell (Nat.le_refl _) _).setCell (Nat.le_add_right _ 1) _).alloc (by simp [laidEnd]; exact Nat.le_of_lt (blk_lt HZ.out)) _⟩
    have h0 := blk_cell fz 0
    have h1 := blk_cell fz 1
    have h2 := blk_cell fy 0
    have l0 := blk_lt fz
    have l1 := blk_lt fy
    simp at h0 h1 h2
    simp [results, Tryz.results64, go_sem, h0, h1, h2]
  · have e1 : ending m x = .returned (.agg #[.int .i64 m, .int .i64 x]) := ending_at hx
    have e2 : caughtS m x = (m, x, 0) := by unfold caughtS; rw [if_neg hx]
    rw [e2]
    go_enter_defers Tryz.func64, Tryz.ntmps64
    go_wp2_with fail
    rw [HE.out]
    go_wp2_with fail
    refine (HG.out _ (((Below.refl _ w).alloc (Nat.le_refl _) _).alloc (by simp) _)).mono ?_
    rintro e w3 ⟨rfl, hb⟩
    have hz : w3.heap[w.heap.size]? = some (.cells #[.int .i64 0, .int .i64 0] 23 (0, 0)) := blk_below (blk_alloc (blk_new _ _) _) hb
    have hy : w3.heap[w.heap.size + 1]? = some (.cells #[.int .i64 0] 24 (0, 0)) := by
      have h := blk_new (w.alloc (.cells #[.int .i64 0, .int .i64 0] 23)) (.cells #[.int .i64 0] 24)
      rw [World.size_alloc] at h
      exact blk_below h hb
    have hB : Below w.heap.size w w3 := (((Below.refl _ w).alloc (Nat.le_refl _) _).alloc (by simp) _).trans (hb.mono (by simp; omega))
    have hne : w.heap.size ≠ w.heap.size + 1 := by omega
    have HZ := Lib.hid hz
    have HY := Lib.hid hy
    clear hb
    rw [e1]
    have h0 := blk_cell hz 0
    have h1 := blk_cell hz 1
    have h2 := blk_cell hy 0
    have g0 := blk_frozen hz 0
    have g1 := blk_frozen hz 1
    have g2 := blk_frozen hy 0
    have l0 := blk_lt hz
    have l1 := blk_lt hy
    simp at h0 h1 h2
    clear hz hy
    go_wp2
    obtain ⟨fz, fy⟩ := laid_cells HZ.out HY.out hne (.int .i64 m) (.int .i64 x) (.int .i64 0)
    refine leaves_cons (f := 112) (args := #[.pointer (some ⟨w.heap.size, 0, none⟩), .pointer (some ⟨w.heap.size + 1, 0, none⟩)]) (by simp) (by simp [go_sem]) ?_
    refine (catch_idle _ _ _).mono ?_
    rintro e u' w'' ⟨rfl, rfl, rfl⟩
    change ∃ v, (results Tryz.f64 _).run Tryz.prog _ = .ok v _ ∧ _
    refine ⟨_, ?_, rfl, ((hB.setCell (Nat.le_refl _) _).setCell (Nat.le_refl _) _).setCell (Nat.le_add_right _ 1) _⟩
    have h0 := blk_cell fz 0
    have h1 := blk_cell fz 1
    have h2 := blk_cell fy 0
    have l0 := blk_lt fz
    have l1 := blk_lt fy
    simp at h0 h1 h2
    simp [results, Tryz.results64, go_sem, h0, h1, h2]
/-- all's closure: not Valid. -/
theorem notValid_c (m e : Int) (b : Bool) (h : real_Valid.f m e = some b) (w : World) : Calls Tryz.prog 144 #[.agg #[.int .i64 m, .int .i64 e]] w fun en w' => en = .returned (.bool (!b)) ∧ Below w.heap.size w w' := by
  have H := Lib.hid h
  clear h
  go_enter Tryz.func144, Tryz.ntmps144
  go_wp2_with fail
  refine (real_Valid.calls m e b _ H.out).mono ?_
  rintro en w1 ⟨rfl, hb⟩
  have hB : Below w.heap.size w w1 := ((Below.refl _ w).alloc (Nat.le_refl _) _).trans (hb.mono (by simp))
  clear hb
  go_wp2
  go_ret
  exact ⟨rfl, hB⟩
theorem index2_c (b : Nat) (m0 e0 m1 e1 : Int) (t : TypeId) (v0 v1 : Bool) (h0 : real_Valid.f m0 e0 = some v0) (h1 : real_Valid.f m1 e1 = some v1) (w : World)
    (hb : w.heap[b]? = some (.cells #[.int .i64 m0, .int .i64 e0, .int .i64 m1, .int .i64 e1] t (0, 0))) :
    Calls Tryz.prog 163 #[.slice (some ⟨b, 0, none⟩) 2 2, .func (.func 144) #[] #[]] w fun en w' => en = .returned (.int .i64 (if v0 then (if v1 then -1 else 1) else 0)) ∧ Below w.heap.size w w' := by
  have H0 := Lib.hid h0
  have H1 := Lib.hid h1
  have HB := Lib.hid hb
  clear h0 h1 hb
  go_enter Tryz.func163, Tryz.ntmps163
  go_wp2
  go_loopg [5, 8] (3 : Nat) (fun kq v5 v8 wr => ∃ j : Nat, kq + j = 3 ∧ v8 = .int .i64 (j : Int) ∧ Below w.heap.size w wr ∧ (1 ≤ j → v0 = true) ∧ (2 ≤ j → v1 = true))
  case atStart => exact ⟨0, rfl, rfl, Below.refl _ w, by omega, by omega⟩
  case round =>
    obtain ⟨j, hj, rfl, hB, hv0, hv1⟩ := hrel
    have HB2 := Lib.hid hB
    have hbr := blk_below HB.out hB
    rcases (by omega : j = 0 ∨ j = 1 ∨ j = 2 ∨ j = 3) with h | h | h | h
    · subst h
      have c0 : wr.cell? ⟨b, 0, none⟩ = some (.int .i64 m0) := (blk_cell hbr 0).trans rfl
      have c1 : wr.cell? ⟨b, 1, none⟩ = some (.int .i64 e0) := (blk_cell hbr 1).trans rfl
      clear hB hbr hv0 hv1
      cases v0
      · go_wp2_with fail
        refine (notValid_c m0 e0 _ H0.out _).mono ?_
        rintro en w1 ⟨rfl, hb⟩
        have hB : Below w.heap.size w w1 := HB2.out.trans (hb.mono HB2.out.size)
        clear hb
        go_wp2
        go_ret
        exact ⟨rfl, hB⟩
      · go_wp2_with fail
        refine (notValid_c m0 e0 _ H0.out _).mono ?_
        rintro en w1 ⟨rfl, hb⟩
        have hB : Below w.heap.size w w1 := HB2.out.trans (hb.mono HB2.out.size)
        clear hb
        go_wp2
        go_roundg (gk - 1)
        case measure => omega
        case rel => exact ⟨1, by omega, rfl, hB, fun _ => trivial, by omega⟩
    · subst h
      have c0 : wr.cell? ⟨b, 2, none⟩ = some (.int .i64 m1) := (blk_cell hbr 2).trans rfl
      have c1 : wr.cell? ⟨b, 3, none⟩ = some (.int .i64 e1) := (blk_cell hbr 3).trans rfl
      have hv := hv0 (Nat.le_refl _)
      subst hv
      clear hB hbr hv0 hv1
      cases v1
      · go_wp2_with fail
        refine (notValid_c m1 e1 _ H1.out _).mono ?_
        rintro en w1 ⟨rfl, hb⟩
        have hB : Below w.heap.size w w1 := HB2.out.trans (hb.mono HB2.out.size)
        clear hb
        go_wp2
        go_ret
        exact ⟨rfl, hB⟩
      · go_wp2_with fail
        refine (notValid_c m1 e1 _ H1.out _).mono ?_
        rintro en w1 ⟨rfl, hb⟩
        have hB : Below w.heap.size w w1 := HB2.out.trans (hb.mono HB2.out.size)
        clear hb
        go_wp2
        go_roundg (gk - 1)
        case measure => omega
        case rel => exact ⟨2, by omega, rfl, hB, fun _ => trivial, fun _ => trivial⟩
    · subst h
      have hva := hv0 (by omega)
      have hvb := hv1 (by omega)
      subst hva hvb
      clear hbr hv0 hv1
      go_wp2
      go_ret
      exact ⟨rfl, hB⟩
    · subst h
      have hva := hv0 (by omega)
      have hvb := hv1 (by omega)
      subst hva hvb
      clear hbr hv0 hv1
      go_wp2
      go_ret
      exact ⟨rfl, hB⟩
theorem contains2_c (b : Nat) (m0 e0 m1 e1 : Int) (t : TypeId) (v0 v1 : Bool) (h0 : real_Valid.f m0 e0 = some v0) (h1 : real_Valid.f m1 e1 = some v1) (w : World)
    (hb : w.heap[b]? = some (.cells #[.int .i64 m0, .int .i64 e0, .int .i64 m1, .int .i64 e1] t (0, 0))) :
    Calls Tryz.prog 143 #[.slice (some ⟨b, 0, none⟩) 2 2, .func (.func 144) #[] #[]] w fun en w' => en = .returned (.bool (!(v0 && v1))) ∧ Below w.heap.size w w' := by
  have H := Lib.hid (index2_c b m0 e0 m1 e1 t v0 v1 h0 h1 w hb)
  clear h0 h1 hb
  go_enter Tryz.func143, Tryz.ntmps143
  go_wp2_with fail
  refine H.out.mono ?_
  rintro en w1 ⟨rfl, hB⟩
  clear H
  rcases v0 with _ | _ <;> rcases v1 with _ | _ <;> (go_wp2; go_ret; exact ⟨rfl, hB⟩)
theorem all2_c (b : Nat) (m0 e0 m1 e1 : Int) (t : TypeId) (v0 v1 : Bool) (h0 : real_Valid.f m0 e0 = some v0) (h1 : real_Valid.f m1 e1 = some v1) (w : World)
    (hb : w.heap[b]? = some (.cells #[.int .i64 m0, .int .i64 e0, .int .i64 m1, .int .i64 e1] t (0, 0))) :
    Calls Tryz.prog 99 #[.slice (some ⟨b, 0, none⟩) 2 2] w fun en w' => en = .returned (.bool (v0 && v1)) ∧ Below w.heap.size w w' := by
  have H := Lib.hid (contains2_c b m0 e0 m1 e1 t v0 v1 h0 h1 w hb)
  clear h0 h1 hb
  go_enter Tryz.func99, Tryz.ntmps99
  go_wp2_with fail
  refine H.out.mono ?_
  rintro en w1 ⟨rfl, hB⟩
  clear H
  rcases v0 with _ | _ <;> rcases v1 with _ | _ <;> (go_wp2; go_ret; exact ⟨rfl, hB⟩)
/-- What an operation of two reals is: each end is coded, behind it no old cell is changed. -/
def OpC (g : FuncId) (x0 x1 y0 y1 m x : Int) : Prop := ∀ w : World, Calls Tryz.prog g #[.agg #[.int .i64 x0, .int .i64 x1], .agg #[.int .i64 y0, .int .i64 y1]] w fun e w' => e = ending m x ∧ Below w.heap.size w w'
def binS (v0 v1 : Bool) (m x : Int) : Int × Int × Int := if (v0 && v1) = true then caughtS m x else (0, 0, 1)
theorem binary1_c (g : FuncId) (x0 x1 y0 y1 m x : Int) (hg : OpC g x0 x1 y0 y1 m x) (b c d : Nat) (w : World) (he : ∀ args (w : World), (callFunc g args).run Tryz.prog w = .ok (.enter g args) w)
    (hb : w.heap[b]? = some (.cells #[.int .i64 x0, .int .i64 x1] 23 (0, 0))) (hc : w.heap[c]? = some (.cells #[.int .i64 y0, .int .i64 y1] 23 (0, 0))) (hd : w.heap[d]? = some (.cells #[.func (.func g) #[] #[]] 76 (0, 0))) :
    Calls Tryz.prog 140 #[.pointer (some ⟨d, 0, none⟩), .pointer (some ⟨b, 0, none⟩), .pointer (some ⟨c, 0, none⟩)] w fun e w' => e = ending m x ∧ Below w.heap.size w w' := by
  have HG := Lib.hid hg
  have HE := Lib.hid he
  have b0 : w.cell? ⟨b, 0, none⟩ = some (.int .i64 x0) := (blk_cell hb 0).trans rfl
  have b1 : w.cell? ⟨b, 1, none⟩ = some (.int .i64 x1) := (blk_cell hb 1).trans rfl
  have c0 : w.cell? ⟨c, 0, none⟩ = some (.int .i64 y0) := (blk_cell hc 0).trans rfl
  have c1 : w.cell? ⟨c, 1, none⟩ = some (.int .i64 y1) := (blk_cell hc 1).trans rfl
  have d0 : w.cell? ⟨d, 0, none⟩ = some (.func (.func g) #[] #[]) := (blk_cell hd 0).trans rfl
  have lb := blk_lt hb
  have lc := blk_lt hc
  have ld := blk_lt hd
  clear hg he hb hc hd
  by_cases hx : x = 1000
  · have e1 : ending m x = .panicked chain := by unfold ending; rw [if_pos hx]
    go_enter Tryz.func140, Tryz.ntmps140
    go_wp2_with fail
    rw [HE.out]
    go_wp2_with fail
    refine (HG.out _).mono ?_
    rintro e w3 ⟨rfl, hb⟩
    have hB : Below w.heap.size w w3 := ((Below.refl _ w).alloc (Nat.le_refl _) _).trans (hb.mono (by simp))
    rw [e1]
    exact ⟨rfl, by rw [e1], hB⟩
  · have e1 : ending m x = .returned (.agg #[.int .i64 m, .int .i64 x]) := ending_at hx
    rw [e1]
    go_enter Tryz.func140, Tryz.ntmps140
    go_wp2_with fail
    rw [HE.out]
    go_wp2_with fail
    refine (HG.out _).mono ?_
    rintro e w3 ⟨rfl, hb⟩
    have hB : Below w.heap.size w w3 := ((Below.refl _ w).alloc (Nat.le_refl _) _).trans (hb.mono (by simp))
    have hz : w3.heap[w.heap.size]? = some (.cells #[.int .i64 0, .int .i64 0] 23 (0, 0)) := blk_below (blk_new _ _) hb
    have z0 : w3.cell? ⟨w.heap.size, 0, none⟩ = some (.int .i64 0) := (blk_cell hz 0).trans rfl
    have z1 : w3.cell? ⟨w.heap.size, 1, none⟩ = some (.int .i64 0) := (blk_cell hz 1).trans rfl
    have f0 := blk_frozen hz 0
    have f1 := blk_frozen hz 1
    have lz := blk_lt hz
    clear hb
    rw [e1]
    go_wp2
    have fz : (((w3.setCell ⟨w.heap.size, 0, none⟩ (.int .i64 m)).setCell ⟨w.heap.size, 1, none⟩ (.int .i64 x))).heap[w.heap.size]? = some (.cells #[.int .i64 m, .int .i64 x] 23 (0, 0)) := heap_setCell_same (w3.setCell ⟨w.heap.size, 0, none⟩ (.int .i64 m)) w.heap.size 1 _ _ (.int .i64 x) (heap_setCell_same w3 w.heap.size 0 _ _ (.int .i64 m) hz)
    refine bodyPost_ret (results_cell_row rfl _ _ w.heap.size 23 #[.int .i64 m, .int .i64 x] (0, 0) _ rfl fz Tryz.underlying23 rfl (by kernel_rfl)) rfl ?_
    exact ⟨rfl, (hB.setCell (Nat.le_refl _) _).setCell (Nat.le_refl _) _⟩
theorem new_at (w : World) (o : Obj) (n : Nat) (h : n = w.heap.size) : (w.alloc o).heap[n]? = some o := by subst h; exact blk_new w o
theorem caught_t (g : FuncId) (caps : Array Value) (m x t0 t1 t2 : Int) (ht : caughtS m x = (t0, t1, t2)) (w : World) (he : ∀ args (w : World), (callFunc g args).run Tryz.prog w = .ok (.enter g args) w)
    (hg : ∀ w1, Below w.heap.size w w1 → Calls Tryz.prog g caps w1 fun e w' => e = ending m x ∧ Below w1.heap.size w1 w') :
    Calls Tryz.prog 64 #[.func (.func g) #[] caps] w fun e w' => e = .returned (.tuple #[.agg #[.int .i64 t0, .int .i64 t1], .int .i64 t2]) ∧ Below w.heap.size w w' := by
  have h := caught_c g caps m x w he hg
  rw [ht] at h
  exact h
theorem binary_c (g : FuncId) (x0 x1 y0 y1 m x : Int) (v0 v1 : Bool) (h0 : real_Valid.f x0 x1 = some v0) (h1 : real_Valid.f y0 y1 = some v1) (hg : (v0 && v1) = true → OpC g x0 x1 y0 y1 m x) (w : World) (he : ∀ args (w : World), (callFunc g args).run Tryz.prog w = .ok (.enter g args) w) :
    Calls Tryz.prog 95 #[.agg #[.int .i64 x0, .int .i64 x1], .agg #[.int .i64 y0, .int .i64 y1], .func (.func g) #[] #[]] w fun e w' => e = .returned (.tuple #[.agg #[.int .i64 (binS v0 v1 m x).1, .int .i64 (binS v0 v1 m x).2.1], .int .i64 (binS v0 v1 m x).2.2]) ∧ Below w.heap.size w w' := by
  have HG := Lib.hid hg
  have HE := Lib.hid he
  have H0 := Lib.hid h0
  have H1 := Lib.hid h1
  clear h0 h1 hg he
  by_cases hv : (v0 && v1) = true
  · have e2 : binS v0 v1 m x = caughtS m x := by unfold binS; rw [if_pos hv]
    rw [e2]
    clear e2
    rcases hcs : caughtS m x with ⟨t0, t1, t2⟩
    go_enter Tryz.func95, Tryz.ntmps95
    go_wp2_with fail
    refine (all2_c _ x0 x1 y0 y1 23 v0 v1 H0.out H1.out _ (new_at _ _ _ (by simp only [World.size_alloc]))).mono ?_
    rintro e w1 ⟨rfl, hb⟩
    rw [hv]
    have kz : w1.heap[w.heap.size + 1 + 1 + 1]? = some (.cells #[.int .i64 0, .int .i64 0] 23 (0, 0)) := blk_below (blk_alloc (new_at _ _ _ (by simp only [World.size_alloc])) _) hb
    have kg : w1.heap[w.heap.size + 1 + 1]? = some (.cells #[.func (.func g) #[] #[]] 76 (0, 0)) := blk_below (blk_alloc (blk_alloc (new_at _ _ _ (by simp only [World.size_alloc])) _) _) hb
    have ky : w1.heap[w.heap.size + 1]? = some (.cells #[.int .i64 y0, .int .i64 y1] 23 (0, 0)) := blk_below (blk_alloc (blk_alloc (blk_alloc (new_at _ _ _ (by simp only [World.size_alloc])) _) _) _) hb
    have kx : w1.heap[w.heap.size]? = some (.cells #[.int .i64 x0, .int .i64 x1] 23 (0, 0)) := blk_below (blk_alloc (blk_alloc (blk_alloc (blk_alloc (new_at _ _ _ rfl) _) _) _) _) hb
    have hB : Below w.heap.size w w1 := ((((((Below.refl _ w).alloc (Nat.le_refl _) _).alloc (by simp only [World.size_alloc]; omega) _).alloc (by simp only [World.size_alloc]; omega) _).alloc (by simp only [World.size_alloc]; omega) _).alloc (by simp only [World.size_alloc]; omega) _).trans (hb.mono (by simp only [World.size_alloc]; omega))
    have hmf : ∀ (fn : Fn) (first cap : Array Value) (w : World), (Instr.makeFunc fn first cap).run Tryz.prog w = .ok (.func fn first cap) w := fun _ _ _ _ => rfl
    have KX := Lib.hid kx
    have KY := Lib.hid ky
    have KG := Lib.hid kg
    have KZ := Lib.hid kz
    have HB := Lib.hid hB
    clear hb kx ky kg kz hB
    go_wp2_with fail
    refine (caught_t 140 _ m x t0 t1 t2 hcs w1 (fun args w => enters_ Tryz.func140 (by kernel_rfl) rfl args w) (fun w2 h2 => binary1_c g x0 x1 y0 y1 m x (HG.out hv) _ _ _ w2 HE.out (blk_below KX.out h2) (blk_below KY.out h2) (blk_below KG.out h2))).mono ?_
    rintro e w3 ⟨rfl, hb⟩
    have hz : w3.heap[w.heap.size + 1 + 1 + 1]? = some (.cells #[.int .i64 0, .int .i64 0] 23 (0, 0)) := blk_below KZ.out hb
    have hB : Below w.heap.size w w3 := HB.out.trans (hb.mono HB.out.size)
    have z0 : w3.cell? ⟨w.heap.size + 1 + 1 + 1, 0, none⟩ = some (.int .i64 0) := (blk_cell hz 0).trans rfl
    have z1 : w3.cell? ⟨w.heap.size + 1 + 1 + 1, 1, none⟩ = some (.int .i64 0) := (blk_cell hz 1).trans rfl
    have f0 := blk_frozen hz 0
    have f1 := blk_frozen hz 1
    have lz := blk_lt hz
    clear hb
    go_wp2
    have fz := heap_setCell_same (w3.setCell ⟨w.heap.size + 1 + 1 + 1, 0, none⟩ (.int .i64 t0)) (w.heap.size + 1 + 1 + 1) 1 _ _ (.int .i64 t1) (heap_setCell_same w3 (w.heap.size + 1 + 1 + 1) 0 _ _ (.int .i64 t0) hz)
    refine bodyPost_ret (results_ct rfl _ _ (w.heap.size + 1 + 1 + 1) 23 #[.int .i64 t0, .int .i64 t1] (0, 0) _ rfl fz Tryz.underlying23 rfl (by kernel_rfl)) rfl ?_
    exact ⟨rfl, (hB.setCell (by simp only; omega) _).setCell (by simp only; omega) _⟩
  · have e2 : binS v0 v1 m x = (0, 0, 1) := by unfold binS; rw [if_neg hv]
    rw [e2]
    replace hv : (v0 && v1) = false := by simpa using hv
    go_enter Tryz.func95, Tryz.ntmps95
    go_wp2_with fail
    refine (all2_c _ x0 x1 y0 y1 23 v0 v1 H0.out H1.out _ (new_at _ _ _ (by simp only [World.size_alloc]))).mono ?_
    rintro e w1 ⟨rfl, hb⟩
    rw [hv]
    have kz : w1.heap[w.heap.size + 1 + 1 + 1]? = some (.cells #[.int .i64 0, .int .i64 0] 23 (0, 0)) := blk_below (blk_alloc (new_at _ _ _ (by simp only [World.size_alloc])) _) hb
    have kg : w1.heap[w.heap.size + 1 + 1]? = some (.cells #[.func (.func g) #[] #[]] 76 (0, 0)) := blk_below (blk_alloc (blk_alloc (new_at _ _ _ (by simp only [World.size_alloc])) _) _) hb
    have ky : w1.heap[w.heap.size + 1]? = some (.cells #[.int .i64 y0, .int .i64 y1] 23 (0, 0)) := blk_below (blk_alloc (blk_alloc (blk_alloc (new_at _ _ _ (by simp only [World.size_alloc])) _) _) _) hb
    have kx : w1.heap[w.heap.size]? = some (.cells #[.int .i64 x0, .int .i64 x1] 23 (0, 0)) := blk_below (blk_alloc (blk_alloc (blk_alloc (blk_alloc (new_at _ _ _ rfl) _) _) _) _) hb
    have hB : Below w.heap.size w w1 := ((((((Below.refl _ w).alloc (Nat.le_refl _) _).alloc (by simp only [World.size_alloc]; omega) _).alloc (by simp only [World.size_alloc]; omega) _).alloc (by simp only [World.size_alloc]; omega) _).alloc (by simp only [World.size_alloc]; omega) _).trans (hb.mono (by simp only [World.size_alloc]; omega))
    have z0 : w1.cell? ⟨w.heap.size + 1 + 1 + 1, 0, none⟩ = some (.int .i64 0) := (blk_cell kz 0).trans rfl
    have z1 : w1.cell? ⟨w.heap.size + 1 + 1 + 1, 1, none⟩ = some (.int .i64 0) := (blk_cell kz 1).trans rfl
    have f0 := blk_frozen kz 0
    have f1 := blk_frozen kz 1
    have lz := blk_lt kz
    clear hb kx ky kg
    go_wp2
    have fz := heap_setCell_same (w1.setCell ⟨w.heap.size + 1 + 1 + 1, 0, none⟩ (.int .i64 0)) (w.heap.size + 1 + 1 + 1) 1 _ _ (.int .i64 0) (heap_setCell_same w1 (w.heap.size + 1 + 1 + 1) 0 _ _ (.int .i64 0) kz)
    refine bodyPost_ret (results_ct rfl _ _ (w.heap.size + 1 + 1 + 1) 23 #[.int .i64 0, .int .i64 0] (0, 0) _ rfl fz Tryz.underlying23 rfl (by kernel_rfl)) rfl ?_
    exact ⟨rfl, (hB.setCell (by simp only; omega) _).setCell (by simp only; omega) _⟩
theorem sum_op (k : Nat) (x0 x1 y0 y1 m x : Int) (h : real_sum.f k x0 x1 y0 y1 = some (m, x)) : OpC 100 x0 x1 y0 y1 m x := fun w => real_sum.calls k x0 x1 y0 y1 m x w h
theorem quotient_op (k : Nat) (x0 x1 y0 y1 m x : Int) (h : real_quotient.f k x0 x1 y0 y1 = some (m, x)) : OpC 68 x0 x1 y0 y1 m x := fun w => real_quotient.calls k x0 x1 y0 y1 m x w h
theorem binary_t (g : FuncId) (x0 x1 y0 y1 m x : Int) (v0 v1 : Bool) (h0 : real_Valid.f x0 x1 = some v0) (h1 : real_Valid.f y0 y1 = some v1) (hg : (v0 && v1) = true → OpC g x0 x1 y0 y1 m x) (w : World) (he : ∀ args (w : World), (callFunc g args).run Tryz.prog w = .ok (.enter g args) w) (t0 t1 t2 : Int) (ht : binS v0 v1 m x = (t0, t1, t2)) :
    Calls Tryz.prog 95 #[.agg #[.int .i64 x0, .int .i64 x1], .agg #[.int .i64 y0, .int .i64 y1], .func (.func g) #[] #[]] w fun e w' => e = .returned (.tuple #[.agg #[.int .i64 t0, .int .i64 t1], .int .i64 t2]) ∧ Below w.heap.size w w' := by
  have h := binary_c g x0 x1 y0 y1 m x v0 v1 h0 h1 hg w he
  rw [ht] at h
  exact h
def real_Add.f (k : Nat) (x0 x1 y0 y1 : Int) : Option (Int × Int × Int) := (real_Valid.f x0 x1).bind fun v0 => (real_Valid.f y0 y1).bind fun v1 => if (v0 && v1) = true then (real_sum.f k x0 x1 y0 y1).bind fun r => some (caughtS r.1 r.2) else some (0, 0, 1)
theorem real_Add.calls (k : Nat) (a0_0 a0_1 a1_0 a1_1 r1 r2 r3 : Int) (w : World) (h : real_Add.f k a0_0 a0_1 a1_0 a1_1 = some (r1, r2, r3)) :
    Calls Tryz.prog 33 #[.agg #[.int .i64 a0_0, .int .i64 a0_1], .agg #[.int .i64 a1_0, .int .i64 a1_1]] w fun e w' => e = .returned (.tuple #[.agg #[.int .i64 r1, .int .i64 r2], .int .i64 r3]) ∧ Below w.heap.size w w' := by
  obtain ⟨v0, h0, h⟩ := Option.bind_eq_some_iff.mp h
  obtain ⟨v1, h1, h⟩ := Option.bind_eq_some_iff.mp h
  have HB : Hid (∀ w : World, Calls Tryz.prog 95 #[.agg #[.int .i64 a0_0, .int .i64 a0_1], .agg #[.int .i64 a1_0, .int .i64 a1_1], .func (.func 100) #[] #[]] w fun e w' => e = .returned (.tuple #[.agg #[.int .i64 r1, .int .i64 r2], .int .i64 r3]) ∧ Below w.heap.size w w') := by
    refine Lib.hid (fun w => ?_)
    by_cases hv : (v0 && v1) = true
    · rw [if_pos hv] at h
      obtain ⟨⟨m, x⟩, hm, h⟩ := Option.bind_eq_some_iff.mp h
      refine binary_t 100 a0_0 a0_1 a1_0 a1_1 m x v0 v1 h0 h1 (fun _ => sum_op k _ _ _ _ _ _ hm) w (fun args w => enters_ Tryz.func100 (by kernel_rfl) rfl args w) r1 r2 r3 ?_
      unfold binS; rw [if_pos hv]; exact Option.some.inj h
    · rw [if_neg hv] at h
      refine binary_t 100 a0_0 a0_1 a1_0 a1_1 0 0 v0 v1 h0 h1 (fun h => absurd h hv) w (fun args w => enters_ Tryz.func100 (by kernel_rfl) rfl args w) r1 r2 r3 ?_
      unfold binS; rw [if_neg hv]; exact Option.some.inj h
  clear h h0 h1
  go_enter Tryz.func33, Tryz.ntmps33
  go_wp2_with fail
  refine (HB.out _).mono ?_
  rintro e w1 ⟨rfl, hb⟩
  have hz : w1.heap[w.heap.size + 1 + 1]? = some (.cells #[.int .i64 0, .int .i64 0] 23 (0, 0)) := blk_below (new_at _ _ _ (by simp only [World.size_alloc])) hb
  have hB : Below w.heap.size w w1 := ((((Below.refl _ w).alloc (Nat.le_refl _) _).alloc (by simp only [World.size_alloc]; omega) _).alloc (by simp only [World.size_alloc]; omega) _).trans (hb.mono (by simp only [World.size_alloc]; omega))
  have z0 : w1.cell? ⟨w.heap.size + 1 + 1, 0, none⟩ = some (.int .i64 0) := (blk_cell hz 0).trans rfl
  have z1 : w1.cell? ⟨w.heap.size + 1 + 1, 1, none⟩ = some (.int .i64 0) := (blk_cell hz 1).trans rfl
  have f0 := blk_frozen hz 0
  have f1 := blk_frozen hz 1
  have lz := blk_lt hz
  clear hb
  go_wp2
  have fz := heap_setCell_same (w1.setCell ⟨w.heap.size + 1 + 1, 0, none⟩ (.int .i64 r1)) (w.heap.size + 1 + 1) 1 _ _ (.int .i64 r2) (heap_setCell_same w1 (w.heap.size + 1 + 1) 0 _ _ (.int .i64 r1) hz)
  refine bodyPost_ret (results_ct rfl _ _ (w.heap.size + 1 + 1) 23 #[.int .i64 r1, .int .i64 r2] (0, 0) _ rfl fz Tryz.underlying23 rfl (by kernel_rfl)) rfl ?_
  exact ⟨rfl, (hB.setCell (by simp only; omega) _).setCell (by simp only; omega) _⟩
def real_Mul.f (k : Nat) (x0 x1 y0 y1 : Int) : Option (Int × Int × Int) := (real_Valid.f x0 x1).bind fun v0 => (real_Valid.f y0 y1).bind fun v1 => if (v0 && v1) = true then (real_product.f k x0 x1 y0 y1).bind fun r => some (caughtS r.1 r.2) else some (0, 0, 1)
def real_Div.f (k : Nat) (x0 x1 y0 y1 : Int) : Option (Int × Int × Int) := (real_Valid.f x0 x1).bind fun v0 => (real_Valid.f y0 y1).bind fun v1 => if (v0 && v1) = true then if y0 = 0 then some (0, 0, 5) else (real_quotient.f k x0 x1 y0 y1).bind fun r => some (caughtS r.1 r.2) else some (0, 0, 1)
theorem real_Div.calls (k : Nat) (a0_0 a0_1 a1_0 a1_1 r1 r2 r3 : Int) (w : World) (h : real_Div.f k a0_0 a0_1 a1_0 a1_1 = some (r1, r2, r3)) :
    Calls Tryz.prog 32 #[.agg #[.int .i64 a0_0, .int .i64 a0_1], .agg #[.int .i64 a1_0, .int .i64 a1_1]] w fun e w' => e = .returned (.tuple #[.agg #[.int .i64 r1, .int .i64 r2], .int .i64 r3]) ∧ Below w.heap.size w w' := by
  obtain ⟨v0, h0, h⟩ := Option.bind_eq_some_iff.mp h
  obtain ⟨v1, h1, h⟩ := Option.bind_eq_some_iff.mp h
  have H0 := Lib.hid h0
  have H1 := Lib.hid h1
  by_cases hv : (v0 && v1) = true
  · by_cases hy : a1_0 = 0
    · rw [if_pos hv, if_pos hy] at h
      simp only [Option.some.injEq, Prod.mk.injEq] at h
      obtain ⟨rfl, rfl, rfl⟩ := h
      subst hy
      clear h0 h1
      go_enter Tryz.func32, Tryz.ntmps32
      go_wp2_with fail
      refine (all2_c _ a0_0 a0_1 0 a1_1 23 v0 v1 H0.out H1.out _ (new_at _ _ _ (by simp only [World.size_alloc]))).mono ?_
      rintro e w1 ⟨rfl, hb⟩
      have hz : w1.heap[w.heap.size + 1 + 1]? = some (.cells #[.int .i64 0, .int .i64 0] 23 (0, 0)) := blk_below (blk_alloc (new_at _ _ _ (by simp only [World.size_alloc])) _) hb
      have kx : w1.heap[w.heap.size]? = some (.cells #[.int .i64 a0_0, .int .i64 a0_1] 23 (0, 0)) := blk_below (blk_alloc (blk_alloc (blk_alloc (new_at _ _ _ rfl) _) _) _) hb
      have ky : w1.heap[w.heap.size + 1]? = some (.cells #[.int .i64 0, .int .i64 a1_1] 23 (0, 0)) := blk_below (blk_alloc (blk_alloc (new_at _ _ _ (by simp only [World.size_alloc])) _) _) hb
      have hB : Below w.heap.size w w1 := (((((Below.refl _ w).alloc (Nat.le_refl _) _).alloc (by simp only [World.size_alloc]; omega) _).alloc (by simp only [World.size_alloc]; omega) _).alloc (by simp only [World.size_alloc]; omega) _).trans (hb.mono (by simp only [World.size_alloc]; omega))
      rw [hv]
      have x0 : w1.cell? ⟨w.heap.size, 0, none⟩ = some (.int .i64 a0_0) := (blk_cell kx 0).trans rfl
      have x1 : w1.cell? ⟨w.heap.size, 1, none⟩ = some (.int .i64 a0_1) := (blk_cell kx 1).trans rfl
      have y0 : w1.cell? ⟨w.heap.size + 1, 0, none⟩ = some (.int .i64 0) := (blk_cell ky 0).trans rfl
      have y1 : w1.cell? ⟨w.heap.size + 1, 1, none⟩ = some (.int .i64 a1_1) := (blk_cell ky 1).trans rfl
      have lx := blk_lt kx
      have ly := blk_lt ky
      have z0 : w1.cell? ⟨w.heap.size + 1 + 1, 0, none⟩ = some (.int .i64 0) := (blk_cell hz 0).trans rfl
      have z1 : w1.cell? ⟨w.heap.size + 1 + 1, 1, none⟩ = some (.int .i64 0) := (blk_cell hz 1).trans rfl
      have f0 := blk_frozen hz 0
      have f1 := blk_frozen hz 1
      have lz := blk_lt hz
      clear hb
      go_wp2
      have fz := heap_setCell_same (w1.setCell ⟨w.heap.size + 1 + 1, 0, none⟩ (.int .i64 0)) (w.heap.size + 1 + 1) 1 _ _ (.int .i64 0) (heap_setCell_same w1 (w.heap.size + 1 + 1) 0 _ _ (.int .i64 0) hz)
      refine bodyPost_ret (results_ct rfl _ _ (w.heap.size + 1 + 1) 23 #[.int .i64 0, .int .i64 0] (0, 0) _ rfl fz Tryz.underlying23 rfl (by kernel_rfl)) rfl ?_
      exact ⟨rfl, (hB.setCell (by simp only; omega) _).setCell (by simp only; omega) _⟩
    · have HY := Lib.hid hy
      have HB : Hid (∀ w : World, Calls Tryz.prog 95 #[.agg #[.int .i64 a0_0, .int .i64 a0_1], .agg #[.int .i64 a1_0, .int .i64 a1_1], .func (.func 68) #[] #[]] w fun e w' => e = .returned (.tuple #[.agg #[.int .i64 r1, .int .i64 r2], .int .i64 r3]) ∧ Below w.heap.size w w') := by
        refine Lib.hid (fun w => ?_)
        rw [if_pos hv] at h
        rw [if_neg hy] at h
        obtain ⟨⟨m, x⟩, hm, h⟩ := Option.bind_eq_some_iff.mp h
        refine binary_t 68 a0_0 a0_1 a1_0 a1_1 m x v0 v1 h0 h1 (fun _ => quotient_op k _ _ _ _ _ _ hm) w (fun args w => enters_ Tryz.func68 (by kernel_rfl) rfl args w) r1 r2 r3 ?_
        unfold binS; rw [if_pos hv]; exact Option.some.inj h
      clear h
      clear h0 h1
      go_enter Tryz.func32, Tryz.ntmps32
      go_wp2_with fail
      refine (all2_c _ a0_0 a0_1 a1_0 a1_1 23 v0 v1 H0.out H1.out _ (new_at _ _ _ (by simp only [World.size_alloc]))).mono ?_
      rintro e w1 ⟨rfl, hb⟩
      have hz : w1.heap[w.heap.size + 1 + 1]? = some (.cells #[.int .i64 0, .int .i64 0] 23 (0, 0)) := blk_below (blk_alloc (new_at _ _ _ (by simp only [World.size_alloc])) _) hb
      have kx : w1.heap[w.heap.size]? = some (.cells #[.int .i64 a0_0, .int .i64 a0_1] 23 (0, 0)) := blk_below (blk_alloc (blk_alloc (blk_alloc (new_at _ _ _ rfl) _) _) _) hb
      have ky : w1.heap[w.heap.size + 1]? = some (.cells #[.int .i64 a1_0, .int .i64 a1_1] 23 (0, 0)) := blk_below (blk_alloc (blk_alloc (new_at _ _ _ (by simp only [World.size_alloc])) _) _) hb
      have hB : Below w.heap.size w w1 := (((((Below.refl _ w).alloc (Nat.le_refl _) _).alloc (by simp only [World.size_alloc]; omega) _).alloc (by simp only [World.size_alloc]; omega) _).alloc (by simp only [World.size_alloc]; omega) _).trans (hb.mono (by simp only [World.size_alloc]; omega))
      rw [hv]
      have x0 : w1.cell? ⟨w.heap.size, 0, none⟩ = some (.int .i64 a0_0) := (blk_cell kx 0).trans rfl
      have x1 : w1.cell? ⟨w.heap.size, 1, none⟩ = some (.int .i64 a0_1) := (blk_cell kx 1).trans rfl
      have y0 : w1.cell? ⟨w.heap.size + 1, 0, none⟩ = some (.int .i64 a1_0) := (blk_cell ky 0).trans rfl
      have y1 : w1.cell? ⟨w.heap.size + 1, 1, none⟩ = some (.int .i64 a1_1) := (blk_cell ky 1).trans rfl
      have lx := blk_lt kx
      have ly := blk_lt ky
      have hyn : ¬ a1_0 = 0 := HY.out
      have hB1 := Lib.hid hB
      have HZ := Lib.hid hz
      clear hb hz hB kx ky
      go_wp2_with fail
      refine (HB.out _).mono ?_
      rintro e w2 ⟨rfl, hb⟩
      have hz := blk_below HZ.out hb
      have hB : Below w.heap.size w w2 := hB1.out.trans (hb.mono hB1.out.size)
      have z0 : w2.cell? ⟨w.heap.size + 1 + 1, 0, none⟩ = some (.int .i64 0) := (blk_cell hz 0).trans rfl
      have z1 : w2.cell? ⟨w.heap.size + 1 + 1, 1, none⟩ = some (.int .i64 0) := (blk_cell hz 1).trans rfl
      have f0 := blk_frozen hz 0
      have f1 := blk_frozen hz 1
      have lz := blk_lt hz
      clear hb
      go_wp2
      have fz := heap_setCell_same (w2.setCell ⟨w.heap.size + 1 + 1, 0, none⟩ (.int .i64 r1)) (w.heap.size + 1 + 1) 1 _ _ (.int .i64 r2) (heap_setCell_same w2 (w.heap.size + 1 + 1) 0 _ _ (.int .i64 r1) hz)
      refine bodyPost_ret (results_ct rfl _ _ (w.heap.size + 1 + 1) 23 #[.int .i64 r1, .int .i64 r2] (0, 0) _ rfl fz Tryz.underlying23 rfl (by kernel_rfl)) rfl ?_
      exact ⟨rfl, (hB.setCell (by simp only; omega) _).setCell (by simp only; omega) _⟩
  · rw [if_neg hv] at h
    simp only [Option.some.injEq, Prod.mk.injEq] at h
    obtain ⟨rfl, rfl, rfl⟩ := h
    have hv : (v0 && v1) = false := by simpa using hv
    clear h0 h1
    go_enter Tryz.func32, Tryz.ntmps32
    go_wp2_with fail
    refine (all2_c _ a0_0 a0_1 a1_0 a1_1 23 v0 v1 H0.out H1.out _ (new_at _ _ _ (by simp only [World.size_alloc]))).mono ?_
    rintro e w1 ⟨rfl, hb⟩
    have hz : w1.heap[w.heap.size + 1 + 1]? = some (.cells #[.int .i64 0, .int .i64 0] 23 (0, 0)) := blk_below (blk_alloc (new_at _ _ _ (by simp only [World.size_alloc])) _) hb
    have kx : w1.heap[w.heap.size]? = some (.cells #[.int .i64 a0_0, .int .i64 a0_1] 23 (0, 0)) := blk_below (blk_alloc (blk_alloc (blk_alloc (new_at _ _ _ rfl) _) _) _) hb
    have ky : w1.heap[w.heap.size + 1]? = some (.cells #[.int .i64 a1_0, .int .i64 a1_1] 23 (0, 0)) := blk_below (blk_alloc (blk_alloc (new_at _ _ _ (by simp only [World.size_alloc])) _) _) hb
    have hB : Below w.heap.size w w1 := (((((Below.refl _ w).alloc (Nat.le_refl _) _).alloc (by simp only [World.size_alloc]; omega) _).alloc (by simp only [World.size_alloc]; omega) _).alloc (by simp only [World.size_alloc]; omega) _).trans (hb.mono (by simp only [World.size_alloc]; omega))
    rw [hv]
    have x0 : w1.cell? ⟨w.heap.size, 0, none⟩ = some (.int .i64 a0_0) := (blk_cell kx 0).trans rfl
    have x1 : w1.cell? ⟨w.heap.size, 1, none⟩ = some (.int .i64 a0_1) := (blk_cell kx 1).trans rfl
    have y0 : w1.cell? ⟨w.heap.size + 1, 0, none⟩ = some (.int .i64 a1_0) := (blk_cell ky 0).trans rfl
    have y1 : w1.cell? ⟨w.heap.size + 1, 1, none⟩ = some (.int .i64 a1_1) := (blk_cell ky 1).trans rfl
    have lx := blk_lt kx
    have ly := blk_lt ky
    have z0 : w1.cell? ⟨w.heap.size + 1 + 1, 0, none⟩ = some (.int .i64 0) := (blk_cell hz 0).trans rfl
    have z1 : w1.cell? ⟨w.heap.size + 1 + 1, 1, none⟩ = some (.int .i64 0) := (blk_cell hz 1).trans rfl
    have f0 := blk_frozen hz 0
    have f1 := blk_frozen hz 1
    have lz := blk_lt hz
    clear hb
    go_wp2
    have fz := heap_setCell_same (w1.setCell ⟨w.heap.size + 1 + 1, 0, none⟩ (.int .i64 0)) (w.heap.size + 1 + 1) 1 _ _ (.int .i64 0) (heap_setCell_same w1 (w.heap.size + 1 + 1) 0 _ _ (.int .i64 0) hz)
    refine bodyPost_ret (results_ct rfl _ _ (w.heap.size + 1 + 1) 23 #[.int .i64 0, .int .i64 0] (0, 0) _ rfl fz Tryz.underlying23 rfl (by kernel_rfl)) rfl ?_
    exact ⟨rfl, (hB.setCell (by simp only; omega) _).setCell (by simp only; omega) _⟩

end Go.Proofs.YteigbokklclmbaaGreatDoor.Z
end
