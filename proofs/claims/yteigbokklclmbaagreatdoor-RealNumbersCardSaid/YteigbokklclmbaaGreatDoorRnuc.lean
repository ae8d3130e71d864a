/- Contracts and lemmas that the law's row leans on, joined by program (pack.py) out of the session's texts; no condition of its own. -/
import Derived.Shelf.Strings.Builder1
import Derived.Shelf.Strings.Builder2
import Derived.Shelf.Strings.Trim
import Derived.Shelf.Small.Wraps
import Derived.Shelf.Strconv.Itoa0
import Derived.Shelf.Strconv.Itoa1
import Derived.Shelf.LaysM
import Derived.Shelf.Strconv.Itoa2
import Derived.Shelf.Strconv.Itoa3
import Derived.Shelf.Strings.Repeat
import Derived.Test.YteigbokklclmbaaGreatDoorProg
import Derived.Lib.AppendIntMem
import Derived.Lib.Hide
import Derived.RangeFuncNested
import Derived.RangeFuncBound
import Derived.RangeFuncCalls
import Derived.RangeFuncLeaves
import Derived.Shelf.Abstract
import Derived.Shelf.RegionOpen
import Derived.WalkKit
import Derived.OwnWalkIn
import Derived.TacticsInMore
import Derived.LoopNIn
import Derived.LoopIn
import Derived.Defers
import Derived.Recover
import Derived.Laws.Pointers
import Derived.Laws.Rows
import Derived.Test.YteigbokklclmbaaGreatDoorRnua
import Derived.Test.YteigbokklclmbaaGreatDoorRnub
set_option linter.unusedVariables false
set_option linter.unusedSimpArgs false
set_option maxRecDepth 100000
set_option maxHeartbeats 8000000
section
namespace Go.Proofs.YteigbokklclmbaaGreatDoor.Z
open Go.RowKit Go.Proofs.YteigbokklclmbaaGreatDoor.Given Go.Proofs.YteigbokklclmbaaGreatDoorW.PrintWords Go.Proofs.YteigbokklclmbaaGreatDoorW.PrintLast Go.Proofs.YteigbokklclmbaaGreatDoorW.PrintMore
attribute [local go_sem] max2_int min2_int max_two min_two max_three min_three max_four min_four

def real_sum.f (k : Nat) (a0_0 : Int) (a0_1 : Int) (a1_0 : Int) (a1_1 : Int) : Option (Int × Int) := (real_magnitude.f k a0_0).bind fun t259 => ((real_nat_shl.f k t259 (wrap64 (a0_1 - (mn a0_1 a1_1)))).bind fun t262 => ((real_magnitude.f k a1_0).bind fun t265 => ((real_nat_shl.f k t265 (wrap64 (a1_1 - (mn a0_1 a1_1)))).bind fun t268 => (if ((decide (a0_0 < 0)) == (decide (a1_0 < 0))) = true then ((real_nat_add.f k t262 t268).bind fun t271 => ((real_rounded.f k t271 (mn a0_1 a1_1) (([1] : List Int))).bind fun bt277 => ((real_signed.f (decide (a0_0 < 0)) bt277.1 bt277.2).bind fun bt279 => (some (bt279.1, bt279.2))))) else none))))
theorem real_sum.mono : ∀ a0 a1 a2 a3 k, LeO (real_sum.f k a0 a1 a2 a3) (real_sum.f (k + 1) a0 a1 a2 a3) := by
 intro a0 a1 a2 a3 k
 unfold real_sum.f
 repeat' first
   | (with_reducible exact real_magnitude.mono _ _)
   | (with_reducible exact real_nat_add.mono _ _ _)
   | (with_reducible exact real_nat_cmp.mono _ _ _)
   | (with_reducible exact real_nat_shl.mono _ _ _)
   | (with_reducible exact real_nat_sub.mono _ _ _)
   | (with_reducible exact real_rounded.mono _ _ _ _)
   | (with_reducible exact LeO.refl _)
   | (with_reducible exact LeO.none _)
   | (with_reducible refine LeO.ite ?_ ?_)
   | (with_reducible refine LeO.bind ?_ (fun _ => ?_))
   | exact real_magnitude.mono _ _
   | exact real_nat_add.mono _ _ _
   | exact real_nat_cmp.mono _ _ _
   | exact real_nat_shl.mono _ _ _
   | exact real_nat_sub.mono _ _ _
   | exact real_rounded.mono _ _ _ _
   | exact LeO.none _
   | refine LeO.ite ?_ ?_
   | refine LeO.bind ?_ (fun _ => ?_)
def real_sum.T2 : Bool × List (List Nat × List Nat) := (true, [([], []), ([0], [0]), ([1], [1]), ([], []), ([3], [3]), ([], []), ([4, 5], [4, 5]), ([2, 6, 2], [2, 6]), ([], []), ([8], [8]), ([9, 7], [9]), ([], []), ([11], [11]), ([], []), ([12, 13], [12, 13]), ([10, 14, 10], [10, 14]), ([7, 15, 0, 1, 2, 3, 4, 5, 6, 7], [7]), ([15, 16, 0, 1, 2, 3, 4, 5, 6, 7, 8, 9, 10, 11, 12, 13, 14, 15, 16], [15])])
def real_sum.B2 : List Nat := [0, 1, 3, 0, 8, 0, 56, 127, 0, 256, 1023, 0, 2048, 0, 14336, 32767, 65535, 131071]
theorem real_sum.tab2 : rtab .any (opsOf Tryz.f100 2) = real_sum.T2 := by kernel_rfl
theorem real_sum.bits2 : waitsOk real_sum.T2.2 real_sum.B2 = true := by kernel_rfl
def real_sum.T4 : Bool × List (List Nat × List Nat) := (true, [([], []), ([0], [0]), ([1], [1]), ([], []), ([], []), ([3, 4], [3, 4]), ([], []), ([], []), ([5, 6, 7, 5], [5, 6, 7]), ([2, 8, 8], [2, 8]), ([9, 9, 0, 1, 2, 3, 4, 5, 6, 7, 8, 9], [9])])
def real_sum.B4 : List Nat := [0, 1, 3, 0, 0, 24, 0, 0, 248, 511, 1023]
theorem real_sum.tab4 : rtab .any (opsOf Tryz.f100 4) = real_sum.T4 := by kernel_rfl
theorem real_sum.bits4 : waitsOk real_sum.T4.2 real_sum.B4 = true := by kernel_rfl
def real_sum.T6 : Bool × List (List Nat × List Nat) := (true, [([], []), ([0], [0]), ([1], [1]), ([], []), ([], []), ([3, 4], [3, 4]), ([], []), ([], []), ([5, 6, 7, 5], [5, 6, 7]), ([2, 8, 8], [2, 8]), ([9, 9, 0, 1, 2, 3, 4, 5, 6, 7, 8, 9], [9])])
def real_sum.B6 : List Nat := [0, 1, 3, 0, 0, 24, 0, 0, 248, 511, 1023]
theorem real_sum.tab6 : rtab .any (opsOf Tryz.f100 6) = real_sum.T6 := by kernel_rfl
theorem real_sum.bits6 : waitsOk real_sum.T6.2 real_sum.B6 = true := by kernel_rfl
theorem real_sum.calls (k : Nat) (a0_0 : Int) (a0_1 : Int) (a1_0 : Int) (a1_1 : Int) (r1 : Int) (r2 : Int) (w : World) (h : real_sum.f k a0_0 a0_1 a1_0 a1_1 = some (r1, r2)) :
  Calls Tryz.prog 100 #[.agg #[.int .i64 a0_0, .int .i64 a0_1], .agg #[.int .i64 a1_0, .int .i64 a1_1]] w fun e w' => e = ending r1 r2 ∧ Below w.heap.size w w' := by
 have hu23 := Tryz.underlying23
 have HB := Aside0.mk (Below.refl w.heap.size w)
 have H := h; unfold real_sum.f at H; clear h
 obtain ⟨ji3, hji3⟩ : ∃ j_ : Int, (mn a0_1 a1_1) = j_ := ⟨_, rfl⟩
 first | rw [hji3] at H | simp only [hji3] at H
 have hji3_ : (if a1_1 < a0_1 then a1_1 else a0_1) = ji3 := hji3
 replace H := Option.bind_eq_some_iff.mp H
 obtain ⟨t259, A40, H⟩ := H
 try dsimp only at H
 have A4 := Aside0.mk A40
 clear A40
 replace H := Option.bind_eq_some_iff.mp H
 obtain ⟨t262, A50, H⟩ := H
 try dsimp only at H
 have A5 := Aside0.mk A50
 clear A50
 replace H := Option.bind_eq_some_iff.mp H
 obtain ⟨t265, A60, H⟩ := H
 try dsimp only at H
 have A6 := Aside0.mk A60
 clear A60
 replace H := Option.bind_eq_some_iff.mp H
 obtain ⟨t268, A70, H⟩ := H
 try dsimp only at H
 have A7 := Aside0.mk A70
 clear A70
 go_enter Tryz.func100, Tryz.ntmps100
 try go_wp2_with (first | ((with_reducible refine gate_dst (N := 2) rfl ?_); refine bxe 2 #[.int .i64 a0_0, .int .i64 a0_1] 23 ?_; intro gb256 hg w12 hbox hb; have BK256 := Aside0.mk hbox; have GW256 := ge hg; have GE256 := ge hg; replace HB := bs hb; clear hb hbox hg) | ((with_reducible refine gate_dst (N := 3) rfl ?_); refine bxe 3 #[.int .i64 a1_0, .int .i64 a1_1] 23 ?_; intro gb257 hg w13 hbox hb; have BK257 := Aside0.mk hbox; have GW257 := ge hg; have GE257 := ge hg; have NB256_257 := nl BK256 hg; have NB257_256 := nr BK256 hg; replace BK256 := kb BK256 hb; replace HB := bs hb; clear hb hbox hg) | ((with_reducible refine gate_dst (N := 4) rfl ?_); refine bxe 4 #[.int .i64 0, .int .i64 0] 23 ?_; intro gb258 hg w14 hbox hb; have BK258 := Aside0.mk hbox; have GW258 := ge hg; have GE258 := ge hg; have NB256_258 := nl BK256 hg; have NB258_256 := nr BK256 hg; have NB257_258 := nl BK257 hg; have NB258_257 := nr BK257 hg; replace BK256 := kb BK256 hb; replace BK257 := kb BK257 hb; replace HB := bs hb; clear hb hbox hg; have hnb15 := NB256_257.out; have hnc15 := NB257_256.out; have hnb16 := NB256_258.out; have hnc16 := NB258_256.out; have hcz17_0 := c20 BK256; have hcz17_1 := c21 BK256; have hfz17_0 := blk_frozen BK256.out 0; have hfz17_1 := blk_frozen BK256.out 1; have hnb18 := NB257_258.out; have hnc18 := NB258_257.out; have hcz19_0 := c20 BK257; have hcz19_1 := c21 BK257; have hfz19_0 := blk_frozen BK257.out 0; have hfz19_1 := blk_frozen BK257.out 1))
 replace BK256 := Aside0.mk (blk_drew BK256.out)
 replace BK257 := Aside0.mk (blk_drew BK257.out)
 replace BK258 := Aside0.mk (blk_drew BK258.out)
 replace HB := Aside0.mk (below_drew1 HB.out)
 refine start_ (n := 18) (S := fun w' => w'.cell? ⟨gb256, 0, none⟩ = some (.int .i64 a0_0) ∧ w'.cell? ⟨gb256, 1, none⟩ = some (.int .i64 a0_1) ∧ w'.cell? ⟨gb257, 0, none⟩ = some (.int .i64 a1_0) ∧ w'.cell? ⟨gb257, 1, none⟩ = some (.int .i64 a1_1)) (ds := []) #[ff,ff,ff,ff,ff,ff,ff,ff,ff,ff,ff,ff,ff,ff,ff,ff,ff,ff] (by kernel_rfl) rfl rfl ⟨bc 0 BK256, bc 1 BK256, bc 0 BK257, bc 1 BK257⟩ (fun hHeld => ?_); refine with_tabW real_sum.tab2 real_sum.bits2 (fun HT_ HW_ => ?_)
 generalize w14.drew = w20 at BK256 BK257 BK258 HB hHeld ⊢
 refine pur 0 (some 13) #[tt,ff,ff,ff,ff,ff,ff,ff,ff,ff,ff,ff,ff,ff,ff,ff,ff,ff] ?_
 refine pur 3 (some 16) #[tt,ff,ff,tt,ff,ff,ff,ff,ff,ff,ff,ff,ff,ff,ff,ff,ff,ff] ?_
 refine pur 5 (some 18) #[tt,ff,ff,tt,ff,tt,ff,ff,ff,ff,ff,ff,ff,ff,ff,ff,ff,ff] ?_
 refine pur 8 (some 21) #[tt,ff,ff,tt,ff,tt,ff,ff,tt,ff,ff,ff,ff,ff,ff,ff,ff,ff] ?_
 refine pur 11 (some 24) #[tt,ff,ff,tt,ff,tt,ff,ff,tt,ff,ff,tt,ff,ff,ff,ff,ff,ff] ?_
 refine pur 13 (some 26) #[tt,ff,ff,tt,ff,tt,ff,ff,tt,ff,ff,tt,ff,tt,ff,ff,ff,ff] ?_
 refine tk4 1 (some 14) #[tt,tt,ff,tt,ff,tt,ff,ff,tt,ff,ff,tt,ff,tt,ff,ff,ff,ff] ?_
 refine tk4 4 (some 17) #[tt,tt,ff,tt,tt,tt,ff,ff,tt,ff,ff,tt,ff,tt,ff,ff,ff,ff] ?_
 refine pur 6 (some 19) #[tt,tt,ff,tt,tt,tt,tt,ff,tt,ff,ff,tt,ff,tt,ff,ff,ff,ff] ?_
 refine tk4 9 (some 22) #[tt,tt,ff,tt,tt,tt,tt,ff,tt,tt,ff,tt,ff,tt,ff,ff,ff,ff] ?_
 refine tk4 12 (some 25) #[tt,tt,ff,tt,tt,tt,tt,ff,tt,tt,ff,tt,tt,tt,ff,ff,ff,ff] ?_
 refine pur 14 (some 27) #[tt,tt,ff,tt,tt,tt,tt,ff,tt,tt,ff,tt,tt,tt,tt,ff,ff,ff] ?_
 refine on1 2 (some 15) #[tt,tt,tt,tt,tt,tt,tt,ff,tt,tt,ff,tt,tt,tt,tt,ff,ff,ff] (fun K hK => ?_)
 refine gsz Tryz.func113 #[.int .i64 a0_0] ?_
 with_reducible refine (real_magnitude.calls k a0_0 t259 _ A4.out).mono ?_
 rintro e w21 ⟨v260, rfl, ho0, hb⟩
 refine ⟨_, rfl, ?_⟩
 have HO261 := Aside0.mk (Kd.V_lower (Kd.V_mono (ok' := fun k_ => k_ ≠ gb256 ∧ k_ ≠ gb257 ∧ k_ ≠ gb258) ho0 (fun k_ hk_ => ⟨(fb BK256 k_ hk_), (fb BK257 k_ hk_), (fb BK258 k_ hk_)⟩)) (below_size bz))
 replace BK256 := kb BK256 hb
 replace BK257 := kb BK257 hb
 replace BK258 := kb BK258 hb
 replace HB := bs hb
 (try clear hb)
 (try clear hk)
 (try clear ho0)
 obtain ⟨Ao22, co22, eo22⟩ := Kd.V_slice HO261.out
 (first | subst eo22 | (injection eo22 with f1_ f2_ f3_; have f4_ := f1_.symm; have f5_ := f3_.symm; clear f1_ f2_ f3_; subst f4_; subst f5_))
 refine hK.out _ _ ⟨bc 0 BK256, bc 1 BK256, bc 0 BK257, bc 1 BK257⟩ (fun hHeld => ?_)
 clear hK K
 refine nrm (some 15) ?_
 refine on1 7 (some 20) #[tt,tt,tt,tt,tt,tt,tt,tt,tt,tt,ff,tt,tt,tt,tt,ff,ff,ff] (fun K hK => ?_)
 refine goes_ Tryz.func126 (by kernel_rfl) rfl #[.slice Ao22 t259.length co22, .int .i64 (wrap64 (a0_1 - (ji3)))] (by rfl) rfl rfl (by (try simp only [List.map_toArray, List.map_cons, List.map_nil]); first | done | (simp only [Act.eval, Array.getD_eq_getD_getElem?, Option.getD_some, *]; done) | (simp only [Act.eval, Array.getD_eq_getD_getElem?, Option.getD_some, *]; rfl) | (simp only [hji3]; rfl) | rfl | (simp only [List.length_drop, List.length_take]; rfl)) ?_
 with_reducible refine (real_nat_shl.calls k _ _ t259 (wrap64 (a0_1 - (ji3))) t262 _ ?side1 ?side2 A5.out).mono ?_
 (case side1 => exact ccz (Kd.V_reads' HO261.out).2.2)
 (case side2 => exact (Kd.V_reads' HO261.out).2.1)
 rintro e w23 ⟨v263, rfl, ho0, hb⟩
 refine ⟨_, rfl, ?_⟩
 have HO264 := Aside0.mk (Kd.V_lower (Kd.V_mono (ok' := fun k_ => k_ ≠ gb256 ∧ k_ ≠ gb257 ∧ k_ ≠ gb258) ho0 (fun k_ hk_ => ⟨(fb BK256 k_ hk_), (fb BK257 k_ hk_), (fb BK258 k_ hk_)⟩)) (below_size bz))
 replace HO261 := vb HO261 hb
 replace BK256 := kb BK256 hb
 replace BK257 := kb BK257 hb
 replace BK258 := kb BK258 hb
 replace HB := bs hb
 (try clear hb)
 (try clear hk)
 (try clear ho0)
 refine hK.out _ _ ⟨bc 0 BK256, bc 1 BK256, bc 0 BK257, bc 1 BK257⟩ (fun hHeld => ?_)
 clear hK K
 refine nrm (some 20) ?_
 refine on1 10 (some 23) #[tt,tt,tt,tt,tt,tt,tt,tt,tt,tt,tt,tt,tt,tt,tt,ff,ff,ff] (fun K hK => ?_)
 refine gsz Tryz.func113 #[.int .i64 a1_0] ?_
 with_reducible refine (real_magnitude.calls k a1_0 t265 _ A6.out).mono ?_
 rintro e w24 ⟨v266, rfl, ho0, hb⟩
 refine ⟨_, rfl, ?_⟩
 have HO267 := Aside0.mk (Kd.V_lower (Kd.V_mono (ok' := fun k_ => k_ ≠ gb256 ∧ k_ ≠ gb257 ∧ k_ ≠ gb258) ho0 (fun k_ hk_ => ⟨(fb BK256 k_ hk_), (fb BK257 k_ hk_), (fb BK258 k_ hk_)⟩)) (below_size bz))
 replace HO261 := vb HO261 hb
 replace HO264 := vb HO264 hb
 replace BK256 := kb BK256 hb
 replace BK257 := kb BK257 hb
 replace BK258 := kb BK258 hb
 replace HB := bs hb
 (try clear hb)
 (try clear hk)
 (try clear ho0)
 obtain ⟨Ao25, co25, eo25⟩ := Kd.V_slice HO267.out
 (first | subst eo25 | (injection eo25 with f1_ f2_ f3_; have f4_ := f1_.symm; have f5_ := f3_.symm; clear f1_ f2_ f3_; subst f4_; subst f5_))
 refine hK.out _ _ ⟨bc 0 BK256, bc 1 BK256, bc 0 BK257, bc 1 BK257⟩ (fun hHeld => ?_)
 clear hK K
 refine nrm (some 23) ?_
 refine on1 15 (some 28) #[tt,tt,tt,tt,tt,tt,tt,tt,tt,tt,tt,tt,tt,tt,tt,tt,ff,ff] (fun K hK => ?_)
 refine goes_ Tryz.func126 (by kernel_rfl) rfl #[.slice Ao25 t265.length co25, .int .i64 (wrap64 (a1_1 - (ji3)))] (by rfl) rfl rfl (by (try simp only [List.map_toArray, List.map_cons, List.map_nil]); first | done | (simp only [Act.eval, Array.getD_eq_getD_getElem?, Option.getD_some, *]; done) | (simp only [Act.eval, Array.getD_eq_getD_getElem?, Option.getD_some, *]; rfl) | (simp only [hji3]; rfl) | rfl | (simp only [List.length_drop, List.length_take]; rfl)) ?_
 with_reducible refine (real_nat_shl.calls k _ _ t265 (wrap64 (a1_1 - (ji3))) t268 _ ?side1 ?side2 A7.out).mono ?_
 (case side1 => exact ccz (Kd.V_reads' HO267.out).2.2)
 (case side2 => exact (Kd.V_reads' HO267.out).2.1)
 rintro e w26 ⟨v269, rfl, ho0, hb⟩
 refine ⟨_, rfl, ?_⟩
 have HO270 := Aside0.mk (Kd.V_lower (Kd.V_mono (ok' := fun k_ => k_ ≠ gb256 ∧ k_ ≠ gb257 ∧ k_ ≠ gb258) ho0 (fun k_ hk_ => ⟨(fb BK256 k_ hk_), (fb BK257 k_ hk_), (fb BK258 k_ hk_)⟩)) (below_size bz))
 replace HO261 := vb HO261 hb
 replace HO264 := vb HO264 hb
 replace HO267 := vb HO267 hb
 replace BK256 := kb BK256 hb
 replace BK257 := kb BK257 hb
 replace BK258 := kb BK258 hb
 replace HB := bs hb
 (try clear hb)
 (try clear hk)
 (try clear ho0)
 refine hK.out _ _ ⟨bc 0 BK256, bc 1 BK256, bc 0 BK257, bc 1 BK257⟩ (fun hHeld => ?_)
 clear hK K
 refine nrm (some 28) ?_
 refine pur 16 (some 6) #[tt,tt,tt,tt,tt,tt,tt,tt,tt,tt,tt,tt,tt,tt,tt,tt,tt,ff] ?_
 refine pur 17 (some 7) #[tt,tt,tt,tt,tt,tt,tt,tt,tt,tt,tt,tt,tt,tt,tt,tt,tt,tt] ?_
 refine done_ (done_of HT_.out (by kernel_rfl)) ?_
 have hcz27_0 := c20 BK256
 have hcz27_1 := c21 BK256
 have hfz27_0 := blk_frozen BK256.out 0
 have hfz27_1 := blk_frozen BK256.out 1
 have hcz28_0 := c20 BK257
 have hcz28_1 := c21 BK257
 have hfz28_0 := blk_frozen BK257.out 0
 have hfz28_1 := blk_frozen BK257.out 1
 obtain ⟨Ao29, co29, eo29⟩ := Kd.V_slice HO264.out
 subst eo29
 obtain ⟨Ao30, co30, eo30⟩ := Kd.V_slice HO270.out
 subst eo30
 by_cases c8 : ((decide (a0_0 < 0)) == (decide (a1_0 < 0))) = true
 ·rw [if_pos c8] at H
  have c8b0 : ((decide (a0_0 < 0)) == (decide (a1_0 < 0))) = true := c8
  (try (have c8b1 : decide ((decide (a0_0 < 0)) = (decide (a1_0 < 0))) = true := by simpa using c8))
  (try (have c8b2 : ((decide (a0_0 < 0)) == (decide (a1_0 < 0))) = true := by simpa using c8))
  clear c8
  replace H := Option.bind_eq_some_iff.mp H
  obtain ⟨t271, A90, H⟩ := H
  try dsimp only at H
  have A9 := Aside0.mk A90
  clear A90
  obtain ⟨y274, hy274⟩ : ∃ y_ : List Int, y_ = (([1] : List Int)) := ⟨_, rfl⟩
  replace H : ((real_rounded.f k t271 (ji3) y274).bind fun bt277 => ((real_signed.f (decide (a0_0 < 0)) bt277.1 bt277.2).bind fun bt279 => (some (bt279.1, bt279.2)))) = some (r1, r2) := by first | (rw [hy274]; with_reducible exact H) | (have H2_ := (Option.bind_some _ _).symm.trans H; rw [hy274]; with_reducible exact H2_) | (have H2_ := (Option.bind_some _ _).symm.trans H; with_reducible exact H2_) | with_reducible exact H | (rw [hy274]; exact H) | exact H
  have Ny274 := Aside0.mk hy274
  clear hy274
  replace H := Option.bind_eq_some_iff.mp H
  obtain ⟨⟨t277, t278⟩, A100, H⟩ := H
  try dsimp only at H
  have A10 := Aside0.mk A100
  clear A100
  replace H := Option.bind_eq_some_iff.mp H
  obtain ⟨⟨t279, t280⟩, A110, H⟩ := H
  try dsimp only at H
  have A11 := Aside0.mk A110
  clear A110
  simp only [Option.some.injEq, Prod.mk.injEq] at H
  obtain ⟨rfl, rfl⟩ := H
  try go_wp2
  replace HO261 := Aside0.mk (Kd.V_drew HO261.out)
  replace HO264 := Aside0.mk (Kd.V_drew HO264.out)
  replace HO267 := Aside0.mk (Kd.V_drew HO267.out)
  replace HO270 := Aside0.mk (Kd.V_drew HO270.out)
  replace BK256 := Aside0.mk (blk_drew BK256.out)
  replace BK257 := Aside0.mk (blk_drew BK257.out)
  replace BK258 := Aside0.mk (blk_drew BK258.out)
  replace HB := Aside0.mk (below_drew1 HB.out)
  refine start_ (n := 11) (S := fun w' => w'.cell? ⟨gb256, 0, none⟩ = some (.int .i64 a0_0) ∧ w'.cell? ⟨gb256, 1, none⟩ = some (.int .i64 a0_1)) (ds := []) #[ff,ff,ff,ff,ff,ff,ff,ff,ff,ff,ff] (by kernel_rfl) rfl rfl ⟨bc 0 BK256, bc 1 BK256⟩ (fun hHeld => ?_); refine with_tabW real_sum.tab4 real_sum.bits4 (fun HT_ HW_ => ?_)
  generalize w26.drew = w31 at HO261 HO264 HO267 HO270 BK256 BK257 BK258 HB hHeld ⊢
  refine pur 0 (some 36) #[tt,ff,ff,ff,ff,ff,ff,ff,ff,ff,ff] ?_
  refine pur 3 (some 39) #[tt,ff,ff,tt,ff,ff,ff,ff,ff,ff,ff] ?_
  refine pur 4 (some 40) #[tt,ff,ff,tt,tt,ff,ff,ff,ff,ff,ff] ?_
  refine pur 6 (some 42) #[tt,ff,ff,tt,tt,ff,tt,ff,ff,ff,ff] ?_
  refine tk2 1 (some 37) #[tt,tt,ff,tt,tt,ff,tt,ff,ff,ff,ff] ?_
  refine pur 2 (some 38) #[tt,tt,tt,tt,tt,ff,tt,ff,ff,ff,ff] ?_
  refine join_ (σ := Value × Value) 3 #[true, true, true, true, true, true, true, true, false, false, false] (fun s_ => [(41, s_.1), (43, s_.2)]) (fun s_ w' => (w'.cell? ⟨gb256, 0, none⟩ = some (.int .i64 a0_0) ∧ w'.cell? ⟨gb256, 1, none⟩ = some (.int .i64 a0_1)) ∧ (Kd.V (Kd.int .u32) 115 w' w.heap.size (fun k_ => some k_ ≠ (s_.2 : Value).ownBlock ∧ k_ ≠ gb256 ∧ k_ ≠ gb257 ∧ k_ ≠ gb258) (.slice Ao22 t259.length co22) t259) ∧ (Kd.V (Kd.int .u32) 115 w' w.heap.size (fun k_ => some k_ ≠ (s_.2 : Value).ownBlock ∧ k_ ≠ gb256 ∧ k_ ≠ gb257 ∧ k_ ≠ gb258) (.slice Ao29 t262.length co29) t262) ∧ (Kd.V (Kd.int .u32) 115 w' w.heap.size (fun k_ => some k_ ≠ (s_.2 : Value).ownBlock ∧ k_ ≠ gb256 ∧ k_ ≠ gb257 ∧ k_ ≠ gb258) (.slice Ao25 t265.length co25) t265) ∧ (Kd.V (Kd.int .u32) 115 w' w.heap.size (fun k_ => some k_ ≠ (s_.2 : Value).ownBlock ∧ k_ ≠ gb256 ∧ k_ ≠ gb257 ∧ k_ ≠ gb258) (.slice Ao30 t268.length co30) t268) ∧ (Kd.V (Kd.int .u32) 115 w' w.heap.size (fun k_ => some k_ ≠ (s_.2 : Value).ownBlock ∧ k_ ≠ gb256 ∧ k_ ≠ gb257 ∧ k_ ≠ gb258) s_.1 t271) ∧ (Kd.R (Kd.int .u32) 115 w' w.heap.size (fun _ => True) s_.2 y274) ∧ (w'.heap[gb256]? = some (.cells #[.int .i64 a0_0, .int .i64 a0_1] 23 (0, 0))) ∧ (w'.heap[gb257]? = some (.cells #[.int .i64 a1_0, .int .i64 a1_1] 23 (0, 0))) ∧ (w'.heap[gb258]? = some (.cells #[.int .i64 0, .int .i64 0] 23 (0, 0))) ∧ (Below w.heap.size w w')) ?_ ?_
  rotate_left
  ·intro hCont
   refine two_ (i := 5) (j := 7) (Ni := some 41) (Nj := some 43) #[true, true, true, true, true, true, true, false, false, false, false] #[true, true, true, true, true, false, true, true, false, false, false] rfl rfl rfl rfl (two_of HT_.out (by kernel_rfl)) (by decide) (by decide) (fun K hK => ?_) (fun K hK => ?_)
   ·skip
    refine gsz Tryz.func117 #[.slice Ao29 t262.length co29, .slice Ao30 t268.length co30] ?_
    with_reducible refine (real_nat_add.calls k _ _ t262 _ _ t268 t271 _ ?side1 ?side2 ?side3 ?side4 A9.out).mono ?_
    (case side1 => exact ccz (Kd.V_reads' HO264.out).2.2)
    (case side2 => exact (Kd.V_reads' HO264.out).2.1)
    (case side3 => exact ccz (Kd.V_reads' HO270.out).2.2)
    (case side4 => exact (Kd.V_reads' HO270.out).2.1)
    rintro e w32 ⟨v272, rfl, ho0, hb⟩
    refine ⟨_, rfl, ?_⟩
    have HO273 := Aside0.mk (Kd.V_lower (Kd.V_mono (ok' := fun k_ => k_ ≠ gb256 ∧ k_ ≠ gb257 ∧ k_ ≠ gb258) ho0 (fun k_ hk_ => ⟨(fb BK256 k_ hk_), (fb BK257 k_ hk_), (fb BK258 k_ hk_)⟩)) (below_size bz))
    replace HO261 := vb HO261 hb
    replace HO264 := vb HO264 hb
    replace HO267 := vb HO267 hb
    replace HO270 := vb HO270 hb
    replace BK256 := kb BK256 hb
    replace BK257 := kb BK257 hb
    replace BK258 := kb BK258 hb
    replace HB := bs hb
    (try clear hb)
    (try clear hk)
    (try clear ho0)
    refine hK.out _ _ ⟨bc 0 BK256, bc 1 BK256⟩ (fun hHeld => ?_)
    clear hK K
    refine nrm (some 41) ?_
    refine on1 7 (some 43) #[tt,tt,tt,tt,tt,tt,tt,tt,ff,ff,ff] (fun K hK => ?_)
    refine Kd.R_lit_step (Kd.int .u32) _ 115 ?hg (N := 43) ?hd (xs := ([1] : List Int)) (inner := [.int .u32 1]) (ok := fun _ => True) (okp := fun _ => True) ?hr ?hp (fun _ hk => hk) trivial (Below.refl _ _) (Nat.le_refl _) (by simp) ?_; (case hd => rfl); (case hg => rfl); (case hr => first | (go_simp; done) | (go_simp; rfl)); (case hp => exact (Reps.one (show Kd.M (Kd.int .u32) _ _ _ 1 [.int .u32 1] from rfl) (Reps.none _ _)))
    intro v275 w33 ho34 hb hg_ hnew_
    clear hg_ hnew_
    (first | rw [← Ny274.out] at ho34 | (simp only [Int.reduceToNat] at ho34; rw [← Ny274.out] at ho34))
    have HO276 := Aside0.mk (Kd.R_lower ho34 (below_size bz))
    replace HO261 := Aside0.mk (Kd.V_elder' (vz HO261) (Kd.R_base ho34) hb)
    replace HO264 := Aside0.mk (Kd.V_elder' (vz HO264) (Kd.R_base ho34) hb)
    replace HO267 := Aside0.mk (Kd.V_elder' (vz HO267) (Kd.R_base ho34) hb)
    replace HO270 := Aside0.mk (Kd.V_elder' (vz HO270) (Kd.R_base ho34) hb)
    replace HO273 := Aside0.mk (Kd.V_elder' (vz HO273) (Kd.R_base ho34) hb)
    replace BK256 := kb BK256 hb
    replace BK257 := kb BK257 hb
    replace BK258 := kb BK258 hb
    replace HB := bs hb
    clear hb ho34
    refine hK.out _ _ ⟨bc 0 BK256, bc 1 BK256⟩ (fun hHeld => ?_)
    clear hK K
    refine nrm (some 43) ?_
    exact norm_ (by simp only [putAll, Act.put, List.setIfInBounds_toArray, List.set_cons_zero, List.set_cons_succ]) (hCont (v272, v275) _ ⟨hHeld, (by (with_reducible repeat (first | apply Kd.V_alloc | apply Kd.V_drewN | apply Kd.V_drew)); exact Kd.V_mono HO261.out (fun _ hk => by first | exact ⟨hk.2, ⟨hk.1.1, ⟨hk.1.2.1, hk.1.2.2⟩⟩⟩ | exact hk.1 | exact hk | exact hk.2)), (by (with_reducible repeat (first | apply Kd.V_alloc | apply Kd.V_drewN | apply Kd.V_drew)); exact Kd.V_mono HO264.out (fun _ hk => by first | exact ⟨hk.2, ⟨hk.1.1, ⟨hk.1.2.1, hk.1.2.2⟩⟩⟩ | exact hk.1 | exact hk | exact hk.2)), (by (with_reducible repeat (first | apply Kd.V_alloc | apply Kd.V_drewN | apply Kd.V_drew)); exact Kd.V_mono HO267.out (fun _ hk => by first | exact ⟨hk.2, ⟨hk.1.1, ⟨hk.1.2.1, hk.1.2.2⟩⟩⟩ | exact hk.1 | exact hk | exact hk.2)), (by (with_reducible repeat (first | apply Kd.V_alloc | apply Kd.V_drewN | apply Kd.V_drew)); exact Kd.V_mono HO270.out (fun _ hk => by first | exact ⟨hk.2, ⟨hk.1.1, ⟨hk.1.2.1, hk.1.2.2⟩⟩⟩ | exact hk.1 | exact hk | exact hk.2)), (by (with_reducible repeat (first | apply Kd.V_alloc | apply Kd.V_drewN | apply Kd.V_drew)); exact Kd.V_mono HO273.out (fun _ hk => by first | exact ⟨hk.2, ⟨hk.1.1, ⟨hk.1.2.1, hk.1.2.2⟩⟩⟩ | exact hk.1 | exact hk | exact hk.2)), (rz HO276), (kz BK256), (kz BK257), (kz BK258), bz⟩)
   ·skip
    refine Kd.R_lit_step (Kd.int .u32) _ 115 ?hg (N := 43) ?hd (xs := ([1] : List Int)) (inner := [.int .u32 1]) (ok := fun _ => True) (okp := fun _ => True) ?hr ?hp (fun _ hk => hk) trivial (Below.refl _ _) (Nat.le_refl _) (by simp) ?_; (case hd => rfl); (case hg => rfl); (case hr => first | (go_simp; done) | (go_simp; rfl)); (case hp => exact (Reps.one (show Kd.M (Kd.int .u32) _ _ _ 1 [.int .u32 1] from rfl) (Reps.none _ _)))
    intro v275 w32 ho33 hb hg_ hnew_
    clear hg_ hnew_
    (first | rw [← Ny274.out] at ho33 | (simp only [Int.reduceToNat] at ho33; rw [← Ny274.out] at ho33))
    have HO276 := Aside0.mk (Kd.R_lower ho33 (below_size bz))
    replace HO261 := Aside0.mk (Kd.V_elder' (vz HO261) (Kd.R_base ho33) hb)
    replace HO264 := Aside0.mk (Kd.V_elder' (vz HO264) (Kd.R_base ho33) hb)
    replace HO267 := Aside0.mk (Kd.V_elder' (vz HO267) (Kd.R_base ho33) hb)
    replace HO270 := Aside0.mk (Kd.V_elder' (vz HO270) (Kd.R_base ho33) hb)
    replace BK256 := kb BK256 hb
    replace BK257 := kb BK257 hb
    replace BK258 := kb BK258 hb
    replace HB := bs hb
    clear hb ho33
    refine hK.out _ _ ⟨bc 0 BK256, bc 1 BK256⟩ (fun hHeld => ?_)
    clear hK K
    refine nrm (some 43) ?_
    refine on1 5 (some 41) #[tt,tt,tt,tt,tt,tt,tt,tt,ff,ff,ff] (fun K hK => ?_)
    refine gsz Tryz.func117 #[.slice Ao29 t262.length co29, .slice Ao30 t268.length co30] ?_
    with_reducible refine (real_nat_add.calls k _ _ t262 _ _ t268 t271 _ ?side1 ?side2 ?side3 ?side4 A9.out).mono ?_
    (case side1 => exact ccz (Kd.V_reads' HO264.out).2.2)
    (case side2 => exact (Kd.V_reads' HO264.out).2.1)
    (case side3 => exact ccz (Kd.V_reads' HO270.out).2.2)
    (case side4 => exact (Kd.V_reads' HO270.out).2.1)
    rintro e w34 ⟨v272, rfl, ho0, hb⟩
    refine ⟨_, rfl, ?_⟩
    have HO273 := Aside0.mk (Kd.V_lower (Kd.V_mono (ok' := fun k_ => some k_ ≠ (v275 : Value).ownBlock ∧ k_ ≠ gb256 ∧ k_ ≠ gb257 ∧ k_ ≠ gb258) ho0 (fun k_ hk_ => ⟨(Kd.fresh' (Kd.R_lt (rz HO276)) k_ hk_), (fb BK256 k_ hk_), (fb BK257 k_ hk_), (fb BK258 k_ hk_)⟩)) (below_size bz))
    replace HO261 := vb HO261 hb
    replace HO264 := vb HO264 hb
    replace HO267 := vb HO267 hb
    replace HO270 := vb HO270 hb
    replace HO276 := rb HO276 hb
    replace BK256 := kb BK256 hb
    replace BK257 := kb BK257 hb
    replace BK258 := kb BK258 hb
    replace HB := bs hb
    (try clear hb)
    (try clear hk)
    (try clear ho0)
    refine hK.out _ _ ⟨bc 0 BK256, bc 1 BK256⟩ (fun hHeld => ?_)
    clear hK K
    refine nrm (some 41) ?_
    exact norm_ (by simp only [putAll, Act.put, List.setIfInBounds_toArray, List.set_cons_zero, List.set_cons_succ]) (hCont (v272, v275) _ ⟨hHeld, (by (with_reducible repeat (first | apply Kd.V_alloc | apply Kd.V_drewN | apply Kd.V_drew)); exact Kd.V_mono HO261.out (fun _ hk => by first | exact ⟨hk.2, ⟨hk.1.1, ⟨hk.1.2.1, hk.1.2.2⟩⟩⟩ | exact hk.1 | exact hk | exact hk.2)), (by (with_reducible repeat (first | apply Kd.V_alloc | apply Kd.V_drewN | apply Kd.V_drew)); exact Kd.V_mono HO264.out (fun _ hk => by first | exact ⟨hk.2, ⟨hk.1.1, ⟨hk.1.2.1, hk.1.2.2⟩⟩⟩ | exact hk.1 | exact hk | exact hk.2)), (by (with_reducible repeat (first | apply Kd.V_alloc | apply Kd.V_drewN | apply Kd.V_drew)); exact Kd.V_mono HO267.out (fun _ hk => by first | exact ⟨hk.2, ⟨hk.1.1, ⟨hk.1.2.1, hk.1.2.2⟩⟩⟩ | exact hk.1 | exact hk | exact hk.2)), (by (with_reducible repeat (first | apply Kd.V_alloc | apply Kd.V_drewN | apply Kd.V_drew)); exact Kd.V_mono HO270.out (fun _ hk => by first | exact ⟨hk.2, ⟨hk.1.1, ⟨hk.1.2.1, hk.1.2.2⟩⟩⟩ | exact hk.1 | exact hk | exact hk.2)), (vz HO273), (rz HO276), (kz BK256), (kz BK257), (kz BK258), bz⟩)
  rintro ⟨v272, v275⟩ w35 ⟨hS_, h0_, h1_, h2_, h3_, h4_, h5_, h6_, h7_, h8_, h9_⟩
  have HO273 : Aside0 (Kd.V (Kd.int .u32) 115 w35 w.heap.size (fun k_ => some k_ ≠ (v275 : Value).ownBlock ∧ k_ ≠ gb256 ∧ k_ ≠ gb257 ∧ k_ ≠ gb258) v272 t271) := ⟨h4_⟩
  have HO276 : Aside0 (Kd.R (Kd.int .u32) 115 w35 w.heap.size (fun _ => True) v275 y274) := ⟨h5_⟩
  replace HO261 : Aside0 (Kd.V (Kd.int .u32) 115 w35 w.heap.size (fun k_ => some k_ ≠ (v275 : Value).ownBlock ∧ k_ ≠ gb256 ∧ k_ ≠ gb257 ∧ k_ ≠ gb258) (.slice Ao22 t259.length co22) t259) := ⟨h0_⟩
  replace HO264 : Aside0 (Kd.V (Kd.int .u32) 115 w35 w.heap.size (fun k_ => some k_ ≠ (v275 : Value).ownBlock ∧ k_ ≠ gb256 ∧ k_ ≠ gb257 ∧ k_ ≠ gb258) (.slice Ao29 t262.length co29) t262) := ⟨h1_⟩
  replace HO267 : Aside0 (Kd.V (Kd.int .u32) 115 w35 w.heap.size (fun k_ => some k_ ≠ (v275 : Value).ownBlock ∧ k_ ≠ gb256 ∧ k_ ≠ gb257 ∧ k_ ≠ gb258) (.slice Ao25 t265.length co25) t265) := ⟨h2_⟩
  replace HO270 : Aside0 (Kd.V (Kd.int .u32) 115 w35 w.heap.size (fun k_ => some k_ ≠ (v275 : Value).ownBlock ∧ k_ ≠ gb256 ∧ k_ ≠ gb257 ∧ k_ ≠ gb258) (.slice Ao30 t268.length co30) t268) := ⟨h3_⟩
  replace BK256 : Aside0 (w35.heap[gb256]? = some (.cells #[.int .i64 a0_0, .int .i64 a0_1] 23 (0, 0))) := ⟨h6_⟩
  replace BK257 : Aside0 (w35.heap[gb257]? = some (.cells #[.int .i64 a1_0, .int .i64 a1_1] 23 (0, 0))) := ⟨h7_⟩
  replace BK258 : Aside0 (w35.heap[gb258]? = some (.cells #[.int .i64 0, .int .i64 0] 23 (0, 0))) := ⟨h8_⟩
  replace HB : Aside0 (Below w.heap.size w w35) := ⟨h9_⟩
  clear h0_ h1_ h2_ h3_ h4_ h5_ h6_ h7_ h8_ h9_
  have hHeld : w35.cell? ⟨gb256, 0, none⟩ = some (.int .i64 a0_0) ∧ w35.cell? ⟨gb256, 1, none⟩ = some (.int .i64 a0_1) := hS_
  obtain ⟨Ao36, co36, eo36⟩ := Kd.V_slice HO273.out
  (first | subst eo36 | (injection eo36 with f1_ f2_ f3_; have f4_ := f1_.symm; have f5_ := f3_.symm; clear f1_ f2_ f3_; subst f4_; subst f5_))
  obtain ⟨Ao37, co37, eo37⟩ := Kd.R_slice HO276.out
  (first | subst eo37 | (injection eo37 with f1_ f2_ f3_; have f4_ := f1_.symm; have f5_ := f3_.symm; clear f1_ f2_ f3_; subst f4_; subst f5_))
  refine norm_ (a' := ?_) ?_ ?_
  rotate_left
  ·simp only [putAll, Act.put, List.setIfInBounds_toArray, List.set_cons_zero, List.set_cons_succ]
   rfl
  refine on1 8 (some 44) #[tt,tt,tt,tt,tt,tt,tt,tt,tt,ff,ff] (fun K hK => ?_)
  refine goesP_ Tryz.func97 (by kernel_rfl) rfl #[.slice Ao36 t271.length co36, .int .i64 ji3, .slice Ao37 y274.length co37] (by rfl) rfl rfl (by (try simp only [List.map_toArray, List.map_cons, List.map_nil]); first | done | (simp only [Act.eval, Array.getD_eq_getD_getElem?, Option.getD_some, *]; done) | (simp only [Act.eval, Array.getD_eq_getD_getElem?, Option.getD_some, *]; rfl) | (simp only [hji3]; rfl) | rfl | (simp only [List.length_drop, List.length_take]; rfl)) ?_
  with_reducible refine (real_rounded.calls k ?pred3_ _ _ t271 ji3 (fun k_ => some k_ = (.slice Ao37 y274.length co37 : Value).ownBlock) _ _ y274 t277 t278 _ ?side1 ?side2 A10.out).mono ?_
  (case side1 => exact HO273.out)
  (case side2 => exact Kd.R_V (Kd.R_tight rfl (Kd.R_types (Kd.R_types (Kd.R_types (HO276.out) BK256.out (by decide)) BK257.out (by decide)) BK258.out (by decide))))
  rintro e w38 ⟨he_, hb⟩
  refine ends_ he_ (fun p1_ => And.intro rfl (And.intro (by first | exact code_direct p1_ | exact code_signed (by assumption) p1_) (below_step bz hb))) (fun hpn_ => ?_)
  replace HO261 := vb HO261 hb
  replace HO264 := vb HO264 hb
  replace HO267 := vb HO267 hb
  replace HO270 := vb HO270 hb
  replace HO273 := vb HO273 hb
  replace HO276 := rb HO276 hb
  replace BK256 := kb BK256 hb
  replace BK257 := kb BK257 hb
  replace BK258 := kb BK258 hb
  replace HB := bs hb
  (try clear hb)
  (try clear hk)
  refine hK.out _ _ ⟨bc 0 BK256, bc 1 BK256⟩ (fun hHeld => ?_)
  clear hK K
  refine nrm (some 44) ?_
  refine on1 9 (some 45) #[tt,tt,tt,tt,tt,tt,tt,tt,tt,tt,ff] (fun K hK => ?_)
  refine gsz Tryz.func80 #[.bool (decide (a0_0 < 0)), .agg #[.int .i64 t277, .int .i64 t278]] ?_
  with_reducible refine (real_signed.calls (decide (a0_0 < 0)) t277 t278 t279 t280 _ A11.out).mono ?_
  rintro e w39 ⟨rfl, hb⟩
  refine ⟨_, rfl, ?_⟩
  replace HO261 := vb HO261 hb
  replace HO264 := vb HO264 hb
  replace HO267 := vb HO267 hb
  replace HO270 := vb HO270 hb
  replace HO273 := vb HO273 hb
  replace HO276 := rb HO276 hb
  replace BK256 := kb BK256 hb
  replace BK257 := kb BK257 hb
  replace BK258 := kb BK258 hb
  replace HB := bs hb
  (try clear hb)
  (try clear hk)
  refine hK.out _ _ ⟨bc 0 BK256, bc 1 BK256⟩ (fun hHeld => ?_)
  clear hK K
  refine nrm (some 45) ?_
  refine on1 10 (none) #[tt,tt,tt,tt,tt,tt,tt,tt,tt,tt,tt] (fun K hK => ?_)
  have hs40 : w39.cell? ⟨gb258, 0, none⟩ = some (.int .i64 0) := (blk_cell BK258.out 0).trans rfl
  have hfs40 := blk_frozen BK258.out 0
  have hns40_0 := NB256_258.out
  have hns40_1 := NB257_258.out
  have hms40_0 := NB258_256.out
  have hms40_1 := NB258_257.out
  have hs41 : w39.cell? ⟨gb258, 1, none⟩ = some (.int .i64 0) := (blk_cell BK258.out 1).trans rfl
  have hfs41 := blk_frozen BK258.out 1
  have hns41_0 := NB256_258.out
  have hns41_1 := NB257_258.out
  have hms41_0 := NB258_256.out
  have hms41_1 := NB258_257.out
  refine skip_ (w1 := ?_) (by rfl) rfl ?_ ?_
  rotate_left
  ·go_simp
   rfl
  refine hK.out _ _ ⟨((cell_far (p := ⟨gb258, _, none⟩) NB256_258.out _).trans (((cell_far (p := ⟨gb258, _, none⟩) NB256_258.out _).trans (hHeld.1)))), ((cell_far (p := ⟨gb258, _, none⟩) NB256_258.out _).trans (((cell_far (p := ⟨gb258, _, none⟩) NB256_258.out _).trans (hHeld.2))))⟩ (fun hHeld => ?_)
  clear hK K
  refine done_ (done_of HT_.out (by kernel_rfl)) ?_
  try go_wp2
  refine bodyPost_ret (results_cell_row rfl _ _ gb258 23 #[.int .i64 t279, .int .i64 t280] (0, 0) _ rfl (by (with_reducible repeat (first | refine blk_drewN ?_ _ | refine blk_drew ?_ | refine blk_alloc ?_ _)); refine blk_put (cs := #[.int .i64 t279, .int .i64 0]) ?_ 1 _ rfl; (with_reducible repeat (first | refine blk_drewN ?_ _ | refine blk_drew ?_ | refine blk_alloc ?_ _)); refine blk_put (cs := #[.int .i64 0, .int .i64 0]) ?_ 0 _ rfl; (with_reducible repeat (first | refine blk_drewN ?_ _ | refine blk_drew ?_ | refine blk_alloc ?_ _)); exact BK258.out) Tryz.underlying23 rfl (by kernel_rfl)) rfl ?_
  exact ⟨by first | rfl | exact ending_le (by assumption) | exact (ending_at hpn_).symm | exact (ending_at (signed_not (by assumption) hpn_)).symm | (simp [errW_none, errW_some] <;> rfl) | (simp only [← hji3]; first | rfl | (simp [errW_none, errW_some] <;> rfl)) | (simp [*, errW_none, errW_some] <;> rfl), bz⟩
 ·rw [if_neg c8] at H
  cases H

def real_quotient.f (k : Nat) (a0_0 : Int) (a0_1 : Int) (a1_0 : Int) (a1_1 : Int) : Option (Int × Int) := (real_magnitude.f k a0_0).bind fun t305 => ((real_magnitude.f k a1_0).bind fun t308 => ((real_rounded.f k t305 (wrap64 (a0_1 - a1_1)) t308).bind fun bt311 => ((real_signed.f ((decide (a0_0 < 0)) != (decide (a1_0 < 0))) bt311.1 bt311.2).bind fun bt313 => (some (bt313.1, bt313.2)))))
theorem real_quotient.mono : ∀ a0 a1 a2 a3 k, LeO (real_quotient.f k a0 a1 a2 a3) (real_quotient.f (k + 1) a0 a1 a2 a3) := by
 intro a0 a1 a2 a3 k
 unfold real_quotient.f
 repeat' first
   | (with_reducible exact real_magnitude.mono _ _)
   | (with_reducible exact real_rounded.mono _ _ _ _)
   | (with_reducible exact LeO.refl _)
   | (with_reducible exact LeO.none _)
   | (with_reducible refine LeO.ite ?_ ?_)
   | (with_reducible refine LeO.bind ?_ (fun _ => ?_))
   | exact real_magnitude.mono _ _
   | exact real_rounded.mono _ _ _ _
   | exact LeO.none _
   | refine LeO.ite ?_ ?_
   | refine LeO.bind ?_ (fun _ => ?_)
def real_quotient.T1 : Bool × List (List Nat × List Nat) := (true, [([], []), ([0], [0]), ([1], [1]), ([], []), ([3], [3]), ([4], [4]), ([2, 5], [2, 5]), ([], []), ([7], [7]), ([8], [8]), ([], []), ([10], [10]), ([], []), ([12], [12]), ([11, 13], [11, 13]), ([], []), ([15], [15]), ([16, 9], [16]), ([9, 14, 17, 17], [9, 14, 17]), ([6, 18, 18], [6, 18]), ([19, 19, 0, 1, 2, 3, 4, 5, 6, 7, 8, 9, 10, 11, 12, 13, 14, 15, 16, 17, 18, 19], [19])])
def real_quotient.B1 : List Nat := [0, 1, 3, 0, 8, 24, 63, 0, 128, 384, 0, 1024, 0, 4096, 15360, 0, 32768, 99200, 262016, 524287, 1048575]
theorem real_quotient.tab1 : rtab .any (opsOf Tryz.f68 1) = real_quotient.T1 := by kernel_rfl
theorem real_quotient.bits1 : waitsOk real_quotient.T1.2 real_quotient.B1 = true := by kernel_rfl
theorem real_quotient.calls (k : Nat) (a0_0 : Int) (a0_1 : Int) (a1_0 : Int) (a1_1 : Int) (r1 : Int) (r2 : Int) (w : World) (h : real_quotient.f k a0_0 a0_1 a1_0 a1_1 = some (r1, r2)) :
  Calls Tryz.prog 68 #[.agg #[.int .i64 a0_0, .int .i64 a0_1], .agg #[.int .i64 a1_0, .int .i64 a1_1]] w fun e w' => e = ending r1 r2 ∧ Below w.heap.size w w' := by
 have hu23 := Tryz.underlying23
 have HB := Aside0.mk (Below.refl w.heap.size w)
 have H := h; unfold real_quotient.f at H; clear h
 replace H := Option.bind_eq_some_iff.mp H
 obtain ⟨t305, A30, H⟩ := H
 try dsimp only at H
 have A3 := Aside0.mk A30
 clear A30
 replace H := Option.bind_eq_some_iff.mp H
 obtain ⟨t308, A40, H⟩ := H
 try dsimp only at H
 have A4 := Aside0.mk A40
 clear A40
 replace H := Option.bind_eq_some_iff.mp H
 obtain ⟨⟨t311, t312⟩, A50, H⟩ := H
 try dsimp only at H
 have A5 := Aside0.mk A50
 clear A50
 replace H := Option.bind_eq_some_iff.mp H
 obtain ⟨⟨t313, t314⟩, A60, H⟩ := H
 try dsimp only at H
 have A6 := Aside0.mk A60
 clear A60
 simp only [Option.some.injEq, Prod.mk.injEq] at H
 obtain ⟨rfl, rfl⟩ := H
 go_enter Tryz.func68, Tryz.ntmps68
 try go_wp2_with (first | ((with_reducible refine gate_dst (N := 2) rfl ?_); refine bxe 2 #[.int .i64 a0_0, .int .i64 a0_1] 23 ?_; intro gb302 hg w7 hbox hb; have BK302 := Aside0.mk hbox; have GW302 := ge hg; have GE302 := ge hg; replace HB := bs hb; clear hb hbox hg) | ((with_reducible refine gate_dst (N := 3) rfl ?_); refine bxe 3 #[.int .i64 a1_0, .int .i64 a1_1] 23 ?_; intro gb303 hg w8 hbox hb; have BK303 := Aside0.mk hbox; have GW303 := ge hg; have GE303 := ge hg; have NB302_303 := nl BK302 hg; have NB303_302 := nr BK302 hg; replace BK302 := kb BK302 hb; replace HB := bs hb; clear hb hbox hg) | ((with_reducible refine gate_dst (N := 4) rfl ?_); refine bxe 4 #[.int .i64 0, .int .i64 0] 23 ?_; intro gb304 hg w9 hbox hb; have BK304 := Aside0.mk hbox; have GW304 := ge hg; have GE304 := ge hg; have NB302_304 := nl BK302 hg; have NB304_302 := nr BK302 hg; have NB303_304 := nl BK303 hg; have NB304_303 := nr BK303 hg; replace BK302 := kb BK302 hb; replace BK303 := kb BK303 hb; replace HB := bs hb; clear hb hbox hg))
 replace BK302 := Aside0.mk (blk_drew BK302.out)
 replace BK303 := Aside0.mk (blk_drew BK303.out)
 replace BK304 := Aside0.mk (blk_drew BK304.out)
 replace HB := Aside0.mk (below_drew1 HB.out)
 refine start_ (n := 21) (S := fun w' => w'.cell? ⟨gb302, 0, none⟩ = some (.int .i64 a0_0) ∧ w'.cell? ⟨gb302, 1, none⟩ = some (.int .i64 a0_1) ∧ w'.cell? ⟨gb303, 0, none⟩ = some (.int .i64 a1_0) ∧ w'.cell? ⟨gb303, 1, none⟩ = some (.int .i64 a1_1)) (ds := []) #[ff,ff,ff,ff,ff,ff,ff,ff,ff,ff,ff,ff,ff,ff,ff,ff,ff,ff,ff,ff,ff] (by kernel_rfl) rfl rfl ⟨bc 0 BK302, bc 1 BK302, bc 0 BK303, bc 1 BK303⟩ (fun hHeld => ?_); refine with_tabW real_quotient.tab1 real_quotient.bits1 (fun HT_ HW_ => ?_)
 generalize w9.drew = w10 at BK302 BK303 BK304 HB hHeld ⊢
 refine pur 0 (some 5) #[tt,ff,ff,ff,ff,ff,ff,ff,ff,ff,ff,ff,ff,ff,ff,ff,ff,ff,ff,ff,ff] ?_
 refine pur 3 (some 8) #[tt,ff,ff,tt,ff,ff,ff,ff,ff,ff,ff,ff,ff,ff,ff,ff,ff,ff,ff,ff,ff] ?_
 refine pur 7 (some 12) #[tt,ff,ff,tt,ff,ff,ff,tt,ff,ff,ff,ff,ff,ff,ff,ff,ff,ff,ff,ff,ff] ?_
 refine pur 10 (some 15) #[tt,ff,ff,tt,ff,ff,ff,tt,ff,ff,tt,ff,ff,ff,ff,ff,ff,ff,ff,ff,ff] ?_
 refine pur 12 (some 17) #[tt,ff,ff,tt,ff,ff,ff,tt,ff,ff,tt,ff,tt,ff,ff,ff,ff,ff,ff,ff,ff] ?_
 refine pur 15 (some 20) #[tt,ff,ff,tt,ff,ff,ff,tt,ff,ff,tt,ff,tt,ff,ff,tt,ff,ff,ff,ff,ff] ?_
 refine tk4 1 (some 6) #[tt,tt,ff,tt,ff,ff,ff,tt,ff,ff,tt,ff,tt,ff,ff,tt,ff,ff,ff,ff,ff] ?_
 refine pur 2 (some 7) #[tt,tt,tt,tt,ff,ff,ff,tt,ff,ff,tt,ff,tt,ff,ff,tt,ff,ff,ff,ff,ff] ?_
 refine tk4 4 (some 9) #[tt,tt,tt,tt,tt,ff,ff,tt,ff,ff,tt,ff,tt,ff,ff,tt,ff,ff,ff,ff,ff] ?_
 refine pur 5 (some 10) #[tt,tt,tt,tt,tt,tt,ff,tt,ff,ff,tt,ff,tt,ff,ff,tt,ff,ff,ff,ff,ff] ?_
 refine pur 6 (some 11) #[tt,tt,tt,tt,tt,tt,tt,tt,ff,ff,tt,ff,tt,ff,ff,tt,ff,ff,ff,ff,ff] ?_
 refine tk4 8 (some 13) #[tt,tt,tt,tt,tt,tt,tt,tt,tt,ff,tt,ff,tt,ff,ff,tt,ff,ff,ff,ff,ff] ?_
 refine tk4 11 (some 16) #[tt,tt,tt,tt,tt,tt,tt,tt,tt,ff,tt,tt,tt,ff,ff,tt,ff,ff,ff,ff,ff] ?_
 refine tk4 13 (some 18) #[tt,tt,tt,tt,tt,tt,tt,tt,tt,ff,tt,tt,tt,tt,ff,tt,ff,ff,ff,ff,ff] ?_
 refine pur 14 (some 19) #[tt,tt,tt,tt,tt,tt,tt,tt,tt,ff,tt,tt,tt,tt,tt,tt,ff,ff,ff,ff,ff] ?_
 refine tk4 16 (some 21) #[tt,tt,tt,tt,tt,tt,tt,tt,tt,ff,tt,tt,tt,tt,tt,tt,tt,ff,ff,ff,ff] ?_
 refine on1 9 (some 14) #[tt,tt,tt,tt,tt,tt,tt,tt,tt,tt,tt,tt,tt,tt,tt,tt,tt,ff,ff,ff,ff] (fun K hK => ?_)
 refine gsz Tryz.func113 #[.int .i64 a0_0] ?_
 with_reducible refine (real_magnitude.calls k a0_0 t305 _ A3.out).mono ?_
 rintro e w11 ⟨v306, rfl, ho0, hb⟩
 refine ⟨_, rfl, ?_⟩
 have HO307 := Aside0.mk (Kd.V_lower (Kd.V_mono (ok' := fun k_ => k_ ≠ gb302 ∧ k_ ≠ gb303 ∧ k_ ≠ gb304) ho0 (fun k_ hk_ => ⟨(fb BK302 k_ hk_), (fb BK303 k_ hk_), (fb BK304 k_ hk_)⟩)) (below_size bz))
 replace BK302 := kb BK302 hb
 replace BK303 := kb BK303 hb
 replace BK304 := kb BK304 hb
 replace HB := bs hb
 (try clear hb)
 (try clear ho0)
 refine hK.out _ _ ⟨bc 0 BK302, bc 1 BK302, bc 0 BK303, bc 1 BK303⟩ (fun hHeld => ?_)
 clear hK K
 refine nrm (some 14) ?_
 refine on1 17 (some 22) #[tt,tt,tt,tt,tt,tt,tt,tt,tt,tt,tt,tt,tt,tt,tt,tt,tt,tt,ff,ff,ff] (fun K hK => ?_)
 refine gsz Tryz.func113 #[.int .i64 a1_0] ?_
 with_reducible refine (real_magnitude.calls k a1_0 t308 _ A4.out).mono ?_
 rintro e w12 ⟨v309, rfl, ho0, hb⟩
 refine ⟨_, rfl, ?_⟩
 have HO310 := Aside0.mk (Kd.V_lower (Kd.V_mono (ok' := fun k_ => k_ ≠ gb302 ∧ k_ ≠ gb303 ∧ k_ ≠ gb304) ho0 (fun k_ hk_ => ⟨(fb BK302 k_ hk_), (fb BK303 k_ hk_), (fb BK304 k_ hk_)⟩)) (below_size bz))
 replace HO307 := vb HO307 hb
 replace BK302 := kb BK302 hb
 replace BK303 := kb BK303 hb
 replace BK304 := kb BK304 hb
 replace HB := bs hb
 (try clear hb)
 (try clear ho0)
 obtain ⟨Ao13, co13, eo13⟩ := Kd.V_slice HO307.out
 (first | subst eo13 | (injection eo13 with f1_ f2_ f3_; have f4_ := f1_.symm; have f5_ := f3_.symm; clear f1_ f2_ f3_; subst f4_; subst f5_))
 obtain ⟨Ao14, co14, eo14⟩ := Kd.V_slice HO310.out
 (first | subst eo14 | (injection eo14 with f1_ f2_ f3_; have f4_ := f1_.symm; have f5_ := f3_.symm; clear f1_ f2_ f3_; subst f4_; subst f5_))
 refine hK.out _ _ ⟨bc 0 BK302, bc 1 BK302, bc 0 BK303, bc 1 BK303⟩ (fun hHeld => ?_)
 clear hK K
 refine nrm (some 22) ?_
 refine on1 18 (some 23) #[tt,tt,tt,tt,tt,tt,tt,tt,tt,tt,tt,tt,tt,tt,tt,tt,tt,tt,tt,ff,ff] (fun K hK => ?_)
 refine goesP_ Tryz.func97 (by kernel_rfl) rfl #[.slice Ao13 t305.length co13, .int .i64 (wrap64 (a0_1 - a1_1)), .slice Ao14 t308.length co14] (by rfl) rfl rfl ay ?_
 with_reducible refine (real_rounded.calls k ?pred1_ _ _ t305 (wrap64 (a0_1 - a1_1)) (fun k_ => (k_ ≠ gb302 ∧ (k_ ≠ gb303 ∧ k_ ≠ gb304))) _ _ t308 t311 t312 _ ?side1 ?side2 A5.out).mono ?_
 (case side1 => exact HO307.out)
 (case side2 => exact HO310.out)
 rintro e w15 ⟨he_, hb⟩
 refine ends_ he_ (fun p1_ => And.intro rfl (And.intro (by first | exact code_direct p1_ | exact code_signed (by assumption) p1_) (below_step bz hb))) (fun hpn_ => ?_)
 replace HO307 := vb HO307 hb
 replace HO310 := vb HO310 hb
 replace BK302 := kb BK302 hb
 replace BK303 := kb BK303 hb
 replace BK304 := kb BK304 hb
 replace HB := bs hb
 (try clear hb)
 refine hK.out _ _ ⟨bc 0 BK302, bc 1 BK302, bc 0 BK303, bc 1 BK303⟩ (fun hHeld => ?_)
 clear hK K
 refine nrm (some 23) ?_
 refine on1 19 (some 24) #[tt,tt,tt,tt,tt,tt,tt,tt,tt,tt,tt,tt,tt,tt,tt,tt,tt,tt,tt,tt,ff] (fun K hK => ?_)
 refine gsz Tryz.func80 #[.bool ((decide (a0_0 < 0)) != (decide (a1_0 < 0))), .agg #[.int .i64 t311, .int .i64 t312]] ?_
 with_reducible refine (real_signed.calls ((decide (a0_0 < 0)) != (decide (a1_0 < 0))) t311 t312 t313 t314 _ A6.out).mono ?_
 rintro e w16 ⟨rfl, hb⟩
 refine ⟨_, rfl, ?_⟩
 replace HO307 := vb HO307 hb
 replace HO310 := vb HO310 hb
 replace BK302 := kb BK302 hb
 replace BK303 := kb BK303 hb
 replace BK304 := kb BK304 hb
 replace HB := bs hb
 (try clear hb)
 refine hK.out _ _ ⟨bc 0 BK302, bc 1 BK302, bc 0 BK303, bc 1 BK303⟩ (fun hHeld => ?_)
 clear hK K
 refine nrm (some 24) ?_
 refine on1 20 (none) #[tt,tt,tt,tt,tt,tt,tt,tt,tt,tt,tt,tt,tt,tt,tt,tt,tt,tt,tt,tt,tt] (fun K hK => ?_)
 have hs17 : w16.cell? ⟨gb304, 0, none⟩ = some (.int .i64 0) := (blk_cell BK304.out 0).trans rfl
 have hfs17 := blk_frozen BK304.out 0
 have hns17_0 := NB302_304.out
 have hns17_1 := NB303_304.out
 have hms17_0 := NB304_302.out
 have hms17_1 := NB304_303.out
 have hs18 : w16.cell? ⟨gb304, 1, none⟩ = some (.int .i64 0) := (blk_cell BK304.out 1).trans rfl
 have hfs18 := blk_frozen BK304.out 1
 have hns18_0 := NB302_304.out
 have hns18_1 := NB303_304.out
 have hms18_0 := NB304_302.out
 have hms18_1 := NB304_303.out
 refine skip_ (w1 := ?_) (by rfl) rfl ?_ ?_
 rotate_left
 ·go_simp
  rfl
 refine hK.out _ _ ⟨((cell_far (p := ⟨gb304, _, none⟩) NB302_304.out _).trans (((cell_far (p := ⟨gb304, _, none⟩) NB302_304.out _).trans (hHeld.1)))), ((cell_far (p := ⟨gb304, _, none⟩) NB302_304.out _).trans (((cell_far (p := ⟨gb304, _, none⟩) NB302_304.out _).trans (hHeld.2.1)))), ((cell_far (p := ⟨gb304, _, none⟩) NB303_304.out _).trans (((cell_far (p := ⟨gb304, _, none⟩) NB303_304.out _).trans (hHeld.2.2.1)))), ((cell_far (p := ⟨gb304, _, none⟩) NB303_304.out _).trans (((cell_far (p := ⟨gb304, _, none⟩) NB303_304.out _).trans (hHeld.2.2.2))))⟩ (fun hHeld => ?_)
 clear hK K
 refine done_ (done_of HT_.out (by kernel_rfl)) ?_
 try go_wp2
 refine bodyPost_ret (results_cell_row rfl _ _ gb304 23 #[.int .i64 t313, .int .i64 t314] (0, 0) _ rfl (by (with_reducible repeat (first | refine blk_drewN ?_ _ | refine blk_drew ?_ | refine blk_alloc ?_ _)); refine blk_put (cs := #[.int .i64 t313, .int .i64 0]) ?_ 1 _ rfl; (with_reducible repeat (first | refine blk_drewN ?_ _ | refine blk_drew ?_ | refine blk_alloc ?_ _)); refine blk_put (cs := #[.int .i64 0, .int .i64 0]) ?_ 0 _ rfl; (with_reducible repeat (first | refine blk_drewN ?_ _ | refine blk_drew ?_ | refine blk_alloc ?_ _)); exact BK304.out) Tryz.underlying23 rfl (by kernel_rfl)) rfl ?_
 exact ⟨by first | rfl | exact ending_le (by assumption) | exact (ending_at hpn_).symm | exact (ending_at (signed_not (by assumption) hpn_)).symm | (simp [errW_none, errW_some] <;> rfl) | (simp [*, errW_none, errW_some] <;> rfl), bz⟩


attribute [local go_sem high] eqA23
def real_FromInt.j0 : Nat → Int → Int → Option (Int × Int)
 | 0, _, _ => none
 | k + 1, x0, x3 => (real_natOf.f k x3).bind fun t323 => ((real_rounded.f k t323 0 (([1] : List Int))).bind fun bt329 => ((real_signed.f (decide (x0 < 0)) bt329.1 bt329.2).bind fun bt331 => (some (bt331.1, bt331.2))))
def real_FromInt.f (k : Nat) (a0 : Int) : Option (Int × Int) := if a0 < 0 then (real_FromInt.j0 k a0 (IntKind.u64.wrap (-(IntKind.u64.wrap (a0))))) else (real_FromInt.j0 k a0 (IntKind.u64.wrap (a0)))
theorem real_FromInt.mono_l : ∀ k, (∀ y0 y1, LeO (real_FromInt.j0 k y0 y1) (real_FromInt.j0 (k + 1) y0 y1))
 | 0 => fun _ _ r h => by simp [real_FromInt.j0] at h
 | k + 1 => by
  have ih0 := real_FromInt.mono_l k
  ·intro y0 y1
   unfold real_FromInt.j0
   repeat' first
   | (with_reducible exact ih0 _ _)
   | (with_reducible exact real_natOf.mono _ _)
   | (with_reducible exact real_rounded.mono _ _ _ _)
   | (with_reducible exact LeO.refl _)
   | (with_reducible exact LeO.none _)
   | (with_reducible refine LeO.ite ?_ ?_)
   | (with_reducible refine LeO.bind ?_ (fun _ => ?_))
   | exact ih0 _ _
   | exact real_natOf.mono _ _
   | exact real_rounded.mono _ _ _ _
   | exact LeO.none _
   | refine LeO.ite ?_ ?_
   | refine LeO.bind ?_ (fun _ => ?_)
theorem real_FromInt.mono : ∀ a0 k, LeO (real_FromInt.f k a0) (real_FromInt.f (k + 1) a0) := by
 intro a0 k
 have ih0 := real_FromInt.mono_l k
 unfold real_FromInt.f
 repeat' first
   | (with_reducible exact ih0 _ _)
   | (with_reducible exact real_natOf.mono _ _)
   | (with_reducible exact real_rounded.mono _ _ _ _)
   | (with_reducible exact LeO.refl _)
   | (with_reducible exact LeO.none _)
   | (with_reducible refine LeO.ite ?_ ?_)
   | (with_reducible refine LeO.bind ?_ (fun _ => ?_))
   | exact ih0 _ _
   | exact real_natOf.mono _ _
   | exact real_rounded.mono _ _ _ _
   | exact LeO.none _
   | refine LeO.ite ?_ ?_
   | refine LeO.bind ?_ (fun _ => ?_)
theorem real_FromInt.calls (k : Nat) (a0 : Int) (r1 : Int) (r2 : Int) (w : World) (h : real_FromInt.f k a0 = some (r1, r2)) :
  Calls Tryz.prog 31 #[.int .i64 a0] w fun e w' => e = ending r1 r2 ∧ Below w.heap.size w w' := by
 have hu23 := Tryz.underlying23
 have HB := Aside0.mk (Below.refl w.heap.size w)
 have H := h; unfold real_FromInt.f at H; clear h
 have HC2 := Aside0.mk H
 clear H
 go_enter Tryz.func31, Tryz.ntmps31
 go_upto_if 7 with (first | ((with_reducible refine gate_dst (N := 2) rfl ?_); refine bxe 2 #[.int .i64 0, .int .i64 0] 23 ?_; intro gb322 hg w3 hbox hb; have BK322 := Aside0.mk hbox; have GW322 := ge hg; have GE322 := ge hg; replace HB := bs hb; clear hb hbox hg))
 (try simp only [Act.put, List.setIfInBounds_toArray, List.set_cons_zero, List.set_cons_succ])
 go_cut [3] (fun v3 wc => ∃ (kq : Nat) (x3_1 : Int), v3 = .int .u64 x3_1 ∧ Aside0 (real_FromInt.j0 kq a0 x3_1 = some (r1, r2)) ∧ Aside0 (kq ≤ k) ∧ Aside0 (wc.heap[gb322]? = some (.cells #[.int .i64 0, .int .i64 0] 23 (0, 0))) ∧ Aside0 (Below w.heap.size w wc))
 case first => as_aux_lemma =>
  have H := HC2.out
  clear HC2
  by_cases c4 : a0 < 0
  ·rw [if_pos c4] at H
   have c4b0 : decide (a0 < 0) = true := decide_eq_true c4
   clear c4
   (first | rw [c4b0] | (simp only [i64_w, i32_w]; rw [c4b0]) | skip)
   have H' := Aside0.mk H
   clear H
   go_wp2
   go_meet
   case rel => exact ⟨_, (IntKind.u64.wrap (-(IntKind.u64.wrap (a0)))), (by first | rfl | (simp; done) | (simp [*]; done)), H', ⟨by first | omega | exact Nat.le_refl _⟩, ⟨kz BK322⟩, ⟨bz⟩⟩
  ·rw [if_neg c4] at H
   have c4b0 : decide (a0 < 0) = false := decide_eq_false c4
   clear c4
   (first | rw [c4b0] | (simp only [i64_w, i32_w]; rw [c4b0]) | skip)
   have H' := Aside0.mk H
   clear H
   go_wp2
   go_meet
   case rel => exact ⟨_, (IntKind.u64.wrap (a0)), (by first | rfl | (simp; done) | (simp [*]; done)), H', ⟨by first | omega | exact Nat.le_refl _⟩, ⟨kz BK322⟩, ⟨bz⟩⟩
 case rest => as_aux_lemma =>
  clear HC2
  try clear c4
  try clear c4b0
  obtain ⟨kq, x3_1, rfl, HA, HJ1, BK322, HB⟩ := hcut
  cases kq with
  | zero => exact absurd HA.out (by simp [real_FromInt.j0])
  | succ kj1 =>
   have H := HA.out
   clear HA
   simp only [real_FromInt.j0] at H
   replace H := Option.bind_eq_some_iff.mp H
   obtain ⟨t323, A50, H⟩ := H
   try dsimp only at H
   have A5 := Aside0.mk A50
   clear A50
   obtain ⟨y326, hy326⟩ : ∃ y_ : List Int, y_ = (([1] : List Int)) := ⟨_, rfl⟩
   replace H : ((real_rounded.f kj1 t323 0 y326).bind fun bt329 => ((real_signed.f (decide (a0 < 0)) bt329.1 bt329.2).bind fun bt331 => (some (bt331.1, bt331.2)))) = some (r1, r2) := by first | (rw [hy326]; with_reducible exact H) | (have H2_ := (Option.bind_some _ _).symm.trans H; rw [hy326]; with_reducible exact H2_) | (have H2_ := (Option.bind_some _ _).symm.trans H; with_reducible exact H2_) | with_reducible exact H | (rw [hy326]; exact H) | exact H
   have Ny326 := Aside0.mk hy326
   clear hy326
   replace H := Option.bind_eq_some_iff.mp H
   obtain ⟨⟨t329, t330⟩, A60, H⟩ := H
   try dsimp only at H
   have A6 := Aside0.mk A60
   clear A60
   replace H := Option.bind_eq_some_iff.mp H
   obtain ⟨⟨t331, t332⟩, A70, H⟩ := H
   try dsimp only at H
   have A7 := Aside0.mk A70
   clear A70
   simp only [Option.some.injEq, Prod.mk.injEq] at H
   obtain ⟨rfl, rfl⟩ := H
   go_wp2_with (first | ((with_reducible refine gate_callee (f := 98) rfl ?_); refine gL 13 Tryz.func98 #[.int .u64 x3_1] ?_; (with_reducible refine (real_natOf.calls kj1 x3_1 t323 _ A5.out).mono ?_); rintro e w8 ⟨v324, rfl, ho0, hb⟩; refine ⟨_, rfl, ?_⟩; have HO325 := Aside0.mk (Kd.V_lower (Kd.V_mono (ok' := fun k_ => k_ ≠ gb322) ho0 (fun k_ hk_ => (fb BK322 k_ hk_))) (below_size bz)); replace BK322 := kb BK322 hb; replace HB := bs hb; (try clear hb); (try clear hk); (try clear ho0)) | ((with_reducible refine gate_dst (N := 14) rfl ?_); refine Kd.R_lit (Kd.int .u32) _ 115 ?hg (N := 14) ?hd (xs := ([1] : List Int)) (inner := [.int .u32 1]) (ok := fun _ => True) (okp := fun _ => True) ?hr ?hp (fun _ hk => hk) trivial (Below.refl _ _) (Nat.le_refl _) (by simp) ?_; (case hd => rfl); (case hg => rfl); (case hr => first | (go_simp; done) | (go_simp; rfl)); (case hp => exact (Reps.one (show Kd.M (Kd.int .u32) _ _ _ 1 [.int .u32 1] from rfl) (Reps.none _ _))); intro v327 w9 ho10 hb hg_ hnew_; clear hg_ hnew_; (first | rw [← Ny326.out] at ho10 | (simp only [Int.reduceToNat] at ho10; rw [← Ny326.out] at ho10)); have HO328 := Aside0.mk (Kd.R_lower ho10 (below_size bz)); replace HO325 := Aside0.mk (Kd.V_elder' (vz HO325) (Kd.R_base ho10) hb); replace BK322 := kb BK322 hb; replace HB := bs hb; clear hb ho10; obtain ⟨Ao11, co11, eo11⟩ := Kd.V_slice HO325.out; subst eo11; obtain ⟨Ao12, co12, eo12⟩ := Kd.R_slice HO328.out; subst eo12) | ((with_reducible refine gate_callee (f := 97) rfl ?_); refine goesLP_ (some 15) rfl rfl Tryz.func97 (by kernel_rfl) rfl #[.slice Ao11 t323.length co11, .int .i64 0, .slice Ao12 y326.length co12] rfl az ?_; (with_reducible refine (real_rounded.calls kj1 (fun k_ => (k_ ≠ gb322 ∧ some k_ ≠ (.slice Ao12 y326.length co12 : Value).ownBlock)) _ _ t323 0 (fun k_ => some k_ = (.slice Ao12 y326.length co12 : Value).ownBlock) _ _ y326 t329 t330 _ ?side1 ?side2 A6.out).mono ?_); (case side1 => exact HO325.out); (case side2 => exact Kd.R_V (Kd.R_tight rfl (Kd.R_types (HO328.out) BK322.out (by decide)))); rintro e w13 ⟨he_, hb⟩; refine ends_ he_ (fun p1_ => And.intro rfl (And.intro (by first | exact code_direct p1_ | exact code_signed (by assumption) p1_) (below_step bz hb))) (fun hpn_ => ?_); replace HO325 := vb HO325 hb; replace HO328 := rb HO328 hb; replace BK322 := kb BK322 hb; replace HB := bs hb; (try clear hb); (try clear hk)) | ((with_reducible refine gate_callee (f := 80) rfl ?_); refine gL 16 Tryz.func80 #[.bool (decide (a0 < 0)), .agg #[.int .i64 t329, .int .i64 t330]] ?_; (with_reducible refine (real_signed.calls (decide (a0 < 0)) t329 t330 t331 t332 _ A7.out).mono ?_); rintro e w14 ⟨rfl, hb⟩; refine ⟨_, rfl, ?_⟩; replace HO325 := vb HO325 hb; replace HO328 := rb HO328 hb; replace BK322 := kb BK322 hb; replace HB := bs hb; (try clear hb); (try clear hk); have hcz15_0 := c20 BK322; have hcz15_1 := c21 BK322; have hfz15_0 := blk_frozen BK322.out 0; have hfz15_1 := blk_frozen BK322.out 1))
   refine bodyPost_ret (results_cell_row rfl _ _ gb322 23 #[.int .i64 t331, .int .i64 t332] (0, 0) _ rfl (by (with_reducible repeat (first | refine blk_drewN ?_ _ | refine blk_drew ?_ | refine blk_alloc ?_ _)); refine blk_put (cs := #[.int .i64 t331, .int .i64 0]) ?_ 1 _ rfl; (with_reducible repeat (first | refine blk_drewN ?_ _ | refine blk_drew ?_ | refine blk_alloc ?_ _)); refine blk_put (cs := #[.int .i64 0, .int .i64 0]) ?_ 0 _ rfl; (with_reducible repeat (first | refine blk_drewN ?_ _ | refine blk_drew ?_ | refine blk_alloc ?_ _)); exact BK322.out) Tryz.underlying23 rfl (by kernel_rfl)) rfl ?_
   exact ⟨by first | rfl | exact ending_le (by assumption) | exact (ending_at hpn_).symm | exact (ending_at (signed_not (by assumption) hpn_)).symm | (simp [errW_none, errW_some] <;> rfl) | (simp [*, errW_none, errW_some] <;> rfl), bz⟩

def real_Valid.f (a0_0 : Int) (a0_1 : Int) : Option (Bool) := if (a0_0 == 0 && (a0_1 == 0)) = true then (some true) else (if (mx a0_0 (wrap64 (-a0_0))) < 1 then (some false) else (if (mx a0_0 (wrap64 (-a0_0))) ≥ 16777216 then (some false) else (if a0_1 = (-150) then (some true) else (if (mx a0_0 (wrap64 (-a0_0))) ≥ 8388608 then (if a0_1 > (-150) then (some (decide (a0_1 ≤ 150))) else (some false)) else (some false)))))
theorem real_Valid.calls (a0_0 : Int) (a0_1 : Int) (r : Bool) (w : World) (h : real_Valid.f a0_0 a0_1 = some r) :
  Calls Tryz.prog 53 #[.agg #[.int .i64 a0_0, .int .i64 a0_1]] w fun e w' => e = .returned (.bool r) ∧ Below w.heap.size w w' := by
 have hu23 := Tryz.underlying23
 have HB := Aside0.mk (Below.refl w.heap.size w)
 have H := h; unfold real_Valid.f at H; clear h
 by_cases c2 : (a0_0 == 0 && (a0_1 == 0)) = true
 ·rw [if_pos c2] at H
  have c2b0 : (a0_0 == 0 && (a0_1 == 0)) = true := c2
  (try (have c2b1 : decide (a0_0 = 0 && (a0_1 == 0)) = true := by simpa using c2))
  (try (have c2b2 : (a0_0 == 0 && (a0_1 == 0)) = true := by simpa using c2))
  clear c2
  obtain rfl := Option.some.inj H
  go_enter Tryz.func53, Tryz.ntmps53
  go_wp2_with (first | ((with_reducible refine gate_dst (N := 1) rfl ?_); refine bxe 1 #[.int .i64 a0_0, .int .i64 a0_1] 23 ?_; intro gb333 hg w3 hbox hb; have BK333 := Aside0.mk hbox; have GW333 := ge hg; have GE333 := ge hg; replace HB := bs hb; clear hb hbox hg; have hcz4_0 := c20 BK333; have hcz4_1 := c21 BK333; have hfz4_0 := blk_frozen BK333.out 0; have hfz4_1 := blk_frozen BK333.out 1))
  go_ret
  exact ⟨by first | rfl | (simp [errW_none, errW_some] <;> rfl) | (simp [*, errW_none, errW_some] <;> rfl), bz⟩
 ·rw [if_neg c2] at H
  have c2b0 : (a0_0 == 0 && (a0_1 == 0)) = false := by simpa using c2
  (try (have c2b1 : decide (a0_0 = 0 && (a0_1 == 0)) = false := by simpa using c2))
  (try (have c2b2 : (a0_0 == 0 && (a0_1 == 0)) = false := by simpa using c2))
  (try (have c2b3 : ¬ (a0_0 = 0 && (a0_1 == 0)) := by simpa using c2))
  clear c2
  obtain ⟨ji5, hji5⟩ : ∃ j_ : Int, (mx a0_0 (wrap64 (-a0_0))) = j_ := ⟨_, rfl⟩
  first | rw [hji5] at H | simp only [hji5] at H
  have hji5_ : (if a0_0 < (wrap64 (-a0_0)) then (wrap64 (-a0_0)) else a0_0) = ji5 := hji5
  by_cases c6 : (ji5) < 1
  ·rw [if_pos c6] at H
   have c6b0 : decide ((ji5) < 1) = true := decide_eq_true c6
   clear c6
   obtain rfl := Option.some.inj H
   go_enter Tryz.func53, Tryz.ntmps53
   go_wp2_with (first | ((with_reducible refine gate_dst (N := 1) rfl ?_); refine bxe 1 #[.int .i64 a0_0, .int .i64 a0_1] 23 ?_; intro gb333 hg w7 hbox hb; have BK333 := Aside0.mk hbox; have GW333 := ge hg; have GE333 := ge hg; replace HB := bs hb; clear hb hbox hg; have hcz8_0 := c20 BK333; have hcz8_1 := c21 BK333; have hfz8_0 := blk_frozen BK333.out 0; have hfz8_1 := blk_frozen BK333.out 1))
   go_ret
   exact ⟨by first | rfl | (simp [errW_none, errW_some] <;> rfl) | (simp only [← hji5]; first | rfl | (simp [errW_none, errW_some] <;> rfl)) | (simp [*, errW_none, errW_some] <;> rfl), bz⟩
  ·rw [if_neg c6] at H
   have c6b0 : decide ((ji5) < 1) = false := decide_eq_false c6
   clear c6
   by_cases c9 : (ji5) ≥ 16777216
   ·rw [if_pos c9] at H
    have c9b0 : decide (16777216 ≤ (ji5)) = true := decide_eq_true c9
    clear c9
    obtain rfl := Option.some.inj H
    go_enter Tryz.func53, Tryz.ntmps53
    go_wp2_with (first | ((with_reducible refine gate_dst (N := 1) rfl ?_); refine bxe 1 #[.int .i64 a0_0, .int .i64 a0_1] 23 ?_; intro gb333 hg w10 hbox hb; have BK333 := Aside0.mk hbox; have GW333 := ge hg; have GE333 := ge hg; replace HB := bs hb; clear hb hbox hg; have hcz11_0 := c20 BK333; have hcz11_1 := c21 BK333; have hfz11_0 := blk_frozen BK333.out 0; have hfz11_1 := blk_frozen BK333.out 1))
    go_ret
    exact ⟨by first | rfl | (simp [errW_none, errW_some] <;> rfl) | (simp only [← hji5]; first | rfl | (simp [errW_none, errW_some] <;> rfl)) | (simp [*, errW_none, errW_some] <;> rfl), bz⟩
   ·rw [if_neg c9] at H
    have c9b0 : decide (16777216 ≤ (ji5)) = false := decide_eq_false c9
    clear c9
    by_cases c12 : a0_1 = (-150)
    ·rw [if_pos c12] at H
     have c12b0 : (a0_1 == (-150)) = true := beq_iff_eq.mpr c12
     have c12b1 : (a0_1 != (-150)) = false := bne_eq_false_iff_eq.mpr c12
     clear c12
     obtain rfl := Option.some.inj H
     go_enter Tryz.func53, Tryz.ntmps53
     go_wp2_with (first | ((with_reducible refine gate_dst (N := 1) rfl ?_); refine bxe 1 #[.int .i64 a0_0, .int .i64 a0_1] 23 ?_; intro gb333 hg w13 hbox hb; have BK333 := Aside0.mk hbox; have GW333 := ge hg; have GE333 := ge hg; replace HB := bs hb; clear hb hbox hg; have hcz14_0 := c20 BK333; have hcz14_1 := c21 BK333; have hfz14_0 := blk_frozen BK333.out 0; have hfz14_1 := blk_frozen BK333.out 1))
     go_ret
     exact ⟨by first | rfl | (simp [errW_none, errW_some] <;> rfl) | (simp only [← hji5]; first | rfl | (simp [errW_none, errW_some] <;> rfl)) | (simp [*, errW_none, errW_some] <;> rfl), bz⟩
    ·rw [if_neg c12] at H
     have c12b0 : (a0_1 == (-150)) = false := beq_eq_false_iff_ne.mpr c12
     have c12b1 : (a0_1 != (-150)) = true := bne_iff_ne.mpr c12
     by_cases c15 : (ji5) ≥ 8388608
     ·rw [if_pos c15] at H
      have c15b0 : decide (8388608 ≤ (ji5)) = true := decide_eq_true c15
      clear c15
      by_cases c16 : a0_1 > (-150)
      ·rw [if_pos c16] at H
       have c16b0 : decide ((-150) < a0_1) = true := decide_eq_true c16
       clear c16
       obtain rfl := Option.some.inj H
       go_enter Tryz.func53, Tryz.ntmps53
       go_wp2_with (first | ((with_reducible refine gate_dst (N := 1) rfl ?_); refine bxe 1 #[.int .i64 a0_0, .int .i64 a0_1] 23 ?_; intro gb333 hg w17 hbox hb; have BK333 := Aside0.mk hbox; have GW333 := ge hg; have GE333 := ge hg; replace HB := bs hb; clear hb hbox hg; have hcz18_0 := c20 BK333; have hcz18_1 := c21 BK333; have hfz18_0 := blk_frozen BK333.out 0; have hfz18_1 := blk_frozen BK333.out 1))
       go_ret
       exact ⟨by first | rfl | (simp [errW_none, errW_some] <;> rfl) | (simp only [← hji5]; first | rfl | (simp [errW_none, errW_some] <;> rfl)) | (simp [*, errW_none, errW_some] <;> rfl), bz⟩
      ·rw [if_neg c16] at H
       have c16b0 : decide ((-150) < a0_1) = false := decide_eq_false c16
       clear c16
       obtain rfl := Option.some.inj H
       go_enter Tryz.func53, Tryz.ntmps53
       go_wp2_with (first | ((with_reducible refine gate_dst (N := 1) rfl ?_); refine bxe 1 #[.int .i64 a0_0, .int .i64 a0_1] 23 ?_; intro gb333 hg w19 hbox hb; have BK333 := Aside0.mk hbox; have GW333 := ge hg; have GE333 := ge hg; replace HB := bs hb; clear hb hbox hg; have hcz20_0 := c20 BK333; have hcz20_1 := c21 BK333; have hfz20_0 := blk_frozen BK333.out 0; have hfz20_1 := blk_frozen BK333.out 1))
       go_ret
       exact ⟨by first | rfl | (simp [errW_none, errW_some] <;> rfl) | (simp only [← hji5]; first | rfl | (simp [errW_none, errW_some] <;> rfl)) | (simp [*, errW_none, errW_some] <;> rfl), bz⟩
     ·rw [if_neg c15] at H
      have c15b0 : decide (8388608 ≤ (ji5)) = false := decide_eq_false c15
      clear c15
      obtain rfl := Option.some.inj H
      go_enter Tryz.func53, Tryz.ntmps53
      go_wp2_with (first | ((with_reducible refine gate_dst (N := 1) rfl ?_); refine bxe 1 #[.int .i64 a0_0, .int .i64 a0_1] 23 ?_; intro gb333 hg w21 hbox hb; have BK333 := Aside0.mk hbox; have GW333 := ge hg; have GE333 := ge hg; replace HB := bs hb; clear hb hbox hg; have hcz22_0 := c20 BK333; have hcz22_1 := c21 BK333; have hfz22_0 := blk_frozen BK333.out 0; have hfz22_1 := blk_frozen BK333.out 1))
      go_ret
      exact ⟨by first | rfl | (simp [errW_none, errW_some] <;> rfl) | (simp only [← hji5]; first | rfl | (simp [errW_none, errW_some] <;> rfl)) | (simp [*, errW_none, errW_some] <;> rfl), bz⟩

def real_whole.f (a0 : Int) (a1 : Bool) : Option (Int × Int) := if a1 = true then (some (a0, 0)) else (some (0, 3))
theorem real_whole.calls (a0 : Int) (a1 : Bool) (r1 : Int) (r2 : Int) (w : World) (h : real_whole.f a0 a1 = some (r1, r2)) :
  Calls Tryz.prog 72 #[.int .i64 a0, .bool a1] w fun e w' => e = .returned (.tuple #[.int .i64 r1, .int .i64 r2]) ∧ Drawn0 w w' := by
 have H := h; unfold real_whole.f at H; clear h
 by_cases c3 : a1 = true
 ·subst c3
  rw [if_pos rfl] at H
  simp only [Option.some.injEq, Prod.mk.injEq] at H
  obtain ⟨rfl, rfl⟩ := H
  go_enter Tryz.func72, Tryz.ntmps72
  go_wp2
  go_ret2
  exact ⟨by first | rfl | (simp; done) | (simp [*]; done) | (exfalso; simp at *; done), by repeat (first | exact Drawn0.refl _ | apply Drawn0.step)⟩
 ·replace c3 := Bool.eq_false_iff.mpr c3
  subst c3
  rw [if_neg (show ¬ (false = true) by decide)] at H
  simp only [Option.some.injEq, Prod.mk.injEq] at H
  obtain ⟨rfl, rfl⟩ := H
  go_enter Tryz.func72, Tryz.ntmps72
  go_wp2
  go_ret2
  exact ⟨by first | rfl | (simp; done) | (simp [*]; done) | (exfalso; simp at *; done), by repeat (first | exact Drawn0.refl _ | apply Drawn0.step)⟩

end Go.Proofs.YteigbokklclmbaaGreatDoor.Z
end
section
namespace Go.Proofs.YteigbokklclmbaaGreatDoor.Z
open Go.RowKit Go.Proofs.YteigbokklclmbaaGreatDoor.Given Go.Proofs.YteigbokklclmbaaGreatDoorW.PrintWords Go.Proofs.YteigbokklclmbaaGreatDoorW.PrintLast Go.Proofs.YteigbokklclmbaaGreatDoorW.PrintMore
attribute [local go_sem] max2_int min2_int max_two min_two max_three min_three max_four min_four

attribute [local go_sem high] eqA23
def real_floor.f (a0 : Int) (a1 : Int) : Option (Int × Bool) := if a0 = 0 then (some (0, true)) else (if a1 > 31 then (some (0, false)) else (if a1 ≥ 0 then (if 0 ≤ a1 then (if (shl .i64 a0 a1) ≥ (-2147483647) then (some (shl .i64 a0 a1, decide ((shl .i64 a0 a1) ≤ 2147483647))) else (some (shl .i64 a0 a1, false))) else (none)) else (if a1 > (-60) then (if 0 ≤ (wrap64 (-a1)) then (if (shr .i64 a0 (wrap64 (-a1))) ≥ (-2147483647) then (some (shr .i64 a0 (wrap64 (-a1)), decide ((shr .i64 a0 (wrap64 (-a1))) ≤ 2147483647))) else (some (shr .i64 a0 (wrap64 (-a1)), false))) else (none)) else (if a0 < 0 then (if (-1) ≥ (-2147483647) then (some ((-1), decide ((-1) ≤ 2147483647))) else (some ((-1), false))) else (if 0 ≥ (-2147483647) then (some (0, decide (0 ≤ 2147483647))) else (some (0, false)))))))
theorem real_floor.calls (a0 : Int) (a1 : Int) (r1 : Int) (r2 : Bool) (w : World) (h : real_floor.f a0 a1 = some (r1, r2)) :
  Calls Tryz.prog 73 #[.int .i64 a0, .int .i64 a1] w fun e w' => e = .returned (.tuple #[.int .i64 r1, .bool r2]) ∧ Drawn0 w w' := by
 have H := h; unfold real_floor.f at H; clear h
 by_cases c3 : a0 = 0
 ·rw [if_pos c3] at H
  have c3b0 : (a0 == 0) = true := beq_iff_eq.mpr c3
  have c3b1 : (a0 != 0) = false := bne_eq_false_iff_eq.mpr c3
  clear c3
  simp only [Option.some.injEq, Prod.mk.injEq] at H
  obtain ⟨rfl, rfl⟩ := H
  go_enter Tryz.func73, Tryz.ntmps73
  go_wp2
  go_ret2
  exact ⟨by first | rfl | (simp; done) | (simp [*]; done) | (exfalso; simp at *; done), by repeat (first | exact Drawn0.refl _ | apply Drawn0.step)⟩
 ·rw [if_neg c3] at H
  have c3b0 : (a0 == 0) = false := beq_eq_false_iff_ne.mpr c3
  have c3b1 : (a0 != 0) = true := bne_iff_ne.mpr c3
  by_cases c4 : a1 > 31
  ·rw [if_pos c4] at H
   have c4b0 : decide (31 < a1) = true := decide_eq_true c4
   clear c4
   simp only [Option.some.injEq, Prod.mk.injEq] at H
   obtain ⟨rfl, rfl⟩ := H
   go_enter Tryz.func73, Tryz.ntmps73
   go_wp2
   go_ret2
   exact ⟨by first | rfl | (simp; done) | (simp [*]; done) | (exfalso; simp at *; done), by repeat (first | exact Drawn0.refl _ | apply Drawn0.step)⟩
  ·rw [if_neg c4] at H
   have c4b0 : decide (31 < a1) = false := decide_eq_false c4
   clear c4
   by_cases c5 : a1 ≥ 0
   ·rw [if_pos c5] at H
    have c5b0 : decide (0 ≤ a1) = true := decide_eq_true c5
    clear c5
    by_cases c6 : 0 ≤ a1
    ·rw [if_pos c6] at H
     have c6b0 := eq_true c6
     have c6b1 : decide (0 ≤ a1) = true := decide_eq_true c6
     clear c6
     obtain ⟨ji7, hji7⟩ : ∃ j_ : Int, (shl .i64 a0 a1) = j_ := ⟨_, rfl⟩
     first | rw [hji7] at H | simp only [hji7] at H
     have hji7_ : (IntKind.i64.wrap (a0 * 2 ^ min a1.toNat 64)) = ji7 := hji7
     have hji7z : a1 ≤ 64 → (IntKind.i64.wrap (a0 * 2 ^ a1.toNat)) = ji7 := shl_small hji7
     have hji7y : (wrap64 (a0 * 2 ^ min a1.toNat 64)) = ji7 := (i64_w _).symm.trans hji7_
     have hji7x : a1 ≤ 64 → (wrap64 (a0 * 2 ^ a1.toNat)) = ji7 := fun h_ => (i64_w _).symm.trans (hji7z h_)
     by_cases c8 : (ji7) ≥ (-2147483647)
     ·rw [if_pos c8] at H
      have c8b0 : decide ((-2147483647) ≤ (ji7)) = true := decide_eq_true c8
      clear c8
      simp only [Option.some.injEq, Prod.mk.injEq] at H
      obtain ⟨rfl, rfl⟩ := H
      go_enter Tryz.func73, Tryz.ntmps73
      go_wp2
      go_ret2
      exact ⟨by first | rfl | (simp; done) | (simp only [← hji7] <;> (first | rfl | simp)) | (simp [*]; done), by repeat (first | exact Drawn0.refl _ | apply Drawn0.step)⟩
     ·rw [if_neg c8] at H
      have c8b0 : decide ((-2147483647) ≤ (ji7)) = false := decide_eq_false c8
      clear c8
      simp only [Option.some.injEq, Prod.mk.injEq] at H
      obtain ⟨rfl, rfl⟩ := H
      go_enter Tryz.func73, Tryz.ntmps73
      go_wp2
      go_ret2
      exact ⟨by first | rfl | (simp; done) | (simp only [← hji7] <;> (first | rfl | simp)) | (simp [*]; done), by repeat (first | exact Drawn0.refl _ | apply Drawn0.step)⟩
    ·rw [if_neg c6] at H
     exact absurd H (by simp)
   ·rw [if_neg c5] at H
    have c5b0 : decide (0 ≤ a1) = false := decide_eq_false c5
    clear c5
    by_cases c9 : a1 > (-60)
    ·rw [if_pos c9] at H
     have c9b0 : decide ((-60) < a1) = true := decide_eq_true c9
     clear c9
     obtain ⟨ji10, hji10⟩ : ∃ j_ : Int, (wrap64 (-a1)) = j_ := ⟨_, rfl⟩
     first | rw [hji10] at H | simp only [hji10] at H
     have hji10w : (IntKind.i64.wrap (-a1)) = ji10 := (i64_w _).trans hji10
     by_cases c11 : 0 ≤ (ji10)
     ·rw [if_pos c11] at H
      have c11b0 := eq_true c11
      have c11b1 : decide (0 ≤ (ji10)) = true := decide_eq_true c11
      clear c11
      obtain ⟨ji12, hji12⟩ : ∃ j_ : Int, (shr .i64 a0 (ji10)) = j_ := ⟨_, rfl⟩
      first | rw [hji12] at H | simp only [hji12] at H
      have hji12_ : (a0 / 2 ^ min (ji10).toNat 64) = ji12 := hji12
      have hji12z : (ji10) ≤ 64 → (a0 / 2 ^ (ji10).toNat) = ji12 := shr_small hji12
      by_cases c13 : (ji12) ≥ (-2147483647)
      ·rw [if_pos c13] at H
       have c13b0 : decide ((-2147483647) ≤ (ji12)) = true := decide_eq_true c13
       clear c13
       simp only [Option.some.injEq, Prod.mk.injEq] at H
       obtain ⟨rfl, rfl⟩ := H
       go_enter Tryz.func73, Tryz.ntmps73
       go_wp2
       go_ret2
       exact ⟨by first | rfl | (simp; done) | (simp only [← hji10, ← hji12] <;> (first | rfl | simp)) | (simp [*]; done), by repeat (first | exact Drawn0.refl _ | apply Drawn0.step)⟩
      ·rw [if_neg c13] at H
       have c13b0 : decide ((-2147483647) ≤ (ji12)) = false := decide_eq_false c13
       clear c13
       simp only [Option.some.injEq, Prod.mk.injEq] at H
       obtain ⟨rfl, rfl⟩ := H
       go_enter Tryz.func73, Tryz.ntmps73
       go_wp2
       go_ret2
       exact ⟨by first | rfl | (simp; done) | (simp only [← hji10, ← hji12] <;> (first | rfl | simp)) | (simp [*]; done), by repeat (first | exact Drawn0.refl _ | apply Drawn0.step)⟩
     ·rw [if_neg c11] at H
      exact absurd H (by simp)
    ·rw [if_neg c9] at H
     have c9b0 : decide ((-60) < a1) = false := decide_eq_false c9
     clear c9
     by_cases c14 : a0 < 0
     ·rw [if_pos c14] at H
      have c14b0 : decide (a0 < 0) = true := decide_eq_true c14
      clear c14
      by_cases c15 : (-1) ≥ (-2147483647)
      ·rw [if_pos c15] at H
       have c15b0 : decide ((-2147483647) ≤ (-1)) = true := decide_eq_true c15
       clear c15
       simp only [Option.some.injEq, Prod.mk.injEq] at H
       obtain ⟨rfl, rfl⟩ := H
       go_enter Tryz.func73, Tryz.ntmps73
       go_wp2
       go_ret2
       exact ⟨by first | rfl | (simp; done) | (simp [*]; done) | (exfalso; simp at *; done), by repeat (first | exact Drawn0.refl _ | apply Drawn0.step)⟩
      ·rw [if_neg c15] at H
       have c15b0 : decide ((-2147483647) ≤ (-1)) = false := decide_eq_false c15
       clear c15
       simp only [Option.some.injEq, Prod.mk.injEq] at H
       obtain ⟨rfl, rfl⟩ := H
       go_enter Tryz.func73, Tryz.ntmps73
       go_wp2
       go_ret2
       exact ⟨by first | rfl | (simp; done) | (simp [*]; done) | (exfalso; simp at *; done), by repeat (first | exact Drawn0.refl _ | apply Drawn0.step)⟩
     ·rw [if_neg c14] at H
      have c14b0 : decide (a0 < 0) = false := decide_eq_false c14
      clear c14
      by_cases c16 : 0 ≥ (-2147483647)
      ·rw [if_pos c16] at H
       have c16b0 : decide ((-2147483647) ≤ 0) = true := decide_eq_true c16
       clear c16
       simp only [Option.some.injEq, Prod.mk.injEq] at H
       obtain ⟨rfl, rfl⟩ := H
       go_enter Tryz.func73, Tryz.ntmps73
       go_wp2
       go_ret2
       exact ⟨by first | rfl | (simp; done) | (simp [*]; done) | (exfalso; simp at *; done), by repeat (first | exact Drawn0.refl _ | apply Drawn0.step)⟩
      ·rw [if_neg c16] at H
       have c16b0 : decide ((-2147483647) ≤ 0) = false := decide_eq_false c16
       clear c16
       simp only [Option.some.injEq, Prod.mk.injEq] at H
       obtain ⟨rfl, rfl⟩ := H
       go_enter Tryz.func73, Tryz.ntmps73
       go_wp2
       go_ret2
       exact ⟨by first | rfl | (simp; done) | (simp [*]; done) | (exfalso; simp at *; done), by repeat (first | exact Drawn0.refl _ | apply Drawn0.step)⟩

def real_Entier.f (a0_0 : Int) (a0_1 : Int) : Option (Int × Int) := (real_Valid.f a0_0 a0_1).bind fun t335 => (if t335 = true then ((real_floor.f a0_0 a0_1).bind fun bt336 => ((real_whole.f bt336.1 bt336.2).bind fun bt338 => (some (bt338.1, bt338.2)))) else (some (0, 1)))
theorem real_Entier.calls (a0_0 : Int) (a0_1 : Int) (r1 : Int) (r2 : Int) (w : World) (h : real_Entier.f a0_0 a0_1 = some (r1, r2)) :
  Calls Tryz.prog 21 #[.agg #[.int .i64 a0_0, .int .i64 a0_1]] w fun e w' => e = .returned (.tuple #[.int .i64 r1, .int .i64 r2]) ∧ Below w.heap.size w w' := by
 have hu23 := Tryz.underlying23
 have HB := Aside0.mk (Below.refl w.heap.size w)
 have H := h; unfold real_Entier.f at H; clear h
 replace H := Option.bind_eq_some_iff.mp H
 obtain ⟨t335, A20, H⟩ := H
 try dsimp only at H
 have A2 := Aside0.mk A20
 clear A20
 by_cases c3 : t335 = true
 ·subst c3
  rw [if_pos rfl] at H
  replace H := Option.bind_eq_some_iff.mp H
  obtain ⟨⟨t336, t337⟩, A40, H⟩ := H
  try dsimp only at H
  have A4 := Aside0.mk A40
  clear A40
  replace H := Option.bind_eq_some_iff.mp H
  obtain ⟨⟨t338, t339⟩, A50, H⟩ := H
  try dsimp only at H
  have A5 := Aside0.mk A50
  clear A50
  simp only [Option.some.injEq, Prod.mk.injEq] at H
  obtain ⟨rfl, rfl⟩ := H
  go_enter Tryz.func21, Tryz.ntmps21
  go_wp2_with (first | ((with_reducible refine gate_dst (N := 1) rfl ?_); refine bxe 1 #[.int .i64 a0_0, .int .i64 a0_1] 23 ?_; intro gb334 hg w6 hbox hb; have BK334 := Aside0.mk hbox; have GW334 := ge hg; have GE334 := ge hg; replace HB := bs hb; clear hb hbox hg; have hcz7_0 := c20 BK334; have hcz7_1 := c21 BK334; have hfz7_0 := blk_frozen BK334.out 0; have hfz7_1 := blk_frozen BK334.out 1) | ((with_reducible refine gate_callee (f := 53) rfl ?_); refine gL 5 Tryz.func53 #[.agg #[.int .i64 a0_0, .int .i64 a0_1]] ?_; (with_reducible refine (real_Valid.calls a0_0 a0_1 true _ A2.out).mono ?_); rintro e w8 ⟨rfl, hb⟩; refine ⟨_, rfl, ?_⟩; replace BK334 := kb BK334 hb; replace HB := bs hb; (try clear hb); have hcz9_0 := c20 BK334; have hcz9_1 := c21 BK334; have hfz9_0 := blk_frozen BK334.out 0; have hfz9_1 := blk_frozen BK334.out 1) | ((with_reducible refine gate_callee (f := 73) rfl ?_); refine gL 11 Tryz.func73 #[.int .i64 a0_0, .int .i64 a0_1] ?_; (with_reducible refine (real_floor.calls a0_0 a0_1 t336 t337 _ A4.out).mono ?_); rintro e w' ⟨rfl, ⟨nd, rfl⟩⟩; refine ⟨_, rfl, ?_⟩) | ((with_reducible refine gate_callee (f := 72) rfl ?_); refine gL 14 Tryz.func72 #[.int .i64 t336, .bool t337] ?_; (with_reducible refine (real_whole.calls t336 t337 t338 t339 _ A5.out).mono ?_); rintro e w' ⟨rfl, ⟨nd, rfl⟩⟩; refine ⟨_, rfl, ?_⟩))
  go_ret2
  exact ⟨by first | rfl | (simp [errW_none, errW_some] <;> rfl) | (simp [*, errW_none, errW_some] <;> rfl), bz⟩
 ·replace c3 := Bool.eq_false_iff.mpr c3
  subst c3
  rw [if_neg (show ¬ (false = true) by decide)] at H
  simp only [Option.some.injEq, Prod.mk.injEq] at H
  obtain ⟨rfl, rfl⟩ := H
  go_enter Tryz.func21, Tryz.ntmps21
  go_wp2_with (first | ((with_reducible refine gate_dst (N := 1) rfl ?_); refine bxe 1 #[.int .i64 a0_0, .int .i64 a0_1] 23 ?_; intro gb334 hg w10 hbox hb; have BK334 := Aside0.mk hbox; have GW334 := ge hg; have GE334 := ge hg; replace HB := bs hb; clear hb hbox hg; have hcz11_0 := c20 BK334; have hcz11_1 := c21 BK334; have hfz11_0 := blk_frozen BK334.out 0; have hfz11_1 := blk_frozen BK334.out 1) | ((with_reducible refine gate_callee (f := 53) rfl ?_); refine gL 5 Tryz.func53 #[.agg #[.int .i64 a0_0, .int .i64 a0_1]] ?_; (with_reducible refine (real_Valid.calls a0_0 a0_1 false _ A2.out).mono ?_); rintro e w12 ⟨rfl, hb⟩; refine ⟨_, rfl, ?_⟩; replace BK334 := kb BK334 hb; replace HB := bs hb; (try clear hb)))
  go_ret2
  exact ⟨by first | rfl | (simp [errW_none, errW_some] <;> rfl) | (simp [*, errW_none, errW_some] <;> rfl), bz⟩

def real_Round.f (a0_0 : Int) (a0_1 : Int) : Option (Int × Int) := (real_Valid.f a0_0 a0_1).bind fun t341 => (if t341 = true then (if a0_1 ≥ 0 then ((real_floor.f a0_0 a0_1).bind fun bt342 => ((real_whole.f bt342.1 bt342.2).bind fun bt344 => (some (bt344.1, bt344.2)))) else (if a0_1 < (-40) then (some (0, 0)) else (if 0 ≤ (wrap64 ((wrap64 (-a0_1)) - 1)) then ((real_floor.f (wrap64 (a0_0 + (shl .i64 1 (wrap64 ((wrap64 (-a0_1)) - 1))))) a0_1).bind fun bt346 => ((real_whole.f bt346.1 bt346.2).bind fun bt348 => (some (bt348.1, bt348.2)))) else (none)))) else (some (0, 1)))
theorem real_Round.calls (a0_0 : Int) (a0_1 : Int) (r1 : Int) (r2 : Int) (w : World) (h : real_Round.f a0_0 a0_1 = some (r1, r2)) :
  Calls Tryz.prog 22 #[.agg #[.int .i64 a0_0, .int .i64 a0_1]] w fun e w' => e = .returned (.tuple #[.int .i64 r1, .int .i64 r2]) ∧ Below w.heap.size w w' := by
 have hu23 := Tryz.underlying23
 have HB := Aside0.mk (Below.refl w.heap.size w)
 have H := h; unfold real_Round.f at H; clear h
 replace H := Option.bind_eq_some_iff.mp H
 obtain ⟨t341, A20, H⟩ := H
 try dsimp only at H
 have A2 := Aside0.mk A20
 clear A20
 by_cases c3 : t341 = true
 ·subst c3
  rw [if_pos rfl] at H
  by_cases c4 : a0_1 ≥ 0
  ·rw [if_pos c4] at H
   have c4b0 : decide (0 ≤ a0_1) = true := decide_eq_true c4
   clear c4
   replace H := Option.bind_eq_some_iff.mp H
   obtain ⟨⟨t342, t343⟩, A50, H⟩ := H
   try dsimp only at H
   have A5 := Aside0.mk A50
   clear A50
   replace H := Option.bind_eq_some_iff.mp H
   obtain ⟨⟨t344, t345⟩, A60, H⟩ := H
   try dsimp only at H
   have A6 := Aside0.mk A60
   clear A60
   simp only [Option.some.injEq, Prod.mk.injEq] at H
   obtain ⟨rfl, rfl⟩ := H
   go_enter Tryz.func22, Tryz.ntmps22
   go_wp2_with (first | ((with_reducible refine gate_dst (N := 1) rfl ?_); refine bxe 1 #[.int .i64 a0_0, .int .i64 a0_1] 23 ?_; intro gb340 hg w7 hbox hb; have BK340 := Aside0.mk hbox; have GW340 := ge hg; have GE340 := ge hg; replace HB := bs hb; clear hb hbox hg; have hcz8_0 := c20 BK340; have hcz8_1 := c21 BK340; have hfz8_0 := blk_frozen BK340.out 0; have hfz8_1 := blk_frozen BK340.out 1) | (go_at_call 53; (with_reducible refine (real_Valid.calls a0_0 a0_1 true _ A2.out).mono ?_); rintro e w9 ⟨rfl, hb⟩; replace BK340 := kb BK340 hb; replace HB := bs hb; (try clear hb); have hcz10_0 := c20 BK340; have hcz10_1 := c21 BK340; have hfz10_0 := blk_frozen BK340.out 0; have hfz10_1 := blk_frozen BK340.out 1) | (go_at_call 73; (with_reducible refine (real_floor.calls a0_0 a0_1 t342 t343 _ A5.out).mono ?_); rintro e w' ⟨rfl, ⟨nd, rfl⟩⟩; (try first | exact ⟨rfl, _, World.drewN_drewN _ _ _⟩ | exact ⟨rfl, _, Eq.trans (World.drewN_drewN _ _ _) (congrArg (World.drewN _) (Nat.add_assoc _ _ _))⟩)) | (go_at_call 72; (with_reducible refine (real_whole.calls t342 t343 t344 t345 _ A6.out).mono ?_); rintro e w' ⟨rfl, ⟨nd, rfl⟩⟩; (try first | exact ⟨rfl, _, World.drewN_drewN _ _ _⟩ | exact ⟨rfl, _, Eq.trans (World.drewN_drewN _ _ _) (congrArg (World.drewN _) (Nat.add_assoc _ _ _))⟩)))
   repeat (go_quiet (first | ((with_reducible refine gate_dst (N := 1) rfl ?_); refine bxe 1 #[.int .i64 a0_0, .int .i64 a0_1] 23 ?_; intro gb340 hg w7 hbox hb; have BK340 := Aside0.mk hbox; have GW340 := ge hg; have GE340 := ge hg; replace HB := bs hb; clear hb hbox hg; have hcz8_0 := c20 BK340; have hcz8_1 := c21 BK340; have hfz8_0 := blk_frozen BK340.out 0; have hfz8_1 := blk_frozen BK340.out 1) | (go_at_call 53; (with_reducible refine (real_Valid.calls a0_0 a0_1 true _ A2.out).mono ?_); rintro e w9 ⟨rfl, hb⟩; replace BK340 := kb BK340 hb; replace HB := bs hb; (try clear hb); have hcz10_0 := c20 BK340; have hcz10_1 := c21 BK340; have hfz10_0 := blk_frozen BK340.out 0; have hfz10_1 := blk_frozen BK340.out 1) | (go_at_call 73; (with_reducible refine (real_floor.calls a0_0 a0_1 t342 t343 _ A5.out).mono ?_); rintro e w' ⟨rfl, ⟨nd, rfl⟩⟩; (try first | exact ⟨rfl, _, World.drewN_drewN _ _ _⟩ | exact ⟨rfl, _, Eq.trans (World.drewN_drewN _ _ _) (congrArg (World.drewN _) (Nat.add_assoc _ _ _))⟩)) | (go_at_call 72; (with_reducible refine (real_whole.calls t342 t343 t344 t345 _ A6.out).mono ?_); rintro e w' ⟨rfl, ⟨nd, rfl⟩⟩; (try first | exact ⟨rfl, _, World.drewN_drewN _ _ _⟩ | exact ⟨rfl, _, Eq.trans (World.drewN_drewN _ _ _) (congrArg (World.drewN _) (Nat.add_assoc _ _ _))⟩))); try go_wp2_with (first | ((with_reducible refine gate_dst (N := 1) rfl ?_); refine bxe 1 #[.int .i64 a0_0, .int .i64 a0_1] 23 ?_; intro gb340 hg w7 hbox hb; have BK340 := Aside0.mk hbox; have GW340 := ge hg; have GE340 := ge hg; replace HB := bs hb; clear hb hbox hg; have hcz8_0 := c20 BK340; have hcz8_1 := c21 BK340; have hfz8_0 := blk_frozen BK340.out 0; have hfz8_1 := blk_frozen BK340.out 1) | (go_at_call 53; (with_reducible refine (real_Valid.calls a0_0 a0_1 true _ A2.out).mono ?_); rintro e w9 ⟨rfl, hb⟩; replace BK340 := kb BK340 hb; replace HB := bs hb; (try clear hb); have hcz10_0 := c20 BK340; have hcz10_1 := c21 BK340; have hfz10_0 := blk_frozen BK340.out 0; have hfz10_1 := blk_frozen BK340.out 1) | (go_at_call 73; (with_reducible refine (real_floor.calls a0_0 a0_1 t342 t343 _ A5.out).mono ?_); rintro e w' ⟨rfl, ⟨nd, rfl⟩⟩; (try first | exact ⟨rfl, _, World.drewN_drewN _ _ _⟩ | exact ⟨rfl, _, Eq.trans (World.drewN_drewN _ _ _) (congrArg (World.drewN _) (Nat.add_assoc _ _ _))⟩)) | (go_at_call 72; (with_reducible refine (real_whole.calls t342 t343 t344 t345 _ A6.out).mono ?_); rintro e w' ⟨rfl, ⟨nd, rfl⟩⟩; (try first | exact ⟨rfl, _, World.drewN_drewN _ _ _⟩ | exact ⟨rfl, _, Eq.trans (World.drewN_drewN _ _ _) (congrArg (World.drewN _) (Nat.add_assoc _ _ _))⟩))))
   go_ret2
   exact ⟨by first | rfl | (simp [errW_none, errW_some] <;> rfl) | (simp [*, errW_none, errW_some] <;> rfl), bz⟩
  ·rw [if_neg c4] at H
   have c4b0 : decide (0 ≤ a0_1) = false := decide_eq_false c4
   clear c4
   by_cases c11 : a0_1 < (-40)
   ·rw [if_pos c11] at H
    have c11b0 : decide (a0_1 < (-40)) = true := decide_eq_true c11
    clear c11
    simp only [Option.some.injEq, Prod.mk.injEq] at H
    obtain ⟨rfl, rfl⟩ := H
    go_enter Tryz.func22, Tryz.ntmps22
    go_wp2_with (first | ((with_reducible refine gate_dst (N := 1) rfl ?_); refine bxe 1 #[.int .i64 a0_0, .int .i64 a0_1] 23 ?_; intro gb340 hg w12 hbox hb; have BK340 := Aside0.mk hbox; have GW340 := ge hg; have GE340 := ge hg; replace HB := bs hb; clear hb hbox hg; have hcz13_0 := c20 BK340; have hcz13_1 := c21 BK340; have hfz13_0 := blk_frozen BK340.out 0; have hfz13_1 := blk_frozen BK340.out 1) | (go_at_call 53; (with_reducible refine (real_Valid.calls a0_0 a0_1 true _ A2.out).mono ?_); rintro e w14 ⟨rfl, hb⟩; replace BK340 := kb BK340 hb; replace HB := bs hb; (try clear hb); have hcz15_0 := c20 BK340; have hcz15_1 := c21 BK340; have hfz15_0 := blk_frozen BK340.out 0; have hfz15_1 := blk_frozen BK340.out 1))
    repeat (go_quiet (first | ((with_reducible refine gate_dst (N := 1) rfl ?_); refine bxe 1 #[.int .i64 a0_0, .int .i64 a0_1] 23 ?_; intro gb340 hg w12 hbox hb; have BK340 := Aside0.mk hbox; have GW340 := ge hg; have GE340 := ge hg; replace HB := bs hb; clear hb hbox hg; have hcz13_0 := c20 BK340; have hcz13_1 := c21 BK340; have hfz13_0 := blk_frozen BK340.out 0; have hfz13_1 := blk_frozen BK340.out 1) | (go_at_call 53; (with_reducible refine (real_Valid.calls a0_0 a0_1 true _ A2.out).mono ?_); rintro e w14 ⟨rfl, hb⟩; replace BK340 := kb BK340 hb; replace HB := bs hb; (try clear hb); have hcz15_0 := c20 BK340; have hcz15_1 := c21 BK340; have hfz15_0 := blk_frozen BK340.out 0; have hfz15_1 := blk_frozen BK340.out 1)); try go_wp2_with (first | ((with_reducible refine gate_dst (N := 1) rfl ?_); refine bxe 1 #[.int .i64 a0_0, .int .i64 a0_1] 23 ?_; intro gb340 hg w12 hbox hb; have BK340 := Aside0.mk hbox; have GW340 := ge hg; have GE340 := ge hg; replace HB := bs hb; clear hb hbox hg; have hcz13_0 := c20 BK340; have hcz13_1 := c21 BK340; have hfz13_0 := blk_frozen BK340.out 0; have hfz13_1 := blk_frozen BK340.out 1) | (go_at_call 53; (with_reducible refine (real_Valid.calls a0_0 a0_1 true _ A2.out).mono ?_); rintro e w14 ⟨rfl, hb⟩; replace BK340 := kb BK340 hb; replace HB := bs hb; (try clear hb); have hcz15_0 := c20 BK340; have hcz15_1 := c21 BK340; have hfz15_0 := blk_frozen BK340.out 0; have hfz15_1 := blk_frozen BK340.out 1)))
    go_ret2
    exact ⟨by first | rfl | (simp [errW_none, errW_some] <;> rfl) | (simp [*, errW_none, errW_some] <;> rfl), bz⟩
   ·rw [if_neg c11] at H
    have c11b0 : decide (a0_1 < (-40)) = false := decide_eq_false c11
    clear c11
    obtain ⟨ji16, hji16⟩ : ∃ j_ : Int, (wrap64 ((wrap64 (-a0_1)) - 1)) = j_ := ⟨_, rfl⟩
    first | rw [hji16] at H | simp only [hji16] at H
    (try rw [hji16] at A2)
    have hji16w : (IntKind.i64.wrap ((wrap64 (-a0_1)) - 1)) = ji16 := (i64_w _).trans hji16
    by_cases c17 : 0 ≤ (ji16)
    ·rw [if_pos c17] at H
     have c17b0 := eq_true c17
     have c17b1 : decide (0 ≤ (ji16)) = true := decide_eq_true c17
     clear c17
     obtain ⟨ji18, hji18⟩ : ∃ j_ : Int, (shl .i64 1 (ji16)) = j_ := ⟨_, rfl⟩
     first | rw [hji18] at H | simp only [hji18] at H
     (try rw [hji18] at A2)
     have hji18_ : (IntKind.i64.wrap (1 * 2 ^ min (ji16).toNat 64)) = ji18 := hji18
     have hji18z : (ji16) ≤ 64 → (IntKind.i64.wrap (1 * 2 ^ (ji16).toNat)) = ji18 := shl_small hji18
     have hji18u : (IntKind.i64.wrap (2 ^ min (ji16).toNat 64)) = ji18 := by have h_ := hji18_; rw [Int.one_mul] at h_; exact h_
     have hji18v : (ji16) ≤ 64 → (IntKind.i64.wrap (2 ^ (ji16).toNat)) = ji18 := fun hle_ => by have h_ := hji18z hle_; rw [Int.one_mul] at h_; exact h_
     have hji18y : (wrap64 (1 * 2 ^ min (ji16).toNat 64)) = ji18 := (i64_w _).symm.trans hji18_
     have hji18x : (ji16) ≤ 64 → (wrap64 (1 * 2 ^ (ji16).toNat)) = ji18 := fun h_ => (i64_w _).symm.trans (hji18z h_)
     replace H := Option.bind_eq_some_iff.mp H
     obtain ⟨⟨t346, t347⟩, A190, H⟩ := H
     try dsimp only at H
     have A19 := Aside0.mk A190
     clear A190
     replace H := Option.bind_eq_some_iff.mp H
     obtain ⟨⟨t348, t349⟩, A200, H⟩ := H
     try dsimp only at H
     have A20 := Aside0.mk A200
     clear A200
     simp only [Option.some.injEq, Prod.mk.injEq] at H
     obtain ⟨rfl, rfl⟩ := H
     go_enter Tryz.func22, Tryz.ntmps22
     go_wp2_with (first | ((with_reducible refine gate_dst (N := 1) rfl ?_); refine bxe 1 #[.int .i64 a0_0, .int .i64 a0_1] 23 ?_; intro gb340 hg w21 hbox hb; have BK340 := Aside0.mk hbox; have GW340 := ge hg; have GE340 := ge hg; replace HB := bs hb; clear hb hbox hg; have hcz22_0 := c20 BK340; have hcz22_1 := c21 BK340; have hfz22_0 := blk_frozen BK340.out 0; have hfz22_1 := blk_frozen BK340.out 1) | (go_at_call 53; (with_reducible refine (real_Valid.calls a0_0 a0_1 true _ A2.out).mono ?_); rintro e w23 ⟨rfl, hb⟩; replace BK340 := kb BK340 hb; replace HB := bs hb; (try clear hb); have hcz24_0 := c20 BK340; have hcz24_1 := c21 BK340; have hfz24_0 := blk_frozen BK340.out 0; have hfz24_1 := blk_frozen BK340.out 1) | (go_at_call 73; (with_reducible refine (real_floor.calls (wrap64 (a0_0 + (ji18))) a0_1 t346 t347 _ A19.out).mono ?_); rintro e w' ⟨rfl, ⟨nd, rfl⟩⟩; (try first | exact ⟨rfl, _, World.drewN_drewN _ _ _⟩ | exact ⟨rfl, _, Eq.trans (World.drewN_drewN _ _ _) (congrArg (World.drewN _) (Nat.add_assoc _ _ _))⟩)) | (go_at_call 72; (with_reducible refine (real_whole.calls t346 t347 t348 t349 _ A20.out).mono ?_); rintro e w' ⟨rfl, ⟨nd, rfl⟩⟩; (try first | exact ⟨rfl, _, World.drewN_drewN _ _ _⟩ | exact ⟨rfl, _, Eq.trans (World.drewN_drewN _ _ _) (congrArg (World.drewN _) (Nat.add_assoc _ _ _))⟩)))
     repeat (go_quiet (first | ((with_reducible refine gate_dst (N := 1) rfl ?_); refine bxe 1 #[.int .i64 a0_0, .int .i64 a0_1] 23 ?_; intro gb340 hg w21 hbox hb; have BK340 := Aside0.mk hbox; have GW340 := ge hg; have GE340 := ge hg; replace HB := bs hb; clear hb hbox hg; have hcz22_0 := c20 BK340; have hcz22_1 := c21 BK340; have hfz22_0 := blk_frozen BK340.out 0; have hfz22_1 := blk_frozen BK340.out 1) | (go_at_call 53; (with_reducible refine (real_Valid.calls a0_0 a0_1 true _ A2.out).mono ?_); rintro e w23 ⟨rfl, hb⟩; replace BK340 := kb BK340 hb; replace HB := bs hb; (try clear hb); have hcz24_0 := c20 BK340; have hcz24_1 := c21 BK340; have hfz24_0 := blk_frozen BK340.out 0; have hfz24_1 := blk_frozen BK340.out 1) | (go_at_call 73; (with_reducible refine (real_floor.calls (wrap64 (a0_0 + (ji18))) a0_1 t346 t347 _ A19.out).mono ?_); rintro e w' ⟨rfl, ⟨nd, rfl⟩⟩; (try first | exact ⟨rfl, _, World.drewN_drewN _ _ _⟩ | exact ⟨rfl, _, Eq.trans (World.drewN_drewN _ _ _) (congrArg (World.drewN _) (Nat.add_assoc _ _ _))⟩)) | (go_at_call 72; (with_reducible refine (real_whole.calls t346 t347 t348 t349 _ A20.out).mono ?_); rintro e w' ⟨rfl, ⟨nd, rfl⟩⟩; (try first | exact ⟨rfl, _, World.drewN_drewN _ _ _⟩ | exact ⟨rfl, _, Eq.trans (World.drewN_drewN _ _ _) (congrArg (World.drewN _) (Nat.add_assoc _ _ _))⟩))); try go_wp2_with (first | ((with_reducible refine gate_dst (N := 1) rfl ?_); refine bxe 1 #[.int .i64 a0_0, .int .i64 a0_1] 23 ?_; intro gb340 hg w21 hbox hb; have BK340 := Aside0.mk hbox; have GW340 := ge hg; have GE340 := ge hg; replace HB := bs hb; clear hb hbox hg; have hcz22_0 := c20 BK340; have hcz22_1 := c21 BK340; have hfz22_0 := blk_frozen BK340.out 0; have hfz22_1 := blk_frozen BK340.out 1) | (go_at_call 53; (with_reducible refine (real_Valid.calls a0_0 a0_1 true _ A2.out).mono ?_); rintro e w23 ⟨rfl, hb⟩; replace BK340 := kb BK340 hb; replace HB := bs hb; (try clear hb); have hcz24_0 := c20 BK340; have hcz24_1 := c21 BK340; have hfz24_0 := blk_frozen BK340.out 0; have hfz24_1 := blk_frozen BK340.out 1) | (go_at_call 73; (with_reducible refine (real_floor.calls (wrap64 (a0_0 + (ji18))) a0_1 t346 t347 _ A19.out).mono ?_); rintro e w' ⟨rfl, ⟨nd, rfl⟩⟩; (try first | exact ⟨rfl, _, World.drewN_drewN _ _ _⟩ | exact ⟨rfl, _, Eq.trans (World.drewN_drewN _ _ _) (congrArg (World.drewN _) (Nat.add_assoc _ _ _))⟩)) | (go_at_call 72; (with_reducible refine (real_whole.calls t346 t347 t348 t349 _ A20.out).mono ?_); rintro e w' ⟨rfl, ⟨nd, rfl⟩⟩; (try first | exact ⟨rfl, _, World.drewN_drewN _ _ _⟩ | exact ⟨rfl, _, Eq.trans (World.drewN_drewN _ _ _) (congrArg (World.drewN _) (Nat.add_assoc _ _ _))⟩))))
     go_ret2
     exact ⟨by first | rfl | (simp [errW_none, errW_some] <;> rfl) | (simp only [← hji16, ← hji18]; first | rfl | (simp [errW_none, errW_some] <;> rfl)) | (simp [*, errW_none, errW_some] <;> rfl), bz⟩
    ·rw [if_neg c17] at H
     exact absurd H (by simp)
 ·replace c3 := Bool.eq_false_iff.mpr c3
  subst c3
  rw [if_neg (show ¬ (false = true) by decide)] at H
  simp only [Option.some.injEq, Prod.mk.injEq] at H
  obtain ⟨rfl, rfl⟩ := H
  go_enter Tryz.func22, Tryz.ntmps22
  go_wp2_with (first | ((with_reducible refine gate_dst (N := 1) rfl ?_); refine bxe 1 #[.int .i64 a0_0, .int .i64 a0_1] 23 ?_; intro gb340 hg w25 hbox hb; have BK340 := Aside0.mk hbox; have GW340 := ge hg; have GE340 := ge hg; replace HB := bs hb; clear hb hbox hg; have hcz26_0 := c20 BK340; have hcz26_1 := c21 BK340; have hfz26_0 := blk_frozen BK340.out 0; have hfz26_1 := blk_frozen BK340.out 1) | (go_at_call 53; (with_reducible refine (real_Valid.calls a0_0 a0_1 false _ A2.out).mono ?_); rintro e w27 ⟨rfl, hb⟩; replace BK340 := kb BK340 hb; replace HB := bs hb; (try clear hb)))
  repeat (go_quiet (first | ((with_reducible refine gate_dst (N := 1) rfl ?_); refine bxe 1 #[.int .i64 a0_0, .int .i64 a0_1] 23 ?_; intro gb340 hg w25 hbox hb; have BK340 := Aside0.mk hbox; have GW340 := ge hg; have GE340 := ge hg; replace HB := bs hb; clear hb hbox hg; have hcz26_0 := c20 BK340; have hcz26_1 := c21 BK340; have hfz26_0 := blk_frozen BK340.out 0; have hfz26_1 := blk_frozen BK340.out 1) | (go_at_call 53; (with_reducible refine (real_Valid.calls a0_0 a0_1 false _ A2.out).mono ?_); rintro e w27 ⟨rfl, hb⟩; replace BK340 := kb BK340 hb; replace HB := bs hb; (try clear hb))); try go_wp2_with (first | ((with_reducible refine gate_dst (N := 1) rfl ?_); refine bxe 1 #[.int .i64 a0_0, .int .i64 a0_1] 23 ?_; intro gb340 hg w25 hbox hb; have BK340 := Aside0.mk hbox; have GW340 := ge hg; have GE340 := ge hg; replace HB := bs hb; clear hb hbox hg; have hcz26_0 := c20 BK340; have hcz26_1 := c21 BK340; have hfz26_0 := blk_frozen BK340.out 0; have hfz26_1 := blk_frozen BK340.out 1) | (go_at_call 53; (with_reducible refine (real_Valid.calls a0_0 a0_1 false _ A2.out).mono ?_); rintro e w27 ⟨rfl, hb⟩; replace BK340 := kb BK340 hb; replace HB := bs hb; (try clear hb))))
  go_ret2
  exact ⟨by first | rfl | (simp [errW_none, errW_some] <;> rfl) | (simp [*, errW_none, errW_some] <;> rfl), bz⟩

def stringslite_HasPrefix.f (a0 : ByteArray) (a1 : ByteArray) : Option (Bool) := if (a0.size : Int) ≥ (a1.size : Int) then (if 0 ≤ (a1.size : Int) then (if (a1.size : Int) ≤ (a0.size : Int) then (some ((a0.extract 0 ((a1.size : Int) : Int).toNat).toList == a1.toList)) else (none)) else (none)) else (some false)
theorem stringslite_HasPrefix.calls (a0 : ByteArray) (a1 : ByteArray) (r : Bool) (w : World) (h : stringslite_HasPrefix.f a0 a1 = some r) :
  Calls Tryz.prog 146 #[.string a0, .string a1] w fun e w' => e = .returned (.bool r) ∧ Drawn0 w w' := by
 have H := h; unfold stringslite_HasPrefix.f at H; clear h
 by_cases c3 : (a0.size : Int) ≥ (a1.size : Int)
 ·rw [if_pos c3] at H
  have c3b0 : decide ((a1.size : Int) ≤ (a0.size : Int)) = true := decide_eq_true c3
  have c3b1 : decide (a1.size ≤ a0.size) = true := decide_eq_true (Int.ofNat_le.mp c3)
  clear c3
  by_cases c4 : 0 ≤ (a1.size : Int)
  ·rw [if_pos c4] at H
   have c4b0 := eq_true c4
   have c4b1 : decide (0 ≤ (a1.size : Int)) = true := decide_eq_true c4
   clear c4
   by_cases c5 : (a1.size : Int) ≤ (a0.size : Int)
   ·rw [if_pos c5] at H
    have c5b0 := eq_true c5
    have c5b1 : decide ((a1.size : Int) ≤ (a0.size : Int)) = true := decide_eq_true c5
    clear c5
    obtain rfl := Option.some.inj H
    go_enter Tryz.func146, Tryz.ntmps146
    go_wp2
    go_ret
    exact ⟨by first | rfl | (simp; done) | (simp [*]; done) | (exfalso; simp at *; done), by repeat (first | exact Drawn0.refl _ | apply Drawn0.step)⟩
   ·rw [if_neg c5] at H
    exact absurd H (by simp)
  ·rw [if_neg c4] at H
   exact absurd H (by simp)
 ·rw [if_neg c3] at H
  have c3b0 : decide ((a1.size : Int) ≤ (a0.size : Int)) = false := decide_eq_false c3
  have c3b1 : decide (a1.size ≤ a0.size) = false := decide_eq_false (fun h => c3 (Int.ofNat_le.mpr h))
  clear c3
  obtain rfl := Option.some.inj H
  go_enter Tryz.func146, Tryz.ntmps146
  go_wp2
  go_ret
  exact ⟨by first | rfl | (simp; done) | (simp [*]; done) | (exfalso; simp at *; done), by repeat (first | exact Drawn0.refl _ | apply Drawn0.step)⟩

def stringslite_CutPrefix.f (a0 : ByteArray) (a1 : ByteArray) : Option (ByteArray × Bool) := (stringslite_HasPrefix.f a0 a1).bind fun t350 => (if t350 = true then (if 0 ≤ (a1.size : Int) then (if (a1.size : Int) ≤ (a0.size : Int) then (some (a0.extract ((a1.size : Int) : Int).toNat a0.size, true)) else (none)) else (none)) else (some (a0, false)))
theorem stringslite_CutPrefix.calls (a0 : ByteArray) (a1 : ByteArray) (r1 : ByteArray) (r2 : Bool) (w : World) (h : stringslite_CutPrefix.f a0 a1 = some (r1, r2)) :
  Calls Tryz.prog 114 #[.string a0, .string a1] w fun e w' => e = .returned (.tuple #[.string r1, .bool r2]) ∧ Drawn0 w w' := by
 have H := h; unfold stringslite_CutPrefix.f at H; clear h
 replace H := Option.bind_eq_some_iff.mp H
 obtain ⟨t350, A30, H⟩ := H
 try dsimp only at H
 have A3 := Aside0.mk A30
 clear A30
 by_cases c4 : t350 = true
 ·subst c4
  rw [if_pos rfl] at H
  by_cases c5 : 0 ≤ (a1.size : Int)
  ·rw [if_pos c5] at H
   have c5b0 := eq_true c5
   have c5b1 : decide (0 ≤ (a1.size : Int)) = true := decide_eq_true c5
   clear c5
   by_cases c6 : (a1.size : Int) ≤ (a0.size : Int)
   ·rw [if_pos c6] at H
    have c6b0 := eq_true c6
    have c6b1 : decide ((a1.size : Int) ≤ (a0.size : Int)) = true := decide_eq_true c6
    clear c6
    simp only [Option.some.injEq, Prod.mk.injEq] at H
    obtain ⟨rfl, rfl⟩ := H
    go_enter Tryz.func114, Tryz.ntmps114
    go_wp2_with (first | ((with_reducible refine gate_callee (f := 146) rfl ?_); refine gL 8 Tryz.func146 #[.string a0, .string a1] ?_; (with_reducible refine (stringslite_HasPrefix.calls a0 a1 true _ A3.out).mono ?_); rintro e w' ⟨rfl, ⟨nd, rfl⟩⟩; refine ⟨_, rfl, ?_⟩))
    go_ret2
    exact ⟨by first | rfl | (simp; done) | (simp [*]; done) | (exfalso; simp at *; done), by repeat (first | exact Drawn0.refl _ | apply Drawn0.step)⟩
   ·rw [if_neg c6] at H
    exact absurd H (by simp)
  ·rw [if_neg c5] at H
   exact absurd H (by simp)
 ·replace c4 := Bool.eq_false_iff.mpr c4
  subst c4
  rw [if_neg (show ¬ (false = true) by decide)] at H
  simp only [Option.some.injEq, Prod.mk.injEq] at H
  obtain ⟨rfl, rfl⟩ := H
  go_enter Tryz.func114, Tryz.ntmps114
  go_wp2_with (first | ((with_reducible refine gate_callee (f := 146) rfl ?_); refine gL 8 Tryz.func146 #[.string a0, .string a1] ?_; (with_reducible refine (stringslite_HasPrefix.calls a0 a1 false _ A3.out).mono ?_); rintro e w' ⟨rfl, ⟨nd, rfl⟩⟩; refine ⟨_, rfl, ?_⟩))
  go_ret2
  exact ⟨by first | rfl | (simp; done) | (simp [*]; done) | (exfalso; simp at *; done), by repeat (first | exact Drawn0.refl _ | apply Drawn0.step)⟩

def strings_CutPrefix.f (a0 : ByteArray) (a1 : ByteArray) : Option (ByteArray × Bool) := (stringslite_CutPrefix.f a0 a1).bind fun bt351 => (some (bt351.1, bt351.2))
theorem strings_CutPrefix.calls (a0 : ByteArray) (a1 : ByteArray) (r1 : ByteArray) (r2 : Bool) (w : World) (h : strings_CutPrefix.f a0 a1 = some (r1, r2)) :
  Calls Tryz.prog 76 #[.string a0, .string a1] w fun e w' => e = .returned (.tuple #[.string r1, .bool r2]) ∧ Drawn0 w w' := by
 have H := h; unfold strings_CutPrefix.f at H; clear h
 replace H := Option.bind_eq_some_iff.mp H
 obtain ⟨⟨t351, t352⟩, A30, H⟩ := H
 try dsimp only at H
 have A3 := Aside0.mk A30
 clear A30
 simp only [Option.some.injEq, Prod.mk.injEq] at H
 obtain ⟨rfl, rfl⟩ := H
 go_enter Tryz.func76, Tryz.ntmps76
 go_wp2_with (first | ((with_reducible refine gate_callee (f := 114) rfl ?_); refine gL 8 Tryz.func114 #[.string a0, .string a1] ?_; (with_reducible refine (stringslite_CutPrefix.calls a0 a1 t351 t352 _ A3.out).mono ?_); rintro e w' ⟨rfl, ⟨nd, rfl⟩⟩; refine ⟨_, rfl, ?_⟩))
 go_ret2
 exact ⟨by first | rfl | (simp; done) | (simp [*]; done) | (exfalso; simp at *; done), by repeat (first | exact Drawn0.refl _ | apply Drawn0.step)⟩

def strings_HasPrefix.f (a0 : ByteArray) (a1 : ByteArray) : Option (Bool) := (stringslite_HasPrefix.f a0 a1).bind fun t353 => (some t353)
theorem strings_HasPrefix.calls (a0 : ByteArray) (a1 : ByteArray) (r : Bool) (w : World) (h : strings_HasPrefix.f a0 a1 = some r) :
  Calls Tryz.prog 118 #[.string a0, .string a1] w fun e w' => e = .returned (.bool r) ∧ Drawn0 w w' := by
 have H := h; unfold strings_HasPrefix.f at H; clear h
 replace H := Option.bind_eq_some_iff.mp H
 obtain ⟨t353, A30, H⟩ := H
 try dsimp only at H
 have A3 := Aside0.mk A30
 clear A30
 obtain rfl := Option.some.inj H
 go_enter Tryz.func118, Tryz.ntmps118
 go_wp2_with (first | ((with_reducible refine gate_callee (f := 146) rfl ?_); refine gL 7 Tryz.func146 #[.string a0, .string a1] ?_; (with_reducible refine (stringslite_HasPrefix.calls a0 a1 t353 _ A3.out).mono ?_); rintro e w' ⟨rfl, ⟨nd, rfl⟩⟩; refine ⟨_, rfl, ?_⟩))
 go_ret
 exact ⟨by first | rfl | (simp; done) | (simp [*]; done) | (exfalso; simp at *; done), by repeat (first | exact Drawn0.refl _ | apply Drawn0.step)⟩

def manorboylaw02_two.f (a0 : Int) : Option (Int × Int) := some (8388608, wrap64 (a0 - 23))
theorem manorboylaw02_two.calls (a0 : Int) (r1 : Int) (r2 : Int) (w : World) (h : manorboylaw02_two.f a0 = some (r1, r2)) :
  Calls Tryz.prog 49 #[.int .i64 a0] w fun e w' => e = .returned (.agg #[.int .i64 r1, .int .i64 r2]) ∧ Below w.heap.size w w' := by
 have hu23 := Tryz.underlying23
 have HB := Aside0.mk (Below.refl w.heap.size w)
 have H := h; unfold manorboylaw02_two.f at H; clear h
 simp only [Option.some.injEq, Prod.mk.injEq] at H
 obtain ⟨rfl, rfl⟩ := H
 go_enter Tryz.func49, Tryz.ntmps49
 go_wp2_with (first | ((with_reducible refine gate_dst (N := 2) rfl ?_); refine bxe 2 #[.int .i64 0, .int .i64 0] 23 ?_; intro gb354 hg w2 hbox hb; have BK354 := Aside0.mk hbox; have GW354 := ge hg; have GE354 := ge hg; replace HB := bs hb; clear hb hbox hg; have hcz3_0 := c20 BK354; have hcz3_1 := c21 BK354; have hfz3_0 := blk_frozen BK354.out 0; have hfz3_1 := blk_frozen BK354.out 1))
 refine bodyPost_ret (results_cell_row rfl _ _ gb354 23 #[.int .i64 8388608, .int .i64 (wrap64 (a0 - 23))] (0, 0) _ rfl (by (with_reducible repeat (first | refine blk_drewN ?_ _ | refine blk_drew ?_ | refine blk_alloc ?_ _)); refine blk_put (cs := #[.int .i64 8388608, .int .i64 0]) ?_ 1 _ rfl; (with_reducible repeat (first | refine blk_drewN ?_ _ | refine blk_drew ?_ | refine blk_alloc ?_ _)); refine blk_put (cs := #[.int .i64 0, .int .i64 0]) ?_ 0 _ rfl; (with_reducible repeat (first | refine blk_drewN ?_ _ | refine blk_drew ?_ | refine blk_alloc ?_ _)); exact BK354.out) Tryz.underlying23 rfl (by kernel_rfl)) rfl ?_
 exact ⟨by first | rfl | (simp [errW_none, errW_some] <;> rfl) | (simp [*, errW_none, errW_some] <;> rfl), bz⟩

def manorboylaw02_is.f (a0_0 : Int) (a0_1 : Int) (a1 : Int) (a2_0 : Int) (a2_1 : Int) : Option (Bool) := if a1 = 0 then (some (a0_0 == a2_0 && (a0_1 == a2_1))) else (some false)
theorem manorboylaw02_is.calls (a0_0 : Int) (a0_1 : Int) (a1 : Int) (a2_0 : Int) (a2_1 : Int) (r : Bool) (w : World) (h : manorboylaw02_is.f a0_0 a0_1 a1 a2_0 a2_1 = some r) :
  Calls Tryz.prog 39 #[.agg #[.int .i64 a0_0, .int .i64 a0_1], .int .i64 a1, .agg #[.int .i64 a2_0, .int .i64 a2_1]] w fun e w' => e = .returned (.bool r) ∧ Below w.heap.size w w' := by
 have hu23 := Tryz.underlying23
 have HB := Aside0.mk (Below.refl w.heap.size w)
 have H := h; unfold manorboylaw02_is.f at H; clear h
 by_cases c4 : a1 = 0
 ·rw [if_pos c4] at H
  have c4b0 : (a1 == 0) = true := beq_iff_eq.mpr c4
  have c4b1 : (a1 != 0) = false := bne_eq_false_iff_eq.mpr c4
  clear c4
  obtain rfl := Option.some.inj H
  go_enter Tryz.func39, Tryz.ntmps39
  go_wp2_with (first | ((with_reducible refine gate_dst (N := 3) rfl ?_); refine bxe 3 #[.int .i64 a0_0, .int .i64 a0_1] 23 ?_; intro gb355 hg w5 hbox hb; have BK355 := Aside0.mk hbox; have GW355 := ge hg; have GE355 := ge hg; replace HB := bs hb; clear hb hbox hg) | ((with_reducible refine gate_dst (N := 5) rfl ?_); refine bxe 5 #[.int .i64 a2_0, .int .i64 a2_1] 23 ?_; intro gb356 hg w6 hbox hb; have BK356 := Aside0.mk hbox; have GW356 := ge hg; have GE356 := ge hg; have NB355_356 := nl BK355 hg; have NB356_355 := nr BK355 hg; replace BK355 := kb BK355 hb; replace HB := bs hb; clear hb hbox hg; have hnb7 := NB355_356.out; have hnc7 := NB356_355.out; have hcz8_0 := c20 BK355; have hcz8_1 := c21 BK355; have hfz8_0 := blk_frozen BK355.out 0; have hfz8_1 := blk_frozen BK355.out 1; have hcz9_0 := c20 BK356; have hcz9_1 := c21 BK356; have hfz9_0 := blk_frozen BK356.out 0; have hfz9_1 := blk_frozen BK356.out 1))
  go_ret
  exact ⟨by first | rfl | (simp [errW_none, errW_some] <;> rfl) | (simp [*, errW_none, errW_some] <;> rfl), bz⟩
 ·rw [if_neg c4] at H
  have c4b0 : (a1 == 0) = false := beq_eq_false_iff_ne.mpr c4
  have c4b1 : (a1 != 0) = true := bne_iff_ne.mpr c4
  obtain rfl := Option.some.inj H
  go_enter Tryz.func39, Tryz.ntmps39
  go_wp2_with (first | ((with_reducible refine gate_dst (N := 3) rfl ?_); refine bxe 3 #[.int .i64 a0_0, .int .i64 a0_1] 23 ?_; intro gb355 hg w10 hbox hb; have BK355 := Aside0.mk hbox; have GW355 := ge hg; have GE355 := ge hg; replace HB := bs hb; clear hb hbox hg) | ((with_reducible refine gate_dst (N := 5) rfl ?_); refine bxe 5 #[.int .i64 a2_0, .int .i64 a2_1] 23 ?_; intro gb356 hg w11 hbox hb; have BK356 := Aside0.mk hbox; have GW356 := ge hg; have GE356 := ge hg; have NB355_356 := nl BK355 hg; have NB356_355 := nr BK355 hg; replace BK355 := kb BK355 hb; replace HB := bs hb; clear hb hbox hg))
  go_ret
  exact ⟨by first | rfl | (simp [errW_none, errW_some] <;> rfl) | (simp [*, errW_none, errW_some] <;> rfl), bz⟩

end Go.Proofs.YteigbokklclmbaaGreatDoor.Z
end
section
namespace Go.Proofs
open Go.Shelf
def Tryz.lays162_ren : Go.Shelf.Ren := ⟨fun | 162 => 129 | 232 => 153 | 227 => 154 | 234 => 155 | 236 => 156 | 228 => 168 | 271 => 169 | 151 => 170 | 120 => 178 | 197 => 179 | 152 => 180 | 260 => 183 | 137 => 184 | 119 => 185 | 224 => 186 | 225 => 187 | 217 => 188 | 266 => 189 | n => n, fun | 9 => 9 | 4 => 4 | 3 => 3 | 5 => 5 | 117 => 164 | 116 => 163 | 0 => 0 | 124 => 167 | 21 => 21 | 105 => 181 | 46 => 119 | 119 => 198 | 139 => 201 | 138 => 200 | n => n, fun | 3 => 4 | 4 => 5 | n => n⟩
theorem Tryz.lays162 : Go.Proofs.Lays.n162 Tryz.prog Tryz.lays162_ren := {
  mixed := by kernel_rfl
  f119 := Tryz.func185.trans (congrArg some (by kernel_rfl))
  f120 := Tryz.func178.trans (congrArg some (by kernel_rfl))
  f137 := Tryz.func184.trans (congrArg some (by kernel_rfl))
  f151 := Tryz.func170.trans (congrArg some (by kernel_rfl))
  f152 := Tryz.func180.trans (congrArg some (by kernel_rfl))
  f162 := Tryz.func129.trans (congrArg some (by kernel_rfl))
  f197 := Tryz.func179.trans (congrArg some (by kernel_rfl))
  f217 := Tryz.func188.trans (congrArg some (by kernel_rfl))
  f224 := Tryz.func186.trans (congrArg some (by kernel_rfl))
  f225 := Tryz.func187.trans (congrArg some (by kernel_rfl))
  f227 := Tryz.func154.trans (congrArg some (by kernel_rfl))
  f228 := Tryz.func168.trans (congrArg some (by kernel_rfl))
  f232 := Tryz.func153.trans (congrArg some (by kernel_rfl))
  f234 := Tryz.func155.trans (congrArg some (by kernel_rfl))
  f236 := Tryz.func156.trans (congrArg some (by kernel_rfl))
  f260 := Tryz.func183.trans (congrArg some (by kernel_rfl))
  f266 := Tryz.func189.trans (congrArg some (by kernel_rfl))
  f271 := Tryz.func169.trans (congrArg some (by kernel_rfl))
  t0 := Tryz.underlying0
  a0 := Tryz.isAgg0
  z0 := Tryz.sizeOf0
  v0 := Tryz.zeroValue0
  t3 := Tryz.underlying3
  a3 := Tryz.isAgg3
  z3 := Tryz.sizeOf3
  v3 := Tryz.zeroValue3
  t4 := Tryz.underlying4
  a4 := Tryz.isAgg4
  z4 := Tryz.sizeOf4
  v4 := Tryz.zeroValue4
  t5 := Tryz.underlying5
  a5 := Tryz.isAgg5
  z5 := Tryz.sizeOf5
  v5 := Tryz.zeroValue5
  t9 := Tryz.underlying9
  a9 := Tryz.isAgg9
  z9 := Tryz.sizeOf9
  v9 := Tryz.zeroValue9
  t21 := Tryz.underlying21
  a21 := Tryz.isAgg21
  z21 := Tryz.sizeOf21
  v21 := Tryz.zeroValue21
  t46 := Tryz.underlying119
  a46 := Tryz.isAgg119
  z46 := Tryz.sizeOf119
  v46 := Tryz.zeroValue119
  t105 := Tryz.underlying181
  a105 := Tryz.isAgg181
  z105 := Tryz.sizeOf181
  v105 := Tryz.zeroValue181
  t116 := Tryz.underlying163
  a116 := Tryz.isAgg163
  z116 := Tryz.sizeOf163
  t117 := Tryz.underlying164
  a117 := Tryz.isAgg164
  z117 := Tryz.sizeOf164
  v117 := Tryz.zeroValue164
  t119 := Tryz.underlying198
  a119 := Tryz.isAgg198
  z119 := Tryz.sizeOf198
  t124 := Tryz.underlying167
  a124 := Tryz.isAgg167
  z124 := Tryz.sizeOf167
  v124 := Tryz.zeroValue167
  t138 := Tryz.underlying200
  a138 := Tryz.isAgg200
  z138 := Tryz.sizeOf200
  v138 := Tryz.zeroValue200
  t139 := Tryz.underlying201
  a139 := Tryz.isAgg201
  z139 := Tryz.sizeOf201
  v139 := Tryz.zeroValue201
  g3 := by kernel_rfl
  g4 := by kernel_rfl }
open Go.RowKit in
theorem Tryz.strings_TrimRight_one (s : ByteArray) (c : UInt8) (hc : c.toNat < 128) (w : World) (hs : s.size ≤ 9223372036854775807) :
    Calls Tryz.prog 129 #[.string s, .string ⟨#[c]⟩] w fun e w' => e = .returned (.string ⟨(Lib.trimRightB s.data.toList c).toArray⟩) ∧ w' = w := Any.strings_TrimRight_one Tryz.lays162 s c hc w hs
def Tryz.lays283_ren : Go.Shelf.Ren := ⟨fun | 283 => 164 | n => n, fun | 3 => 3 | 9 => 9 | 4 => 4 | n => n, fun | n => n⟩
theorem Tryz.lays283 : Go.Proofs.Lays.n283 Tryz.prog Tryz.lays283_ren := {
  mixed := by kernel_rfl
  f283 := Tryz.func164.trans (congrArg some (by kernel_rfl))
  t3 := Tryz.underlying3
  a3 := Tryz.isAgg3
  z3 := Tryz.sizeOf3
  v3 := Tryz.zeroValue3
  t4 := Tryz.underlying4
  a4 := Tryz.isAgg4
  z4 := Tryz.sizeOf4
  v4 := Tryz.zeroValue4
  t9 := Tryz.underlying9
  a9 := Tryz.isAgg9
  z9 := Tryz.sizeOf9
  v9 := Tryz.zeroValue9 }
open Go.Lib in
theorem Tryz.internal_strconv_small (i : Nat) (h : i < 100) (w : World) :
    Calls Tryz.prog 164 #[.int .i64 i] w fun e w' => e = .returned (.string ⟨(Lib.decDigits i).toArray⟩) ∧ w' = w := Any.internal_strconv_small Tryz.lays283 i h w
def Tryz.laysM284_ren : Go.Shelf.Ren := ⟨fun | 284 => 165 | 129 => 174 | 317 => 173 | 318 => 175 | n => n, fun | 53 => 72 | 3 => 3 | 212 => 188 | 0 => 0 | 4 => 4 | 46 => 119 | 5 => 5 | 9 => 9 | n => n, fun | 17 => 0 | n => n⟩
theorem Tryz.laysM284 : Go.Proofs.LaysM.n284 Tryz.prog Tryz.laysM284_ren := {
  mixed := by kernel_rfl
  f129 := Tryz.func174.trans (congrArg some (by kernel_rfl))
  f284 := Tryz.func165.trans (congrArg some (by kernel_rfl))
  f317 := Tryz.func173.trans (congrArg some (by kernel_rfl))
  f318 := Tryz.func175.trans (congrArg some (by kernel_rfl))
  t0 := Tryz.underlying0
  a0 := Tryz.isAgg0
  z0 := Tryz.sizeOf0
  v0 := Tryz.zeroValue0
  t3 := Tryz.underlying3
  a3 := Tryz.isAgg3
  z3 := Tryz.sizeOf3
  v3 := Tryz.zeroValue3
  t4 := Tryz.underlying4
  a4 := Tryz.isAgg4
  z4 := Tryz.sizeOf4
  v4 := Tryz.zeroValue4
  t5 := Tryz.underlying5
  a5 := Tryz.isAgg5
  z5 := Tryz.sizeOf5
  v5 := Tryz.zeroValue5
  t9 := Tryz.underlying9
  a9 := Tryz.isAgg9
  z9 := Tryz.sizeOf9
  v9 := Tryz.zeroValue9
  t46 := Tryz.underlying119
  a46 := Tryz.isAgg119
  z46 := Tryz.sizeOf119
  v46 := Tryz.zeroValue119
  t53 := Tryz.underlying72
  a53 := Tryz.isAgg72
  z53 := Tryz.sizeOf72
  v53 := Tryz.zeroValue72
  t212 := Tryz.underlying188
  a212 := Tryz.isAgg188
  z212 := Tryz.sizeOf188
  v212 := Tryz.zeroValue188
  g17 := by kernel_rfl
  i0 := by kernel_rfl
  i3 := by kernel_rfl
  i4 := by kernel_rfl
  i5 := by kernel_rfl
  i9 := by kernel_rfl
  i46 := by kernel_rfl
  i53 := by kernel_rfl
  i212 := by kernel_rfl
  m17 := by kernel_rfl }
open Go.Lib in
theorem Tryz.internal_strconv_numDigits (u : Nat) (h1 : 1 ≤ u) (h2 : u < 18446744073709551616) (w : World) (htab : Lib.TabIs Tryz.prog w "internal/strconv.uint64pow10" .u64 Lib.pow10Tab) :
    Calls Tryz.prog 165 #[.int .u64 u] w fun e w' => e = .returned (.int .i64 (Lib.nDigits u)) ∧ w' = w := Any.internal_strconv_numDigits Tryz.laysM284 u h1 h2 w htab
def Tryz.lays285_ren : Go.Shelf.Ren := ⟨fun | 285 => 166 | n => n, fun | 37 => 141 | 53 => 72 | 3 => 3 | 4 => 4 | 51 => 115 | 9 => 9 | 5 => 5 | 0 => 0 | n => n, fun | n => n⟩
theorem Tryz.lays285 : Go.Proofs.Lays.n285 Tryz.prog Tryz.lays285_ren := {
  mixed := by kernel_rfl
  f285 := Tryz.func166.trans (congrArg some (by kernel_rfl))
  t0 := Tryz.underlying0
  a0 := Tryz.isAgg0
  z0 := Tryz.sizeOf0
  v0 := Tryz.zeroValue0
  t3 := Tryz.underlying3
  a3 := Tryz.isAgg3
  z3 := Tryz.sizeOf3
  v3 := Tryz.zeroValue3
  t4 := Tryz.underlying4
  a4 := Tryz.isAgg4
  z4 := Tryz.sizeOf4
  v4 := Tryz.zeroValue4
  t5 := Tryz.underlying5
  a5 := Tryz.isAgg5
  z5 := Tryz.sizeOf5
  v5 := Tryz.zeroValue5
  t9 := Tryz.underlying9
  a9 := Tryz.isAgg9
  z9 := Tryz.sizeOf9
  v9 := Tryz.zeroValue9
  t37 := Tryz.underlying141
  a37 := Tryz.isAgg141
  z37 := Tryz.sizeOf141
  v37 := Tryz.zeroValue141
  t51 := Tryz.underlying115
  a51 := Tryz.isAgg115
  z51 := Tryz.sizeOf115
  v51 := Tryz.zeroValue115
  t53 := Tryz.underlying72
  a53 := Tryz.isAgg72
  z53 := Tryz.sizeOf72
  v53 := Tryz.zeroValue72 }
open Go.RowKit Go.Sort Go.Lib in
theorem Tryz.internal_strconv_formatBase10 (blk off cap : Nat) (u : Nat) (d : Array UInt8) (w : World) (hH : Holds (fun (b : UInt8) => Value.int .u8 (b.toNat : Int)) w blk off d) (hu : u < 10 ^ d.size) (hu64 : u < 18446744073709551616) (hsz : d.size < 4611686018427387904) :
    Calls Tryz.prog 166 #[.slice (some ⟨blk, off, none⟩) d.size cap, .int .u64 u] w fun e w' =>
      e = .returned (.tuple #[]) ∧ ∃ (n v' : Nat) (dk : Array UInt8), w' = (putRow (fun (b : UInt8) => Value.int .u8 (b.toNat : Int)) w blk off dk).drewN n ∧ FmtInv d.size u 0 v' dk := Any.internal_strconv_formatBase10 Tryz.lays285 blk off cap u d w hH hu hu64 hsz
def Tryz.laysM171_ren : Go.Shelf.Ren := ⟨fun | 171 => 90 | 243 => 130 | 246 => 157 | 283 => 164 | 284 => 165 | 285 => 166 | 286 => 167 | 129 => 174 | 317 => 173 | 318 => 175 | 319 => 176 | 320 => 177 | 337 => 181 | 338 => 182 | n => n, fun | 3 => 3 | 9 => 9 | 2 => 2 | 4 => 4 | 171 => 176 | 0 => 0 | 53 => 72 | 37 => 141 | 5 => 5 | 173 => 179 | 212 => 188 | 51 => 115 | 20 => 20 | 213 => 189 | 46 => 119 | 232 => 196 | 233 => 197 | n => n, fun | 17 => 0 | 18 => 2 | 19 => 3 | n => n⟩
theorem Tryz.laysM171 : Go.Proofs.LaysM.n171 Tryz.prog Tryz.laysM171_ren := {
  mixed := by kernel_rfl
  f129 := Tryz.func174.trans (congrArg some (by kernel_rfl))
  f171 := Tryz.func90.trans (congrArg some (by kernel_rfl))
  f243 := Tryz.func130.trans (congrArg some (by kernel_rfl))
  f246 := Tryz.func157.trans (congrArg some (by kernel_rfl))
  f283 := Tryz.func164.trans (congrArg some (by kernel_rfl))
  f284 := Tryz.func165.trans (congrArg some (by kernel_rfl))
  f285 := Tryz.func166.trans (congrArg some (by kernel_rfl))
  f286 := Tryz.func167.trans (congrArg some (by kernel_rfl))
  f317 := Tryz.func173.trans (congrArg some (by kernel_rfl))
  f318 := Tryz.func175.trans (congrArg some (by kernel_rfl))
  f319 := Tryz.func176.trans (congrArg some (by kernel_rfl))
  f320 := Tryz.func177.trans (congrArg some (by kernel_rfl))
  f337 := Tryz.func181.trans (congrArg some (by kernel_rfl))
  f338 := Tryz.func182.trans (congrArg some (by kernel_rfl))
  t0 := Tryz.underlying0
  a0 := Tryz.isAgg0
  z0 := Tryz.sizeOf0
  v0 := Tryz.zeroValue0
  t2 := Tryz.underlying2
  a2 := Tryz.isAgg2
  z2 := Tryz.sizeOf2
  v2 := Tryz.zeroValue2
  t3 := Tryz.underlying3
  a3 := Tryz.isAgg3
  z3 := Tryz.sizeOf3
  v3 := Tryz.zeroValue3
  t4 := Tryz.underlying4
  a4 := Tryz.isAgg4
  z4 := Tryz.sizeOf4
  v4 := Tryz.zeroValue4
  t5 := Tryz.underlying5
  a5 := Tryz.isAgg5
  z5 := Tryz.sizeOf5
  v5 := Tryz.zeroValue5
  t9 := Tryz.underlying9
  a9 := Tryz.isAgg9
  z9 := Tryz.sizeOf9
  v9 := Tryz.zeroValue9
  t20 := Tryz.underlying20
  a20 := Tryz.isAgg20
  z20 := Tryz.sizeOf20
  v20 := Tryz.zeroValue20
  t37 := Tryz.underlying141
  a37 := Tryz.isAgg141
  z37 := Tryz.sizeOf141
  v37 := Tryz.zeroValue141
  t46 := Tryz.underlying119
  a46 := Tryz.isAgg119
  z46 := Tryz.sizeOf119
  v46 := Tryz.zeroValue119
  t51 := Tryz.underlying115
  a51 := Tryz.isAgg115
  z51 := Tryz.sizeOf115
  v51 := Tryz.zeroValue115
  t53 := Tryz.underlying72
  a53 := Tryz.isAgg72
  z53 := Tryz.sizeOf72
  v53 := Tryz.zeroValue72
  t171 := Tryz.underlying176
  a171 := Tryz.isAgg176
  z171 := Tryz.sizeOf176
  v171 := Tryz.zeroValue176
  t173 := Tryz.underlying179
  a173 := Tryz.isAgg179
  z173 := Tryz.sizeOf179
  v173 := Tryz.zeroValue179
  t212 := Tryz.underlying188
  a212 := Tryz.isAgg188
  z212 := Tryz.sizeOf188
  v212 := Tryz.zeroValue188
  t213 := Tryz.underlying189
  a213 := Tryz.isAgg189
  z213 := Tryz.sizeOf189
  t232 := Tryz.underlying196
  a232 := Tryz.isAgg196
  z232 := Tryz.sizeOf196
  v232 := Tryz.zeroValue196
  t233 := Tryz.underlying197
  a233 := Tryz.isAgg197
  z233 := Tryz.sizeOf197
  v233 := Tryz.zeroValue197
  g17 := by kernel_rfl
  g18 := by kernel_rfl
  g19 := by kernel_rfl
  i0 := by kernel_rfl
  i2 := by kernel_rfl
  i3 := by kernel_rfl
  i4 := by kernel_rfl
  i5 := by kernel_rfl
  i9 := by kernel_rfl
  i20 := by kernel_rfl
  i37 := by kernel_rfl
  i46 := by kernel_rfl
  i51 := by kernel_rfl
  i53 := by kernel_rfl
  i171 := by kernel_rfl
  i173 := by kernel_rfl
  i212 := by kernel_rfl
  i232 := by kernel_rfl
  i233 := by kernel_rfl
  m17 := by kernel_rfl
  m18 := by kernel_rfl
  m19 := by kernel_rfl }
open Go.RowKit Go.Sort Go.Lib in
theorem Tryz.strconv_Itoa (n : Int) (h0 : -9223372036854775808 ≤ n) (h1 : n ≤ 9223372036854775807) (w : World) (htab : Lib.TabIs Tryz.prog w "internal/strconv.uint64pow10" .u64 Lib.pow10Tab) :
    Calls Tryz.prog 90 #[.int .i64 n] w fun e w' => e = .returned (.string ⟨(Lib.itoa n).toArray⟩) ∧ ∃ k os, w' = grow (w.drewN k) os := Any.strconv_Itoa Tryz.laysM171 n h0 h1 w htab
def Tryz.lays105_ren : Go.Shelf.Ren := ⟨fun | 105 => 91 | 212 => 131 | 99 => 118 | 165 => 132 | 166 => 133 | 170 => 134 | 169 => 135 | 263 => 158 | 264 => 159 | 206 => 146 | 240 => 160 | 241 => 161 | 276 => 171 | 277 => 172 | n => n, fun | 9 => 9 | 3 => 3 | 4 => 4 | 20 => 20 | 0 => 0 | 46 => 119 | 109 => 138 | 5 => 5 | 72 => 143 | 76 => 147 | 51 => 115 | 146 => 169 | 53 => 72 | 148 => 171 | 70 => 140 | 37 => 141 | 75 => 146 | 127 => 173 | 164 => 184 | 80 => 150 | n => n, fun | n => n⟩
theorem Tryz.lays105 : Go.Proofs.Lays.n105 Tryz.prog Tryz.lays105_ren := {
  mixed := by kernel_rfl
  f99 := Tryz.func118.trans (congrArg some (by kernel_rfl))
  f105 := Tryz.func91.trans (congrArg some (by kernel_rfl))
  f165 := Tryz.func132.trans (congrArg some (by kernel_rfl))
  f166 := Tryz.func133.trans (congrArg some (by kernel_rfl))
  f169 := Tryz.func135.trans (congrArg some (by kernel_rfl))
  f170 := Tryz.func134.trans (congrArg some (by kernel_rfl))
  f206 := Tryz.func146.trans (congrArg some (by kernel_rfl))
  f212 := Tryz.func131.trans (congrArg some (by kernel_rfl))
  f240 := Tryz.func160.trans (congrArg some (by kernel_rfl))
  f241 := Tryz.func161.trans (congrArg some (by kernel_rfl))
  f263 := Tryz.func158.trans (congrArg some (by kernel_rfl))
  f264 := Tryz.func159.trans (congrArg some (by kernel_rfl))
  f276 := Tryz.func171.trans (congrArg some (by kernel_rfl))
  f277 := Tryz.func172.trans (congrArg some (by kernel_rfl))
  t0 := Tryz.underlying0
  a0 := Tryz.isAgg0
  z0 := Tryz.sizeOf0
  v0 := Tryz.zeroValue0
  t3 := Tryz.underlying3
  a3 := Tryz.isAgg3
  z3 := Tryz.sizeOf3
  v3 := Tryz.zeroValue3
  t4 := Tryz.underlying4
  a4 := Tryz.isAgg4
  z4 := Tryz.sizeOf4
  v4 := Tryz.zeroValue4
  t5 := Tryz.underlying5
  a5 := Tryz.isAgg5
  z5 := Tryz.sizeOf5
  v5 := Tryz.zeroValue5
  t9 := Tryz.underlying9
  a9 := Tryz.isAgg9
  z9 := Tryz.sizeOf9
  v9 := Tryz.zeroValue9
  t20 := Tryz.underlying20
  a20 := Tryz.isAgg20
  z20 := Tryz.sizeOf20
  v20 := Tryz.zeroValue20
  t37 := Tryz.underlying141
  a37 := Tryz.isAgg141
  z37 := Tryz.sizeOf141
  v37 := Tryz.zeroValue141
  t46 := Tryz.underlying119
  a46 := Tryz.isAgg119
  z46 := Tryz.sizeOf119
  v46 := Tryz.zeroValue119
  t51 := Tryz.underlying115
  a51 := Tryz.isAgg115
  z51 := Tryz.sizeOf115
  v51 := Tryz.zeroValue115
  t53 := Tryz.underlying72
  a53 := Tryz.isAgg72
  z53 := Tryz.sizeOf72
  v53 := Tryz.zeroValue72
  t70 := Tryz.underlying140
  a70 := Tryz.isAgg140
  z70 := Tryz.sizeOf140
  v70 := Tryz.zeroValue140
  t72 := Tryz.underlying143
  a72 := Tryz.isAgg143
  z72 := Tryz.sizeOf143
  v72 := Tryz.zeroValue143
  t75 := Tryz.underlying146
  a75 := Tryz.isAgg146
  z75 := Tryz.sizeOf146
  v75 := Tryz.zeroValue146
  t76 := Tryz.underlying147
  a76 := Tryz.isAgg147
  z76 := Tryz.sizeOf147
  v76 := Tryz.zeroValue147
  t109 := Tryz.underlying138
  a109 := Tryz.isAgg138
  z109 := Tryz.sizeOf138
  v109 := Tryz.zeroValue138
  t127 := Tryz.underlying173
  a127 := Tryz.isAgg173
  z127 := Tryz.sizeOf173
  v127 := Tryz.zeroValue173
  t146 := Tryz.underlying169
  a146 := Tryz.isAgg169
  z146 := Tryz.sizeOf169
  v146 := Tryz.zeroValue169
  t148 := Tryz.underlying171
  a148 := Tryz.isAgg171
  z148 := Tryz.sizeOf171
  v148 := Tryz.zeroValue171
  t164 := Tryz.underlying184
  a164 := Tryz.isAgg184
  z164 := Tryz.sizeOf184
  v164 := Tryz.zeroValue184 }
theorem Tryz.Builder_Extra_105 : Builder.Extra Tryz.prog Tryz.lays105_ren := {
  sizeBuilder := by kernel_rfl
  liesBuilder := by kernel_rfl
  t5 := Tryz.underlying5
  a5 := Tryz.isAgg5
  z5 := Tryz.sizeOf5
  v5 := Tryz.zeroValue5
  infoByte := by kernel_rfl
  cellsByte := by kernel_rfl
  sizeByte := by kernel_rfl
  neB5 := by decide }
open Go.RowKit Go.Lib in
theorem Tryz.strings_Repeat (s : ByteArray) (c : Nat) (w : World) (hc : c ≤ 9223372036854775807) (hlen : s.size * c ≤ 140737488355328) :
    Calls Tryz.prog 91 #[.string s, .int .i64 c] w fun e w' => e = .returned (.string ⟨(Lib.repeatL s.data.toList c).toArray⟩) ∧ Below w.heap.size w w' := Any.strings_Repeat Tryz.lays105 Tryz.Builder_Extra_105 s c w hc hlen
end Go.Proofs
end
section
namespace Go.Proofs.YteigbokklclmbaaGreatDoor.Z
open Go Go.RowKit Go.Sort Go.Proofs.YteigbokklclmbaaGreatDoor.Given Go.Proofs.YteigbokklclmbaaGreatDoorW.PrintWords Go.Proofs.YteigbokklclmbaaGreatDoorW.PrintLast Go.Proofs.YteigbokklclmbaaGreatDoorW.PrintMore
abbrev Table (w : World) : Prop := Lib.TabIs Tryz.prog w "internal/strconv.uint64pow10" .u64 Lib.pow10Tab
theorem tabAt {B : Nat} {w w' : World} (h : Lib.TabBelow Tryz.prog B w "internal/strconv.uint64pow10" .u64 Lib.pow10Tab) (hb : Below B w w') : Table w' := h w' hb
theorem iFormatUint_c (u : Nat) (hu64 : u < 18446744073709551616) (w : World) (ht : Table w) :
    Calls Tryz.prog 152 #[.int .u64 u, .int .i64 10] w fun e w' => e = .returned (.string ⟨(Lib.decDigits u).toArray⟩) ∧ Below w.heap.size w w' := by
  by_cases hs : u < 100
  · go_enter Tryz.func152, Tryz.ntmps152
    go_wp2_with fail
    refine (Tryz.internal_strconv_small u hs _).mono ?_
    rintro e w' ⟨rfl, rfl⟩
    go_wp2
    go_ret
    exact ⟨rfl, Below.refl _ _⟩
  · have hu1 : 1 ≤ u := by omega
    have hnd20 : Lib.nDigits u ≤ 20 := by have := Lib.numDigits_eq u hu1 hu64; split at this <;> omega
    have hal : Tryz.prog.arrayLen 176 = 24 := by simp [Program.arrayLen, Tryz.underlying176]
    have hsl : ∀ W, (Instr.sliceAt 176 (.pointer (some ⟨w.heap.size, 0, none⟩)) none (some (.int .i64 (Lib.nDigits u : Int))) none).run Tryz.prog W = .ok (.slice (some ⟨w.heap.size, 0, none⟩) (Lib.nDigits u) 24) W := fun W => by
      rw [run_sliceAt_array_h W 176 ⟨w.heap.size, 0, none⟩ (by simp [Program.arrayLen, Program.elem, Tryz.underlying176]) .i64 (Lib.nDigits u : Int) (by omega) (by rw [hal]; omega)]
      rw [hal]
      go_simp
      try omega
    have hH0 := Lib.holds_zero0 w 176 (Lib.nDigits u) (by omega)
    have hfmt := Tryz.internal_strconv_formatBase10 w.heap.size 0 24 u (Array.replicate (Lib.nDigits u) 0) (w.alloc (.cells Lib.zeros24 176)) hH0 (by rw [Array.size_replicate]; exact Lib.lt_pow_nDigits u) hu64 (by rw [Array.size_replicate]; omega)
    rw [Array.size_replicate] at hfmt
    have HH0 := Lib.hid hH0
    have HND := Lib.hid (Tryz.internal_strconv_numDigits u hu1 hu64 (w.alloc (.cells Lib.zeros24 176)) (Lib.tabIs_alloc ht _))
    have HF := Lib.hid hfmt
    clear hH0 hal hfmt ht
    go_enter Tryz.func152, Tryz.ntmps152
    go_wp2_with fail
    refine HND.out.mono ?_
    rintro e w' ⟨rfl, rfl⟩
    go_wp2_with fail
    refine HF.out.mono ?_
    rintro e w' ⟨rfl, k, v', dk, rfl, hF⟩
    have hcv : (convert 141 9 (.slice (some ⟨w.heap.size, 0, none⟩) (Lib.nDigits u) 24)).run Tryz.prog ((putRow (fun (b : UInt8) => Value.int .u8 (b.toNat : Int)) (w.alloc (.cells Lib.zeros24 176)) w.heap.size 0 dk).drewN k) = .ok (.string ⟨(Lib.decDigits u).toArray⟩) ((putRow (fun (b : UInt8) => Value.int .u8 (b.toNat : Int)) (w.alloc (.cells Lib.zeros24 176)) w.heap.size 0 dk).drewN k) := by
      have h := run_convert_bytes_back (P := Tryz.prog) ((putRow (fun (b : UInt8) => Value.int .u8 (b.toNat : Int)) (w.alloc (.cells Lib.zeros24 176)) w.heap.size 0 dk).drewN k) 141 9 5 ⟨w.heap.size, 0, none⟩ 24 (Lib.decDigits u) Tryz.underlying141 Tryz.underlying5 Tryz.underlying9 (fun j hj => by
        rw [Lib.row_is_numeral hF j hj, Lib.add_plain, World.cell?_drewN]
        exact cell?_putRow (fun (b : UInt8) => Value.int .u8 (b.toNat : Int)) _ w.heap.size 0 _ dk HH0.out (by rw [hF.size, Array.size_replicate]) j (by rw [hF.size]; rw [Lib.decDigits_length] at hj; exact hj))
      rw [Lib.decDigits_length] at h
      exact h
    go_wp2
    go_ret
    obtain ⟨os, eo⟩ := Lib.fin_at w (.cells Lib.zeros24 176) dk k 0
    exact ⟨rfl, by rw [eo]; exact Lib.below_grow w.heap.size w (Nat.le_refl _) k os⟩
theorem FormatUint_c (u : Nat) (hu64 : u < 18446744073709551616) (w : World) (ht : Table w) :
    Calls Tryz.prog 128 #[.int .u64 u, .int .i64 10] w fun e w' => e = .returned (.string ⟨(Lib.decDigits u).toArray⟩) ∧ Below w.heap.size w w' := by
  have H := Lib.hid (iFormatUint_c u hu64 w ht)
  clear ht
  go_enter Tryz.func128, Tryz.ntmps128
  go_wp2_with fail
  refine H.out.mono ?_
  rintro e w' ⟨rfl, hb⟩
  go_wp2
  go_ret
  exact ⟨rfl, hb⟩
def strconv_FormatUint.f (a0 a1 : Int) : Option ByteArray := if 0 ≤ a0 ∧ a0 < 18446744073709551616 ∧ a1 = 10 then some ⟨(Lib.decDigits a0.toNat).toArray⟩ else none
theorem strconv_FormatUint.calls (a0 a1 : Int) (r : ByteArray) (w : World) (h : strconv_FormatUint.f a0 a1 = some r) (ht : Table w) :
    Calls Tryz.prog 128 #[.int .u64 a0, .int .i64 a1] w fun e w' => e = .returned (.string r) ∧ Below w.heap.size w w' := by
  unfold strconv_FormatUint.f at h
  by_cases hc : 0 ≤ a0 ∧ a0 < 18446744073709551616 ∧ a1 = 10
  · rw [if_pos hc] at h
    obtain ⟨h0, h1, rfl⟩ := hc
    obtain ⟨u, rfl⟩ : ∃ u : Nat, a0 = u := ⟨a0.toNat, by omega⟩
    cases h
    exact FormatUint_c u (by omega) w ht
  · rw [if_neg hc] at h; cases h
def strconv_Itoa.f (a0 : Int) : Option ByteArray := if -9223372036854775808 ≤ a0 ∧ a0 ≤ 9223372036854775807 then some ⟨(Lib.itoa a0).toArray⟩ else none
theorem strconv_Itoa.calls (a0 : Int) (r : ByteArray) (w : World) (h : strconv_Itoa.f a0 = some r) (ht : Table w) :
    Calls Tryz.prog 90 #[.int .i64 a0] w fun e w' => e = .returned (.string r) ∧ Below w.heap.size w w' := by
  unfold strconv_Itoa.f at h
  by_cases hc : -9223372036854775808 ≤ a0 ∧ a0 ≤ 9223372036854775807
  · rw [if_pos hc] at h
    cases h
    refine (Tryz.strconv_Itoa a0 hc.1 hc.2 w ht).mono ?_
    rintro e w1 ⟨rfl, k, os, rfl⟩
    exact ⟨rfl, Lib.below_grow w.heap.size w (Nat.le_refl _) k os⟩
  · rw [if_neg hc] at h; cases h
def strings_TrimRight.f (a0 a1 : ByteArray) : Option ByteArray := if a0.size ≤ 9223372036854775807 ∧ a1 = ⟨#[48]⟩ then some ⟨(Lib.trimRightB a0.data.toList 48).toArray⟩ else none
theorem strings_TrimRight.calls (a0 a1 : ByteArray) (r : ByteArray) (w : World) (h : strings_TrimRight.f a0 a1 = some r) :
    Calls Tryz.prog 129 #[.string a0, .string a1] w fun e w' => e = .returned (.string r) ∧ Below w.heap.size w w' := by
  unfold strings_TrimRight.f at h
  by_cases hc : a0.size ≤ 9223372036854775807 ∧ a1 = ⟨#[48]⟩
  · rw [if_pos hc] at h
    obtain ⟨h0, rfl⟩ := hc
    cases h
    refine (Tryz.strings_TrimRight_one a0 48 (by decide) w h0).mono ?_
    rintro e w1 ⟨rfl, rfl⟩
    exact ⟨rfl, Below.refl _ _⟩
  · rw [if_neg hc] at h; cases h
def strings_Repeat.f (a0 : ByteArray) (a1 : Int) : Option ByteArray := if 0 ≤ a1 ∧ a1 ≤ 9223372036854775807 ∧ (a0.size : Int) * a1 ≤ 140737488355328 then some ⟨(Lib.repeatL a0.data.toList a1.toNat).toArray⟩ else none
theorem strings_Repeat.calls (a0 : ByteArray) (a1 : Int) (r : ByteArray) (w : World) (h : strings_Repeat.f a0 a1 = some r) :
    Calls Tryz.prog 91 #[.string a0, .int .i64 a1] w fun e w' => e = .returned (.string r) ∧ Below w.heap.size w w' := by
  unfold strings_Repeat.f at h
  by_cases hc : 0 ≤ a1 ∧ a1 ≤ 9223372036854775807 ∧ (a0.size : Int) * a1 ≤ 140737488355328
  · rw [if_pos hc] at h
    obtain ⟨h0, h1, h2⟩ := hc
    obtain ⟨c, rfl⟩ : ∃ c : Nat, a1 = c := ⟨a1.toNat, by omega⟩
    cases h
    exact Tryz.strings_Repeat a0 c w (by omega) (Int.ofNat_le.mp (by rw [Int.natCast_mul]; exact h2))
  · rw [if_neg hc] at h; cases h
end Go.Proofs.YteigbokklclmbaaGreatDoor.Z
end
section
namespace Go.Proofs.YteigbokklclmbaaGreatDoor.Z
open Go.RowKit Go.Proofs.YteigbokklclmbaaGreatDoor.Given Go.Proofs.YteigbokklclmbaaGreatDoorW.PrintWords Go.Proofs.YteigbokklclmbaaGreatDoorW.PrintLast Go.Proofs.YteigbokklclmbaaGreatDoorW.PrintMore
attribute [local go_sem] max2_int min2_int max_two min_two max_three min_three max_four min_four

def real_scaled.j0 : Nat → Int → List Int → List Int → Option (List Int × List Int)
 | 0, _, _, _ => none
 | k + 1, x2, x8, x9 => if x2 ≥ 0 then ((real_pow10.f k x2).bind fun t366 => ((real_nat_mul.f k x8 t366).bind fun t369 => (some (t369, x9)))) else ((real_pow10.f k (wrap64 (-x2))).bind fun t372 => ((real_nat_mul.f k x9 t372).bind fun t375 => (some (x8, t375))))
def real_scaled.f (k : Nat) (l0 : List Int) (a1 : Int) (a2 : Int) : Option (List Int × List Int) := (some (([1] : List Int) : List Int)).bind fun y357 => (if a1 ≥ 0 then ((real_nat_shl.f k l0 a1).bind fun t360 => (real_scaled.j0 k a2 t360 y357)) else ((real_nat_shl.f k y357 (wrap64 (-a1))).bind fun t363 => (real_scaled.j0 k a2 l0 t363)))
theorem real_scaled.mono_l : ∀ k, (∀ y0 y1 y2, LeO (real_scaled.j0 k y0 y1 y2) (real_scaled.j0 (k + 1) y0 y1 y2))
 | 0 => fun _ _ _ r h => by simp [real_scaled.j0] at h
 | k + 1 => by
  have ih0 := real_scaled.mono_l k
  ·intro y0 y1 y2
   unfold real_scaled.j0
   repeat' first
   | (with_reducible exact ih0 _ _ _)
   | (with_reducible exact real_nat_mul.mono _ _ _)
   | (with_reducible exact real_nat_shl.mono _ _ _)
   | (with_reducible exact real_pow10.mono _ _)
   | (with_reducible exact LeO.refl _)
   | (with_reducible exact LeO.none _)
   | (with_reducible refine LeO.ite ?_ ?_)
   | (with_reducible refine LeO.bind ?_ (fun _ => ?_))
   | exact ih0 _ _ _
   | exact real_nat_mul.mono _ _ _
   | exact real_nat_shl.mono _ _ _
   | exact real_pow10.mono _ _
   | exact LeO.none _
   | refine LeO.ite ?_ ?_
   | refine LeO.bind ?_ (fun _ => ?_)
theorem real_scaled.mono : ∀ a0 a1 a2 k, LeO (real_scaled.f k a0 a1 a2) (real_scaled.f (k + 1) a0 a1 a2) := by
 intro a0 a1 a2 k
 have ih0 := real_scaled.mono_l k
 unfold real_scaled.f
 repeat' first
   | (with_reducible exact ih0 _ _ _)
   | (with_reducible exact real_nat_mul.mono _ _ _)
   | (with_reducible exact real_nat_shl.mono _ _ _)
   | (with_reducible exact real_pow10.mono _ _)
   | (with_reducible exact LeO.refl _)
   | (with_reducible exact LeO.none _)
   | (with_reducible refine LeO.ite ?_ ?_)
   | (with_reducible refine LeO.bind ?_ (fun _ => ?_))
   | exact ih0 _ _ _
   | exact real_nat_mul.mono _ _ _
   | exact real_nat_shl.mono _ _ _
   | exact real_pow10.mono _ _
   | exact LeO.none _
   | refine LeO.ite ?_ ?_
   | refine LeO.bind ?_ (fun _ => ?_)
theorem real_scaled.calls (k : Nat) (P0_ : Nat → Prop) (A0 : Option Addr) (c0 : Nat) (l0 : List Int) (a1 : Int) (a2 : Int) (r1 : List Int) (r2 : List Int) (w : World) (hs0 : Kd.V (Kd.int .u32) 115 w w.heap.size (fun k_ => P0_ k_) (.slice A0 l0.length c0) l0) (h : real_scaled.f k l0 a1 a2 = some (r1, r2)) :
  Calls Tryz.prog 122 #[.slice A0 l0.length c0, .int .i64 a1, .int .i64 a2] w fun e w' => ∃ v0_ v1_ : Value, e = .returned (.tuple #[v0_, v1_]) ∧ Kd.V (Kd.int .u32) 115 w' w.heap.size (fun k_ => (P0_ k_ ∨ w.heap.size ≤ k_)) v0_ r1 ∧ Kd.V (Kd.int .u32) 115 w' w.heap.size (fun k_ => (P0_ k_ ∨ w.heap.size ≤ k_)) v1_ r2 ∧ Below w.heap.size w w' := by
 have HO0 := Aside0.mk (show Kd.V (Kd.int .u32) 115 w w.heap.size (fun k_ => (P0_ k_ ∨ w.heap.size ≤ k_)) (.slice A0 l0.length c0) l0 from Kd.V_mono hs0 (fun k_ hk => .inl hk))
 have HB := Aside0.mk (Below.refl w.heap.size w)
 have H := h; unfold real_scaled.f at H; clear h
 obtain ⟨y357, hy357⟩ : ∃ y_ : List Int, y_ = (([1] : List Int)) := ⟨_, rfl⟩
 replace H : (if a1 ≥ 0 then ((real_nat_shl.f k l0 a1).bind fun t360 => (real_scaled.j0 k a2 t360 y357)) else ((real_nat_shl.f k y357 (wrap64 (-a1))).bind fun t363 => (real_scaled.j0 k a2 l0 t363))) = some (r1, r2) := by first | (rw [hy357]; with_reducible exact H) | (have H2_ := (Option.bind_some _ _).symm.trans H; rw [hy357]; with_reducible exact H2_) | (have H2_ := (Option.bind_some _ _).symm.trans H; with_reducible exact H2_) | with_reducible exact H | (rw [hy357]; exact H) | exact H
 have Ny357 := Aside0.mk hy357
 clear hy357
 have HC4 := Aside0.mk H
 clear H
 go_enter Tryz.func122, Tryz.ntmps122
 go_upto_if 13 with (first | ((with_reducible refine gate_dst (N := 11) rfl ?_); refine Kd.R_lit (Kd.int .u32) _ 115 ?hg (N := 11) ?hd (xs := ([1] : List Int)) (inner := [.int .u32 1]) (ok := fun _ => True) (okp := fun _ => True) ?hr ?hp (fun _ hk => hk) trivial (Below.refl _ _) (Nat.le_refl _) (by simp) ?_; (case hd => rfl); (case hg => rfl); (case hr => first | (go_simp; done) | (go_simp; rfl)); (case hp => exact (Reps.one (show Kd.M (Kd.int .u32) _ _ _ 1 [.int .u32 1] from rfl) (Reps.none _ _))); intro v358 w5 ho6 hb hg_ hnew_; clear hg_ hnew_; (first | rw [← Ny357.out] at ho6 | (simp only [Int.reduceToNat] at ho6; rw [← Ny357.out] at ho6)); have HO359 := Aside0.mk (Kd.R_lower (Kd.R_newM (M := fun k_ => (w.heap.size ≤ k_)) ho6 (below_size bz) (fun k_ h_ => h_)) (below_size bz)); replace HO0 := Aside0.mk (Kd.V_elder' (vz HO0) (Kd.R_base ho6) hb); replace HB := bs hb; clear hb ho6))
 (try simp only [Act.put, List.setIfInBounds_toArray, List.set_cons_zero, List.set_cons_succ])
 go_cut [8, 9] (fun v8 v9 wc => ∃ (kq : Nat) (x8_3 : List Int) (x9_3 : List Int), Aside0 (real_scaled.j0 kq a2 x8_3 x9_3 = some (r1, r2)) ∧ Aside0 (kq ≤ k) ∧ Aside0 (Kd.V (Kd.int .u32) 115 wc w.heap.size (fun k_ => (P0_ k_ ∨ w.heap.size ≤ k_)) v8 x8_3) ∧ Aside0 (Kd.V (Kd.int .u32) 115 wc w.heap.size (fun k_ => (P0_ k_ ∨ w.heap.size ≤ k_)) v9 x9_3) ∧ Aside0 (Below w.heap.size w wc))
 case first => as_aux_lemma =>
  have H := HC4.out
  clear HC4
  by_cases c7 : a1 ≥ 0
  ·rw [if_pos c7] at H
   have c7b0 : decide (0 ≤ a1) = true := decide_eq_true c7
   clear c7
   (first | rw [c7b0] | (simp only [i64_w, i32_w]; rw [c7b0]) | skip)
   replace H := Option.bind_eq_some_iff.mp H
   obtain ⟨t360, A80, H⟩ := H
   try dsimp only at H
   have A8 := Aside0.mk A80
   clear A80
   have H' := Aside0.mk H
   clear H
   go_wp2_with (first | ((with_reducible refine gate_callee (f := 126) rfl ?_); refine gL 16 Tryz.func126 #[.slice A0 l0.length c0, .int .i64 a1] ?_; (with_reducible refine (real_nat_shl.calls k _ _ l0 a1 t360 _ ?side1 ?side2 A8.out).mono ?_); (case side1 => exact ccz (Kd.V_reads' HO0.out).2.2); (case side2 => exact (Kd.V_reads' HO0.out).2.1); rintro e w9 ⟨v361, rfl, ho0, hb⟩; refine ⟨_, rfl, ?_⟩; have HO362 := Aside0.mk (Kd.V_lower (Kd.V_mono (ok' := fun k_ => (P0_ k_ ∨ w.heap.size ≤ k_) ∧ some k_ ≠ (v358 : Value).ownBlock) ho0 (fun k_ hk_ => ⟨(.inr (Nat.le_trans (below_size bz) hk_)), (Kd.fresh' (Kd.R_lt (rz HO359)) k_ hk_)⟩)) (below_size bz)); replace HO0 := vb HO0 hb; replace HO359 := rb HO359 hb; replace HB := bs hb; (try clear hb); (try clear hk); (try clear ho0)))
   go_meet
   case rel => exact ⟨_, (t360), (y357), H', ⟨by first | omega | exact Nat.le_refl _⟩, ⟨by (with_reducible repeat (first | apply Kd.V_alloc | apply Kd.V_drewN | apply Kd.V_drew)); exact Kd.V_mono HO362.out (fun _ hk => hk.1)⟩, ⟨Kd.V_mono (Kd.R_V (by (with_reducible repeat (first | apply Kd.R_alloc | apply Kd.R_drewN | apply Kd.R_drew)); exact Kd.R_mono HO359.out (fun _ hk => hk.1))) (fun k_ hk => by first | exact ⟨(.inr (hk.1)), hk.2⟩ | exact (.inr (hk)))⟩, ⟨bz⟩⟩
  ·rw [if_neg c7] at H
   have c7b0 : decide (0 ≤ a1) = false := decide_eq_false c7
   clear c7
   (first | rw [c7b0] | (simp only [i64_w, i32_w]; rw [c7b0]) | skip)
   replace H := Option.bind_eq_some_iff.mp H
   obtain ⟨t363, A100, H⟩ := H
   try dsimp only at H
   have A10 := Aside0.mk A100
   clear A100
   have H' := Aside0.mk H
   clear H
   obtain ⟨Ao11, co11, eo11⟩ := Kd.R_slice HO359.out
   subst eo11
   go_wp2_with (first | ((with_reducible refine gate_callee (f := 126) rfl ?_); refine gL 20 Tryz.func126 #[.slice Ao11 y357.length co11, .int .i64 (wrap64 (-a1))] ?_; (with_reducible refine (real_nat_shl.calls k _ _ y357 (wrap64 (-a1)) t363 _ ?side1 ?side2 A10.out).mono ?_); (case side1 => exact ccz (Kd.R_reads' HO359.out).2.2); (case side2 => exact (Kd.R_reads' HO359.out).2.1); rintro e w12 ⟨v364, rfl, ho0, hb⟩; refine ⟨_, rfl, ?_⟩; have HO365 := Aside0.mk (Kd.V_lower (Kd.V_mono (ok' := fun k_ => (P0_ k_ ∨ w.heap.size ≤ k_) ∧ some k_ ≠ (.slice Ao11 y357.length co11 : Value).ownBlock) ho0 (fun k_ hk_ => ⟨(.inr (Nat.le_trans (below_size bz) hk_)), (Kd.fresh' (Kd.R_lt (rz HO359)) k_ hk_)⟩)) (below_size bz)); replace HO0 := vb HO0 hb; replace HO359 := rb HO359 hb; replace HB := bs hb; (try clear hb); (try clear hk); (try clear ho0)))
   go_meet
   case rel => exact ⟨_, (l0), (t363), H', ⟨by first | omega | exact Nat.le_refl _⟩, ⟨by (with_reducible repeat (first | apply Kd.V_alloc | apply Kd.V_drewN | apply Kd.V_drew)); exact Kd.V_mono HO0.out (fun _ hk => hk.1)⟩, ⟨by (with_reducible repeat (first | apply Kd.V_alloc | apply Kd.V_drewN | apply Kd.V_drew)); exact Kd.V_mono HO365.out (fun _ hk => hk.1)⟩, ⟨bz⟩⟩
 case rest => as_aux_lemma =>
  clear HC4
  try clear c7
  try clear c7b0
  obtain ⟨kq, x8_3, x9_3, HA, HJ3, HO_8, HO_9, HB⟩ := hcut
  cases kq with
  | zero => exact absurd HA.out (by simp [real_scaled.j0])
  | succ kj3 =>
   have H := HA.out
   clear HA
   simp only [real_scaled.j0] at H
   by_cases c13 : a2 ≥ 0
   ·rw [if_pos c13] at H
    have c13b0 : decide (0 ≤ a2) = true := decide_eq_true c13
    clear c13
    replace H := Option.bind_eq_some_iff.mp H
    obtain ⟨t366, A140, H⟩ := H
    try dsimp only at H
    have A14 := Aside0.mk A140
    clear A140
    replace H := Option.bind_eq_some_iff.mp H
    obtain ⟨t369, A150, H⟩ := H
    try dsimp only at H
    have A15 := Aside0.mk A150
    clear A150
    simp only [Option.some.injEq, Prod.mk.injEq] at H
    obtain ⟨rfl, rfl⟩ := H
    go_wp2_with (first | ((with_reducible refine gate_callee (f := 119) rfl ?_); refine gL 25 Tryz.func119 #[.int .i64 a2] ?_; (with_reducible refine (real_pow10.calls kj3 a2 t366 _ A14.out).mono ?_); rintro e w16 ⟨v367, rfl, ho0, hb⟩; refine ⟨_, rfl, ?_⟩; have HO368 := Aside0.mk (Kd.V_lower (Kd.V_mono (ok' := fun k_ => (P0_ k_ ∨ w.heap.size ≤ k_)) ho0 (fun k_ hk_ => (.inr (Nat.le_trans (below_size bz) hk_)))) (below_size bz)); replace HO_8 := vb HO_8 hb; replace HO_9 := vb HO_9 hb; replace HB := bs hb; (try clear hb); (try clear hk); (try clear ho0); obtain ⟨Ao17, co17, eo17⟩ := Kd.V_slice HO_8.out; subst eo17; obtain ⟨Ao18, co18, eo18⟩ := Kd.V_slice HO368.out; subst eo18) | ((with_reducible refine gate_callee (f := 116) rfl ?_); refine gL 26 Tryz.func116 #[.slice Ao17 x8_3.length co17, .slice Ao18 t366.length co18] ?_; (with_reducible refine (real_nat_mul.calls kj3 _ _ x8_3 _ _ t366 t369 _ ?side1 ?side2 ?side3 ?side4 A15.out).mono ?_); (case side1 => exact ccz (Kd.V_reads' HO_8.out).2.2); (case side2 => exact (Kd.V_reads' HO_8.out).2.1); (case side3 => exact ccz (Kd.V_reads' HO368.out).2.2); (case side4 => exact (Kd.V_reads' HO368.out).2.1); rintro e w19 ⟨v370, rfl, ho0, hb⟩; refine ⟨_, rfl, ?_⟩; have HO371 := Aside0.mk (Kd.V_lower (Kd.V_mono (ok' := fun k_ => (P0_ k_ ∨ w.heap.size ≤ k_)) ho0 (fun k_ hk_ => (.inr (Nat.le_trans (below_size bz) hk_)))) (below_size bz)); replace HO_8 := vb HO_8 hb; replace HO_9 := vb HO_9 hb; replace HO368 := vb HO368 hb; replace HB := bs hb; (try clear hb); (try clear hk); (try clear ho0)))
    go_ret2
    exact ⟨_, _, by first | rfl | (simp [errW_none, errW_some] <;> rfl) | (simp [*, errW_none, errW_some] <;> rfl), by (with_reducible repeat (first | apply Kd.V_alloc | apply Kd.V_drewN | apply Kd.V_drew)); exact HO371.out, by (with_reducible repeat (first | apply Kd.V_alloc | apply Kd.V_drewN | apply Kd.V_drew)); exact HO_9.out, bz⟩
   ·rw [if_neg c13] at H
    have c13b0 : decide (0 ≤ a2) = false := decide_eq_false c13
    clear c13
    replace H := Option.bind_eq_some_iff.mp H
    obtain ⟨t372, A200, H⟩ := H
    try dsimp only at H
    have A20 := Aside0.mk A200
    clear A200
    replace H := Option.bind_eq_some_iff.mp H
    obtain ⟨t375, A210, H⟩ := H
    try dsimp only at H
    have A21 := Aside0.mk A210
    clear A210
    simp only [Option.some.injEq, Prod.mk.injEq] at H
    obtain ⟨rfl, rfl⟩ := H
    go_wp2_with (first | ((with_reducible refine gate_callee (f := 119) rfl ?_); refine gL 30 Tryz.func119 #[.int .i64 (wrap64 (-a2))] ?_; (with_reducible refine (real_pow10.calls kj3 (wrap64 (-a2)) t372 _ A20.out).mono ?_); rintro e w22 ⟨v373, rfl, ho0, hb⟩; refine ⟨_, rfl, ?_⟩; have HO374 := Aside0.mk (Kd.V_lower (Kd.V_mono (ok' := fun k_ => (P0_ k_ ∨ w.heap.size ≤ k_)) ho0 (fun k_ hk_ => (.inr (Nat.le_trans (below_size bz) hk_)))) (below_size bz)); replace HO_8 := vb HO_8 hb; replace HO_9 := vb HO_9 hb; replace HB := bs hb; (try clear hb); (try clear hk); (try clear ho0); obtain ⟨Ao23, co23, eo23⟩ := Kd.V_slice HO_9.out; subst eo23; obtain ⟨Ao24, co24, eo24⟩ := Kd.V_slice HO374.out; subst eo24) | ((with_reducible refine gate_callee (f := 116) rfl ?_); refine gL 31 Tryz.func116 #[.slice Ao23 x9_3.length co23, .slice Ao24 t372.length co24] ?_; (with_reducible refine (real_nat_mul.calls kj3 _ _ x9_3 _ _ t372 t375 _ ?side1 ?side2 ?side3 ?side4 A21.out).mono ?_); (case side1 => exact ccz (Kd.V_reads' HO_9.out).2.2); (case side2 => exact (Kd.V_reads' HO_9.out).2.1); (case side3 => exact ccz (Kd.V_reads' HO374.out).2.2); (case side4 => exact (Kd.V_reads' HO374.out).2.1); rintro e w25 ⟨v376, rfl, ho0, hb⟩; refine ⟨_, rfl, ?_⟩; have HO377 := Aside0.mk (Kd.V_lower (Kd.V_mono (ok' := fun k_ => (P0_ k_ ∨ w.heap.size ≤ k_)) ho0 (fun k_ hk_ => (.inr (Nat.le_trans (below_size bz) hk_)))) (below_size bz)); replace HO_8 := vb HO_8 hb; replace HO_9 := vb HO_9 hb; replace HO374 := vb HO374 hb; replace HB := bs hb; (try clear hb); (try clear hk); (try clear ho0)))
    go_ret2
    exact ⟨_, _, by first | rfl | (simp [errW_none, errW_some] <;> rfl) | (simp [*, errW_none, errW_some] <;> rfl), by (with_reducible repeat (first | apply Kd.V_alloc | apply Kd.V_drewN | apply Kd.V_drew)); exact HO_8.out, by (with_reducible repeat (first | apply Kd.V_alloc | apply Kd.V_drewN | apply Kd.V_drew)); exact HO377.out, bz⟩

end Go.Proofs.YteigbokklclmbaaGreatDoor.Z
end
section
namespace Go.Proofs.YteigbokklclmbaaGreatDoor.Z
open Go Go.RowKit Go.Shelf Go.Proofs.YteigbokklclmbaaGreatDoor.Given Go.Proofs.YteigbokklclmbaaGreatDoorW.PrintWords Go.Proofs.YteigbokklclmbaaGreatDoorW.PrintLast Go.Proofs.YteigbokklclmbaaGreatDoorW.PrintMore
attribute [local go_sem] Oper.semAt_some
/-- The digits from a place on. -/
def digsFrom (s : ByteArray) : Nat → Nat → List Int
  | 0, _ => []
  | f + 1, i => if 48 ≤ bt s (i : Int) then (if bt s (i : Int) ≤ 57 then (bt s (i : Int) - 48) :: digsFrom s f (i + 1) else []) else []
def digs (s : ByteArray) : List Int := digsFrom s s.size 0
theorem digsFrom_len (s : ByteArray) : ∀ f i, (digsFrom s f i).length ≤ f
  | 0, _ => Nat.le_refl _
  | f + 1, i => by
    unfold digsFrom; split
    · split
      · have := digsFrom_len s f (i + 1); simp; exact this
      · simp
    · simp
theorem digs_len (s : ByteArray) : (digs s).length ≤ s.size := digsFrom_len s _ _
/-- The string's box lies as it lay. -/
def KB (Bn : Nat) (W W' : World) : Prop := W'.heap[Bn]? = W.heap[Bn]?
theorem digits1_in (n : Nat) (hn : 1 ≤ n) (l Bn : Nat) (s : ByteArray) (hs : s.size < 1000000000000) (J Jx : List Int → World → Prop)
    (hY : ∀ pre x W, J pre W → pre.length < s.size → YieldAt Fence.wide (n - 1) Tryz.prog l #[.int .i64 x] W fun e W' =>
      (e = .returned (.bool true) ∧ J (pre ++ [x]) W' ∧ KB Bn W W') ∨ (e = .returned (.bool false) ∧ Jx (pre ++ [x]) W'))
    (W : World) (hBn : W.cell? ⟨Bn, 0, none⟩ = some (.string s)) (h0 : J [] W) :
    CallsIn Fence.wide n Tryz.prog 147 #[.func (.yield l) #[] #[], .pointer (some ⟨Bn, 0, none⟩)] W fun e W' => (∃ v, e = .returned v) ∧
      ((∃ ys, ys = digs s ∧ J ys W') ∨ (∃ pre, pre <+: digs s ∧ Jx pre W')) := by
  refine callsIn_of_wp Tryz.func147 rfl trivial ?_ rfl
  simp only [Tryz.ntmps147, List.size_toArray, List.length_cons, List.length_nil, Nat.reduceAdd, Nat.reduceSub, Array.replicate_succ, Array.replicate_zero, List.push_toArray, List.append_toArray, List.nil_append, List.cons_append]
  have HS := Lib.hid hs
  have HY := Lib.hid hY
  clear hY hs
  gi_wp2
  gi_loopw [3] (fun p wr => ∃ (pre : List Int), p = .int .i64 (pre.length : Int) ∧ Hid (digs s = pre ++ digsFrom s (s.size - pre.length) pre.length ∧ pre.length ≤ s.size ∧ J pre wr ∧ wr.cell? ⟨Bn, 0, none⟩ = some (.string s)))
    (fun p wr => s.size - (intOf p).toNat)
  case atStart =>
    exact ⟨[], rfl, ⟨rfl, by simp, h0, hBn⟩⟩
  case round =>
    obtain ⟨pre, rfl, hx⟩ := hrel
    have hcell := hx.out.2.2.2
    have hsz := HS.out
    by_cases hlt : pre.length < s.size
    · have hbt : ((s[pre.length]'hlt).toNat : Int) = bt s (pre.length : Int) := bt_at s (pre.length : Int) hlt
      have hbr := bt_range s (pre.length : Int)
      have hstep : digsFrom s (s.size - pre.length) pre.length = if 48 ≤ bt s (pre.length : Int) then (if bt s (pre.length : Int) ≤ 57 then (bt s (pre.length : Int) - 48) :: digsFrom s (s.size - (pre.length + 1)) (pre.length + 1) else []) else [] := by
        rw [show s.size - pre.length = (s.size - (pre.length + 1)) + 1 by omega, digsFrom]
      have HST := Lib.hid hstep
      clear hstep
      obtain ⟨d, hd⟩ : ∃ d, bt s (pre.length : Int) = d := ⟨_, rfl⟩
      have HD := Lib.hid hd
      rw [hd] at hbt hbr
      clear hd
      have hw : wrap64 ((pre.length : Int) + 1) = ((pre.length + 1 : Nat) : Int) := by rw [w64 _ (by omega) (by omega)]; omega
      by_cases h48 : 48 ≤ d
      · by_cases h57 : d ≤ 57
        · have hsub : IntKind.u8.wrap (d - 48) = d - 48 := by simp [IntKind.wrap, IntKind.bits, IntKind.signed]; omega
          obtain ⟨fn, tmps, assign, body, hy, hR⟩ := HY.out pre (d - 48) wr hx.out.2.2.1 hlt
          have hcons : digs s = (pre ++ [d - 48]) ++ digsFrom s (s.size - (pre ++ [d - 48]).length) (pre ++ [d - 48]).length := by
            rw [hx.out.1, HST.out, HD.out, if_pos h48, if_pos h57]; simp
          have HC := Lib.hid hcons
          clear hcons
          gi_wp2
          refine hR.mono ?_
          rintro e W3 (⟨rfl, hJ3, hk3⟩ | ⟨rfl, hJx3⟩)
          · have hcell3 : W3.cell? ⟨Bn, 0, none⟩ = some (.string s) := (World.cell?_of_block (a := ⟨Bn, 0, none⟩) (show W3.heap[Bn]? = wr.heap[Bn]? from hk3)).trans hcell
            gi_wp2
            go_roundw
            case rel => exact ⟨pre ++ [d - 48], by simp, ⟨HC.out, by simp; omega, hJ3, hcell3⟩⟩
            case measure => simp [intOf]; omega
          · gi_wp2
            refine bodyPost_ret (results_none rfl _ _ _) rfl ?_
            refine ⟨⟨_, rfl⟩, .inr ⟨pre ++ [d - 48], ?_, hJx3⟩⟩
            rw [HC.out]
            exact List.prefix_append _ _
        · have hall : digs s = pre := by rw [hx.out.1, HST.out, HD.out, if_pos h48, if_neg h57, List.append_nil]
          gi_wp2
          go_end0
          refine ⟨⟨_, rfl⟩, .inl ?_⟩
          first | exact ⟨pre, hall.symm, hx.out.2.2.1⟩ | exact hx.out.2.2.1 | (rw [hall]; exact hx.out.2.2.1)
      · have hall : digs s = pre := by rw [hx.out.1, HST.out, HD.out, if_neg h48, List.append_nil]
        gi_wp2
        go_end0
        refine ⟨⟨_, rfl⟩, .inl ?_⟩
        first | exact ⟨pre, hall.symm, hx.out.2.2.1⟩ | exact hx.out.2.2.1 | (rw [hall]; exact hx.out.2.2.1)
    · have hall : digs s = pre := by rw [hx.out.1, show s.size - pre.length = 0 by omega, digsFrom, List.append_nil]
      gi_wp2
      go_end0
      refine ⟨⟨_, rfl⟩, .inl ?_⟩
      first | exact ⟨pre, hall.symm, hx.out.2.2.1⟩ | exact hx.out.2.2.1 | (rw [hall]; exact hx.out.2.2.1)
/-- digits hands back the iterator; the string lies in a box of its own. -/
theorem digits_c (s : ByteArray) (w : World) : Calls Tryz.prog 115 #[.string s] w fun e w' => e = .returned (.func (.func 147) #[] #[.pointer (some ⟨w.heap.size, 0, none⟩)]) ∧ w' = w.alloc (.cells #[.string s] 9) := by
  have hmf : ∀ (fn : Fn) (first cap : Array Value) (w : World), (Instr.makeFunc fn first cap).run Tryz.prog w = .ok (.func fn first cap) w := fun _ _ _ _ => rfl
  go_enter Tryz.func115, Tryz.ntmps115
  go_wp2
  go_ret
  exact ⟨rfl, rfl⟩
theorem digits_stops (n : Nat) (hn : 1 ≤ n) (Bn : Nat) (s : ByteArray) (hs : s.size < 1000000000000) (w : World) (hBn : Bn < w.heap.size) (hb : w.cell? ⟨Bn, 0, none⟩ = some (.string s)) :
    SeqStopsK Fence.wide n Tryz.prog 147 #[.pointer (some ⟨Bn, 0, none⟩)] (fun x : Int => #[.int .i64 x]) (KB Bn) (fun xs => xs = digs s) (fun xs => xs <+: digs s) s.size w :=
  fun l J Jx W hW hJ hJx hY h0 => digits1_in n hn l Bn s hs J Jx hY W ((hW.cell (p := ⟨Bn, 0, none⟩) hBn).trans hb) h0
theorem KB_t {Bn : Nat} {A B C : World} (h : KB Bn A B) (k : KB Bn B C) : KB Bn A C := Eq.trans k h
theorem KB_b {Bn : Nat} {w : World} (hn : Bn < w.heap.size) (W : World) (l : Nat) (o o' : Obj) (hl : w.heap.size ≤ l) (h : W.heap[l]? = some o) (_ : o.isCells = false) (_ : o.isWalk = false) : KB Bn W (W.putObj l o') := World.putObj_heap_other (by omega)
end Go.Proofs.YteigbokklclmbaaGreatDoor.Z
end
section
namespace Go.Proofs.YteigbokklclmbaaGreatDoor.Z
open Go Go.RowKit Go.Proofs.YteigbokklclmbaaGreatDoor.Given Go.Proofs.YteigbokklclmbaaGreatDoorW.PrintWords Go.Proofs.YteigbokklclmbaaGreatDoorW.PrintLast Go.Proofs.YteigbokklclmbaaGreatDoorW.PrintMore
theorem catch_idle (p q : Addr) (w : World) :
    CallsD Tryz.prog 112 #[.pointer (some p), .pointer (some q)] .returning w fun e u' w' => e = .returned (.tuple #[]) ∧ u' = .returning ∧ w' = w := by
  refine callsD_of_wpS Tryz.func112 rfl fun c₀ cs hu => ?_
  apply wpS_seq
  apply wpS_region
  simp [wpOpsS, go_sem, recoverD, hu, Tryz.ntmps112, Exit.thenS]
  refine wpS_of_wp ?_
  change Code.wp _ _ _ { tmps := #[.pointer (some p), .pointer (some q), .nilIface, undef, undef, .nilIface, undef, undef, undef, undef, undef, undef, undef, undef, undef, undef, undef], defers := [] } _
  go_wp2
  cases c₀
  simp_all [bodyPostS, results, Tryz.results112]
theorem isOverflow (w : World) : Sem.run Tryz.prog (Instr.typeAssert (Value.iface 75 (Value.agg #[])) 20 75 true) w = .ok (.tuple #[.agg #[], .bool true]) w := by kernel_rfl
/-- What the deferred function does behind a panic: the result is laid. -/
def laidEnd (b c : Nat) (w : World) : World := (((w.setCell ⟨b, 0, none⟩ (.int .i64 0)).setCell ⟨b, 1, none⟩ (.int .i64 0)).setCell ⟨c, 0, none⟩ (.int .i64 3)).alloc (.cells #[] 75)
theorem catch_panicking (b c : Nat) (x0 x1 y0 : Value) (older : List PanicEntry) (w : World) (hb : w.heap[b]? = some (.cells #[x0, x1] 23 (0, 0))) (hc : w.heap[c]? = some (.cells #[y0] 24 (0, 0))) (hne : b ≠ c) :
    CallsD Tryz.prog 112 #[.pointer (some ⟨b, 0, none⟩), .pointer (some ⟨c, 0, none⟩)] (.panicking ({ v := .iface 75 (.agg #[]), recovered := false } :: older)) w fun e u' w' => e = .returned (.tuple #[]) ∧ u' = .panicking ({ v := .iface 75 (.agg #[]), recovered := true } :: older) ∧ w' = laidEnd b c w := by
  have h0 := blk_cell hb 0
  have h1 := blk_cell hb 1
  have h2 := blk_cell hc 0
  have g0 := blk_frozen hb 0
  have g1 := blk_frozen hb 1
  have g2 := blk_frozen hc 0
  have l0 := blk_lt hb
  have l1 := blk_lt hc
  simp at h0 h1 h2
  have hta := isOverflow
  clear hb hc
  refine callsD_of_wpS Tryz.func112 rfl fun c₀ cs hu => ?_
  apply wpS_seq
  apply wpS_region
  simp [wpOpsS, go_sem, recoverD, hu, Tryz.ntmps112, Exit.thenS]
  refine wpS_of_wp ?_
  change Code.wp _ _ _ { tmps := #[.pointer (some ⟨b, 0, none⟩), .pointer (some ⟨c, 0, none⟩), .iface 75 (.agg #[]), undef, undef, .iface 75 (.agg #[]), undef, undef, undef, undef, undef, undef, undef, undef, undef, undef, undef], defers := [] } _
  go_wp2
  exact ⟨rfl, _, rfl, .tuple #[], by simp [results, Tryz.results112], rfl, rfl, rfl⟩
theorem laid_cells {b c : Nat} {x0 x1 y0 : Value} {w : World} (hb : w.heap[b]? = some (.cells #[x0, x1] 23 (0, 0))) (hc : w.heap[c]? = some (.cells #[y0] 24 (0, 0))) (hne : b ≠ c) (u0 u1 v0 : Value) :
    (((w.setCell ⟨b, 0, none⟩ u0).setCell ⟨b, 1, none⟩ u1).setCell ⟨c, 0, none⟩ v0).heap[b]? = some (.cells #[u0, u1] 23 (0, 0)) ∧
    (((w.setCell ⟨b, 0, none⟩ u0).setCell ⟨b, 1, none⟩ u1).setCell ⟨c, 0, none⟩ v0).heap[c]? = some (.cells #[v0] 24 (0, 0)) := by
  refine ⟨?_, ?_⟩
  · rw [heap_setCell_other _ _ _ _ hne]
    have h1 := heap_setCell_same w b 0 _ _ u0 hb
    have h2 := heap_setCell_same (w.setCell ⟨b, 0, none⟩ u0) b 1 _ _ u1 h1
    exact h2
  · have h1 : ((w.setCell ⟨b, 0, none⟩ u0).setCell ⟨b, 1, none⟩ u1).heap[c]? = some (.cells #[y0] 24 (0, 0)) := by
      rw [heap_setCell_other _ _ _ _ (by exact fun e => hne e.symm), heap_setCell_other _ _ _ _ (by exact fun e => hne e.symm)]
      exact hc
    exact heap_setCell_same _ c 0 _ _ v0 h1
/-- How caught tells an end. -/
def caughtS (m x : Int) : Int × Int × Int := if x = 1000 then (0, 0, 3) else (m, x, 0)
theorem caught_c (g : FuncId) (caps : Array Value) (m x : Int) (w : World) (he : ∀ args (w : World), (callFunc g args).run Tryz.prog w = .ok (.enter g args) w)
    (hg : ∀ w1, Below w.heap.size w w1 → Calls Tryz.prog g caps w1 fun e w' => e = ending m x ∧ Below w1.heap.size w1 w') :
    Calls Tryz.prog 64 #[.func (.func g) #[] caps] w fun e w' => e = .returned (.tuple #[.agg #[.int .i64 (caughtS m x).1, .int .i64 (caughtS m x).2.1], .int .i64 (caughtS m x).2.2]) ∧ Below w.heap.size w w' := by
  have HG := Lib.hid hg
  have HE := Lib.hid he
  clear hg he
  have hmf : ∀ (fn : Fn) (first cap : Array Value) (w : World), (Instr.makeFunc fn first cap).run Tryz.prog w = .ok (.func fn first cap) w := fun _ _ _ _ => rfl
  by_cases hx : x = 1000
  · have e1 : ending m x = .panicked chain := by unfold ending; rw [if_pos hx]
    have e2 : caughtS m x = (0, 0, 3) := by unfold caughtS; rw [if_pos hx]
    rw [e2]
    go_enter_defers Tryz.func64, Tryz.ntmps64
    go_wp2_with fail
    rw [HE.out]
    go_wp2_with fail
    refine (HG.out _ (((Below.refl _ w).alloc (Nat.le_refl _) _).alloc (by simp) _)).mono ?_
    rintro e w3 ⟨rfl, hb⟩
    have hz : w3.heap[w.heap.size]? = some (.cells #[.int .i64 0, .int .i64 0] 23 (0, 0)) := blk_below (blk_alloc (blk_new _ _) _) hb
    have hy : w3.heap[w.heap.size + 1]? = some (.cells #[.int .i64 0] 24 (0, 0)) := by
      have h := blk_new (w.alloc (.cells #[.int .i64 0, .int .i64 0] 23)) (.cells #[.int .i64 0] 24)
      rw [World.size_alloc] at h
      exact blk_below h hb
    have hB : Below w.heap.size w w3 := (((Below.refl _ w).alloc (Nat.le_refl _) _).alloc (by simp) _).trans (hb.mono (by simp; omega))
    have hne : w.heap.size ≠ w.heap.size + 1 := by omega
    have HZ := Lib.hid hz
    have HY := Lib.hid hy
    clear hb
    rw [e1]
    clear hz hy
    refine leaves_cons (f := 112) (args := #[.pointer (some ⟨w.heap.size, 0, none⟩), .pointer (some ⟨w.heap.size + 1, 0, none⟩)]) (by simp) (by simp [go_sem]) ?_
    refine (catch_panicking w.heap.size (w.heap.size + 1) _ _ _ [] w3 HZ.out HY.out hne).mono ?_
    rintro e u' w'' ⟨rfl, rfl, rfl⟩
    obtain ⟨fz, fy⟩ := laid_cells HZ.out HY.out hne (.int .i64 0) (.int .i64 0) (.int .i64 3)
    have fz : (laidEnd w.heap.size (w.heap.size + 1) w3).heap[w.heap.size]? = _ := blk_alloc fz (.cells #[] 75)
    have fy : (laidEnd w.heap.size (w.heap.size + 1) w3).heap[w.heap.size + 1]? = _ := blk_alloc fy (.cells #[] 75)
    change ∃ v, (results Tryz.f64 _).run Tryz.prog (laidEnd w.heap.size (w.heap.size + 1) w3) = .ok v _ ∧ _
    refine ⟨_, ?_, rfl, (((hB.setCell (Nat.le_refl _) _).setCell (Nat.le_refl _) _).setCell (Nat.le_add_right _ 1) _).alloc (by simp [laidEnd]; exact Nat.le_of_lt (blk_lt HZ.out)) _⟩
    have h0 := blk_cell fz 0
    have h1 := blk_cell fz 1
    have h2 := blk_cell fy 0
    have l0 := blk_lt fz
    have l1 := blk_lt fy
    simp at h0 h1 h2
    simp [results, Tryz.results64, go_sem, h0, h1, h2]
  · have e1 : ending m x = .returned (.agg #[.int .i64 m, .int .i64 x]) := ending_at hx
    have e2 : caughtS m x = (m, x, 0) := by unfold caughtS; rw [if_neg hx]
    rw [e2]
    go_enter_defers Tryz.func64, Tryz.ntmps64
    go_wp2_with fail
    rw [HE.out]
    go_wp2_with fail
    refine (HG.out _ (((Below.refl _ w).alloc (Nat.le_refl _) _).alloc (by simp) _)).mono ?_
    rintro e w3 ⟨rfl, hb⟩
    have hz : w3.heap[w.heap.size]? = some (.cells #[.int .i64 0, .int .i64 0] 23 (0, 0)) := blk_below (blk_alloc (blk_new _ _) _) hb
    have hy : w3.heap[w.heap.size + 1]? = some (.cells #[.int .i64 0] 24 (0, 0)) := by
      have h := blk_new (w.alloc (.cells #[.int .i64 0, .int .i64 0] 23)) (.cells #[.int .i64 0] 24)
      rw [World.size_alloc] at h
      exact blk_below h hb
    have hB : Below w.heap.size w w3 := (((Below.refl _ w).alloc (Nat.le_refl _) _).alloc (by simp) _).trans (hb.mono (by simp; omega))
    have hne : w.heap.size ≠ w.heap.size + 1 := by omega
    have HZ := Lib.hid hz
    have HY := Lib.hid hy
    clear hb
    rw [e1]
    have h0 := blk_cell hz 0
    have h1 := blk_cell hz 1
    have h2 := blk_cell hy 0
    have g0 := blk_frozen hz 0
    have g1 := blk_frozen hz 1
    have g2 := blk_frozen hy 0
    have l0 := blk_lt hz
    have l1 := blk_lt hy
    simp at h0 h1 h2
    clear hz hy
    go_wp2
    obtain ⟨fz, fy⟩ := laid_cells HZ.out HY.out hne (.int .i64 m) (.int .i64 x) (.int .i64 0)
    refine leaves_cons (f := 112) (args := #[.pointer (some ⟨w.heap.size, 0, none⟩), .pointer (some ⟨w.heap.size + 1, 0, none⟩)]) (by simp) (by simp [go_sem]) ?_
    refine (catch_idle _ _ _).mono ?_
    rintro e u' w'' ⟨rfl, rfl, rfl⟩
    change ∃ v, (results Tryz.f64 _).run Tryz.prog _ = .ok v _ ∧ _
    refine ⟨_, ?_, rfl, ((hB.setCell (Nat.le_refl _) _).setCell (Nat.le_refl _) _).setCell (Nat.le_add_right _ 1) _⟩
    have h0 := blk_cell fz 0
    have h1 := blk_cell fz 1
    have h2 := blk_cell fy 0
    have l0 := blk_lt fz
    have l1 := blk_lt fy
    simp at h0 h1 h2
    simp [results, Tryz.results64, go_sem, h0, h1, h2]
/-- all's closure: not Valid. -/
theorem notValid_c (m e : Int) (b : Bool) (h : real_Valid.f m e = some b) (w : World) : Calls Tryz.prog 144 #[.agg #[.int .i64 m, .int .i64 e]] w fun en w' => en = .returned (.bool (!b)) ∧ Below w.heap.size w w' := by
  have H := Lib.hid h
  clear h
  go_enter Tryz.func144, Tryz.ntmps144
  go_wp2_with fail
  refine (real_Valid.calls m e b _ H.out).mono ?_
  rintro en w1 ⟨rfl, hb⟩
  have hB : Below w.heap.size w w1 := ((Below.refl _ w).alloc (Nat.le_refl _) _).trans (hb.mono (by simp))
  clear hb
  go_wp2
  go_ret
  exact ⟨rfl, hB⟩
theorem index2_c (b : Nat) (m0 e0 m1 e1 : Int) (t : TypeId) (v0 v1 : Bool) (h0 : real_Valid.f m0 e0 = some v0) (h1 : real_Valid.f m1 e1 = some v1) (w : World)
    (hb : w.heap[b]? = some (.cells #[.int .i64 m0, .int .i64 e0, .int .i64 m1, .int .i64 e1] t (0, 0))) :
    Calls Tryz.prog 163 #[.slice (some ⟨b, 0, none⟩) 2 2, .func (.func 144) #[] #[]] w fun en w' => en = .returned (.int .i64 (if v0 then (if v1 then -1 else 1) else 0)) ∧ Below w.heap.size w w' := by
  have H0 := Lib.hid h0
  have H1 := Lib.hid h1
  have HB := Lib.hid hb
  clear h0 h1 hb
  go_enter Tryz.func163, Tryz.ntmps163
  go_wp2
  go_loopg [5, 8] (3 : Nat) (fun kq v5 v8 wr => ∃ j : Nat, kq + j = 3 ∧ v8 = .int .i64 (j : Int) ∧ Below w.heap.size w wr ∧ (1 ≤ j → v0 = true) ∧ (2 ≤ j → v1 = true))
  case atStart => exact ⟨0, rfl, rfl, Below.refl _ w, by omega, by omega⟩
  case round =>
    obtain ⟨j, hj, rfl, hB, hv0, hv1⟩ := hrel
    have HB2 := Lib.hid hB
    have hbr := blk_below HB.out hB
    rcases (by omega : j = 0 ∨ j = 1 ∨ j = 2 ∨ j = 3) with h | h | h | h
    · subst h
      have c0 : wr.cell? ⟨b, 0, none⟩ = some (.int .i64 m0) := (blk_cell hbr 0).trans rfl
      have c1 : wr.cell? ⟨b, 1, none⟩ = some (.int .i64 e0) := (blk_cell hbr 1).trans rfl
      clear hB hbr hv0 hv1
      cases v0
      · go_wp2_with fail
        refine (notValid_c m0 e0 _ H0.out _).mono ?_
        rintro en w1 ⟨rfl, hb⟩
        have hB : Below w.heap.size w w1 := HB2.out.trans (hb.mono HB2.out.size)
        clear hb
        go_wp2
        go_ret
        exact ⟨rfl, hB⟩
      · go_wp2_with fail
        refine (notValid_c m0 e0 _ H0.out _).mono ?_
        rintro en w1 ⟨rfl, hb⟩
        have hB : Below w.heap.size w w1 := HB2.out.trans (hb.mono HB2.out.size)
        clear hb
        go_wp2
        go_roundg (gk - 1)
        case measure => omega
        case rel => exact ⟨1, by omega, rfl, hB, fun _ => trivial, by omega⟩
    · subst h
      have c0 : wr.cell? ⟨b, 2, none⟩ = some (.int .i64 m1) := (blk_cell hbr 2).trans rfl
      have c1 : wr.cell? ⟨b, 3, none⟩ = some (.int .i64 e1) := (blk_cell hbr 3).trans rfl
      have hv := hv0 (Nat.le_refl _)
      subst hv
      clear hB hbr hv0 hv1
      cases v1
      · go_wp2_with fail
        refine (notValid_c m1 e1 _ H1.out _).mono ?_
        rintro en w1 ⟨rfl, hb⟩
        have hB : Below w.heap.size w w1 := HB2.out.trans (hb.mono HB2.out.size)
        clear hb
        go_wp2
        go_ret
        exact ⟨rfl, hB⟩
      · go_wp2_with fail
        refine (notValid_c m1 e1 _ H1.out _).mono ?_
        rintro en w1 ⟨rfl, hb⟩
        have hB : Below w.heap.size w w1 := HB2.out.trans (hb.mono HB2.out.size)
        clear hb
        go_wp2
        go_roundg (gk - 1)
        case measure => omega
        case rel => exact ⟨2, by omega, rfl, hB, fun _ => trivial, fun _ => trivial⟩
    · subst h
      have hva := hv0 (by omega)
      have hvb := hv1 (by omega)
      subst hva hvb
      clear hbr hv0 hv1
      go_wp2
      go_ret
      exact ⟨rfl, hB⟩
    · subst h
      have hva := hv0 (by omega)
      have hvb := hv1 (by omega)
      subst hva hvb
      clear hbr hv0 hv1
      go_wp2
      go_ret
      exact ⟨rfl, hB⟩
theorem contains2_c (b : Nat) (m0 e0 m1 e1 : Int) (t : TypeId) (v0 v1 : Bool) (h0 : real_Valid.f m0 e0 = some v0) (h1 : real_Valid.f m1 e1 = some v1) (w : World)
    (hb : w.heap[b]? = some (.cells #[.int .i64 m0, .int .i64 e0, .int .i64 m1, .int .i64 e1] t (0, 0))) :
    Calls Tryz.prog 143 #[.slice (some ⟨b, 0, none⟩) 2 2, .func (.func 144) #[] #[]] w fun en w' => en = .returned (.bool (!(v0 && v1))) ∧ Below w.heap.size w w' := by
  have H := Lib.hid (index2_c b m0 e0 m1 e1 t v0 v1 h0 h1 w hb)
  clear h0 h1 hb
  go_enter Tryz.func143, Tryz.ntmps143
  go_wp2_with fail
  refine H.out.mono ?_
  rintro en w1 ⟨rfl, hB⟩
  clear H
  rcases v0 with _ | _ <;> rcases v1 with _ | _ <;> (go_wp2; go_ret; exact ⟨rfl, hB⟩)
theorem all2_c (b : Nat) (m0 e0 m1 e1 : Int) (t : TypeId) (v0 v1 : Bool) (h0 : real_Valid.f m0 e0 = some v0) (h1 : real_Valid.f m1 e1 = some v1) (w : World)
    (hb : w.heap[b]? = some (.cells #[.int .i64 m0, .int .i64 e0, .int .i64 m1, .int .i64 e1] t (0, 0))) :
    Calls Tryz.prog 99 #[.slice (some ⟨b, 0, none⟩) 2 2] w fun en w' => en = .returned (.bool (v0 && v1)) ∧ Below w.heap.size w w' := by
  have H := Lib.hid (contains2_c b m0 e0 m1 e1 t v0 v1 h0 h1 w hb)
  clear h0 h1 hb
  go_enter Tryz.func99, Tryz.ntmps99
  go_wp2_with fail
  refine H.out.mono ?_
  rintro en w1 ⟨rfl, hB⟩
  clear H
  rcases v0 with _ | _ <;> rcases v1 with _ | _ <;> (go_wp2; go_ret; exact ⟨rfl, hB⟩)
/-- What an operation of two reals is: each end is coded, behind it no old cell is changed. -/
def OpC (g : FuncId) (x0 x1 y0 y1 m x : Int) : Prop := ∀ w : World, Calls Tryz.prog g #[.agg #[.int .i64 x0, .int .i64 x1], .agg #[.int .i64 y0, .int .i64 y1]] w fun e w' => e = ending m x ∧ Below w.heap.size w w'
def binS (v0 v1 : Bool) (m x : Int) : Int × Int × Int := if (v0 && v1) = true then caughtS m x else (0, 0, 1)
theorem binary1_c (g : FuncId) (x0 x1 y0 y1 m x : Int) (hg : OpC g x0 x1 y0 y1 m x) (b c d : Nat) (w : World) (he : ∀ args (w : World), (callFunc g args).run Tryz.prog w = .ok (.enter g args) w)
    (hb : w.heap[b]? = some (.cells #[.int .i64 x0, .int .i64 x1] 23 (0, 0))) (hc : w.heap[c]? = some (.cells #[.int .i64 y0, .int .i64 y1] 23 (0, 0))) (hd : w.heap[d]? = some (.cells #[.func (.func g) #[] #[]] 76 (0, 0))) :
    Calls Tryz.prog 140 #[.pointer (some ⟨d, 0, none⟩), .pointer (some ⟨b, 0, none⟩), .pointer (some ⟨c, 0, none⟩)] w fun e w' => e = ending m x ∧ Below w.heap.size w w' := by
  have HG := Lib.hid hg
  have HE := Lib.hid he
  have b0 : w.cell? ⟨b, 0, none⟩ = some (.int .i64 x0) := (blk_cell hb 0).trans rfl
  have b1 : w.cell? ⟨b, 1, none⟩ = some (.int .i64 x1) := (blk_cell hb 1).trans rfl
  have c0 : w.cell? ⟨c, 0, none⟩ = some (.int .i64 y0) := (blk_cell hc 0).trans rfl
  have c1 : w.cell? ⟨c, 1, none⟩ = some (.int .i64 y1) := (blk_cell hc 1).trans rfl
  have d0 : w.cell? ⟨d, 0, none⟩ = some (.func (.func g) #[] #[]) := (blk_cell hd 0).trans rfl
  have lb := blk_lt hb
  have lc := blk_lt hc
  have ld := blk_lt hd
  clear hg he hb hc hd
  by_cases hx : x = 1000
  · have e1 : ending m x = .panicked chain := by unfold ending; rw [if_pos hx]
    go_enter Tryz.func140, Tryz.ntmps140
    go_wp2_with fail
    rw [HE.out]
    go_wp2_with fail
    refine (HG.out _).mono ?_
    rintro e w3 ⟨rfl, hb⟩
    have hB : Below w.heap.size w w3 := ((Below.refl _ w).alloc (Nat.le_refl _) _).trans (hb.mono (by simp))
    rw [e1]
    exact ⟨rfl, by rw [e1], hB⟩
  · have e1 : ending m x = .returned (.agg #[.int .i64 m, .int .i64 x]) := ending_at hx
    rw [e1]
    go_enter Tryz.func140, Tryz.ntmps140
    go_wp2_with fail
    rw [HE.out]
    go_wp2_with fail
    refine (HG.out _).mono ?_
    rintro e w3 ⟨rfl, hb⟩
    have hB : Below w.heap.size w w3 := ((Below.refl _ w).alloc (Nat.le_refl _) _).trans (hb.mono (by simp))
    have hz : w3.heap[w.heap.size]? = some (.cells #[.int .i64 0, .int .i64 0] 23 (0, 0)) := blk_below (blk_new _ _) hb
    have z0 : w3.cell? ⟨w.heap.size, 0, none⟩ = some (.int .i64 0) := (blk_cell hz 0).trans rfl
    have z1 : w3.cell? ⟨w.heap.size, 1, none⟩ = some (.int .i64 0) := (blk_cell hz 1).trans rfl
    have f0 := blk_frozen hz 0
    have f1 := blk_frozen hz 1
    have lz := blk_lt hz
    clear hb
    rw [e1]
    go_wp2
    have fz : (((w3.setCell ⟨w.heap.size, 0, none⟩ (.int .i64 m)).setCell ⟨w.heap.size, 1, none⟩ (.int .i64 x))).heap[w.heap.size]? = some (.cells #[.int .i64 m, .int .i64 x] 23 (0, 0)) := heap_setCell_same (w3.setCell ⟨w.heap.size, 0, none⟩ (.int .i64 m)) w.heap.size 1 _ _ (.int .i64 x) (heap_setCell_same w3 w.heap.size 0 _ _ (.int .i64 m) hz)
    refine bodyPost_ret (results_cell_row rfl _ _ w.heap.size 23 #[.int .i64 m, .int .i64 x] (0, 0) _ rfl fz Tryz.underlying23 rfl (by kernel_rfl)) rfl ?_
    exact ⟨rfl, (hB.setCell (Nat.le_refl _) _).setCell (Nat.le_refl _) _⟩
theorem new_at (w : World) (o : Obj) (n : Nat) (h : n = w.heap.size) : (w.alloc o).heap[n]? = some o := by subst h; exact blk_new w o
theorem caught_t (g : FuncId) (caps : Array Value) (m x t0 t1 t2 : Int) (ht : caughtS m x = (t0, t1, t2)) (w : World) (he : ∀ args (w : World), (callFunc g args).run Tryz.prog w = .ok (.enter g args) w)
    (hg : ∀ w1, Below w.heap.size w w1 → Calls Tryz.prog g caps w1 fun e w' => e = ending m x ∧ Below w1.heap.size w1 w') :
    Calls Tryz.prog 64 #[.func (.func g) #[] caps] w fun e w' => e = .returned (.tuple #[.agg #[.int .i64 t0, .int .i64 t1], .int .i64 t2]) ∧ Below w.heap.size w w' := by
  have h := caught_c g caps m x w he hg
  rw [ht] at h
  exact h
theorem binary_c (g : FuncId) (x0 x1 y0 y1 m x : Int) (v0 v1 : Bool) (h0 : real_Valid.f x0 x1 = some v0) (h1 : real_Valid.f y0 y1 = some v1) (hg : (v0 && v1) = true → OpC g x0 x1 y0 y1 m x) (w : World) (he : ∀ args (w : World), (callFunc g args).run Tryz.prog w = .ok (.enter g args) w) :
    Calls Tryz.prog 95 #[.agg #[.int .i64 x0, .int .i64 x1], .agg #[.int .i64 y0, .int .i64 y1], .func (.func g) #[] #[]] w fun e w' => e = .returned (.tuple #[.agg #[.int .i64 (binS v0 v1 m x).1, .int .i64 (binS v0 v1 m x).2.1], .int .i64 (binS v0 v1 m x).2.2]) ∧ Below w.heap.size w w' := by
  have HG := Lib.hid hg
  have HE := Lib.hid he
  have H0 := Lib.hid h0
  have H1 := Lib.hid h1
  clear h0 h1 hg he
  by_cases hv : (v0 && v1) = true
  · have e2 : binS v0 v1 m x = caughtS m x := by unfold binS; rw [if_pos hv]
    rw [e2]
    clear e2
    rcases hcs : caughtS m x with ⟨t0, t1, t2⟩
    go_enter Tryz.func95, Tryz.ntmps95
    go_wp2_with fail
    refine (all2_c _ x0 x1 y0 y1 23 v0 v1 H0.out H1.out _ (new_at _ _ _ (by simp only [World.size_alloc]))).mono ?_
    rintro e w1 ⟨rfl, hb⟩
    rw [hv]
    have kz : w1.heap[w.heap.size + 1 + 1 + 1]? = some (.cells #[.int .i64 0, .int .i64 0] 23 (0, 0)) := blk_below (blk_alloc (new_at _ _ _ (by simp only [World.size_alloc])) _) hb
    have kg : w1.heap[w.heap.size + 1 + 1]? = some (.cells #[.func (.func g) #[] #[]] 76 (0, 0)) := blk_below (blk_alloc (blk_alloc (new_at _ _ _ (by simp only [World.size_alloc])) _) _) hb
    have ky : w1.heap[w.heap.size + 1]? = some (.cells #[.int .i64 y0, .int .i64 y1] 23 (0, 0)) := blk_below (blk_alloc (blk_alloc (blk_alloc (new_at _ _ _ (by simp only [World.size_alloc])) _) _) _) hb
    have kx : w1.heap[w.heap.size]? = some (.cells #[.int .i64 x0, .int .i64 x1] 23 (0, 0)) := blk_below (blk_alloc (blk_alloc (blk_alloc (blk_alloc (new_at _ _ _ rfl) _) _) _) _) hb
    have hB : Below w.heap.size w w1 := ((((((Below.refl _ w).alloc (Nat.le_refl _) _).alloc (by simp only [World.size_alloc]; omega) _).alloc (by simp only [World.size_alloc]; omega) _).alloc (by simp only [World.size_alloc]; omega) _).alloc (by simp only [World.size_alloc]; omega) _).trans (hb.mono (by simp only [World.size_alloc]; omega))
    have hmf : ∀ (fn : Fn) (first cap : Array Value) (w : World), (Instr.makeFunc fn first cap).run Tryz.prog w = .ok (.func fn first cap) w := fun _ _ _ _ => rfl
    have KX := Lib.hid kx
    have KY := Lib.hid ky
    have KG := Lib.hid kg
    have KZ := Lib.hid kz
    have HB := Lib.hid hB
    clear hb kx ky kg kz hB
    go_wp2_with fail
    refine (caught_t 140 _ m x t0 t1 t2 hcs w1 (fun args w => enters_ Tryz.func140 (by kernel_rfl) rfl args w) (fun w2 h2 => binary1_c g x0 x1 y0 y1 m x (HG.out hv) _ _ _ w2 HE.out (blk_below KX.out h2) (blk_below KY.out h2) (blk_below KG.out h2))).mono ?_
    rintro e w3 ⟨rfl, hb⟩
    have hz : w3.heap[w.heap.size + 1 + 1 + 1]? = some (.cells #[.int .i64 0, .int .i64 0] 23 (0, 0)) := blk_below KZ.out hb
    have hB : Below w.heap.size w w3 := HB.out.trans (hb.mono HB.out.size)
    have z0 : w3.cell? ⟨w.heap.size + 1 + 1 + 1, 0, none⟩ = some (.int .i64 0) := (blk_cell hz 0).trans rfl
    have z1 : w3.cell? ⟨w.heap.size + 1 + 1 + 1, 1, none⟩ = some (.int .i64 0) := (blk_cell hz 1).trans rfl
    have f0 := blk_frozen hz 0
    have f1 := blk_frozen hz 1
    have lz := blk_lt hz
    clear hb
    go_wp2
    have fz := heap_setCell_same (w3.setCell ⟨w.heap.size + 1 + 1 + 1, 0, none⟩ (.int .i64 t0)) (w.heap.size + 1 + 1 + 1) 1 _ _ (.int .i64 t1) (heap_setCell_same w3 (w.heap.size + 1 + 1 + 1) 0 _ _ (.int .i64 t0) hz)
    refine bodyPost_ret (results_ct rfl _ _ (w.heap.size + 1 + 1 + 1) 23 #[.int .i64 t0, .int .i64 t1] (0, 0) _ rfl fz Tryz.underlying23 rfl (by kernel_rfl)) rfl ?_
    exact ⟨rfl, (hB.setCell (by simp only; omega) _).setCell (by simp only; omega) _⟩
  · have e2 : binS v0 v1 m x = (0, 0, 1) := by unfold binS; rw [if_neg hv]
    rw [e2]
    replace hv : (v0 && v1) = false := by simpa using hv
    go_enter Tryz.func95, Tryz.ntmps95
    go_wp2_with fail
    refine (all2_c _ x0 x1 y0 y1 23 v0 v1 H0.out H1.out _ (new_at _ _ _ (by simp only [World.size_alloc]))).mono ?_
    rintro e w1 ⟨rfl, hb⟩
    rw [hv]
    have kz : w1.heap[w.heap.size + 1 + 1 + 1]? = some (.cells #[.int .i64 0, .int .i64 0] 23 (0, 0)) := blk_below (blk_alloc (new_at _ _ _ (by simp only [World.size_alloc])) _) hb
    have kg : w1.heap[w.heap.size + 1 + 1]? = some (.cells #[.func (.func g) #[] #[]] 76 (0, 0)) := blk_below (blk_alloc (blk_alloc (new_at _ _ _ (by simp only [World.size_alloc])) _) _) hb
    have ky : w1.heap[w.heap.size + 1]? = some (.cells #[.int .i64 y0, .int .i64 y1] 23 (0, 0)) := blk_below (blk_alloc (blk_alloc (blk_alloc (new_at _ _ _ (by simp only [World.size_alloc])) _) _) _) hb
    have kx : w1.heap[w.heap.size]? = some (.cells #[.int .i64 x0, .int .i64 x1] 23 (0, 0)) := blk_below (blk_alloc (blk_alloc (blk_alloc (blk_alloc (new_at _ _ _ rfl) _) _) _) _) hb
    have hB : Below w.heap.size w w1 := ((((((Below.refl _ w).alloc (Nat.le_refl _) _).alloc (by simp only [World.size_alloc]; omega) _).alloc (by simp only [World.size_alloc]; omega) _).alloc (by simp only [World.size_alloc]; omega) _).alloc (by simp only [World.size_alloc]; omega) _).trans (hb.mono (by simp only [World.size_alloc]; omega))
    have z0 : w1.cell? ⟨w.heap.size + 1 + 1 + 1, 0, none⟩ = some (.int .i64 0) := (blk_cell kz 0).trans rfl
    have z1 : w1.cell? ⟨w.heap.size + 1 + 1 + 1, 1, none⟩ = some (.int .i64 0) := (blk_cell kz 1).trans rfl
    have f0 := blk_frozen kz 0
    have f1 := blk_frozen kz 1
    have lz := blk_lt kz
    clear hb kx ky kg
    go_wp2
    have fz := heap_setCell_same (w1.setCell ⟨w.heap.size + 1 + 1 + 1, 0, none⟩ (.int .i64 0)) (w.heap.size + 1 + 1 + 1) 1 _ _ (.int .i64 0) (heap_setCell_same w1 (w.heap.size + 1 + 1 + 1) 0 _ _ (.int .i64 0) kz)
    refine bodyPost_ret (results_ct rfl _ _ (w.heap.size + 1 + 1 + 1) 23 #[.int .i64 0, .int .i64 0] (0, 0) _ rfl fz Tryz.underlying23 rfl (by kernel_rfl)) rfl ?_
    exact ⟨rfl, (hB.setCell (by simp only; omega) _).setCell (by simp only; omega) _⟩
theorem sum_op (k : Nat) (x0 x1 y0 y1 m x : Int) (h : real_sum.f k x0 x1 y0 y1 = some (m, x)) : OpC 100 x0 x1 y0 y1 m x := fun w => real_sum.calls k x0 x1 y0 y1 m x w h
theorem quotient_op (k : Nat) (x0 x1 y0 y1 m x : Int) (h : real_quotient.f k x0 x1 y0 y1 = some (m, x)) : OpC 68 x0 x1 y0 y1 m x := fun w => real_quotient.calls k x0 x1 y0 y1 m x w h
theorem binary_t (g : FuncId) (x0 x1 y0 y1 m x : Int) (v0 v1 : Bool) (h0 : real_Valid.f x0 x1 = some v0) (h1 : real_Valid.f y0 y1 = some v1) (hg : (v0 && v1) = true → OpC g x0 x1 y0 y1 m x) (w : World) (he : ∀ args (w : World), (callFunc g args).run Tryz.prog w = .ok (.enter g args) w) (t0 t1 t2 : Int) (ht : binS v0 v1 m x = (t0, t1, t2)) :
    Calls Tryz.prog 95 #[.agg #[.int .i64 x0, .int .i64 x1], .agg #[.int .i64 y0, .int .i64 y1], .func (.func g) #[] #[]] w fun e w' => e = .returned (.tuple #[.agg #[.int .i64 t0, .int .i64 t1], .int .i64 t2]) ∧ Below w.heap.size w w' := by
  have h := binary_c g x0 x1 y0 y1 m x v0 v1 h0 h1 hg w he
  rw [ht] at h
  exact h
def real_Add.f (k : Nat) (x0 x1 y0 y1 : Int) : Option (Int × Int × Int) := (real_Valid.f x0 x1).bind fun v0 => (real_Valid.f y0 y1).bind fun v1 => if (v0 && v1) = true then (real_sum.f k x0 x1 y0 y1).bind fun r => some (caughtS r.1 r.2) else some (0, 0, 1)
theorem real_Add.calls (k : Nat) (a0_0 a0_1 a1_0 a1_1 r1 r2 r3 : Int) (w : World) (h : real_Add.f k a0_0 a0_1 a1_0 a1_1 = some (r1, r2, r3)) :
    Calls Tryz.prog 33 #[.agg #[.int .i64 a0_0, .int .i64 a0_1], .agg #[.int .i64 a1_0, .int .i64 a1_1]] w fun e w' => e = .returned (.tuple #[.agg #[.int .i64 r1, .int .i64 r2], .int .i64 r3]) ∧ Below w.heap.size w w' := by
  obtain ⟨v0, h0, h⟩ := Option.bind_eq_some_iff.mp h
  obtain ⟨v1, h1, h⟩ := Option.bind_eq_some_iff.mp h
  have HB : Hid (∀ w : World, Calls Tryz.prog 95 #[.agg #[.int .i64 a0_0, .int .i64 a0_1], .agg #[.int .i64 a1_0, .int .i64 a1_1], .func (.func 100) #[] #[]] w fun e w' => e = .returned (.tuple #[.agg #[.int .i64 r1, .int .i64 r2], .int .i64 r3]) ∧ Below w.heap.size w w') := by
    refine Lib.hid (fun w => ?_)
    by_cases hv : (v0 && v1) = true
    · rw [if_pos hv] at h
      obtain ⟨⟨m, x⟩, hm, h⟩ := Option.bind_eq_some_iff.mp h
      refine binary_t 100 a0_0 a0_1 a1_0 a1_1 m x v0 v1 h0 h1 (fun _ => sum_op k _ _ _ _ _ _ hm) w (fun args w => enters_ Tryz.func100 (by kernel_rfl) rfl args w) r1 r2 r3 ?_
      unfold binS; rw [if_pos hv]; exact Option.some.inj h
    · rw [if_neg hv] at h
      refine binary_t 100 a0_0 a0_1 a1_0 a1_1 0 0 v0 v1 h0 h1 (fun h => absurd h hv) w (fun args w => enters_ Tryz.func100 (by kernel_rfl) rfl args w) r1 r2 r3 ?_
      unfold binS; rw [if_neg hv]; exact Option.some.inj h
  clear h h0 h1
  go_enter Tryz.func33, Tryz.ntmps33
  go_wp2_with fail
  refine (HB.out _).mono ?_
  rintro e w1 ⟨rfl, hb⟩
  have hz : w1.heap[w.heap.size + 1 + 1]? = some (.cells #[.int .i64 0, .int .i64 0] 23 (0, 0)) := blk_below (new_at _ _ _ (by simp only [World.size_alloc])) hb
  have hB : Below w.heap.size w w1 := ((((Below.refl _ w).alloc (Nat.le_refl _) _).alloc (by simp only [World.size_alloc]; omega) _).alloc (by simp only [World.size_alloc]; omega) _).trans (hb.mono (by simp only [World.size_alloc]; omega))
  have z0 : w1.cell? ⟨w.heap.size + 1 + 1, 0, none⟩ = some (.int .i64 0) := (blk_cell hz 0).trans rfl
  have z1 : w1.cell? ⟨w.heap.size + 1 + 1, 1, none⟩ = some (.int .i64 0) := (blk_cell hz 1).trans rfl
  have f0 := blk_frozen hz 0
  have f1 := blk_frozen hz 1
  have lz := blk_lt hz
  clear hb
  go_wp2
  have fz := heap_setCell_same (w1.setCell ⟨w.heap.size + 1 + 1, 0, none⟩ (.int .i64 r1)) (w.heap.size + 1 + 1) 1 _ _ (.int .i64 r2) (heap_setCell_same w1 (w.heap.size + 1 + 1) 0 _ _ (.int .i64 r1) hz)
  refine bodyPost_ret (results_ct rfl _ _ (w.heap.size + 1 + 1) 23 #[.int .i64 r1, .int .i64 r2] (0, 0) _ rfl fz Tryz.underlying23 rfl (by kernel_rfl)) rfl ?_
  exact ⟨rfl, (hB.setCell (by simp only; omega) _).setCell (by simp only; omega) _⟩
def real_Div.f (k : Nat) (x0 x1 y0 y1 : Int) : Option (Int × Int × Int) := (real_Valid.f x0 x1).bind fun v0 => (real_Valid.f y0 y1).bind fun v1 => if (v0 && v1) = true then if y0 = 0 then some (0, 0, 5) else (real_quotient.f k x0 x1 y0 y1).bind fun r => some (caughtS r.1 r.2) else some (0, 0, 1)
theorem real_Div.calls (k : Nat) (a0_0 a0_1 a1_0 a1_1 r1 r2 r3 : Int) (w : World) (h : real_Div.f k a0_0 a0_1 a1_0 a1_1 = some (r1, r2, r3)) :
    Calls Tryz.prog 32 #[.agg #[.int .i64 a0_0, .int .i64 a0_1], .agg #[.int .i64 a1_0, .int .i64 a1_1]] w fun e w' => e = .returned (.tuple #[.agg #[.int .i64 r1, .int .i64 r2], .int .i64 r3]) ∧ Below w.heap.size w w' := by
  obtain ⟨v0, h0, h⟩ := Option.bind_eq_some_iff.mp h
  obtain ⟨v1, h1, h⟩ := Option.bind_eq_some_iff.mp h
  have H0 := Lib.hid h0
  have H1 := Lib.hid h1
  by_cases hv : (v0 && v1) = true
  · by_cases hy : a1_0 = 0
    · rw [if_pos hv, if_pos hy] at h
      simp only [Option.some.injEq, Prod.mk.injEq] at h
      obtain ⟨rfl, rfl, rfl⟩ := h
      subst hy
      clear h0 h1
      go_enter Tryz.func32, Tryz.ntmps32
      go_wp2_with fail
      refine (all2_c _ a0_0 a0_1 0 a1_1 23 v0 v1 H0.out H1.out _ (new_at _ _ _ (by simp only [World.size_alloc]))).mono ?_
      rintro e w1 ⟨rfl, hb⟩
      have hz : w1.heap[w.heap.size + 1 + 1]? = some (.cells #[.int .i64 0, .int .i64 0] 23 (0, 0)) := blk_below (blk_alloc (new_at _ _ _ (by simp only [World.size_alloc])) _) hb
      have kx : w1.heap[w.heap.size]? = some (.cells #[.int .i64 a0_0, .int .i64 a0_1] 23 (0, 0)) := blk_below (blk_alloc (blk_alloc (blk_alloc (new_at _ _ _ rfl) _) _) _) hb
      have ky : w1.heap[w.heap.size + 1]? = some (.cells #[.int .i64 0, .int .i64 a1_1] 23 (0, 0)) := blk_below (blk_alloc (blk_alloc (new_at _ _ _ (by simp only [World.size_alloc])) _) _) hb
      have hB : Below w.heap.size w w1 := (((((Below.refl _ w).alloc (Nat.le_refl _) _).alloc (by simp only [World.size_alloc]; omega) _).alloc (by simp only [World.size_alloc]; omega) _).alloc (by simp only [World.size_alloc]; omega) _).trans (hb.mono (by simp only [World.size_alloc]; omega))
      rw [hv]
      have x0 : w1.cell? ⟨w.heap.size, 0, none⟩ = some (.int .i64 a0_0) := (blk_cell kx 0).trans rfl
      have x1 : w1.cell? ⟨w.heap.size, 1, none⟩ = some (.int .i64 a0_1) := (blk_cell kx 1).trans rfl
      have y0 : w1.cell? ⟨w.heap.size + 1, 0, none⟩ = some (.int .i64 0) := (blk_cell ky 0).trans rfl
      have y1 : w1.cell? ⟨w.heap.size + 1, 1, none⟩ = some (.int .i64 a1_1) := (blk_cell ky 1).trans rfl
      have lx := blk_lt kx
      have ly := blk_lt ky
      have z0 : w1.cell? ⟨w.heap.size + 1 + 1, 0, none⟩ = some (.int .i64 0) := (blk_cell hz 0).trans rfl
      have z1 : w1.cell? ⟨w.heap.size + 1 + 1, 1, none⟩ = some (.int .i64 0) := (blk_cell hz 1).trans rfl
      have f0 := blk_frozen hz 0
      have f1 := blk_frozen hz 1
      have lz := blk_lt hz
      clear hb
      go_wp2
      have fz := heap_setCell_same (w1.setCell ⟨w.heap.size + 1 + 1, 0, none⟩ (.int .i64 0)) (w.heap.size + 1 + 1) 1 _ _ (.int .i64 0) (heap_setCell_same w1 (w.heap.size + 1 + 1) 0 _ _ (.int .i64 0) hz)
      refine bodyPost_ret (results_ct rfl _ _ (w.heap.size + 1 + 1) 23 #[.int .i64 0, .int .i64 0] (0, 0) _ rfl fz Tryz.underlying23 rfl (by kernel_rfl)) rfl ?_
      exact ⟨rfl, (hB.setCell (by simp only; omega) _).setCell (by simp only; omega) _⟩
    · have HY := Lib.hid hy
      have HB : Hid (∀ w : World, Calls Tryz.prog 95 #[.agg #[.int .i64 a0_0, .int .i64 a0_1], .agg #[.int .i64 a1_0, .int .i64 a1_1], .func (.func 68) #[] #[]] w fun e w' => e = .returned (.tuple #[.agg #[.int .i64 r1, .int .i64 r2], .int .i64 r3]) ∧ Below w.heap.size w w') := by
        refine Lib.hid (fun w => ?_)
        rw [if_pos hv] at h
        rw [if_neg hy] at h
        obtain ⟨⟨m, x⟩, hm, h⟩ := Option.bind_eq_some_iff.mp h
        refine binary_t 68 a0_0 a0_1 a1_0 a1_1 m x v0 v1 h0 h1 (fun _ => quotient_op k _ _ _ _ _ _ hm) w (fun args w => enters_ Tryz.func68 (by kernel_rfl) rfl args w) r1 r2 r3 ?_
        unfold binS; rw [if_pos hv]; exact Option.some.inj h
      clear h
      clear h0 h1
      go_enter Tryz.func32, Tryz.ntmps32
      go_wp2_with fail
      refine (all2_c _ a0_0 a0_1 a1_0 a1_1 23 v0 v1 H0.out H1.out _ (new_at _ _ _ (by simp only [World.size_alloc]))).mono ?_
      rintro e w1 ⟨rfl, hb⟩
      have hz : w1.heap[w.heap.size + 1 + 1]? = some (.cells #[.int .i64 0, .int .i64 0] 23 (0, 0)) := blk_below (blk_alloc (new_at _ _ _ (by simp only [World.size_alloc])) _) hb
      have kx : w1.heap[w.heap.size]? = some (.cells #[.int .i64 a0_0, .int .i64 a0_1] 23 (0, 0)) := blk_below (blk_alloc (blk_alloc (blk_alloc (new_at _ _ _ rfl) _) _) _) hb
      have ky : w1.heap[w.heap.size + 1]? = some (.cells #[.int .i64 a1_0, .int .i64 a1_1] 23 (0, 0)) := blk_below (blk_alloc (blk_alloc (new_at _ _ _ (by simp only [World.size_alloc])) _) _) hb
      have hB : Below w.heap.size w w1 := (((((Below.refl _ w).alloc (Nat.le_refl _) _).alloc (by simp only [World.size_alloc]; omega) _).alloc (by simp only [World.size_alloc]; omega) _).alloc (by simp only [World.size_alloc]; omega) _).trans (hb.mono (by simp only [World.size_alloc]; omega))
      rw [hv]
      have x0 : w1.cell? ⟨w.heap.size, 0, none⟩ = some (.int .i64 a0_0) := (blk_cell kx 0).trans rfl
      have x1 : w1.cell? ⟨w.heap.size, 1, none⟩ = some (.int .i64 a0_1) := (blk_cell kx 1).trans rfl
      have y0 : w1.cell? ⟨w.heap.size + 1, 0, none⟩ = some (.int .i64 a1_0) := (blk_cell ky 0).trans rfl
      have y1 : w1.cell? ⟨w.heap.size + 1, 1, none⟩ = some (.int .i64 a1_1) := (blk_cell ky 1).trans rfl
      have lx := blk_lt kx
      have ly := blk_lt ky
      have hyn : ¬ a1_0 = 0 := HY.out
      have hB1 := Lib.hid hB
      have HZ := Lib.hid hz
      clear hb hz hB kx ky
      go_wp2_with fail
      refine (HB.out _).mono ?_
      rintro e w2 ⟨rfl, hb⟩
      have hz := blk_below HZ.out hb
      have hB : Below w.heap.size w w2 := hB1.out.trans (hb.mono hB1.out.size)
      have z0 : w2.cell? ⟨w.heap.size + 1 + 1, 0, none⟩ = some (.int .i64 0) := (blk_cell hz 0).trans rfl
      have z1 : w2.cell? ⟨w.heap.size + 1 + 1, 1, none⟩ = some (.int .i64 0) := (blk_cell hz 1).trans rfl
      have f0 := blk_frozen hz 0
      have f1 := blk_frozen hz 1
      have lz := blk_lt hz
      clear hb
      go_wp2
      have fz := heap_setCell_same (w2.setCell ⟨w.heap.size + 1 + 1, 0, none⟩ (.int .i64 r1)) (w.heap.size + 1 + 1) 1 _ _ (.int .i64 r2) (heap_setCell_same w2 (w.heap.size + 1 + 1) 0 _ _ (.int .i64 r1) hz)
      refine bodyPost_ret (results_ct rfl _ _ (w.heap.size + 1 + 1) 23 #[.int .i64 r1, .int .i64 r2] (0, 0) _ rfl fz Tryz.underlying23 rfl (by kernel_rfl)) rfl ?_
      exact ⟨rfl, (hB.setCell (by simp only; omega) _).setCell (by simp only; omega) _⟩
  · rw [if_neg hv] at h
    simp only [Option.some.injEq, Prod.mk.injEq] at h
    obtain ⟨rfl, rfl, rfl⟩ := h
    have hv : (v0 && v1) = false := by simpa using hv
    clear h0 h1
    go_enter Tryz.func32, Tryz.ntmps32
    go_wp2_with fail
    refine (all2_c _ a0_0 a0_1 a1_0 a1_1 23 v0 v1 H0.out H1.out _ (new_at _ _ _ (by simp only [World.size_alloc]))).mono ?_
    rintro e w1 ⟨rfl, hb⟩
    have hz : w1.heap[w.heap.size + 1 + 1]? = some (.cells #[.int .i64 0, .int .i64 0] 23 (0, 0)) := blk_below (blk_alloc (new_at _ _ _ (by simp only [World.size_alloc])) _) hb
    have kx : w1.heap[w.heap.size]? = some (.cells #[.int .i64 a0_0, .int .i64 a0_1] 23 (0, 0)) := blk_below (blk_alloc (blk_alloc (blk_alloc (new_at _ _ _ rfl) _) _) _) hb
    have ky : w1.heap[w.heap.size + 1]? = some (.cells #[.int .i64 a1_0, .int .i64 a1_1] 23 (0, 0)) := blk_below (blk_alloc (blk_alloc (new_at _ _ _ (by simp only [World.size_alloc])) _) _) hb
    have hB : Below w.heap.size w w1 := (((((Below.refl _ w).alloc (Nat.le_refl _) _).alloc (by simp only [World.size_alloc]; omega) _).alloc (by simp only [World.size_alloc]; omega) _).alloc (by simp only [World.size_alloc]; omega) _).trans (hb.mono (by simp only [World.size_alloc]; omega))
    rw [hv]
    have x0 : w1.cell? ⟨w.heap.size, 0, none⟩ = some (.int .i64 a0_0) := (blk_cell kx 0).trans rfl
    have x1 : w1.cell? ⟨w.heap.size, 1, none⟩ = some (.int .i64 a0_1) := (blk_cell kx 1).trans rfl
    have y0 : w1.cell? ⟨w.heap.size + 1, 0, none⟩ = some (.int .i64 a1_0) := (blk_cell ky 0).trans rfl
    have y1 : w1.cell? ⟨w.heap.size + 1, 1, none⟩ = some (.int .i64 a1_1) := (blk_cell ky 1).trans rfl
    have lx := blk_lt kx
    have ly := blk_lt ky
    have z0 : w1.cell? ⟨w.heap.size + 1 + 1, 0, none⟩ = some (.int .i64 0) := (blk_cell hz 0).trans rfl
    have z1 : w1.cell? ⟨w.heap.size + 1 + 1, 1, none⟩ = some (.int .i64 0) := (blk_cell hz 1).trans rfl
    have f0 := blk_frozen hz 0
    have f1 := blk_frozen hz 1
    have lz := blk_lt hz
    clear hb
    go_wp2
    have fz := heap_setCell_same (w1.setCell ⟨w.heap.size + 1 + 1, 0, none⟩ (.int .i64 0)) (w.heap.size + 1 + 1) 1 _ _ (.int .i64 0) (heap_setCell_same w1 (w.heap.size + 1 + 1) 0 _ _ (.int .i64 0) hz)
    refine bodyPost_ret (results_ct rfl _ _ (w.heap.size + 1 + 1) 23 #[.int .i64 0, .int .i64 0] (0, 0) _ rfl fz Tryz.underlying23 rfl (by kernel_rfl)) rfl ?_
    exact ⟨rfl, (hB.setCell (by simp only; omega) _).setCell (by simp only; omega) _⟩

end Go.Proofs.YteigbokklclmbaaGreatDoor.Z
end
section
namespace Go.Proofs.YteigbokklclmbaaGreatDoor.Z
open Go Go.RowKit Go.Shelf Go.Proofs.YteigbokklclmbaaGreatDoor.Given Go.Proofs.YteigbokklclmbaaGreatDoorW.PrintWords Go.Proofs.YteigbokklclmbaaGreatDoorW.PrintLast Go.Proofs.YteigbokklclmbaaGreatDoorW.PrintMore
attribute [local go_sem] Oper.semAt_some
theorem upO {α : Type} {f : Nat → Option α} (h : ∀ k, LeO (f k) (f (k + 1))) {k k' : Nat} (hk : k ≤ k') {r : α} (e : f k = some r) : f k' = some r := by
  induction hk with
  | refl => exact e
  | step _ ih => exact h _ _ ih
def numStep (k : Nat) (n : List Int) (d : Int) : Option (List Int) := (real_nat_mul.f k n [10]).bind fun a => (real_natOf.f k (IntKind.u64.wrap d)).bind fun b => real_nat_add.f k a b
theorem numStep_mono (n : List Int) (d : Int) (k : Nat) : LeO (numStep k n d) (numStep (k + 1) n d) :=
  LeO.bind (real_nat_mul.mono _ _ _) (fun a => LeO.bind (real_natOf.mono _ _) (fun b => real_nat_add.mono _ _ _))
theorem numStep_of {k k1 k2 k3 : Nat} {n a b c : List Int} {d : Int} (e1 : k1 ≤ k) (e2 : k2 ≤ k) (e3 : k3 ≤ k) (h1 : real_nat_mul.f k1 n [10] = some a) (h2 : real_natOf.f k2 (IntKind.u64.wrap d) = some b) (h3 : real_nat_add.f k3 a b = some c) : numStep k n d = some c := by
  have h1' := upO (f := fun k => real_nat_mul.f k n [10]) (fun k => real_nat_mul.mono _ _ _) e1 h1
  have h2' := upO (f := fun k => real_natOf.f k (IntKind.u64.wrap d)) (fun k => real_natOf.mono _ _) e2 h2
  have h3' := upO (f := fun k => real_nat_add.f k a b) (fun k => real_nat_add.mono _ _ _) e3 h3
  unfold numStep
  refine Option.bind_eq_some_iff.mpr ⟨a, h1', Option.bind_eq_some_iff.mpr ⟨b, h2', h3'⟩⟩
def numL (k : Nat) : List Int → List Int → Option (List Int)
  | [], n => some n
  | d :: ds, n => (numStep k n d).bind fun c => numL k ds c
theorem numL_mono : ∀ (l n : List Int) (k : Nat), LeO (numL k l n) (numL (k + 1) l n)
  | [], n, k => LeO.refl _
  | d :: ds, n, k => LeO.bind (numStep_mono _ _ _) (fun c => numL_mono ds c k)
def NumE (l n r : List Int) : Prop := ∃ k, numL k l n = some r
theorem numE_only {l n a b : List Int} (h : NumE l n a) (h' : NumE l n b) : a = b := by
  obtain ⟨k, h⟩ := h
  obtain ⟨k', h'⟩ := h'
  have e := upO (numL_mono l n) (Nat.le_max_left k k') h
  have e' := upO (numL_mono l n) (Nat.le_max_right k k') h'
  exact Option.some.inj (e.symm.trans e')
theorem numL_snoc (k : Nat) : ∀ (l n r c : List Int) (d : Int), numL k l n = some r → numStep k r d = some c → numL k (l ++ [d]) n = some c
  | [], n, r, c, d, h, hs => by
    cases h
    exact Option.bind_eq_some_iff.mpr ⟨c, hs, rfl⟩
  | e :: ds, n, r, c, d, h, hs => by
    obtain ⟨m, h1, h2⟩ := Option.bind_eq_some_iff.mp h
    exact Option.bind_eq_some_iff.mpr ⟨m, h1, numL_snoc k ds m r c d h2 hs⟩
theorem numE_snoc {l n r a b c : List Int} {d : Int} {k1 k2 k3 : Nat} (h : NumE l n r) (h1 : real_nat_mul.f k1 r [10] = some a) (h2 : real_natOf.f k2 (IntKind.u64.wrap d) = some b) (h3 : real_nat_add.f k3 a b = some c) : NumE (l ++ [d]) n c := by
  obtain ⟨k, h⟩ := h
  refine ⟨k + k1 + k2 + k3, numL_snoc _ l n r c d (upO (numL_mono l n) (by omega) h) (numStep_of (by omega) (by omega) (by omega) h1 h2 h3)⟩
/-- A number of digits lies where it lay when a block turns that is no cells. -/
theorem nat32_kept {W W' : World} {row : Option Nat} {v : Value} {l : List Int} (h : Nat32 W v l) (hg : W.grownBy W' row) (hr : ∀ r, row = some r → ∃ o : Obj, W.heap[r]? = some o ∧ o.isCells = false) : Nat32 W' v l := by
  obtain ⟨A, c, rfl, hc, hC⟩ := h
  refine ⟨A, c, rfl, hc, ?_⟩
  have h := Kd.reads_of_C (enc := Value.int .u32) (d := (0 : Int)) (h1 := fun _ => rfl) hC
  refine Kd.C_of_reads (enc := Value.int .u32) (d := (0 : Int)) (h1 := fun _ => rfl) ⟨h.1, h.2.1, fun hn => ?_⟩
  obtain ⟨ad, e, hc⟩ := h.2.2 hn
  exact ⟨ad, e, fun j hj => Go.cell_kept (hc j hj) hg hr⟩
theorem nat32_set {W : World} {b : Nat} {t : TypeId} {u v v' : Value} {l : List Int} (h : Nat32 W v l) (hb : W.heap[b]? = some (.cells #[u] t (0, 0))) (hu : ∀ n, u ≠ .int .u32 n) : Nat32 (W.setCell ⟨b, 0, none⟩ v') v l := by
  obtain ⟨A, c, rfl, hc, hC⟩ := h
  refine ⟨A, c, rfl, hc, ?_⟩
  have h := Kd.reads_of_C (enc := Value.int .u32) (d := (0 : Int)) (h1 := fun _ => rfl) hC
  refine Kd.C_of_reads (enc := Value.int .u32) (d := (0 : Int)) (h1 := fun _ => rfl) ⟨h.1, h.2.1, fun hn => ?_⟩
  obtain ⟨ad, e, hc⟩ := h.2.2 hn
  refine ⟨ad, e, fun j hj => ?_⟩
  have hj' := hc j hj
  rw [World.cell?_setCell_other]
  · exact hj'
  · intro e'
    rw [← e', (blk_cell hb 0)] at hj'
    exact hu _ (Option.some.inj hj')
def real_number.f (k : Nat) (s : ByteArray) (n : List Int) : Option (List Int × Int × ByteArray) := if n.length + s.size < 100000000000 then (numL k (digs s) n).bind fun r => some (r, ((digs s).length : Int), s.extract (digs s).length s.size) else none
theorem number_in (k : Nat) (s : ByteArray) (A0 : Option Addr) (c0 : Nat) (l0 : List Int) (r1 : List Int) (r2 : Int) (r3 : ByteArray) (w : World) (hr0 : Kd.C (Kd.int .u32) w A0 l0.length l0) (hc0 : l0.length ≤ c0) (h : real_number.f k s l0 = some (r1, r2, r3)) :
    CallsIn Fence.wide 9 Tryz.prog 77 #[.string s, .slice A0 l0.length c0] w fun e W' => (∃ v, Nat32 W' v r1 ∧ e = .returned (.tuple #[v, .int .i64 r2, .string r3])) ∧ Below w.heap.size w W' := by
  have H := Lib.hid h
  have HR := Lib.hid hr0
  clear h hr0
  refine callsIn_of_wp_marks Tryz.func77 rfl trivial ?_ rfl
  simp only [Tryz.ntmps77, List.size_toArray, List.length_cons, List.length_nil, Nat.reduceAdd, Nat.reduceSub, Array.replicate_succ, Array.replicate_zero, List.push_toArray, List.append_toArray, List.nil_append, List.cons_append]
  gi_wp2_with (refine ⟨trivial, ?_⟩; gi_at_call 115; refine (callsIn_wide.2 (digits_c s _)).mono ?_; rintro e w' ⟨rfl, rfl⟩)
  have hlen : l0.length + s.size < 100000000000 := by
    have h := H.out
    unfold real_number.f at h
    by_cases hl : l0.length + s.size < 100000000000
    · exact hl
    · rw [if_neg hl] at h; cases h
  have hB0 : Below w.heap.size w (((w.alloc (.cells #[Value.slice A0 l0.length c0] 87)).alloc (.cells #[Value.int IntKind.i64 0] 3)).alloc (.cells #[Value.string s] 9)) := (((Below.refl _ w).alloc (Nat.le_refl _) _).alloc (by simp only [World.size_alloc]; omega) _).alloc (by simp only [World.size_alloc]; omega) _
  obtain ⟨w0, hw0⟩ : ∃ w0, (((w.alloc (.cells #[Value.slice A0 l0.length c0] 87)).alloc (.cells #[Value.int IntKind.i64 0] 3)).alloc (.cells #[Value.string s] 9)) = w0 := ⟨_, rfl⟩
  have k0 : w0.heap[w.heap.size]? = some (.cells #[Value.slice A0 l0.length c0] 87 (0, 0)) := by
    rw [← hw0]; exact blk_alloc (blk_alloc (new_at _ _ _ rfl) _) _
  have k1 : w0.heap[w.heap.size + 1]? = some (.cells #[Value.int .i64 0] 3 (0, 0)) := by
    rw [← hw0]; exact blk_alloc (new_at _ _ _ (by simp only [World.size_alloc])) _
  have k2 : w0.heap[w.heap.size + 1 + 1]? = some (.cells #[Value.string s] 9 (0, 0)) := by
    rw [← hw0]; exact new_at _ _ _ (by simp only [World.size_alloc])
  have hs0 : w0.heap.size = w.heap.size + 1 + 1 + 1 := by rw [← hw0]; simp only [World.size_alloc]
  rw [hw0] at hB0 ⊢
  refine wpIn_rangeFunc_ownF rfl (by omega) (gf := 147) (lb := #[.pointer (some ⟨w.heap.size + 1 + 1, 0, none⟩)]) rfl trivial (enters_ Tryz.func147 (by kernel_rfl) rfl)
    (digits_stops 8 (by omega) (w.heap.size + 1 + 1) s (by omega) w0 (by omega) ((blk_cell k2 0).trans rfl)) KB_t (KB_b (by omega)) (Below.refl _ _) (fun _ => rfl)
    (fun pre W => (∃ n v, NumE pre l0 n ∧ n.length ≤ l0.length + 3 * pre.length ∧ Boxed W w.heap.size 87 v ∧ Nat32 W v n ∧ Boxed W (w.heap.size + 1) 3 (.int .i64 (pre.length : Int)) ∧ Boxed W (w.heap.size + 1 + 1) 9 (.string s)) ∧ Below w.heap.size w W)
    (fun _ _ _ => False)
    (OwnFrom.and (Own.from (fun pre A B row hs hg hr => by
      obtain ⟨n, v, h1, h2, h3, h4, h5, h6⟩ := hs
      exact ⟨n, v, h1, h2, h3.kept hg (fun e => by obtain ⟨o, ho, hc⟩ := hr _ e.symm; rw [show A.heap[w.heap.size]? = _ from h3] at ho; cases ho; cases hc), nat32_kept h4 hg hr, h5.kept hg (fun e => by obtain ⟨o, ho, hc⟩ := hr _ e.symm; rw [show A.heap[w.heap.size + 1]? = _ from h5] at ho; cases ho; cases hc), h6.kept hg (fun e => by obtain ⟨o, ho, hc⟩ := hr _ e.symm; rw [show A.heap[w.heap.size + 1 + 1]? = _ from h6] at ho; cases ho; cases hc)⟩) _) (ownFrom_below (Nat.le_refl _) (by omega)))
    (fun _ _ _ _ _ hs _ _ => hs)
    ⟨⟨l0, _, ⟨0, rfl⟩, by simp, k0, ⟨A0, c0, rfl, hc0, Kd.C_below HR.out (hB0.mono (Nat.le_refl _))⟩, k1, k2⟩, hB0⟩
    (fun x => { tmps := #[Value.string s, Value.slice A0 l0.length c0, undef, Value.pointer (some { block := w.heap.size, off := 0 }), Value.slice none 0 0, Value.int IntKind.i64 0, Value.string { data := #[] }, Value.pointer (some { block := w.heap.size + 1, off := 0 }), .int .i64 x, Value.string s, Value.func (Fn.func 147) #[] #[Value.pointer (some { block := w.heap.size + 1 + 1, off := 0 })], .int .i64 x, undef, undef, undef, undef, undef, undef, undef, undef, undef, undef, undef, undef, undef, undef], defers := [] }) ?assign ?body ?done ?stop
  case assign =>
    intro l x W K hK
    gi_wp2
    exact hK
  case body =>
    rintro l pre x W ⟨⟨n, v, hE, hn, hb0, ⟨A, c, rfl, hc, hC⟩, hb1, hb2⟩, hB⟩ hpre
    have l2 := hb2.lt
    have HBz := Lib.hid hb2
    have HE := Lib.hid hE
    have HC := Lib.hid hC
    have HBx := Lib.hid hb0
    have HBy := Lib.hid hb1
    have HBB := Lib.hid hB
    obtain ⟨k1, a, hm, ha⟩ := mul_total n [10] (by simp; omega)
    obtain ⟨k2, b, ho, hb⟩ := natOf_total (IntKind.u64.wrap x)
    obtain ⟨k3, e, hadd, he⟩ := add_total a b (n.length + 2) (by omega) (by simp at ha; omega) (by omega)
    have HM := Lib.hid (fun (W : World) (h1 : Kd.C (Kd.int .u32) W A n.length n) (A1 : Option Addr) (h2 : Kd.C (Kd.int .u32) W A1 1 [10]) => real_nat_mul.calls k1 A c n A1 1 [10] a W h1 hc h2 (Nat.le_refl _) hm)
    have HO := Lib.hid (fun (W : World) => real_natOf.calls k2 (IntKind.u64.wrap x) b W ho)
    have HA := Lib.hid hadd
    have hm' := hm
    have ho' := ho
    have c0 := hb0.cell
    have f0 := hb0.frozen
    have c1 := hb1.cell
    have f1 := hb1.frozen
    clear hE hC hm ho hadd
    replace hm' := Lib.hid hm'
    replace ho' := Lib.hid ho'
    gi_wp2_with fail
    refine ⟨trivial, CallsIn.inRound l (callsIn_wide.2 ((HM.out _ (Kd.C_below HC.out ((Below.refl _ W).alloc (Nat.le_refl _) _)) _ (one_C _ _ _)).mono ?_))⟩
    rintro e1 w1 ⟨v1, rfl, hV1, hB1⟩
    have hW1 : Below W.heap.size W w1 := ((Below.refl _ W).alloc (Nat.le_refl _) _).trans (hB1.mono (by simp))
    have hN1 := nat32_of_V hV1
    clear hV1 hB1
    gi_wp2_with fail
    refine ⟨trivial, CallsIn.inRound l (callsIn_wide.2 ((HO.out _).mono ?_))⟩
    rintro e2 w2 ⟨v2, rfl, hV2, hB2⟩
    have hW2 : Below W.heap.size W w2 := hW1.trans (hB2.mono hW1.size)
    have hN2 := nat32_of_V hV2
    have hN1' := hN1.below hB2
    clear hV2 hB2 hN1 hW1
    obtain ⟨A1, ca1, rfl, hc1, hC1⟩ := hN1'
    obtain ⟨A2, ca2, rfl, hc2, hC2⟩ := hN2
    gi_wp2_with fail
    refine ⟨trivial, CallsIn.inRound l (callsIn_wide.2 ((real_nat_add.calls k3 A1 ca1 a A2 ca2 b e w2 hC1 hc1 hC2 hc2 HA.out).mono ?_))⟩
    rintro e3 w3 ⟨v3, rfl, hV3, hB3⟩
    have hW3 : Below W.heap.size W w3 := hW2.trans (hB3.mono hW2.size)
    have hN3 := nat32_of_V hV3
    clear hV3 hB3 hW2
    obtain ⟨A3, ca3, rfl, hc3, hC3⟩ := hN3
    have b0 : w3.heap[w.heap.size]? = some (.cells #[Value.slice A n.length c] 87 (0, 0)) := blk_below HBx.out hW3
    have b1 : w3.heap[w.heap.size + 1]? = some (.cells #[Value.int .i64 (pre.length : Int)] 3 (0, 0)) := blk_below HBy.out hW3
    have q0 := (blk_cell b0 0).trans rfl
    have q1 := (blk_cell b1 0).trans rfl
    have g0 := blk_frozen b0 0
    have g1 := blk_frozen b1 0
    clear c0 f0 c1 f1
    gi_wp2
    have hN3 : Nat32 w3 (.slice A3 e.length ca3) e := ⟨A3, ca3, rfl, hc3, hC3⟩
    have t0 := heap_setCell_same w3 w.heap.size 0 _ _ (.slice A3 e.length ca3) b0
    have t1 : (w3.setCell ⟨w.heap.size, 0, none⟩ (.slice A3 e.length ca3)).heap[w.heap.size + 1]? = _ := (heap_setCell_other _ _ _ _ (by simp only; omega)).trans b1
    have u0 := (heap_setCell_other (w3.setCell ⟨w.heap.size, 0, none⟩ (.slice A3 e.length ca3)) ⟨w.heap.size + 1, 0, none⟩ w.heap.size (.int .i64 ((pre.length : Int) + 1)) (by simp only; omega)).trans t0
    have u1 := heap_setCell_same _ (w.heap.size + 1) 0 _ _ (.int .i64 ((pre.length : Int) + 1)) t1
    have u2 : ((w3.setCell ⟨w.heap.size, 0, none⟩ (.slice A3 e.length ca3)).setCell ⟨w.heap.size + 1, 0, none⟩ (.int .i64 ((pre.length : Int) + 1))).heap[w.heap.size + 1 + 1]? = W.heap[w.heap.size + 1 + 1]? :=
      (heap_setCell_other _ _ _ _ (by simp only; omega)).trans ((heap_setCell_other _ _ _ _ (by simp only; omega)).trans (hW3.block _ l2))
    refine ⟨(KeepsOthers.trans ⟨hW3.size, fun k o hk _ => (hW3.block k (Array.getElem?_eq_some_iff.1 hk).1).trans hk⟩ (KeepsOthers.setCell _ _ _)).trans (KeepsOthers.setCell _ _ _), u2, ⟨e, _, numE_snoc HE.out hm'.out ho'.out HA.out, by simp at ha ⊢; omega, u0, nat32_set (nat32_set hN3 b0 (fun _ h => by cases h)) t1 (fun _ h => by cases h), ?_, u2.trans HBz.out⟩, ((HBB.out.trans (hW3.mono HBB.out.size)).setCell (Nat.le_refl _) _).setCell (by simp only; omega) _⟩
    have hp : (((pre ++ [x]).length : Nat) : Int) = (pre.length : Int) + 1 := by simp
    rw [hp]
    exact u1
  case done =>
    rintro D ys W hD rfl ⟨⟨n, v, hE, hn, hb0, ⟨A, c, rfl, hc, hC⟩, hb1, hb2⟩, hB⟩ hK
    have hv : r1 = n ∧ r2 = ((digs s).length : Int) ∧ r3 = s.extract (digs s).length s.size := by
      have h := H.out
      unfold real_number.f at h
      rw [if_pos hlen] at h
      obtain ⟨r, h1, h2⟩ := Option.bind_eq_some_iff.mp h
      cases h2
      exact ⟨numE_only ⟨k, h1⟩ hE, rfl, rfl⟩
    obtain ⟨rfl, rfl, rfl⟩ := hv
    have hdl := digs_len s
    obtain ⟨m, hm⟩ : ∃ m, (digs s).length = m := ⟨_, rfl⟩
    rw [hm] at hb1 hdl
    have HM := Lib.hid hm
    clear hm
    have c0 := hb0.cell
    have c1 := hb1.cell
    have HX := Lib.hid (And.intro hE hC)
    clear hE hC H
    gi_wp2
    gi_region
    gi_wp2
    have hKd : W.drew.heap[D]? = some (.deferred (some [])) := hK
    refine ⟨by simp, .inl ⟨_, _, rfl, run_takeDeferred hKd, ?_⟩⟩
    have hN : Nat32 W.drew (.slice A r1.length c) r1 := ⟨A, c, rfl, hc, Kd.C_drew HX.out.2⟩
    refine ⟨_, results_tmp3 rfl _ _ _, ⟨_, nat32_kept hN (grownBy_putObj' W.drew D (.deferred none)) (fun r e => by cases e; exact ⟨_, hKd, rfl⟩), ?_⟩, (below_drew hB).trans (belowK_b (w := w) (Nat.le_refl _) W.drew D _ _ (by omega) hKd rfl rfl)⟩
    rw [HM.out]
    rfl
  case stop =>
    rintro D c pre W _ _ h _
    exact h.elim
theorem number_c (k : Nat) (s : ByteArray) (A0 : Option Addr) (c0 : Nat) (l0 : List Int) (r1 : List Int) (r2 : Int) (r3 : ByteArray) (w : World) (hr0 : Kd.C (Kd.int .u32) w A0 l0.length l0) (hc0 : l0.length ≤ c0) (h : real_number.f k s l0 = some (r1, r2, r3)) :
    Calls Tryz.prog 77 #[.string s, .slice A0 l0.length c0] w fun e W' => (∃ v, Nat32 W' v r1 ∧ e = .returned (.tuple #[v, .int .i64 r2, .string r3])) ∧ Below w.heap.size w W' :=
  (callsIn_wide (n := 9)).1 (number_in k s A0 c0 l0 r1 r2 r3 w hr0 hc0 h)
end Go.Proofs.YteigbokklclmbaaGreatDoor.Z
end
section
namespace Go.Proofs.YteigbokklclmbaaGreatDoor.Z
open Go Go.RowKit Go.Proofs.YteigbokklclmbaaGreatDoor.Given Go.Proofs.YteigbokklclmbaaGreatDoorW.PrintWords Go.Proofs.YteigbokklclmbaaGreatDoorW.PrintLast Go.Proofs.YteigbokklclmbaaGreatDoorW.PrintMore
theorem parse1_c (k : Nat) (neg : Bool) (l : List Int) (A : Option Addr) (c : Nat) (exp behind m x r1 r2 : Int) (hd : real_decimal.f k l (wrap64 (exp - behind)) = some (m, x)) (hs : real_signed.f neg m x = some (r1, r2)) (b0 b1 b2 b3 : Nat) (w : World)
    (h0 : w.heap[b0]? = some (.cells #[.bool neg] 4 (0, 0))) (h1 : w.heap[b1]? = some (.cells #[.slice A l.length c] 87 (0, 0))) (h2 : w.heap[b2]? = some (.cells #[.int .i64 exp] 3 (0, 0))) (h3 : w.heap[b3]? = some (.cells #[.int .i64 behind] 3 (0, 0)))
    (hC : Kd.C (Kd.int .u32) w A l.length l) (hc : l.length ≤ c) :
    Calls Tryz.prog 79 #[.pointer (some ⟨b0, 0, none⟩), .pointer (some ⟨b1, 0, none⟩), .pointer (some ⟨b2, 0, none⟩), .pointer (some ⟨b3, 0, none⟩)] w fun e w' => e = ending r1 r2 ∧ Below w.heap.size w w' := by
  have AS := Aside0.mk hs
  have AD := Aside0.mk hd
  have l0 := blk_lt h0
  have l1 := blk_lt h1
  have l2 := blk_lt h2
  have l3 := blk_lt h3
  have H0 := Lib.hid (blk_drew (blk_alloc h0 (.cells #[.int .i64 0, .int .i64 0] 23)))
  have H1 := Lib.hid (blk_drew (blk_alloc h1 (.cells #[.int .i64 0, .int .i64 0] 23)))
  have H2 := Lib.hid (blk_drew (blk_alloc h2 (.cells #[.int .i64 0, .int .i64 0] 23)))
  have H3 := Lib.hid (blk_drew (blk_alloc h3 (.cells #[.int .i64 0, .int .i64 0] 23)))
  have HZ := Lib.hid (blk_drew (blk_new w (.cells #[.int .i64 0, .int .i64 0] 23)))
  have HC := Lib.hid (Kd.C_drew (Kd.C_alloc hC (.cells #[.int .i64 0, .int .i64 0] 23)))
  have HB := Lib.hid (below_drew ((Below.refl w.heap.size w).alloc (Nat.le_refl _) (.cells #[.int .i64 0, .int .i64 0] 23)))
  clear h0 h1 h2 h3 hC hs hd
  go_enter Tryz.func79, Tryz.ntmps79
  go_wp2_with fail
  refine start_ (n := 8) (S := fun w' => w'.cell? ⟨b0, 0, none⟩ = some (.bool neg) ∧ w'.cell? ⟨b1, 0, none⟩ = some (.slice A l.length c) ∧ w'.cell? ⟨b2, 0, none⟩ = some (.int .i64 exp) ∧ w'.cell? ⟨b3, 0, none⟩ = some (.int .i64 behind)) (ds := []) #[ff,ff,ff,ff,ff,ff,ff,ff] (by kernel_rfl) rfl rfl ⟨(blk_cell H0.out 0).trans rfl, (blk_cell H1.out 0).trans rfl, (blk_cell H2.out 0).trans rfl, (blk_cell H3.out 0).trans rfl⟩ (fun hHeld => ?_)
  generalize (w.alloc (.cells #[.int .i64 0, .int .i64 0] 23)).drew = w5 at H0 H1 H2 H3 HZ HC HB hHeld ⊢
  refine take_ (i := 0) (N := some 5) (v := ?_) (a' := ?_) #[true, false, false, false, false, false, false, false] rfl rfl (by kernel_rfl) (fun _ _ _ h => h) (Or.inl ⟨by rfl, ?_⟩) hHeld ?_ ?_
  rotate_left
  · rintro w' ⟨s0, s1, s2, s3⟩
    go_simp
    with_reducible rfl
  rotate_left
  · simp only [Act.put, List.setIfInBounds_toArray, List.set_cons_zero, List.set_cons_succ, i64_w, i32_w]
    rfl
  refine take_ (i := 1) (N := some 6) (v := ?_) (a' := ?_) #[true, true, false, false, false, false, false, false] rfl rfl (by kernel_rfl) (fun _ _ _ h => h) (Or.inl ⟨by rfl, ?_⟩) hHeld ?_ ?_
  rotate_left
  · rintro w' ⟨s0, s1, s2, s3⟩
    go_simp
    with_reducible rfl
  rotate_left
  · simp only [Act.put, List.setIfInBounds_toArray, List.set_cons_zero, List.set_cons_succ, i64_w, i32_w]
    rfl
  refine take_ (i := 2) (N := some 7) (v := ?_) (a' := ?_) #[true, true, true, false, false, false, false, false] rfl rfl (by kernel_rfl) (fun _ _ _ h => h) (Or.inl ⟨by rfl, ?_⟩) hHeld ?_ ?_
  rotate_left
  · rintro w' ⟨s0, s1, s2, s3⟩
    go_simp
    with_reducible rfl
  rotate_left
  · simp only [Act.put, List.setIfInBounds_toArray, List.set_cons_zero, List.set_cons_succ, i64_w, i32_w]
    rfl
  refine take_ (i := 3) (N := some 8) (v := ?_) (a' := ?_) #[true, true, true, true, false, false, false, false] rfl rfl (by kernel_rfl) (fun _ _ _ h => h) (Or.inl ⟨by rfl, ?_⟩) hHeld ?_ ?_
  rotate_left
  · rintro w' ⟨s0, s1, s2, s3⟩
    go_simp
    with_reducible rfl
  rotate_left
  · simp only [Act.put, List.setIfInBounds_toArray, List.set_cons_zero, List.set_cons_succ, i64_w, i32_w]
    rfl
  refine take_ (i := 4) (N := some 9) (v := ?_) (a' := ?_) #[true, true, true, true, true, false, false, false] rfl rfl (by kernel_rfl) (fun _ _ _ h => h) (Or.inl ⟨by rfl, ?_⟩) hHeld ?_ ?_
  rotate_left
  · rintro w' ⟨s0, s1, s2, s3⟩
    go_simp
    with_reducible rfl
  rotate_left
  · simp only [Act.put, List.setIfInBounds_toArray, List.set_cons_zero, List.set_cons_succ, i64_w, i32_w]
    rfl
  refine one_ (i := 5) (N := some 10) #[true, true, true, true, true, true, false, false] rfl rfl (by kernel_rfl) (by decide) (fun K hK => ?_)
  refine goesP_ Tryz.func81 (by kernel_rfl) rfl #[.slice A l.length c, .int .i64 (wrap64 (exp - behind))] (by rfl) rfl rfl (by first | rfl | (simp only [List.map_toArray, List.map_cons, List.map_nil]; rfl)) ?_
  refine (real_decimal.calls k A c l (wrap64 (exp - behind)) m x w5 HC.out hc AD.out).mono ?_
  rintro e w9 ⟨he_, hb⟩
  clear HC
  refine ends_ he_ (fun p1_ => And.intro rfl (And.intro (code_signed AS p1_) (HB.out.trans (hb.mono HB.out.size)))) (fun hpn_ => ?_)
  replace H0 := Lib.hid (blk_below H0.out hb)
  replace H1 := Lib.hid (blk_below H1.out hb)
  replace H2 := Lib.hid (blk_below H2.out hb)
  replace H3 := Lib.hid (blk_below H3.out hb)
  replace HZ := Lib.hid (blk_below HZ.out hb)
  replace HB := Lib.hid (HB.out.trans (hb.mono HB.out.size))
  clear hb
  refine hK.out _ _ ⟨(blk_cell H0.out 0).trans rfl, (blk_cell H1.out 0).trans rfl, (blk_cell H2.out 0).trans rfl, (blk_cell H3.out 0).trans rfl⟩ (fun hHeld => ?_)
  clear hK K
  refine nrm (some 10) ?_
  refine one_ (i := 6) (N := some 11) #[true, true, true, true, true, true, true, false] rfl rfl (by kernel_rfl) (by decide) (fun K hK => ?_)
  refine goes_ Tryz.func80 (by kernel_rfl) rfl #[.bool neg, .agg #[.int .i64 m, .int .i64 x]] (by rfl) rfl rfl (by first | rfl | (simp only [List.map_toArray, List.map_cons, List.map_nil]; rfl)) ?_
  refine (real_signed.calls neg m x r1 r2 _ AS.out).mono ?_
  rintro e w10 ⟨rfl, hb⟩
  refine ⟨_, rfl, ?_⟩
  replace H0 := Lib.hid (blk_below H0.out hb)
  replace H1 := Lib.hid (blk_below H1.out hb)
  replace H2 := Lib.hid (blk_below H2.out hb)
  replace H3 := Lib.hid (blk_below H3.out hb)
  replace HZ := Lib.hid (blk_below HZ.out hb)
  replace HB := Lib.hid (HB.out.trans (hb.mono HB.out.size))
  clear hb
  refine hK.out _ _ ⟨(blk_cell H0.out 0).trans rfl, (blk_cell H1.out 0).trans rfl, (blk_cell H2.out 0).trans rfl, (blk_cell H3.out 0).trans rfl⟩ (fun hHeld => ?_)
  clear hK K
  refine nrm (some 11) ?_
  refine one_ (i := 7) (N := none) #[true, true, true, true, true, true, true, true] rfl rfl (by kernel_rfl) (by decide) (fun K hK => ?_)
  have hz := HZ.out
  have z0 : w10.cell? ⟨w.heap.size, 0, none⟩ = some (.int .i64 0) := (blk_cell hz 0).trans rfl
  have z1 : w10.cell? ⟨w.heap.size, 1, none⟩ = some (.int .i64 0) := (blk_cell hz 1).trans rfl
  have f0 := blk_frozen hz 0
  have f1 := blk_frozen hz 1
  have lz := blk_lt hz
  refine skip_ (w1 := ?_) (by rfl) rfl ?_ ?_
  rotate_left
  · go_simp
    rfl
  have ne0 : b0 ≠ w.heap.size := by omega
  have ne1 : b1 ≠ w.heap.size := by omega
  have ne2 : b2 ≠ w.heap.size := by omega
  have ne3 : b3 ≠ w.heap.size := by omega
  have far : ∀ (b : Nat) (o : Obj), b ≠ w.heap.size → w10.heap[b]? = some o → ((w10.setCell ⟨w.heap.size, 0, none⟩ (.int .i64 r1)).setCell ⟨w.heap.size, 1, none⟩ (.int .i64 r2)).heap[b]? = some o := fun b o hne h => (heap_setCell_other _ _ _ _ hne).trans ((heap_setCell_other _ _ _ _ hne).trans h)
  refine hK.out _ _ ⟨(blk_cell (far _ _ ne0 H0.out) 0).trans rfl, (blk_cell (far _ _ ne1 H1.out) 0).trans rfl, (blk_cell (far _ _ ne2 H2.out) 0).trans rfl, (blk_cell (far _ _ ne3 H3.out) 0).trans rfl⟩ (fun hHeld => ?_)
  clear hK K
  refine done_ (by kernel_rfl) ?_
  have fz := heap_setCell_same (w10.setCell ⟨w.heap.size, 0, none⟩ (.int .i64 r1)) w.heap.size 1 _ _ (.int .i64 r2) (heap_setCell_same w10 w.heap.size 0 _ _ (.int .i64 r1) hz)
  go_wp2
  refine bodyPost_ret (results_cell_row rfl _ _ w.heap.size 23 #[.int .i64 r1, .int .i64 r2] (0, 0) _ rfl fz Tryz.underlying23 rfl (by kernel_rfl)) rfl ?_
  exact ⟨(ending_at (signed_not AS hpn_)).symm, (HB.out.setCell (Nat.le_refl _) _).setCell (Nat.le_refl _) _⟩
theorem is1_c (k : Nat) (l : List Int) (A : Option Addr) (c : Nat) (exp m x : Int) (hd : real_decimal.f k l exp = some (m, x)) (b0 b1 : Nat) (w : World)
    (h0 : w.heap[b0]? = some (.cells #[.slice A l.length c] 87 (0, 0))) (h1 : w.heap[b1]? = some (.cells #[.int .i64 exp] 3 (0, 0))) (hC : Kd.C (Kd.int .u32) w A l.length l) (hc : l.length ≤ c) :
    Calls Tryz.prog 151 #[.pointer (some ⟨b0, 0, none⟩), .pointer (some ⟨b1, 0, none⟩)] w fun e w' => e = ending m x ∧ Below w.heap.size w w' := by
  have HD := Lib.hid hd
  have HC := Lib.hid (Kd.C_alloc hC (.cells #[.int .i64 0, .int .i64 0] 23))
  have c0 : w.cell? ⟨b0, 0, none⟩ = some (.slice A l.length c) := (blk_cell h0 0).trans rfl
  have c1 : w.cell? ⟨b1, 0, none⟩ = some (.int .i64 exp) := (blk_cell h1 0).trans rfl
  have l0 := blk_lt h0
  have l1 := blk_lt h1
  clear hd hC h0 h1
  by_cases hx : x = 1000
  · have e1 : ending m x = .panicked chain := by unfold ending; rw [if_pos hx]
    go_enter Tryz.func151, Tryz.ntmps151
    go_wp2_with fail
    refine (real_decimal.calls k A c l exp m x _ HC.out hc HD.out).mono ?_
    rintro e w3 ⟨rfl, hb⟩
    have hB : Below w.heap.size w w3 := ((Below.refl _ w).alloc (Nat.le_refl _) _).trans (hb.mono (by simp))
    rw [e1]
    exact ⟨rfl, by rw [e1], hB⟩
  · have e1 : ending m x = .returned (.agg #[.int .i64 m, .int .i64 x]) := ending_at hx
    rw [e1]
    go_enter Tryz.func151, Tryz.ntmps151
    go_wp2_with fail
    refine (real_decimal.calls k A c l exp m x _ HC.out hc HD.out).mono ?_
    rintro e w3 ⟨rfl, hb⟩
    have hB : Below w.heap.size w w3 := ((Below.refl _ w).alloc (Nat.le_refl _) _).trans (hb.mono (by simp))
    have hz : w3.heap[w.heap.size]? = some (.cells #[.int .i64 0, .int .i64 0] 23 (0, 0)) := blk_below (blk_new _ _) hb
    have z0 : w3.cell? ⟨w.heap.size, 0, none⟩ = some (.int .i64 0) := (blk_cell hz 0).trans rfl
    have z1 : w3.cell? ⟨w.heap.size, 1, none⟩ = some (.int .i64 0) := (blk_cell hz 1).trans rfl
    have f0 := blk_frozen hz 0
    have f1 := blk_frozen hz 1
    have lz := blk_lt hz
    clear hb
    rw [e1]
    go_wp2
    have fz : (((w3.setCell ⟨w.heap.size, 0, none⟩ (.int .i64 m)).setCell ⟨w.heap.size, 1, none⟩ (.int .i64 x))).heap[w.heap.size]? = some (.cells #[.int .i64 m, .int .i64 x] 23 (0, 0)) := heap_setCell_same (w3.setCell ⟨w.heap.size, 0, none⟩ (.int .i64 m)) w.heap.size 1 _ _ (.int .i64 x) (heap_setCell_same w3 w.heap.size 0 _ _ (.int .i64 m) hz)
    refine bodyPost_ret (results_cell_row rfl _ _ w.heap.size 23 #[.int .i64 m, .int .i64 x] (0, 0) _ rfl fz Tryz.underlying23 rfl (by kernel_rfl)) rfl ?_
    exact ⟨rfl, (hB.setCell (Nat.le_refl _) _).setCell (Nat.le_refl _) _⟩
theorem is1_n (k : Nat) (l : List Int) (A : Option Addr) (c : Nat) (exp m x : Int) (hd : real_decimal.f k l exp = some (m, x)) (b0 b1 : Nat) (w : World)
    (h0 : w.heap[b0]? = some (.cells #[.slice A l.length c] 87 (0, 0))) (h1 : w.heap[b1]? = some (.cells #[.int .i64 exp] 3 (0, 0))) (hN : Nat32 w (.slice A l.length c) l) :
    Calls Tryz.prog 151 #[.pointer (some ⟨b0, 0, none⟩), .pointer (some ⟨b1, 0, none⟩)] w fun e w' => e = ending m x ∧ Below w.heap.size w w' := by
  obtain ⟨A', c', heq, hc, hC⟩ := hN
  cases heq
  exact is1_c k l A c exp m x hd b0 b1 w h0 h1 hC hc
def real_is.f (k : Nat) (l0 : List Int) (a1 a2_0 a2_1 : Int) : Option Bool := (real_decimal.f k l0 a1).bind fun d => if (caughtS d.1 d.2).2.2 = 0 then some ((caughtS d.1 d.2).1 == a2_0 && ((caughtS d.1 d.2).2.1 == a2_1)) else some false
theorem real_is.mono (a0 : List Int) (a1 a2 a3 : Int) (k : Nat) : LeO (real_is.f k a0 a1 a2 a3) (real_is.f (k + 1) a0 a1 a2 a3) := LeO.bind (real_decimal.mono _ _ _) (fun _ => LeO.refl _)
theorem real_is.calls (k : Nat) (A0 : Option Addr) (c0 : Nat) (l0 : List Int) (a1 a2_0 a2_1 : Int) (r : Bool) (w : World) (hr0 : Kd.C (Kd.int .u32) w A0 l0.length l0) (hc0 : l0.length ≤ c0) (h : real_is.f k l0 a1 a2_0 a2_1 = some r) :
    Calls Tryz.prog 125 #[.slice A0 l0.length c0, .int .i64 a1, .agg #[.int .i64 a2_0, .int .i64 a2_1]] w fun e w' => e = .returned (.bool r) ∧ Below w.heap.size w w' := by
  obtain ⟨⟨m, x⟩, hd, h⟩ := Option.bind_eq_some_iff.mp h
  rcases hcs : caughtS m x with ⟨t0, t1, t2⟩
  simp only [hcs] at h
  have HD := Lib.hid hd
  have HT := Lib.hid hcs
  have HN := Lib.hid (show Nat32 w (.slice A0 l0.length c0) l0 from ⟨A0, c0, rfl, hc0, hr0⟩)
  have HB := Lib.hid (Below.refl w.heap.size w)
  clear hd hr0 hcs
  have hmf : ∀ (fn : Fn) (first cap : Array Value) (w : World), (Instr.makeFunc fn first cap).run Tryz.prog w = .ok (.func fn first cap) w := fun _ _ _ _ => rfl
  by_cases ht : t2 = 0
  · rw [if_pos ht] at h
    cases h
    have hq : (t2 == 0) = true := by simp [ht]
    clear ht
    go_enter Tryz.func125, Tryz.ntmps125
    go_wp2_with fail
    refine (caught_t 151 _ m x t0 t1 t2 HT.out _ (fun args w => enters_ Tryz.func151 (by kernel_rfl) rfl args w) (fun w' h' => is1_n k l0 A0 c0 a1 m x HD.out _ _ w' (blk_below (blk_alloc (blk_alloc (new_at _ _ (w.heap.size) oz) _) _) h') (blk_below (blk_alloc (new_at _ _ (w.heap.size + 1) oz) _) h') (((((HN.out).below ((Below.refl _ _).alloc (Nat.le_refl _) _)).below ((Below.refl _ _).alloc (Nat.le_refl _) _)).below ((Below.refl _ _).alloc (Nat.le_refl _) _)).below h'))).mono ?_
    rintro e w1 ⟨rfl, hb⟩
    have nQ := Lib.hid (blk_below (blk_alloc (blk_alloc (new_at _ _ (w.heap.size) oz) _) _) hb)
    have nE := Lib.hid (blk_below (blk_alloc (new_at _ _ (w.heap.size + 1) oz) _) hb)
    have nX := Lib.hid (blk_below (new_at _ _ (w.heap.size + 1 + 1) oz) hb)
    have nN := Lib.hid (((((HN.out).below ((Below.refl _ _).alloc (Nat.le_refl _) _)).below ((Below.refl _ _).alloc (Nat.le_refl _) _)).below ((Below.refl _ _).alloc (Nat.le_refl _) _)).below hb)
    have nB := Lib.hid (((((HB.out).alloc oz _).alloc oz _).alloc oz _).trans (hb.mono oz))
    have hs1 := hb.size
    try simp only [World.size_alloc, World.size_setCell] at hs1
    clear HB HN
    have HQ := nQ
    have HE := nE
    have HX := nX
    have HN := nN
    have HB := nB
    clear nB nQ nE nX nN
    clear hb
    have cQ0 : w1.cell? ⟨w.heap.size, 0, none⟩ = some (.slice A0 l0.length c0) := (blk_cell HQ.out 0).trans rfl
    have fQ0 := blk_frozen HQ.out 0
    have lQ1 := blk_lt HQ.out
    have cE0 : w1.cell? ⟨w.heap.size + 1, 0, none⟩ = some (.int .i64 a1) := (blk_cell HE.out 0).trans rfl
    have fE0 := blk_frozen HE.out 0
    have lE1 := blk_lt HE.out
    have cX0 : w1.cell? ⟨w.heap.size + 1 + 1, 0, none⟩ = some (Value.int .i64 a2_0) := (blk_cell HX.out 0).trans rfl
    have fX0 := blk_frozen HX.out 0
    have cX1 : w1.cell? ⟨w.heap.size + 1 + 1, 1, none⟩ = some (Value.int .i64 a2_1) := (blk_cell HX.out 1).trans rfl
    have fX1 := blk_frozen HX.out 1
    have lX1 := blk_lt HX.out
    go_wp2
    all_goals (go_ret; exact ⟨by first | rfl | (simp_all; done) | (simp [*]; done), (HB.out).alloc oz _⟩)
  · rw [if_neg ht] at h
    cases h
    have hq : (t2 == 0) = false := by simp [ht]
    clear ht
    go_enter Tryz.func125, Tryz.ntmps125
    go_wp2_with fail
    refine (caught_t 151 _ m x t0 t1 t2 HT.out _ (fun args w => enters_ Tryz.func151 (by kernel_rfl) rfl args w) (fun w' h' => is1_n k l0 A0 c0 a1 m x HD.out _ _ w' (blk_below (blk_alloc (blk_alloc (new_at _ _ (w.heap.size) oz) _) _) h') (blk_below (blk_alloc (new_at _ _ (w.heap.size + 1) oz) _) h') (((((HN.out).below ((Below.refl _ _).alloc (Nat.le_refl _) _)).below ((Below.refl _ _).alloc (Nat.le_refl _) _)).below ((Below.refl _ _).alloc (Nat.le_refl _) _)).below h'))).mono ?_
    rintro e w1 ⟨rfl, hb⟩
    have nQ := Lib.hid (blk_below (blk_alloc (blk_alloc (new_at _ _ (w.heap.size) oz) _) _) hb)
    have nE := Lib.hid (blk_below (blk_alloc (new_at _ _ (w.heap.size + 1) oz) _) hb)
    have nX := Lib.hid (blk_below (new_at _ _ (w.heap.size + 1 + 1) oz) hb)
    have nN := Lib.hid (((((HN.out).below ((Below.refl _ _).alloc (Nat.le_refl _) _)).below ((Below.refl _ _).alloc (Nat.le_refl _) _)).below ((Below.refl _ _).alloc (Nat.le_refl _) _)).below hb)
    have nB := Lib.hid (((((HB.out).alloc oz _).alloc oz _).alloc oz _).trans (hb.mono oz))
    have hs1 := hb.size
    try simp only [World.size_alloc, World.size_setCell] at hs1
    clear HB HN
    have HQ := nQ
    have HE := nE
    have HX := nX
    have HN := nN
    have HB := nB
    clear nB nQ nE nX nN
    clear hb
    have cQ0 : w1.cell? ⟨w.heap.size, 0, none⟩ = some (.slice A0 l0.length c0) := (blk_cell HQ.out 0).trans rfl
    have fQ0 := blk_frozen HQ.out 0
    have lQ1 := blk_lt HQ.out
    have cE0 : w1.cell? ⟨w.heap.size + 1, 0, none⟩ = some (.int .i64 a1) := (blk_cell HE.out 0).trans rfl
    have fE0 := blk_frozen HE.out 0
    have lE1 := blk_lt HE.out
    have cX0 : w1.cell? ⟨w.heap.size + 1 + 1, 0, none⟩ = some (Value.int .i64 a2_0) := (blk_cell HX.out 0).trans rfl
    have fX0 := blk_frozen HX.out 0
    have cX1 : w1.cell? ⟨w.heap.size + 1 + 1, 1, none⟩ = some (Value.int .i64 a2_1) := (blk_cell HX.out 1).trans rfl
    have fX1 := blk_frozen HX.out 1
    have lX1 := blk_lt HX.out
    go_wp2
    all_goals (go_ret; exact ⟨by first | rfl | (simp_all; done) | (simp [*]; done), (HB.out).alloc oz _⟩)
end Go.Proofs.YteigbokklclmbaaGreatDoor.Z
end
section
namespace Go.Proofs.YteigbokklclmbaaGreatDoor.Z
open Go.RowKit Go.Proofs.YteigbokklclmbaaGreatDoor.Given Go.Proofs.YteigbokklclmbaaGreatDoorW.PrintWords Go.Proofs.YteigbokklclmbaaGreatDoorW.PrintLast Go.Proofs.YteigbokklclmbaaGreatDoorW.PrintMore
attribute [local go_sem] max2_int min2_int max_two min_two max_three min_three max_four min_four

mutual
def real_shortest.l0 : Nat → List Int → Int → Int → Int → Option (ByteArray × Int)
 | 0, _, _, _, _ => none
 | k + 1, x4, x5, x379000, x379001 => (real_scaled.f k x4 x379001 (wrap64 (-x5))).bind fun bt382 => ((real_nat_cmp.f k bt382.1 bt382.2).bind fun t388 => (if t388 < 0 then (real_shortest.l1 k x4 x5 1 x379000 x379001) else (real_shortest.l0 k x4 (wrap64 (x5 + 1)) x379000 x379001)))
def real_shortest.l1 : Nat → List Int → Int → Int → Int → Int → Option (ByteArray × Int)
 | 0, _, _, _, _, _ => none
 | k + 1, x4, x5, x8, x379000, x379001 => (real_scaled.f k x4 x379001 (wrap64 (x8 - x5))).bind fun bt389 => ((real_nat_div.f k bt389.1 bt389.2).bind fun bt395 => ((real_nat_add.f k bt395.1 (([1] : List Int))).bind fun t404 => ((real_is.f k bt395.1 (wrap64 (x5 - x8)) x379000 x379001).bind fun t407 => ((real_is.f k t404 (wrap64 (x5 - x8)) x379000 x379001).bind fun t408 => (if t407 = true then (real_shortest.j2 k x4 x5 x8 bt389.2 bt395.1 bt395.2 t404 t407 t408 false x379000 x379001) else (real_shortest.j2 k x4 x5 x8 bt389.2 bt395.1 bt395.2 t404 t407 t408 (!t408) x379000 x379001))))))
def real_shortest.j2 : Nat → List Int → Int → Int → List Int → List Int → List Int → List Int → Bool → Bool → Bool → Int → Int → Option (ByteArray × Int)
 | 0, _, _, _, _, _, _, _, _, _, _, _, _ => none
 | k + 1, x4, x5, x8, x10, x11, x12, x13, x14, x15, x75, x379000, x379001 => if x75 = true then (real_shortest.l1 k x4 x5 (wrap64 (x8 + 1)) x379000 x379001) else ((real_nat_shl.f k x12 1).bind fun t409 => ((real_nat_cmp.f k t409 x10).bind fun t412 => (if x14 = true then (if x15 = true then (if t412 > 0 then (real_shortest.j3 k x5 x8 x13 x11 true) else (if t412 = 0 then ((real_nat_small.f k x11).bind fun t413 => (real_shortest.j3 k x5 x8 x13 x11 ((Int.tmod t413 2) == 1))) else (real_shortest.j3 k x5 x8 x13 x11 false))) else (real_shortest.j3 k x5 x8 x13 x11 false)) else (real_shortest.j3 k x5 x8 x13 x11 true))))
def real_shortest.j3 : Nat → Int → Int → List Int → List Int → Bool → Option (ByteArray × Int)
 | 0, _, _, _, _, _ => none
 | k + 1, x5, x8, x13, x16, x99 => if x99 = true then (real_shortest.j4 k x5 x8 x13) else (real_shortest.j4 k x5 x8 x16)
def real_shortest.j4 : Nat → Int → Int → List Int → Option (ByteArray × Int)
 | 0, _, _, _ => none
 | k + 1, x5, x8, x16 => (real_nat_small.f k x16).bind fun t414 => ((strconv_FormatUint.f t414 10).bind fun t415 => ((strings_TrimRight.f t415 (⟨#[48]⟩ : ByteArray)).bind fun t416 => (some (t416, wrap64 ((wrap64 (x5 + (t415.size : Int))) - x8)))))
end
def real_shortest.f (k : Nat) (a0_0 : Int) (a0_1 : Int) : Option (ByteArray × Int) := (real_magnitude.f k a0_0).bind fun t379 => (real_shortest.l0 k t379 (-60) a0_0 a0_1)
theorem real_shortest.mono_l : ∀ k, (∀ y0 y1 y2 y3, LeO (real_shortest.l0 k y0 y1 y2 y3) (real_shortest.l0 (k + 1) y0 y1 y2 y3)) ∧ (∀ y0 y1 y2 y3 y4, LeO (real_shortest.l1 k y0 y1 y2 y3 y4) (real_shortest.l1 (k + 1) y0 y1 y2 y3 y4)) ∧ (∀ y0 y1 y2 y3 y4 y5 y6 y7 y8 y9 y10 y11, LeO (real_shortest.j2 k y0 y1 y2 y3 y4 y5 y6 y7 y8 y9 y10 y11) (real_shortest.j2 (k + 1) y0 y1 y2 y3 y4 y5 y6 y7 y8 y9 y10 y11)) ∧ (∀ y0 y1 y2 y3 y4, LeO (real_shortest.j3 k y0 y1 y2 y3 y4) (real_shortest.j3 (k + 1) y0 y1 y2 y3 y4)) ∧ (∀ y0 y1 y2, LeO (real_shortest.j4 k y0 y1 y2) (real_shortest.j4 (k + 1) y0 y1 y2))
 | 0 => ⟨fun _ _ _ _ r h => by simp [real_shortest.l0] at h, fun _ _ _ _ _ r h => by simp [real_shortest.l1] at h, fun _ _ _ _ _ _ _ _ _ _ _ _ r h => by simp [real_shortest.j2] at h, fun _ _ _ _ _ r h => by simp [real_shortest.j3] at h, fun _ _ _ r h => by simp [real_shortest.j4] at h⟩
 | k + 1 => by
  obtain ⟨ih0, ih1, ih2, ih3, ih4⟩ := real_shortest.mono_l k
  refine ⟨?_, ?_, ?_, ?_, ?_⟩
  ·intro y0 y1 y2 y3
   unfold real_shortest.l0
   repeat' first
   | (with_reducible exact ih0 _ _ _ _)
   | (with_reducible exact ih1 _ _ _ _ _)
   | (with_reducible exact ih2 _ _ _ _ _ _ _ _ _ _ _ _)
   | (with_reducible exact ih3 _ _ _ _ _)
   | (with_reducible exact ih4 _ _ _)
   | (with_reducible exact real_is.mono _ _ _ _ _)
   | (with_reducible exact real_magnitude.mono _ _)
   | (with_reducible exact real_nat_add.mono _ _ _)
   | (with_reducible exact real_nat_cmp.mono _ _ _)
   | (with_reducible exact real_nat_div.mono _ _ _)
   | (with_reducible exact real_nat_shl.mono _ _ _)
   | (with_reducible exact real_nat_small.mono _ _)
   | (with_reducible exact real_scaled.mono _ _ _ _)
   | (with_reducible exact LeO.refl _)
   | (with_reducible exact LeO.none _)
   | (with_reducible refine LeO.ite ?_ ?_)
   | (with_reducible refine LeO.bind ?_ (fun _ => ?_))
   | exact ih0 _ _ _ _
   | exact ih1 _ _ _ _ _
   | exact ih2 _ _ _ _ _ _ _ _ _ _ _ _
   | exact ih3 _ _ _ _ _
   | exact ih4 _ _ _
   | exact real_is.mono _ _ _ _ _
   | exact real_magnitude.mono _ _
   | exact real_nat_add.mono _ _ _
   | exact real_nat_cmp.mono _ _ _
   | exact real_nat_div.mono _ _ _
   | exact real_nat_shl.mono _ _ _
   | exact real_nat_small.mono _ _
   | exact real_scaled.mono _ _ _ _
   | exact LeO.none _
   | refine LeO.ite ?_ ?_
   | refine LeO.bind ?_ (fun _ => ?_)
  ·intro y0 y1 y2 y3 y4
   unfold real_shortest.l1
   repeat' first
   | (with_reducible exact ih0 _ _ _ _)
   | (with_reducible exact ih1 _ _ _ _ _)
   | (with_reducible exact ih2 _ _ _ _ _ _ _ _ _ _ _ _)
   | (with_reducible exact ih3 _ _ _ _ _)
   | (with_reducible exact ih4 _ _ _)
   | (with_reducible exact real_is.mono _ _ _ _ _)
   | (with_reducible exact real_magnitude.mono _ _)
   | (with_reducible exact real_nat_add.mono _ _ _)
   | (with_reducible exact real_nat_cmp.mono _ _ _)
   | (with_reducible exact real_nat_div.mono _ _ _)
   | (with_reducible exact real_nat_shl.mono _ _ _)
   | (with_reducible exact real_nat_small.mono _ _)
   | (with_reducible exact real_scaled.mono _ _ _ _)
   | (with_reducible exact LeO.refl _)
   | (with_reducible exact LeO.none _)
   | (with_reducible refine LeO.ite ?_ ?_)
   | (with_reducible refine LeO.bind ?_ (fun _ => ?_))
   | exact ih0 _ _ _ _
   | exact ih1 _ _ _ _ _
   | exact ih2 _ _ _ _ _ _ _ _ _ _ _ _
   | exact ih3 _ _ _ _ _
   | exact ih4 _ _ _
   | exact real_is.mono _ _ _ _ _
   | exact real_magnitude.mono _ _
   | exact real_nat_add.mono _ _ _
   | exact real_nat_cmp.mono _ _ _
   | exact real_nat_div.mono _ _ _
   | exact real_nat_shl.mono _ _ _
   | exact real_nat_small.mono _ _
   | exact real_scaled.mono _ _ _ _
   | exact LeO.none _
   | refine LeO.ite ?_ ?_
   | refine LeO.bind ?_ (fun _ => ?_)
  ·intro y0 y1 y2 y3 y4 y5 y6 y7 y8 y9 y10 y11
   unfold real_shortest.j2
   repeat' first
   | (with_reducible exact ih0 _ _ _ _)
   | (with_reducible exact ih1 _ _ _ _ _)
   | (with_reducible exact ih2 _ _ _ _ _ _ _ _ _ _ _ _)
   | (with_reducible exact ih3 _ _ _ _ _)
   | (with_reducible exact ih4 _ _ _)
   | (with_reducible exact real_is.mono _ _ _ _ _)
   | (with_reducible exact real_magnitude.mono _ _)
   | (with_reducible exact real_nat_add.mono _ _ _)
   | (with_reducible exact real_nat_cmp.mono _ _ _)
   | (with_reducible exact real_nat_div.mono _ _ _)
   | (with_reducible exact real_nat_shl.mono _ _ _)
   | (with_reducible exact real_nat_small.mono _ _)
   | (with_reducible exact real_scaled.mono _ _ _ _)
   | (with_reducible exact LeO.refl _)
   | (with_reducible exact LeO.none _)
   | (with_reducible refine LeO.ite ?_ ?_)
   | (with_reducible refine LeO.bind ?_ (fun _ => ?_))
   | exact ih0 _ _ _ _
   | exact ih1 _ _ _ _ _
   | exact ih2 _ _ _ _ _ _ _ _ _ _ _ _
   | exact ih3 _ _ _ _ _
   | exact ih4 _ _ _
   | exact real_is.mono _ _ _ _ _
   | exact real_magnitude.mono _ _
   | exact real_nat_add.mono _ _ _
   | exact real_nat_cmp.mono _ _ _
   | exact real_nat_div.mono _ _ _
   | exact real_nat_shl.mono _ _ _
   | exact real_nat_small.mono _ _
   | exact real_scaled.mono _ _ _ _
   | exact LeO.none _
   | refine LeO.ite ?_ ?_
   | refine LeO.bind ?_ (fun _ => ?_)
  ·intro y0 y1 y2 y3 y4
   unfold real_shortest.j3
   repeat' first
   | (with_reducible exact ih0 _ _ _ _)
   | (with_reducible exact ih1 _ _ _ _ _)
   | (with_reducible exact ih2 _ _ _ _ _ _ _ _ _ _ _ _)
   | (with_reducible exact ih3 _ _ _ _ _)
   | (with_reducible exact ih4 _ _ _)
   | (with_reducible exact real_is.mono _ _ _ _ _)
   | (with_reducible exact real_magnitude.mono _ _)
   | (with_reducible exact real_nat_add.mono _ _ _)
   | (with_reducible exact real_nat_cmp.mono _ _ _)
   | (with_reducible exact real_nat_div.mono _ _ _)
   | (with_reducible exact real_nat_shl.mono _ _ _)
   | (with_reducible exact real_nat_small.mono _ _)
   | (with_reducible exact real_scaled.mono _ _ _ _)
   | (with_reducible exact LeO.refl _)
   | (with_reducible exact LeO.none _)
   | (with_reducible refine LeO.ite ?_ ?_)
   | (with_reducible refine LeO.bind ?_ (fun _ => ?_))
   | exact ih0 _ _ _ _
   | exact ih1 _ _ _ _ _
   | exact ih2 _ _ _ _ _ _ _ _ _ _ _ _
   | exact ih3 _ _ _ _ _
   | exact ih4 _ _ _
   | exact real_is.mono _ _ _ _ _
   | exact real_magnitude.mono _ _
   | exact real_nat_add.mono _ _ _
   | exact real_nat_cmp.mono _ _ _
   | exact real_nat_div.mono _ _ _
   | exact real_nat_shl.mono _ _ _
   | exact real_nat_small.mono _ _
   | exact real_scaled.mono _ _ _ _
   | exact LeO.none _
   | refine LeO.ite ?_ ?_
   | refine LeO.bind ?_ (fun _ => ?_)
  ·intro y0 y1 y2
   unfold real_shortest.j4
   repeat' first
   | (with_reducible exact ih0 _ _ _ _)
   | (with_reducible exact ih1 _ _ _ _ _)
   | (with_reducible exact ih2 _ _ _ _ _ _ _ _ _ _ _ _)
   | (with_reducible exact ih3 _ _ _ _ _)
   | (with_reducible exact ih4 _ _ _)
   | (with_reducible exact real_is.mono _ _ _ _ _)
   | (with_reducible exact real_magnitude.mono _ _)
   | (with_reducible exact real_nat_add.mono _ _ _)
   | (with_reducible exact real_nat_cmp.mono _ _ _)
   | (with_reducible exact real_nat_div.mono _ _ _)
   | (with_reducible exact real_nat_shl.mono _ _ _)
   | (with_reducible exact real_nat_small.mono _ _)
   | (with_reducible exact real_scaled.mono _ _ _ _)
   | (with_reducible exact LeO.refl _)
   | (with_reducible exact LeO.none _)
   | (with_reducible refine LeO.ite ?_ ?_)
   | (with_reducible refine LeO.bind ?_ (fun _ => ?_))
   | exact ih0 _ _ _ _
   | exact ih1 _ _ _ _ _
   | exact ih2 _ _ _ _ _ _ _ _ _ _ _ _
   | exact ih3 _ _ _ _ _
   | exact ih4 _ _ _
   | exact real_is.mono _ _ _ _ _
   | exact real_magnitude.mono _ _
   | exact real_nat_add.mono _ _ _
   | exact real_nat_cmp.mono _ _ _
   | exact real_nat_div.mono _ _ _
   | exact real_nat_shl.mono _ _ _
   | exact real_nat_small.mono _ _
   | exact real_scaled.mono _ _ _ _
   | exact LeO.none _
   | refine LeO.ite ?_ ?_
   | refine LeO.bind ?_ (fun _ => ?_)
theorem real_shortest.mono : ∀ a0 a1 k, LeO (real_shortest.f k a0 a1) (real_shortest.f (k + 1) a0 a1) := by
 intro a0 a1 k
 obtain ⟨ih0, ih1, ih2, ih3, ih4⟩ := real_shortest.mono_l k
 unfold real_shortest.f
 repeat' first
   | (with_reducible exact ih0 _ _ _ _)
   | (with_reducible exact ih1 _ _ _ _ _)
   | (with_reducible exact ih2 _ _ _ _ _ _ _ _ _ _ _ _)
   | (with_reducible exact ih3 _ _ _ _ _)
   | (with_reducible exact ih4 _ _ _)
   | (with_reducible exact real_is.mono _ _ _ _ _)
   | (with_reducible exact real_magnitude.mono _ _)
   | (with_reducible exact real_nat_add.mono _ _ _)
   | (with_reducible exact real_nat_cmp.mono _ _ _)
   | (with_reducible exact real_nat_div.mono _ _ _)
   | (with_reducible exact real_nat_shl.mono _ _ _)
   | (with_reducible exact real_nat_small.mono _ _)
   | (with_reducible exact real_scaled.mono _ _ _ _)
   | (with_reducible exact LeO.refl _)
   | (with_reducible exact LeO.none _)
   | (with_reducible refine LeO.ite ?_ ?_)
   | (with_reducible refine LeO.bind ?_ (fun _ => ?_))
   | exact ih0 _ _ _ _
   | exact ih1 _ _ _ _ _
   | exact ih2 _ _ _ _ _ _ _ _ _ _ _ _
   | exact ih3 _ _ _ _ _
   | exact ih4 _ _ _
   | exact real_is.mono _ _ _ _ _
   | exact real_magnitude.mono _ _
   | exact real_nat_add.mono _ _ _
   | exact real_nat_cmp.mono _ _ _
   | exact real_nat_div.mono _ _ _
   | exact real_nat_shl.mono _ _ _
   | exact real_nat_small.mono _ _
   | exact real_scaled.mono _ _ _ _
   | exact LeO.none _
   | refine LeO.ite ?_ ?_
   | refine LeO.bind ?_ (fun _ => ?_)
def real_shortest.T11 : Bool × List (List Nat × List Nat) := (true, [([], []), ([], []), ([], []), ([1, 2], [1, 2]), ([], []), ([0, 3, 4], [0, 3, 4]), ([], []), ([], []), ([], []), ([7, 8], [7, 8]), ([], []), ([6, 9, 10, 5], [6, 9, 10]), ([5, 11, 0, 1, 2, 3, 4, 5], [5]), ([11, 12, 0, 1, 2, 3, 4, 5, 6, 7, 8, 9, 10, 11, 12], [11])])
def real_shortest.B11 : List Nat := [0, 0, 0, 6, 0, 31, 0, 0, 0, 384, 0, 2047, 4095, 8191]
theorem real_shortest.tab11 : rtab .any (opsOf Tryz.f89 11) = real_shortest.T11 := by kernel_rfl
theorem real_shortest.bits11 : waitsOk real_shortest.T11.2 real_shortest.B11 = true := by kernel_rfl
theorem real_shortest.calls (k : Nat) (a0_0 : Int) (a0_1 : Int) (r1 : ByteArray) (r2 : Int) (w : World) (h : real_shortest.f k a0_0 a0_1 = some (r1, r2)) (ht : Table w) :
  Calls Tryz.prog 89 #[.agg #[.int .i64 a0_0, .int .i64 a0_1]] w fun e w' => e = .returned (.tuple #[.string r1, .int .i64 r2]) ∧ Below w.heap.size w w' := by
 have hu23 := Tryz.underlying23
 have HB := Aside0.mk (Below.refl w.heap.size w)
 have HT := Aside0.mk (Lib.tabBelow_of_tabIs ht)
 clear ht
 have H := h; unfold real_shortest.f at H; clear h
 replace H := Option.bind_eq_some_iff.mp H
 obtain ⟨t379, A20, H⟩ := H
 try dsimp only at H
 have A2 := Aside0.mk A20
 clear A20
 have H' := Aside0.mk H
 clear H
 go_enter Tryz.func89, Tryz.ntmps89
 go_wp2_with (first | ((with_reducible refine gate_dst (N := 1) rfl ?_); refine bxe 1 #[.int .i64 a0_0, .int .i64 a0_1] 23 ?_; intro gb378 hg w3 hbox hb; have BK378 := Aside0.mk hbox; have GW378 := ge hg; have GE378 := ge hg; replace HB := bs hb; clear hb hbox hg; have hcz4_0 := c20 BK378; have hcz4_1 := c21 BK378; have hfz4_0 := blk_frozen BK378.out 0; have hfz4_1 := blk_frozen BK378.out 1) | ((with_reducible refine gate_callee (f := 113) rfl ?_); refine gL 21 Tryz.func113 #[.int .i64 a0_0] ?_; (with_reducible refine (real_magnitude.calls k a0_0 t379 _ A2.out).mono ?_); rintro e w5 ⟨v380, rfl, ho0, hb⟩; refine ⟨_, rfl, ?_⟩; have HO381 := Aside0.mk (Kd.V_lower (Kd.V_mono (ok' := fun k_ => k_ ≠ gb378) ho0 (fun k_ hk_ => (fb BK378 k_ hk_))) (below_size bz)); replace BK378 := kb BK378 hb; replace HB := bs hb; (try clear hb); (try clear hk); (try clear ho0)))
 go_loopg [5] k (fun kq v5 w' => ∃ (x5_1 : Int), v5 = .int .i64 x5_1 ∧ Aside0 (real_shortest.l0 kq t379 x5_1 a0_0 a0_1 = some (r1, r2)) ∧ Aside0 (kq ≤ k) ∧ Aside0 (Kd.V (Kd.int .u32) 115 w' w.heap.size (fun k_ => k_ ≠ gb378) v380 t379) ∧ Aside0 (w'.heap[gb378]? = some (.cells #[.int .i64 a0_0, .int .i64 a0_1] 23 (0, 0))) ∧ Aside0 (Below w.heap.size w w'))
 case atStart => exact ⟨((-60)), (by first | rfl | (simp; done) | (simp [*]; done)), H', ⟨Nat.le_refl _⟩, ⟨vz HO381⟩, ⟨kz BK378⟩, ⟨bz⟩⟩
 case round =>
  clear H'
  try clear hcz4_0
  try clear hcz4_1
  try clear hfz4_0
  try clear hfz4_1
  obtain ⟨x5_1, rfl, HA, HK1, HO_4, BK378, HB⟩ := hrel
  cases gk with
  | zero => exact absurd HA.out (by simp [real_shortest.l0])
  | succ k1 =>
   have H := HA.out
   clear HA
   simp only [real_shortest.l0] at H
   replace H := Option.bind_eq_some_iff.mp H
   obtain ⟨⟨t382, t385⟩, A60, H⟩ := H
   try dsimp only at H
   have A6 := Aside0.mk A60
   clear A60
   replace H := Option.bind_eq_some_iff.mp H
   obtain ⟨t388, A70, H⟩ := H
   try dsimp only at H
   have A7 := Aside0.mk A70
   clear A70
   by_cases c8 : t388 < 0
   ·rw [if_pos c8] at H
    have c8b0 : decide (t388 < 0) = true := decide_eq_true c8
    clear c8
    have H' := Aside0.mk H
    clear H
    have hcz9_0 := c20 BK378
    have hcz9_1 := c21 BK378
    have hfz9_0 := blk_frozen BK378.out 0
    have hfz9_1 := blk_frozen BK378.out 1
    obtain ⟨Ao10, co10, eo10⟩ := Kd.V_slice HO_4.out
    subst eo10
    go_wp2_with (first | ((with_reducible refine gate_callee (f := 122) rfl ?_); refine gL 28 Tryz.func122 #[.slice Ao10 t379.length co10, .int .i64 a0_1, .int .i64 (wrap64 (-x5_1))] ?_; (with_reducible refine (real_scaled.calls k1 (fun k_ => k_ ≠ gb378) _ _ t379 a0_1 (wrap64 (-x5_1)) t382 t385 _ ?side1 A6.out).mono ?_); (case side1 => exact HO_4.out); rintro e w11 ⟨v383, v386, rfl, ho0, ho1, hb⟩; refine ⟨_, rfl, ?_⟩; have HO384 := Aside0.mk (Kd.V_lower (Kd.V_mono (ok' := fun k_ => k_ ≠ gb378) ho0 (fun k_ hk_ => Or.elim hk_ (fun hs_ => hs_) (fun hn_ => (fb BK378 k_ hn_)))) (below_size bz)); have HO387 := Aside0.mk (Kd.V_lower (Kd.V_mono (ok' := fun k_ => k_ ≠ gb378) ho1 (fun k_ hk_ => Or.elim hk_ (fun hs_ => hs_) (fun hn_ => (fb BK378 k_ hn_)))) (below_size bz)); replace HO_4 := vb HO_4 hb; replace BK378 := kb BK378 hb; replace HB := bs hb; (try clear hb); (try clear hk); (try clear ho0); (try clear ho1); obtain ⟨Ao12, co12, eo12⟩ := Kd.V_slice HO384.out; subst eo12; obtain ⟨Ao13, co13, eo13⟩ := Kd.V_slice HO387.out; subst eo13) | ((with_reducible refine gate_callee (f := 123) rfl ?_); refine gL 33 Tryz.func123 #[.slice Ao12 t382.length co12, .slice Ao13 t385.length co13] ?_; (with_reducible refine (real_nat_cmp.calls k1 _ _ t382 _ _ t385 t388 _ ?side1 ?side2 ?side3 ?side4 A7.out).mono ?_); (case side1 => exact ccz (Kd.V_reads' HO384.out).2.2); (case side2 => exact (Kd.V_reads' HO384.out).2.1); (case side3 => exact ccz (Kd.V_reads' HO387.out).2.2); (case side4 => exact (Kd.V_reads' HO387.out).2.1); rintro e w' ⟨rfl, ⟨nd, rfl⟩⟩; refine ⟨_, rfl, ?_⟩))
    go_loopg [8] k1 (fun kq v8 w' => ∃ (x8_2 : Int), v8 = .int .i64 x8_2 ∧ Aside0 (real_shortest.l1 kq t379 x5_1 x8_2 a0_0 a0_1 = some (r1, r2)) ∧ Aside0 (kq ≤ k1) ∧ Aside0 (Kd.V (Kd.int .u32) 115 w' w.heap.size (fun k_ => k_ ≠ gb378) (.slice Ao10 t379.length co10) t379) ∧ Aside0 (w'.heap[gb378]? = some (.cells #[.int .i64 a0_0, .int .i64 a0_1] 23 (0, 0))) ∧ Aside0 (Below w.heap.size w w'))
    case atStart => exact ⟨(1), (by first | rfl | (simp; done) | (simp [*]; done)), H', ⟨Nat.le_refl _⟩, ⟨vz HO_4⟩, ⟨kz BK378⟩, ⟨bz⟩⟩
    case round =>
     clear H'
     try clear c8
     try clear c8b0
     try clear hcz4_0
     try clear hcz4_1
     try clear hcz9_0
     try clear hcz9_1
     try clear hfz4_0
     try clear hfz4_1
     try clear hfz9_0
     try clear hfz9_1
     obtain ⟨x8_2, rfl, HA, HK2, HO_4, BK378, HB⟩ := hrel
     cases gk with
     | zero => exact absurd HA.out (by simp [real_shortest.l1])
     | succ k2 =>
      have H := HA.out
      clear HA
      simp only [real_shortest.l1] at H
      replace H := Option.bind_eq_some_iff.mp H
      obtain ⟨⟨t389, t392⟩, A140, H⟩ := H
      try dsimp only at H
      have A14 := Aside0.mk A140
      clear A140
      replace H := Option.bind_eq_some_iff.mp H
      obtain ⟨⟨t395, t398⟩, A150, H⟩ := H
      try dsimp only at H
      have A15 := Aside0.mk A150
      clear A150
      obtain ⟨y401, hy401⟩ : ∃ y_ : List Int, y_ = (([1] : List Int)) := ⟨_, rfl⟩
      replace H : ((real_nat_add.f k2 t395 y401).bind fun t404 => ((real_is.f k2 t395 (wrap64 (x5_1 - x8_2)) a0_0 a0_1).bind fun t407 => ((real_is.f k2 t404 (wrap64 (x5_1 - x8_2)) a0_0 a0_1).bind fun t408 => (if t407 = true then (real_shortest.j2 k2 t379 x5_1 x8_2 t392 t395 t398 t404 t407 t408 false a0_0 a0_1) else (real_shortest.j2 k2 t379 x5_1 x8_2 t392 t395 t398 t404 t407 t408 (!t408) a0_0 a0_1))))) = some (r1, r2) := by first | (rw [hy401]; with_reducible exact H) | (have H2_ := (Option.bind_some _ _).symm.trans H; rw [hy401]; with_reducible exact H2_) | (have H2_ := (Option.bind_some _ _).symm.trans H; with_reducible exact H2_) | with_reducible exact H | (rw [hy401]; exact H) | exact H
      have Ny401 := Aside0.mk hy401
      clear hy401
      replace H := Option.bind_eq_some_iff.mp H
      obtain ⟨t404, A160, H⟩ := H
      try dsimp only at H
      have A16 := Aside0.mk A160
      clear A160
      replace H := Option.bind_eq_some_iff.mp H
      obtain ⟨t407, A170, H⟩ := H
      try dsimp only at H
      have A17 := Aside0.mk A170
      clear A170
      replace H := Option.bind_eq_some_iff.mp H
      obtain ⟨t408, A180, H⟩ := H
      try dsimp only at H
      have A18 := Aside0.mk A180
      clear A180
      have HC19 := Aside0.mk H
      clear H
      have hcz20_0 := c20 BK378
      have hcz20_1 := c21 BK378
      have hfz20_0 := blk_frozen BK378.out 0
      have hfz20_1 := blk_frozen BK378.out 1
      try go_wp2_with (first | ((with_reducible refine gate_callee (f := 122) rfl ?_); refine gL 46 Tryz.func122 #[.slice Ao10 t379.length co10, .int .i64 a0_1, .int .i64 (wrap64 (x8_2 - x5_1))] ?_; (with_reducible refine (real_scaled.calls k2 (fun k_ => k_ ≠ gb378) _ _ t379 a0_1 (wrap64 (x8_2 - x5_1)) t389 t392 _ ?side1 A14.out).mono ?_); (case side1 => exact HO_4.out); rintro e w21 ⟨v390, v393, rfl, ho0, ho1, hb⟩; refine ⟨_, rfl, ?_⟩; have HO391 := Aside0.mk (Kd.V_lower (Kd.V_mono (ok' := fun k_ => k_ ≠ gb378) ho0 (fun k_ hk_ => Or.elim hk_ (fun hs_ => hs_) (fun hn_ => (fb BK378 k_ hn_)))) (below_size bz)); have HO394 := Aside0.mk (Kd.V_lower (Kd.V_mono (ok' := fun k_ => k_ ≠ gb378) ho1 (fun k_ hk_ => Or.elim hk_ (fun hs_ => hs_) (fun hn_ => (fb BK378 k_ hn_)))) (below_size bz)); replace HO_4 := vb HO_4 hb; replace BK378 := kb BK378 hb; replace HB := bs hb; (try clear hb); (try clear hk); (try clear ho0); (try clear ho1); obtain ⟨Ao22, co22, eo22⟩ := Kd.V_slice HO391.out; subst eo22; obtain ⟨Ao23, co23, eo23⟩ := Kd.V_slice HO394.out; subst eo23) | ((with_reducible refine gate_callee (f := 124) rfl ?_); refine gL 52 Tryz.func124 #[.slice Ao22 t389.length co22, .slice Ao23 t392.length co23] ?_; (with_reducible refine (real_nat_div.calls k2 _ _ t389 _ _ t392 t395 t398 _ ?side1 ?side2 ?side3 ?side4 A15.out).mono ?_); (case side1 => exact ccz (Kd.V_reads' HO391.out).2.2); (case side2 => exact (Kd.V_reads' HO391.out).2.1); (case side3 => exact ccz (Kd.V_reads' HO394.out).2.2); (case side4 => exact (Kd.V_reads' HO394.out).2.1); rintro e w24 ⟨v396, v399, rfl, ho0, ho1, hb⟩; refine ⟨_, rfl, ?_⟩; have HO397 := Aside0.mk (Kd.V_lower (Kd.V_mono (ok' := fun k_ => k_ ≠ gb378) ho0 (fun k_ hk_ => (fb BK378 k_ hk_))) (below_size bz)); have HO400 := Aside0.mk (Kd.V_lower (Kd.V_mono (ok' := fun k_ => k_ ≠ gb378) ho1 (fun k_ hk_ => (fb BK378 k_ hk_))) (below_size bz)); replace HO_4 := vb HO_4 hb; replace HO391 := vb HO391 hb; replace HO394 := vb HO394 hb; replace BK378 := kb BK378 hb; replace HB := bs hb; (try clear hb); (try clear hk); (try clear ho0); (try clear ho1)) | ((with_reducible refine gate_dst (N := 56) rfl ?_); refine Kd.R_lit (Kd.int .u32) _ 115 ?hg (N := 56) ?hd (xs := ([1] : List Int)) (inner := [.int .u32 1]) (ok := fun _ => True) (okp := fun _ => True) ?hr ?hp (fun _ hk => hk) trivial (Below.refl _ _) (Nat.le_refl _) (by simp) ?_; (case hd => rfl); (case hg => rfl); (case hr => first | (go_simp; done) | (go_simp; rfl)); (case hp => exact (Reps.one (show Kd.M (Kd.int .u32) _ _ _ 1 [.int .u32 1] from rfl) (Reps.none _ _))); intro v402 w25 ho26 hb hg_ hnew_; clear hg_ hnew_; (first | rw [← Ny401.out] at ho26 | (simp only [Int.reduceToNat] at ho26; rw [← Ny401.out] at ho26)); have HO403 := Aside0.mk (Kd.R_lower ho26 (below_size bz)); replace HO_4 := Aside0.mk (Kd.V_elder' (vz HO_4) (Kd.R_base ho26) hb); replace HO391 := Aside0.mk (Kd.V_elder' (vz HO391) (Kd.R_base ho26) hb); replace HO394 := Aside0.mk (Kd.V_elder' (vz HO394) (Kd.R_base ho26) hb); replace HO397 := Aside0.mk (Kd.V_elder' (vz HO397) (Kd.R_base ho26) hb); replace HO400 := Aside0.mk (Kd.V_elder' (vz HO400) (Kd.R_base ho26) hb); replace BK378 := kb BK378 hb; replace HB := bs hb; clear hb ho26; obtain ⟨Ao27, co27, eo27⟩ := Kd.V_slice HO397.out; subst eo27; obtain ⟨Ao28, co28, eo28⟩ := Kd.R_slice HO403.out; subst eo28) | ((with_reducible refine gate_callee (f := 117) rfl ?_); refine gL 57 Tryz.func117 #[.slice Ao27 t395.length co27, .slice Ao28 y401.length co28] ?_; (with_reducible refine (real_nat_add.calls k2 _ _ t395 _ _ y401 t404 _ ?side1 ?side2 ?side3 ?side4 A16.out).mono ?_); (case side1 => exact ccz (Kd.V_reads' HO397.out).2.2); (case side2 => exact (Kd.V_reads' HO397.out).2.1); (case side3 => exact ccz (Kd.R_reads' HO403.out).2.2); (case side4 => exact (Kd.R_reads' HO403.out).2.1); rintro e w29 ⟨v405, rfl, ho0, hb⟩; refine ⟨_, rfl, ?_⟩; have HO406 := Aside0.mk (Kd.V_lower (Kd.V_mono (ok' := fun k_ => some k_ ≠ (.slice Ao28 y401.length co28 : Value).ownBlock ∧ k_ ≠ gb378) ho0 (fun k_ hk_ => ⟨(Kd.fresh' (Kd.R_lt (rz HO403)) k_ hk_), (fb BK378 k_ hk_)⟩)) (below_size bz)); replace HO_4 := vb HO_4 hb; replace HO391 := vb HO391 hb; replace HO394 := vb HO394 hb; replace HO397 := vb HO397 hb; replace HO400 := vb HO400 hb; replace HO403 := rb HO403 hb; replace BK378 := kb BK378 hb; replace HB := bs hb; (try clear hb); (try clear hk); (try clear ho0)))
      replace HO_4 := Aside0.mk (Kd.V_drew HO_4.out)
      replace HO391 := Aside0.mk (Kd.V_drew HO391.out)
      replace HO394 := Aside0.mk (Kd.V_drew HO394.out)
      replace HO397 := Aside0.mk (Kd.V_drew HO397.out)
      replace HO400 := Aside0.mk (Kd.V_drew HO400.out)
      replace HO403 := Aside0.mk (Kd.R_drew HO403.out)
      replace HO406 := Aside0.mk (Kd.V_drew HO406.out)
      replace BK378 := Aside0.mk (blk_drew BK378.out)
      replace HB := Aside0.mk (below_drew1 HB.out)
      refine start_ (n := 14) (S := fun w' => w'.cell? ⟨gb378, 0, none⟩ = some (.int .i64 a0_0) ∧ w'.cell? ⟨gb378, 1, none⟩ = some (.int .i64 a0_1)) (ds := []) #[ff,ff,ff,ff,ff,ff,ff,ff,ff,ff,ff,ff,ff,ff] (by kernel_rfl) rfl rfl ⟨bc 0 BK378, bc 1 BK378⟩ (fun hHeld => ?_); refine with_tabW real_shortest.tab11 real_shortest.bits11 (fun HT_ HW_ => ?_)
      generalize w29.drew = w30 at HO_4 HO391 HO394 HO397 HO400 HO403 HO406 BK378 HB hHeld ⊢
      refine pur 0 (some 58) #[tt,ff,ff,ff,ff,ff,ff,ff,ff,ff,ff,ff,ff,ff] ?_
      refine pur 1 (some 59) #[tt,tt,ff,ff,ff,ff,ff,ff,ff,ff,ff,ff,ff,ff] ?_
      refine pur 2 (some 60) #[tt,tt,tt,ff,ff,ff,ff,ff,ff,ff,ff,ff,ff,ff] ?_
      refine pur 3 (some 61) #[tt,tt,tt,tt,ff,ff,ff,ff,ff,ff,ff,ff,ff,ff] ?_
      refine pur 6 (some 64) #[tt,tt,tt,tt,ff,ff,tt,ff,ff,ff,ff,ff,ff,ff] ?_
      refine pur 7 (some 65) #[tt,tt,tt,tt,ff,ff,tt,tt,ff,ff,ff,ff,ff,ff] ?_
      refine pur 8 (some 66) #[tt,tt,tt,tt,ff,ff,tt,tt,tt,ff,ff,ff,ff,ff] ?_
      refine pur 9 (some 67) #[tt,tt,tt,tt,ff,ff,tt,tt,tt,tt,ff,ff,ff,ff] ?_
      refine tk2 4 (some 62) #[tt,tt,tt,tt,tt,ff,tt,tt,tt,tt,ff,ff,ff,ff] ?_
      refine tk2 10 (some 68) #[tt,tt,tt,tt,tt,ff,tt,tt,tt,tt,tt,ff,ff,ff] ?_
      refine on1 5 (some 63) #[tt,tt,tt,tt,tt,tt,tt,tt,tt,tt,tt,ff,ff,ff] (fun K hK => ?_)
      refine goes_ Tryz.func125 (by kernel_rfl) rfl #[.slice Ao27 t395.length co27, .int .i64 (wrap64 (x5_1 - x8_2)), .agg #[.int .i64 a0_0, .int .i64 a0_1]] (by rfl) rfl rfl az ?_
      with_reducible refine (real_is.calls k2 _ _ t395 (wrap64 (x5_1 - x8_2)) a0_0 a0_1 t407 _ ?side1 ?side2 A17.out).mono ?_
      (case side1 => exact ccz (Kd.V_reads' HO397.out).2.2)
      (case side2 => exact (Kd.V_reads' HO397.out).2.1)
      rintro e w31 ⟨rfl, hb⟩
      refine ⟨_, rfl, ?_⟩
      replace HO_4 := vb HO_4 hb
      replace HO391 := vb HO391 hb
      replace HO394 := vb HO394 hb
      replace HO397 := vb HO397 hb
      replace HO400 := vb HO400 hb
      replace HO403 := rb HO403 hb
      replace HO406 := vb HO406 hb
      replace BK378 := kb BK378 hb
      replace HB := bs hb
      (try clear hb)
      (try clear hk)
      obtain ⟨Ao32, co32, eo32⟩ := Kd.V_slice HO406.out
      (first | subst eo32 | (injection eo32 with f1_ f2_ f3_; have f4_ := f1_.symm; have f5_ := f3_.symm; clear f1_ f2_ f3_; subst f4_; subst f5_))
      refine hK.out _ _ ⟨bc 0 BK378, bc 1 BK378⟩ (fun hHeld => ?_)
      clear hK K
      refine nrm (some 63) ?_
      refine on1 11 (some 69) #[tt,tt,tt,tt,tt,tt,tt,tt,tt,tt,tt,tt,ff,ff] (fun K hK => ?_)
      refine goes_ Tryz.func125 (by kernel_rfl) rfl #[.slice Ao32 t404.length co32, .int .i64 (wrap64 (x5_1 - x8_2)), .agg #[.int .i64 a0_0, .int .i64 a0_1]] (by rfl) rfl rfl az ?_
      with_reducible refine (real_is.calls k2 _ _ t404 (wrap64 (x5_1 - x8_2)) a0_0 a0_1 t408 _ ?side1 ?side2 A18.out).mono ?_
      (case side1 => exact ccz (Kd.V_reads' HO406.out).2.2)
      (case side2 => exact (Kd.V_reads' HO406.out).2.1)
      rintro e w33 ⟨rfl, hb⟩
      refine ⟨_, rfl, ?_⟩
      replace HO_4 := vb HO_4 hb
      replace HO391 := vb HO391 hb
      replace HO394 := vb HO394 hb
      replace HO397 := vb HO397 hb
      replace HO400 := vb HO400 hb
      replace HO403 := rb HO403 hb
      replace HO406 := vb HO406 hb
      replace BK378 := kb BK378 hb
      replace HB := bs hb
      (try clear hb)
      (try clear hk)
      refine hK.out _ _ ⟨bc 0 BK378, bc 1 BK378⟩ (fun hHeld => ?_)
      clear hK K
      refine nrm (some 69) ?_
      refine pur 12 (some 14) #[tt,tt,tt,tt,tt,tt,tt,tt,tt,tt,tt,tt,tt,ff] ?_
      refine pur 13 (some 15) #[tt,tt,tt,tt,tt,tt,tt,tt,tt,tt,tt,tt,tt,tt] ?_
      refine done_ (done_of HT_.out (by kernel_rfl)) ?_
      go_upto_region 12 with (fail)
      go_cut [75] (fun v75 wc => ∃ (kq : Nat) (x75_18 : Bool), v75 = .bool x75_18 ∧ Aside0 (real_shortest.j2 kq t379 x5_1 x8_2 t392 t395 t398 t404 t407 t408 x75_18 a0_0 a0_1 = some (r1, r2)) ∧ Aside0 (kq ≤ k2) ∧ Aside0 (Kd.V (Kd.int .u32) 115 wc w.heap.size (fun k_ => k_ ≠ gb378) (.slice Ao10 t379.length co10) t379) ∧ Aside0 (Kd.V (Kd.int .u32) 115 wc w.heap.size (fun k_ => k_ ≠ gb378) (.slice Ao23 t392.length co23) t392) ∧ Aside0 (Kd.V (Kd.int .u32) 115 wc w.heap.size (fun k_ => k_ ≠ gb378) (.slice Ao27 t395.length co27) t395) ∧ Aside0 (Kd.V (Kd.int .u32) 115 wc w.heap.size (fun k_ => k_ ≠ gb378) v399 t398) ∧ Aside0 (Kd.V (Kd.int .u32) 115 wc w.heap.size (fun k_ => k_ ≠ gb378) (.slice Ao32 t404.length co32) t404) ∧ Aside0 (wc.heap[gb378]? = some (.cells #[.int .i64 a0_0, .int .i64 a0_1] 23 (0, 0))) ∧ Aside0 (Below w.heap.size w wc))
      case first => as_aux_lemma =>
       have H := HC19.out
       clear HC19
       by_cases c34 : t407 = true
       ·subst c34
        rw [if_pos rfl] at H
        have H' := Aside0.mk H
        clear H
        go_wp2
        go_meet
        case rel => exact ⟨_, (false), (by first | rfl | (simp; done) | (simp [*]; done)), H', ⟨by have := HK1.out; have := HK2.out; first | omega | exact Nat.le_refl _⟩, ⟨by (with_reducible repeat (first | apply Kd.V_alloc | apply Kd.V_drewN | apply Kd.V_drew)); exact Kd.V_mono HO_4.out (fun _ hk => hk.1)⟩, ⟨by (with_reducible repeat (first | apply Kd.V_alloc | apply Kd.V_drewN | apply Kd.V_drew)); exact Kd.V_mono HO394.out (fun _ hk => hk.1)⟩, ⟨by (with_reducible repeat (first | apply Kd.V_alloc | apply Kd.V_drewN | apply Kd.V_drew)); exact Kd.V_mono HO397.out (fun _ hk => hk.1)⟩, ⟨by (with_reducible repeat (first | apply Kd.V_alloc | apply Kd.V_drewN | apply Kd.V_drew)); exact Kd.V_mono HO400.out (fun _ hk => hk.1)⟩, ⟨by (with_reducible repeat (first | apply Kd.V_alloc | apply Kd.V_drewN | apply Kd.V_drew)); exact Kd.V_mono HO406.out (fun _ hk => hk.2)⟩, ⟨kz BK378⟩, ⟨bz⟩⟩
       ·replace c34 := Bool.eq_false_iff.mpr c34
        subst c34
        rw [if_neg (show ¬ (false = true) by decide)] at H
        have H' := Aside0.mk H
        clear H
        go_wp2
        go_meet
        case rel => exact ⟨_, (!t408), (by first | rfl | (simp; done) | (simp [*]; done)), H', ⟨by have := HK1.out; have := HK2.out; first | omega | exact Nat.le_refl _⟩, ⟨by (with_reducible repeat (first | apply Kd.V_alloc | apply Kd.V_drewN | apply Kd.V_drew)); exact Kd.V_mono HO_4.out (fun _ hk => hk.1)⟩, ⟨by (with_reducible repeat (first | apply Kd.V_alloc | apply Kd.V_drewN | apply Kd.V_drew)); exact Kd.V_mono HO394.out (fun _ hk => hk.1)⟩, ⟨by (with_reducible repeat (first | apply Kd.V_alloc | apply Kd.V_drewN | apply Kd.V_drew)); exact Kd.V_mono HO397.out (fun _ hk => hk.1)⟩, ⟨by (with_reducible repeat (first | apply Kd.V_alloc | apply Kd.V_drewN | apply Kd.V_drew)); exact Kd.V_mono HO400.out (fun _ hk => hk.1)⟩, ⟨by (with_reducible repeat (first | apply Kd.V_alloc | apply Kd.V_drewN | apply Kd.V_drew)); exact Kd.V_mono HO406.out (fun _ hk => hk.2)⟩, ⟨kz BK378⟩, ⟨bz⟩⟩
      case rest => as_aux_lemma =>
       clear HC19
       try clear c8
       try clear c8b0
       try clear c34
       try clear hcz20_0
       try clear hcz20_1
       try clear hcz4_0
       try clear hcz4_1
       try clear hcz9_0
       try clear hcz9_1
       try clear hfz20_0
       try clear hfz20_1
       try clear hfz4_0
       try clear hfz4_1
       try clear hfz9_0
       try clear hfz9_1
       obtain ⟨kq, x75_18, rfl, HA, HJ18, HO_4, HO_10, HO_11, HO_12, HO_13, BK378, HB⟩ := hcut
       cases kq with
       | zero => exact absurd HA.out (by simp [real_shortest.j2])
       | succ kj18 =>
        have H := HA.out
        clear HA
        simp only [real_shortest.j2] at H
        by_cases c35 : x75_18 = true
        ·subst c35
         rw [if_pos rfl] at H
         have H' := Aside0.mk H
         clear H
         go_wp2
         go_roundg kj18
         case measure => have := HK1.out; have := HK2.out; have := HJ18.out; omega
         case rel => exact ⟨(wrap64 (x8_2 + 1)), (by first | rfl | (simp; done) | (simp [*]; done)), H', ⟨by have := HK1.out; have := HK2.out; have := HJ18.out; omega⟩, ⟨vz HO_4⟩, ⟨kz BK378⟩, ⟨bz⟩⟩
        ·replace c35 := Bool.eq_false_iff.mpr c35
         subst c35
         rw [if_neg (show ¬ (false = true) by decide)] at H
         replace H := Option.bind_eq_some_iff.mp H
         obtain ⟨t409, A360, H⟩ := H
         try dsimp only at H
         have A36 := Aside0.mk A360
         clear A360
         replace H := Option.bind_eq_some_iff.mp H
         obtain ⟨t412, A370, H⟩ := H
         try dsimp only at H
         have A37 := Aside0.mk A370
         clear A370
         have HC38 := Aside0.mk H
         clear H
         obtain ⟨Ao39, co39, eo39⟩ := Kd.V_slice HO_12.out
         subst eo39
         go_upto_region 15 with (first | ((with_reducible refine gate_callee (f := 126) rfl ?_); refine gL 78 Tryz.func126 #[.slice Ao39 t398.length co39, .int .i64 1] ?_; (with_reducible refine (real_nat_shl.calls kj18 _ _ t398 1 t409 _ ?side1 ?side2 A36.out).mono ?_); (case side1 => exact ccz (Kd.V_reads' HO_12.out).2.2); (case side2 => exact (Kd.V_reads' HO_12.out).2.1); rintro e w40 ⟨v410, rfl, ho0, hb⟩; refine ⟨_, rfl, ?_⟩; have HO411 := Aside0.mk (Kd.V_lower (Kd.V_mono (ok' := fun k_ => k_ ≠ gb378) ho0 (fun k_ hk_ => (fb BK378 k_ hk_))) (below_size bz)); replace HO_4 := vb HO_4 hb; replace HO_10 := vb HO_10 hb; replace HO_11 := vb HO_11 hb; replace HO_12 := vb HO_12 hb; replace HO_13 := vb HO_13 hb; replace BK378 := kb BK378 hb; replace HB := bs hb; (try clear hb); (try clear hk); (try clear ho0); obtain ⟨Ao41, co41, eo41⟩ := Kd.V_slice HO411.out; subst eo41) | ((with_reducible refine gate_callee (f := 123) rfl ?_); refine gL 80 Tryz.func123 #[.slice Ao41 t409.length co41, .slice Ao23 t392.length co23] ?_; (with_reducible refine (real_nat_cmp.calls kj18 _ _ t409 _ _ t392 t412 _ ?side1 ?side2 ?side3 ?side4 A37.out).mono ?_); (case side1 => exact ccz (Kd.V_reads' HO411.out).2.2); (case side2 => exact (Kd.V_reads' HO411.out).2.1); (case side3 => exact ccz (Kd.V_reads' HO_10.out).2.2); (case side4 => exact (Kd.V_reads' HO_10.out).2.1); rintro e w' ⟨rfl, ⟨nd, rfl⟩⟩; refine ⟨_, rfl, ?_⟩))
         (try simp only [Act.put, List.setIfInBounds_toArray, List.set_cons_zero, List.set_cons_succ])
         go_cut [99] (fun v99 wc => ∃ (kq : Nat) (x99_37 : Bool), v99 = .bool x99_37 ∧ Aside0 (real_shortest.j3 kq x5_1 x8_2 t404 t395 x99_37 = some (r1, r2)) ∧ Aside0 (kq ≤ kj18) ∧ Aside0 (Kd.V (Kd.int .u32) 115 wc w.heap.size (fun k_ => k_ ≠ gb378) (.slice Ao32 t404.length co32) t404) ∧ Aside0 (Kd.V (Kd.int .u32) 115 wc w.heap.size (fun k_ => k_ ≠ gb378) (.slice Ao27 t395.length co27) t395) ∧ Aside0 (wc.heap[gb378]? = some (.cells #[.int .i64 a0_0, .int .i64 a0_1] 23 (0, 0))) ∧ Aside0 (Below w.heap.size w wc))
         case first => as_aux_lemma =>
          have H := HC38.out
          clear HC38
          by_cases c42 : t407 = true
          ·subst c42
           rw [if_pos rfl] at H
           by_cases c43 : t408 = true
           ·subst c43
            rw [if_pos rfl] at H
            by_cases c44 : t412 > 0
            ·rw [if_pos c44] at H
             have c44b0 : decide (0 < t412) = true := decide_eq_true c44
             clear c44
             (first | rw [c44b0] | (simp only [i64_w, i32_w]; rw [c44b0]) | skip)
             have H' := Aside0.mk H
             clear H
             go_wp2
             go_meet
             case rel => exact ⟨_, (true), (by first | rfl | (simp; done) | (simp [*]; done)), H', ⟨by have := HK1.out; have := HK2.out; have := HJ18.out; first | omega | exact Nat.le_refl _⟩, ⟨vz HO_13⟩, ⟨vz HO_11⟩, ⟨kz BK378⟩, ⟨bz⟩⟩
            ·rw [if_neg c44] at H
             have c44b0 : decide (0 < t412) = false := decide_eq_false c44
             clear c44
             (first | rw [c44b0] | (simp only [i64_w, i32_w]; rw [c44b0]) | skip)
             by_cases c45 : t412 = 0
             ·rw [if_pos c45] at H
              have c45b0 : (t412 == 0) = true := beq_iff_eq.mpr c45
              have c45b1 : (t412 != 0) = false := bne_eq_false_iff_eq.mpr c45
              clear c45
              replace H := Option.bind_eq_some_iff.mp H
              obtain ⟨t413, A460, H⟩ := H
              try dsimp only at H
              have A46 := Aside0.mk A460
              clear A460
              have H' := Aside0.mk H
              clear H
              go_wp2_with (first | (go_at_call 127; (with_reducible refine (real_nat_small.calls kj18 _ _ t395 t413 _ ?side1 ?side2 A46.out).mono ?_); (case side1 => exact ccz (Kd.V_reads' HO_11.out).2.2); (case side2 => exact (Kd.V_reads' HO_11.out).2.1); rintro e w' ⟨rfl, ⟨nd, rfl⟩⟩))
              go_meet
              case rel => exact ⟨_, (((Int.tmod t413 2) == 1)), (by first | rfl | (simp; done) | (simp [*]; done)), H', ⟨by have := HK1.out; have := HK2.out; have := HJ18.out; first | omega | exact Nat.le_refl _⟩, ⟨vz HO_13⟩, ⟨vz HO_11⟩, ⟨kz BK378⟩, ⟨bz⟩⟩
             ·rw [if_neg c45] at H
              have c45b0 : (t412 == 0) = false := beq_eq_false_iff_ne.mpr c45
              have c45b1 : (t412 != 0) = true := bne_iff_ne.mpr c45
              have H' := Aside0.mk H
              clear H
              go_wp2
              go_meet
              case rel => exact ⟨_, (false), (by first | rfl | (simp; done) | (simp [*]; done)), H', ⟨by have := HK1.out; have := HK2.out; have := HJ18.out; first | omega | exact Nat.le_refl _⟩, ⟨vz HO_13⟩, ⟨vz HO_11⟩, ⟨kz BK378⟩, ⟨bz⟩⟩
           ·replace c43 := Bool.eq_false_iff.mpr c43
            subst c43
            rw [if_neg (show ¬ (false = true) by decide)] at H
            have H' := Aside0.mk H
            clear H
            go_wp2
            go_meet
            case rel => exact ⟨_, (false), (by first | rfl | (simp; done) | (simp [*]; done)), H', ⟨by have := HK1.out; have := HK2.out; have := HJ18.out; first | omega | exact Nat.le_refl _⟩, ⟨vz HO_13⟩, ⟨vz HO_11⟩, ⟨kz BK378⟩, ⟨bz⟩⟩
          ·replace c42 := Bool.eq_false_iff.mpr c42
           subst c42
           rw [if_neg (show ¬ (false = true) by decide)] at H
           have H' := Aside0.mk H
           clear H
           go_wp2
           go_meet
           case rel => exact ⟨_, (true), (by first | rfl | (simp; done) | (simp [*]; done)), H', ⟨by have := HK1.out; have := HK2.out; have := HJ18.out; first | omega | exact Nat.le_refl _⟩, ⟨vz HO_13⟩, ⟨vz HO_11⟩, ⟨kz BK378⟩, ⟨bz⟩⟩
         case rest => as_aux_lemma =>
          clear HC38
          try clear c8
          try clear c8b0
          try clear c34
          try clear c35
          try clear c42
          try clear c43
          try clear c44
          try clear c44b0
          try clear c45
          try clear c45b0
          try clear c45b1
          try clear hcz20_0
          try clear hcz20_1
          try clear hcz4_0
          try clear hcz4_1
          try clear hcz9_0
          try clear hcz9_1
          try clear hfz20_0
          try clear hfz20_1
          try clear hfz4_0
          try clear hfz4_1
          try clear hfz9_0
          try clear hfz9_1
          obtain ⟨kq, x99_37, rfl, HA, HJ37, HO_13, HO_16, BK378, HB⟩ := hcut
          cases kq with
          | zero => exact absurd HA.out (by simp [real_shortest.j3])
          | succ kj37 =>
           have H := HA.out
           clear HA
           simp only [real_shortest.j3] at H
           have HC47 := Aside0.mk H
           clear H
           go_upto_if 99 with (fail)
           go_cut [16] (fun v16 wc => ∃ (kq : Nat) (x16_46 : List Int), Aside0 (real_shortest.j4 kq x5_1 x8_2 x16_46 = some (r1, r2)) ∧ Aside0 (kq ≤ kj37) ∧ Aside0 (Kd.V (Kd.int .u32) 115 wc w.heap.size (fun k_ => k_ ≠ gb378) v16 x16_46) ∧ Aside0 (wc.heap[gb378]? = some (.cells #[.int .i64 a0_0, .int .i64 a0_1] 23 (0, 0))) ∧ Aside0 (Below w.heap.size w wc))
           case first => as_aux_lemma =>
            have H := HC47.out
            clear HC47
            by_cases c48 : x99_37 = true
            ·subst c48
             rw [if_pos rfl] at H
             have H' := Aside0.mk H
             clear H
             go_wp2
             go_meet
             case rel => exact ⟨_, (t404), H', ⟨by have := HK1.out; have := HK2.out; have := HJ18.out; have := HJ37.out; first | omega | exact Nat.le_refl _⟩, ⟨vz HO_13⟩, ⟨kz BK378⟩, ⟨bz⟩⟩
            ·replace c48 := Bool.eq_false_iff.mpr c48
             subst c48
             rw [if_neg (show ¬ (false = true) by decide)] at H
             have H' := Aside0.mk H
             clear H
             go_wp2
             go_meet
             case rel => exact ⟨_, (t395), H', ⟨by have := HK1.out; have := HK2.out; have := HJ18.out; have := HJ37.out; first | omega | exact Nat.le_refl _⟩, ⟨vz HO_16⟩, ⟨kz BK378⟩, ⟨bz⟩⟩
           case rest => as_aux_lemma =>
            clear HC47
            try clear c8
            try clear c8b0
            try clear c34
            try clear c35
            try clear c42
            try clear c43
            try clear c44
            try clear c44b0
            try clear c45
            try clear c45b0
            try clear c45b1
            try clear c48
            try clear hcz20_0
            try clear hcz20_1
            try clear hcz4_0
            try clear hcz4_1
            try clear hcz9_0
            try clear hcz9_1
            try clear hfz20_0
            try clear hfz20_1
            try clear hfz4_0
            try clear hfz4_1
            try clear hfz9_0
            try clear hfz9_1
            obtain ⟨kq, x16_46, HA, HJ46, HO_16, BK378, HB⟩ := hcut
            cases kq with
            | zero => exact absurd HA.out (by simp [real_shortest.j4])
            | succ kj46 =>
             have H := HA.out
             clear HA
             simp only [real_shortest.j4] at H
             replace H := Option.bind_eq_some_iff.mp H
             obtain ⟨t414, A490, H⟩ := H
             try dsimp only at H
             have A49 := Aside0.mk A490
             clear A490
             replace H := Option.bind_eq_some_iff.mp H
             obtain ⟨t415, A500, H⟩ := H
             try dsimp only at H
             have A50 := Aside0.mk A500
             clear A500
             replace H := Option.bind_eq_some_iff.mp H
             obtain ⟨t416, A510, H⟩ := H
             try dsimp only at H
             have A51 := Aside0.mk A510
             clear A510
             simp only [Option.some.injEq, Prod.mk.injEq] at H
             obtain ⟨rfl, rfl⟩ := H
             obtain ⟨Ao52, co52, eo52⟩ := Kd.V_slice HO_16.out
             subst eo52
             go_wp2_with (first | ((with_reducible refine gate_callee (f := 127) rfl ?_); refine gL 102 Tryz.func127 #[.slice Ao52 x16_46.length co52] ?_; (with_reducible refine (real_nat_small.calls kj46 _ _ x16_46 t414 _ ?side1 ?side2 A49.out).mono ?_); (case side1 => exact ccz (Kd.V_reads' HO_16.out).2.2); (case side2 => exact (Kd.V_reads' HO_16.out).2.1); rintro e w' ⟨rfl, ⟨nd, rfl⟩⟩; refine ⟨_, rfl, ?_⟩) | ((with_reducible refine gate_callee (f := 128) rfl ?_); refine gL 103 Tryz.func128 #[.int .u64 t414, .int .i64 10] ?_; (with_reducible refine (strconv_FormatUint.calls t414 10 t415 _ A50.out (tabAt HT.out bz)).mono ?_); rintro e w53 ⟨rfl, hb⟩; refine ⟨_, rfl, ?_⟩; replace HO_16 := vb HO_16 hb; replace BK378 := kb BK378 hb; replace HB := bs hb; (try clear hb); (try clear hk)) | ((with_reducible refine gate_callee (f := 129) rfl ?_); refine gL 105 Tryz.func129 #[.string t415, .string (⟨#[48]⟩ : ByteArray)] ?_; (with_reducible refine (strings_TrimRight.calls t415 (⟨#[48]⟩ : ByteArray) t416 _ A51.out).mono ?_); rintro e w54 ⟨rfl, hb⟩; refine ⟨_, rfl, ?_⟩; replace HO_16 := vb HO_16 hb; replace BK378 := kb BK378 hb; replace HB := bs hb; (try clear hb); (try clear hk)))
             go_ret2
             exact ⟨by first | rfl | (simp [errW_none, errW_some] <;> rfl) | (simp [*, errW_none, errW_some] <;> rfl), bz⟩
   ·rw [if_neg c8] at H
    have c8b0 : decide (t388 < 0) = false := decide_eq_false c8
    clear c8
    have H' := Aside0.mk H
    clear H
    have hcz55_0 := c20 BK378
    have hcz55_1 := c21 BK378
    have hfz55_0 := blk_frozen BK378.out 0
    have hfz55_1 := blk_frozen BK378.out 1
    obtain ⟨Ao56, co56, eo56⟩ := Kd.V_slice HO_4.out
    subst eo56
    go_wp2_with (first | ((with_reducible refine gate_callee (f := 122) rfl ?_); refine gL 28 Tryz.func122 #[.slice Ao56 t379.length co56, .int .i64 a0_1, .int .i64 (wrap64 (-x5_1))] ?_; (with_reducible refine (real_scaled.calls k1 (fun k_ => k_ ≠ gb378) _ _ t379 a0_1 (wrap64 (-x5_1)) t382 t385 _ ?side1 A6.out).mono ?_); (case side1 => exact HO_4.out); rintro e w57 ⟨v383, v386, rfl, ho0, ho1, hb⟩; refine ⟨_, rfl, ?_⟩; have HO384 := Aside0.mk (Kd.V_lower (Kd.V_mono (ok' := fun k_ => k_ ≠ gb378) ho0 (fun k_ hk_ => Or.elim hk_ (fun hs_ => hs_) (fun hn_ => (fb BK378 k_ hn_)))) (below_size bz)); have HO387 := Aside0.mk (Kd.V_lower (Kd.V_mono (ok' := fun k_ => k_ ≠ gb378) ho1 (fun k_ hk_ => Or.elim hk_ (fun hs_ => hs_) (fun hn_ => (fb BK378 k_ hn_)))) (below_size bz)); replace HO_4 := vb HO_4 hb; replace BK378 := kb BK378 hb; replace HB := bs hb; (try clear hb); (try clear hk); (try clear ho0); (try clear ho1); obtain ⟨Ao58, co58, eo58⟩ := Kd.V_slice HO384.out; subst eo58; obtain ⟨Ao59, co59, eo59⟩ := Kd.V_slice HO387.out; subst eo59) | ((with_reducible refine gate_callee (f := 123) rfl ?_); refine gL 33 Tryz.func123 #[.slice Ao58 t382.length co58, .slice Ao59 t385.length co59] ?_; (with_reducible refine (real_nat_cmp.calls k1 _ _ t382 _ _ t385 t388 _ ?side1 ?side2 ?side3 ?side4 A7.out).mono ?_); (case side1 => exact ccz (Kd.V_reads' HO384.out).2.2); (case side2 => exact (Kd.V_reads' HO384.out).2.1); (case side3 => exact ccz (Kd.V_reads' HO387.out).2.2); (case side4 => exact (Kd.V_reads' HO387.out).2.1); rintro e w' ⟨rfl, ⟨nd, rfl⟩⟩; refine ⟨_, rfl, ?_⟩))
    go_roundg k1
    case measure => have := HK1.out; omega
    case rel => exact ⟨(wrap64 (x5_1 + 1)), (by first | rfl | (simp; done) | (simp [*]; done)), H', ⟨by have := HK1.out; omega⟩, ⟨vz HO_4⟩, ⟨kz BK378⟩, ⟨bz⟩⟩

end Go.Proofs.YteigbokklclmbaaGreatDoor.Z
end
section
namespace Go.Proofs.YteigbokklclmbaaGreatDoor.Z
open Go.RowKit Go.Proofs.YteigbokklclmbaaGreatDoor.Given Go.Proofs.YteigbokklclmbaaGreatDoorW.PrintWords Go.Proofs.YteigbokklclmbaaGreatDoorW.PrintLast Go.Proofs.YteigbokklclmbaaGreatDoorW.PrintMore
attribute [local go_sem] max2_int min2_int max_two min_two max_three min_three max_four min_four

mutual
def real_Print.j0 : Nat → ByteArray → Int → Int → Option (ByteArray × Int)
 | 0, _, _, _ => none
 | k + 1, x4, x418000, x418001 => (real_signed.f (decide (x418000 < 0)) x418000 x418001).bind fun bt419 => ((real_shortest.f k bt419.1 bt419.2).bind fun bt421 => (if bt421.2 < (-3) then (real_Print.j1 k x4 bt421.1 bt421.2 true) else (real_Print.j1 k x4 bt421.1 bt421.2 (decide (bt421.2 > 9)))))
def real_Print.j1 : Nat → ByteArray → ByteArray → Int → Bool → Option (ByteArray × Int)
 | 0, _, _, _, _ => none
 | k + 1, x4, x5, x6, x26 => if x26 = true then (if 1 ≤ (x5.size : Int) then (if (x5.extract 1 x5.size).toList = ([] : List UInt8) then (if 0 ≤ 1 then (if x4.size + (x5.extract 0 1).size ≤ 9223372036854775807 then (if (x4 ++ (x5.extract 0 1)).size + 1 ≤ 9223372036854775807 then (if ((x4 ++ (x5.extract 0 1)) ++ (⟨#[46]⟩ : ByteArray)).size + 1 ≤ 9223372036854775807 then (if (((x4 ++ (x5.extract 0 1)) ++ (⟨#[46]⟩ : ByteArray)) ++ (⟨#[48]⟩ : ByteArray)).size + 1 ≤ 9223372036854775807 then ((strconv_Itoa.f (wrap64 (x6 - 1))).bind fun t423 => (if ((((x4 ++ (x5.extract 0 1)) ++ (⟨#[46]⟩ : ByteArray)) ++ (⟨#[48]⟩ : ByteArray)) ++ (⟨#[101]⟩ : ByteArray)).size + t423.size ≤ 9223372036854775807 then (some (((((x4 ++ (x5.extract 0 1)) ++ (⟨#[46]⟩ : ByteArray)) ++ (⟨#[48]⟩ : ByteArray)) ++ (⟨#[101]⟩ : ByteArray)) ++ t423, 0)) else (none))) else (none)) else (none)) else (none)) else (none)) else (none)) else (if 0 ≤ 1 then (if x4.size + (x5.extract 0 1).size ≤ 9223372036854775807 then (if (x4 ++ (x5.extract 0 1)).size + 1 ≤ 9223372036854775807 then (if ((x4 ++ (x5.extract 0 1)) ++ (⟨#[46]⟩ : ByteArray)).size + (x5.extract 1 x5.size).size ≤ 9223372036854775807 then (if (((x4 ++ (x5.extract 0 1)) ++ (⟨#[46]⟩ : ByteArray)) ++ (x5.extract 1 x5.size)).size + 1 ≤ 9223372036854775807 then ((strconv_Itoa.f (wrap64 (x6 - 1))).bind fun t424 => (if ((((x4 ++ (x5.extract 0 1)) ++ (⟨#[46]⟩ : ByteArray)) ++ (x5.extract 1 x5.size)) ++ (⟨#[101]⟩ : ByteArray)).size + t424.size ≤ 9223372036854775807 then (some (((((x4 ++ (x5.extract 0 1)) ++ (⟨#[46]⟩ : ByteArray)) ++ (x5.extract 1 x5.size)) ++ (⟨#[101]⟩ : ByteArray)) ++ t424, 0)) else (none))) else (none)) else (none)) else (none)) else (none)) else (none))) else (none)) else (if x6 < 1 then (if x4.size + 2 ≤ 9223372036854775807 then ((strings_Repeat.f (⟨#[48]⟩ : ByteArray) (wrap64 (-x6))).bind fun t425 => (if (x4 ++ (⟨#[48, 46]⟩ : ByteArray)).size + t425.size ≤ 9223372036854775807 then (if ((x4 ++ (⟨#[48, 46]⟩ : ByteArray)) ++ t425).size + x5.size ≤ 9223372036854775807 then (some (((x4 ++ (⟨#[48, 46]⟩ : ByteArray)) ++ t425) ++ x5, 0)) else (none)) else (none))) else (none)) else (if (x5.size : Int) ≤ x6 then (if x4.size + x5.size ≤ 9223372036854775807 then ((strings_Repeat.f (⟨#[48]⟩ : ByteArray) (wrap64 (x6 - (x5.size : Int)))).bind fun t426 => (if (x4 ++ x5).size + t426.size ≤ 9223372036854775807 then (if ((x4 ++ x5) ++ t426).size + 2 ≤ 9223372036854775807 then (some (((x4 ++ x5) ++ t426) ++ (⟨#[46, 48]⟩ : ByteArray), 0)) else (none)) else (none))) else (none)) else (if 0 ≤ x6 then (if x6 ≤ (x5.size : Int) then (if x4.size + (x5.extract 0 (x6 : Int).toNat).size ≤ 9223372036854775807 then (if (x4 ++ (x5.extract 0 (x6 : Int).toNat)).size + 1 ≤ 9223372036854775807 then (if ((x4 ++ (x5.extract 0 (x6 : Int).toNat)) ++ (⟨#[46]⟩ : ByteArray)).size + (x5.extract (x6 : Int).toNat x5.size).size ≤ 9223372036854775807 then (some (((x4 ++ (x5.extract 0 (x6 : Int).toNat)) ++ (⟨#[46]⟩ : ByteArray)) ++ (x5.extract (x6 : Int).toNat x5.size), 0)) else (none)) else (none)) else (none)) else (none)) else (none))))
end
def real_Print.f (k : Nat) (a0_0 : Int) (a0_1 : Int) : Option (ByteArray × Int) := (real_Valid.f a0_0 a0_1).bind fun t418 => (if t418 = true then (if a0_0 = 0 then (some ((⟨#[48, 46, 48]⟩ : ByteArray), 0)) else (if a0_0 < 0 then (real_Print.j0 k (⟨#[45]⟩ : ByteArray) a0_0 a0_1) else (real_Print.j0 k (⟨#[]⟩ : ByteArray) a0_0 a0_1))) else (some ((⟨#[]⟩ : ByteArray), 1)))
theorem real_Print.mono_l : ∀ k, (∀ y0 y1 y2, LeO (real_Print.j0 k y0 y1 y2) (real_Print.j0 (k + 1) y0 y1 y2)) ∧ (∀ y0 y1 y2 y3, LeO (real_Print.j1 k y0 y1 y2 y3) (real_Print.j1 (k + 1) y0 y1 y2 y3))
 | 0 => ⟨fun _ _ _ r h => by simp [real_Print.j0] at h, fun _ _ _ _ r h => by simp [real_Print.j1] at h⟩
 | k + 1 => by
  obtain ⟨ih0, ih1⟩ := real_Print.mono_l k
  refine ⟨?_, ?_⟩
  ·intro y0 y1 y2
   unfold real_Print.j0
   repeat' first
   | (with_reducible exact ih0 _ _ _)
   | (with_reducible exact ih1 _ _ _ _)
   | (with_reducible exact real_shortest.mono _ _ _)
   | (with_reducible exact LeO.refl _)
   | (with_reducible exact LeO.none _)
   | (with_reducible refine LeO.ite ?_ ?_)
   | (with_reducible refine LeO.bind ?_ (fun _ => ?_))
   | exact ih0 _ _ _
   | exact ih1 _ _ _ _
   | exact real_shortest.mono _ _ _
   | exact LeO.none _
   | refine LeO.ite ?_ ?_
   | refine LeO.bind ?_ (fun _ => ?_)
  ·intro y0 y1 y2 y3
   unfold real_Print.j1
   repeat' first
   | (with_reducible exact ih0 _ _ _)
   | (with_reducible exact ih1 _ _ _ _)
   | (with_reducible exact real_shortest.mono _ _ _)
   | (with_reducible exact LeO.refl _)
   | (with_reducible exact LeO.none _)
   | (with_reducible refine LeO.ite ?_ ?_)
   | (with_reducible refine LeO.bind ?_ (fun _ => ?_))
   | exact ih0 _ _ _
   | exact ih1 _ _ _ _
   | exact real_shortest.mono _ _ _
   | exact LeO.none _
   | refine LeO.ite ?_ ?_
   | refine LeO.bind ?_ (fun _ => ?_)
theorem real_Print.mono : ∀ a0 a1 k, LeO (real_Print.f k a0 a1) (real_Print.f (k + 1) a0 a1) := by
 intro a0 a1 k
 obtain ⟨ih0, ih1⟩ := real_Print.mono_l k
 unfold real_Print.f
 repeat' first
   | (with_reducible exact ih0 _ _ _)
   | (with_reducible exact ih1 _ _ _ _)
   | (with_reducible exact real_shortest.mono _ _ _)
   | (with_reducible exact LeO.refl _)
   | (with_reducible exact LeO.none _)
   | (with_reducible refine LeO.ite ?_ ?_)
   | (with_reducible refine LeO.bind ?_ (fun _ => ?_))
   | exact ih0 _ _ _
   | exact ih1 _ _ _ _
   | exact real_shortest.mono _ _ _
   | exact LeO.none _
   | refine LeO.ite ?_ ?_
   | refine LeO.bind ?_ (fun _ => ?_)
def real_Print.T13 : Bool × List (List Nat × List Nat) := (true, [([], []), ([], []), ([1], [1]), ([0, 2], [0, 2]), ([3], [3]), ([], []), ([4, 5], [4, 5]), ([6], [6]), ([], []), ([8], [8]), ([9], [9]), ([7, 10], [7, 10]), ([11, 10, 0, 1, 2, 3, 4, 5, 6, 7, 8, 9, 10, 11], [11]), ([12, 0, 1, 2, 3, 4, 5, 6, 7, 8, 9, 10, 11, 12], [])])
def real_Print.B13 : List Nat := [0, 0, 2, 7, 15, 0, 63, 127, 0, 256, 768, 2047, 4095, 8191]
theorem real_Print.tab13 : rtab .any (opsOf Tryz.f27 13) = real_Print.T13 := by kernel_rfl
theorem real_Print.bits13 : waitsOk real_Print.T13.2 real_Print.B13 = true := by kernel_rfl
theorem bsz_ (a : Array UInt8) : (ByteArray.mk a).size = a.size := rfl
end Go.Proofs.YteigbokklclmbaaGreatDoor.Z
end
