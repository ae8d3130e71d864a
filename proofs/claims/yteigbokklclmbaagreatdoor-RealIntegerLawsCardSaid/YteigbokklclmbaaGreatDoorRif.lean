/- Contracts and lemmas that the law's row leans on, joined by program (pack.py) out of the session's texts; no condition of its own. -/
import Derived.RowKit
import Derived.Laws.BitsLemmas
import Derived.Test.YteigbokklclmbaaGreatDoorRows
import Derived.Test.YteigbokklclmbaaGreatDoorRia
import Derived.Test.YteigbokklclmbaaGreatDoorRib
import Derived.Test.YteigbokklclmbaaGreatDoorRic
import Derived.Test.YteigbokklclmbaaGreatDoorRid
import Derived.Test.YteigbokklclmbaaGreatDoorRie
section
namespace Go.Proofs.YteigbokklclmbaaGreatDoor.Z.Y.V
open Go.RowKit Go.Proofs.YteigbokklclmbaaGreatDoor.Z.Y.Q Go.Proofs.YteigbokklclmbaaGreatDoor.Given Go.Proofs.YteigbokklclmbaaGreatDoorW.PrintWords Go.Proofs.YteigbokklclmbaaGreatDoorW.PrintLast Go.Proofs.YteigbokklclmbaaGreatDoorW.PrintMore
attribute [local go_sem] max2_int min2_int max_two min_two max_three min_three max_four min_four   -- for this text's walks alone
set_option linter.unusedVariables false
set_option linter.unusedSimpArgs false

mutual
def manorboylaw02_RealIntegerLaws.j0 : Nat → Int → Bool → Option (Bool)
 | 0, _, _ => none
 | k + 1, x0, x34 => if x34 = true then (some false) else ((manorboylaw02_at.f x0).bind fun bt860 => ((real_Entier.f bt860.1 bt860.2).bind fun bt863 => ((real_Round.f bt860.1 bt860.2).bind fun bt865 => ((real_Neg.f bt860.1 bt860.2).bind fun bt867 => ((real_Round.f bt867.1 bt867.2.1).bind fun bt871 => (if bt863.2 = 0 then (manorboylaw02_RealIntegerLaws.j1 k bt863.2 bt863.1 bt865.1 bt865.2 bt867.2.2 bt871.1 bt871.2 (bt865.2 != 0) bt860.1 bt860.2) else (manorboylaw02_RealIntegerLaws.j1 k bt863.2 bt863.1 bt865.1 bt865.2 bt867.2.2 bt871.1 bt871.2 true bt860.1 bt860.2)))))))
def manorboylaw02_RealIntegerLaws.j1 : Nat → Int → Int → Int → Int → Int → Int → Int → Bool → Int → Int → Option (Bool)
 | 0, _, _, _, _, _, _, _, _, _, _ => none
 | k + 1, x6, x8, x9, x10, x12, x13, x14, x62, x863000, x863001 => if x62 = true then ((manorboylaw02_sanity.f k).bind fun t873 => (if t873 = true then (if x6 = 0 then (if x10 = 0 then (some true) else (some (x10 == 3))) else (if x6 = 3 then (if x10 = 0 then (some true) else (some (x10 == 3))) else (some false))) else (some false))) else (if x12 = 0 then (if x14 = 0 then (if x9 = x8 then (manorboylaw02_RealIntegerLaws.j2 k x8 x9 x13 x14 false x863000 x863001) else (manorboylaw02_RealIntegerLaws.j2 k x8 x9 x13 x14 (x9 != (wrap64 (x8 + 1))) x863000 x863001)) else (if x14 = 3 then (if x9 = x8 then (manorboylaw02_RealIntegerLaws.j2 k x8 x9 x13 x14 false x863000 x863001) else (manorboylaw02_RealIntegerLaws.j2 k x8 x9 x13 x14 (x9 != (wrap64 (x8 + 1))) x863000 x863001)) else (manorboylaw02_RealIntegerLaws.j2 k x8 x9 x13 x14 true x863000 x863001))) else (manorboylaw02_RealIntegerLaws.j2 k x8 x9 x13 x14 true x863000 x863001))
def manorboylaw02_RealIntegerLaws.j2 : Nat → Int → Int → Int → Int → Bool → Int → Int → Option (Bool)
 | 0, _, _, _, _, _, _, _ => none
 | k + 1, x8, x9, x13, x14, x100, x863000, x863001 => if x100 = true then (some false) else (if x8 < (-8388608) then (manorboylaw02_RealIntegerLaws.j3 k x8 x9 x13 x14 true x863000 x863001) else (manorboylaw02_RealIntegerLaws.j3 k x8 x9 x13 x14 (decide (x8 ≥ 8388608)) x863000 x863001))
def manorboylaw02_RealIntegerLaws.j3 : Nat → Int → Int → Int → Int → Bool → Int → Int → Option (Bool)
 | 0, _, _, _, _, _, _, _ => none
 | k + 1, x8, x9, x13, x14, x106, x863000, x863001 => if x106 = true then ((manorboylaw02_sanity.f k).bind fun t874 => (some t874)) else ((real_FromIntN.f k x8).bind fun bt875 => ((real_Cmp.f bt875.1 bt875.2 x863000 x863001).bind fun bt877 => ((real_FromIntN.f k (wrap64 (x8 + 1))).bind fun bt879 => ((real_Cmp.f x863000 x863001 bt879.1 bt879.2).bind fun bt881 => ((real_FromIntN.f k x8).bind fun bt883 => ((real_Sub.f k x863000 x863001 bt883.1 bt883.2).bind fun bt885 => ((manorboylaw02_two.f (-1)).bind fun bt889 => ((real_Cmp.f bt885.1 bt885.2.1 bt889.1 bt889.2).bind fun bt891 => (if bt877.2 = 0 then (if bt881.2 = 0 then (if bt885.2.2 = 0 then (if bt891.2 = 0 then (if x14 = 0 then (if bt877.1 > 0 then (manorboylaw02_RealIntegerLaws.j4 k x8 x9 x13 bt891.1 true) else (manorboylaw02_RealIntegerLaws.j4 k x8 x9 x13 bt891.1 (decide (bt881.1 ≥ 0)))) else (manorboylaw02_RealIntegerLaws.j4 k x8 x9 x13 bt891.1 true)) else (manorboylaw02_RealIntegerLaws.j4 k x8 x9 x13 bt891.1 true)) else (manorboylaw02_RealIntegerLaws.j4 k x8 x9 x13 bt891.1 true)) else (manorboylaw02_RealIntegerLaws.j4 k x8 x9 x13 bt891.1 true)) else (manorboylaw02_RealIntegerLaws.j4 k x8 x9 x13 bt891.1 true))))))))))
def manorboylaw02_RealIntegerLaws.j4 : Nat → Int → Int → Int → Int → Bool → Option (Bool)
 | 0, _, _, _, _, _ => none
 | k + 1, x8, x9, x13, x18, x161 => if x161 = true then (some false) else ((manorboylaw02_sanity.f k).bind fun t893 => (if t893 = true then (if x9 = (wrap64 (x8 + 1)) then (if ((decide (x18 > 0)) == (x18 != 0)) = true then (if x18 = 0 then (some true) else (some (x13 == (wrap64 (-x9))))) else (some false)) else (if ((decide (x18 > 0)) == false) = true then (if x18 = 0 then (some false) else (some (x13 == (wrap64 (-x9))))) else (some false))) else (some false)))
end
def manorboylaw02_RealIntegerLaws.f (k : Nat) (a0 : Int) (a1 : Int) : Option (Bool) := (real_FromIntN.f k (Int.tmod a1 16777217)).bind fun bt856 => ((real_Entier.f bt856.1 bt856.2).bind fun bt858 => (if bt858.2 = 0 then (manorboylaw02_RealIntegerLaws.j0 k a0 (bt858.1 != (Int.tmod a1 16777217))) else (manorboylaw02_RealIntegerLaws.j0 k a0 true)))
def manorboylaw02_RealIntegerLaws.T16 : Bool × List (List Nat × List Nat) := (true, [([], []), ([0], [0]), ([], []), ([1, 2, 1], [1, 2]), ([3], [3]), ([4], [4]), ([4], [4]), ([5, 3, 0, 1, 2, 3, 4, 5], [5]), ([6, 7, 0, 1, 2, 3, 4, 5, 6, 7], [6])])
def manorboylaw02_RealIntegerLaws.B16 : List Nat := [0, 1, 0, 7, 15, 31, 31, 63, 255]
theorem manorboylaw02_RealIntegerLaws.tab16 : rtab .any (opsOf Tryz.f11 16) = manorboylaw02_RealIntegerLaws.T16 := by kernel_rfl
theorem manorboylaw02_RealIntegerLaws.bits16 : waitsOk manorboylaw02_RealIntegerLaws.T16.2 manorboylaw02_RealIntegerLaws.B16 = true := by kernel_rfl
def manorboylaw02_RealIntegerLaws.T17 : Bool × List (List Nat × List Nat) := (true, [([], []), ([], []), ([1], [1]), ([2], [2]), ([0, 3, 3], [0, 3]), ([4], [4]), ([5], [5]), ([5], [5]), ([6, 4, 0, 1, 2, 3, 4, 5, 6], [6]), ([7, 8, 0, 1, 2, 3, 4, 5, 6, 7, 8], [7])])
def manorboylaw02_RealIntegerLaws.B17 : List Nat := [0, 0, 2, 6, 15, 31, 63, 63, 127, 511]
theorem manorboylaw02_RealIntegerLaws.tab17 : rtab .any (opsOf Tryz.f11 17) = manorboylaw02_RealIntegerLaws.T17 := by kernel_rfl
theorem manorboylaw02_RealIntegerLaws.bits17 : waitsOk manorboylaw02_RealIntegerLaws.T17.2 manorboylaw02_RealIntegerLaws.B17 = true := by kernel_rfl
def manorboylaw02_RealIntegerLaws.T18 : Bool × List (List Nat × List Nat) := (true, [([], []), ([], []), ([1], [1]), ([0, 2, 2], [0, 2]), ([3], [3]), ([4], [4]), ([4], [4]), ([], []), ([7, 5, 3, 0, 1, 2, 3, 4, 5, 7], [5, 7]), ([6, 8, 0, 1, 2, 3, 4, 5, 6, 7, 8], [6])])
def manorboylaw02_RealIntegerLaws.B18 : List Nat := [0, 0, 2, 7, 15, 31, 31, 0, 191, 511]
theorem manorboylaw02_RealIntegerLaws.tab18 : rtab .any (opsOf Tryz.f11 18) = manorboylaw02_RealIntegerLaws.T18 := by kernel_rfl
theorem manorboylaw02_RealIntegerLaws.bits18 : waitsOk manorboylaw02_RealIntegerLaws.T18.2 manorboylaw02_RealIntegerLaws.B18 = true := by kernel_rfl
def manorboylaw02_RealIntegerLaws.T19 : Bool × List (List Nat × List Nat) := (true, [([], []), ([], []), ([0, 1, 1], [0, 1]), ([2], [2]), ([3], [3]), ([3], [3]), ([4, 2, 0, 1, 2, 3, 4], [4]), ([5, 6, 0, 1, 2, 3, 4, 5, 6], [5])])
def manorboylaw02_RealIntegerLaws.B19 : List Nat := [0, 0, 3, 7, 15, 15, 31, 127]
theorem manorboylaw02_RealIntegerLaws.tab19 : rtab .any (opsOf Tryz.f11 19) = manorboylaw02_RealIntegerLaws.T19 := by kernel_rfl
theorem manorboylaw02_RealIntegerLaws.bits19 : waitsOk manorboylaw02_RealIntegerLaws.T19.2 manorboylaw02_RealIntegerLaws.B19 = true := by kernel_rfl
theorem manorboylaw02_RealIntegerLaws.j0_no : ∀ (k : Nat) (y0 : _), manorboylaw02_RealIntegerLaws.j0 k y0 true ≠ some true
 | 0, y0, h => by simp [manorboylaw02_RealIntegerLaws.j0] at h
 | k + 1, y0, h => by rw [manorboylaw02_RealIntegerLaws.j0, if_pos rfl] at h; simp at h
theorem manorboylaw02_RealIntegerLaws.j2_no : ∀ (k : Nat) (y0 : _) (y1 : _) (y2 : _) (y3 : _) (y5 : _) (y6 : _), manorboylaw02_RealIntegerLaws.j2 k y0 y1 y2 y3 true y5 y6 ≠ some true
 | 0, y0, y1, y2, y3, y5, y6, h => by simp [manorboylaw02_RealIntegerLaws.j2] at h
 | k + 1, y0, y1, y2, y3, y5, y6, h => by rw [manorboylaw02_RealIntegerLaws.j2, if_pos rfl] at h; simp at h
theorem manorboylaw02_RealIntegerLaws.j4_no : ∀ (k : Nat) (y0 : _) (y1 : _) (y2 : _) (y3 : _), manorboylaw02_RealIntegerLaws.j4 k y0 y1 y2 y3 true ≠ some true
 | 0, y0, y1, y2, y3, h => by simp [manorboylaw02_RealIntegerLaws.j4] at h
 | k + 1, y0, y1, y2, y3, h => by rw [manorboylaw02_RealIntegerLaws.j4, if_pos rfl] at h; simp at h
set_option maxHeartbeats 8000000 in
set_option maxRecDepth 100000 in
theorem manorboylaw02_RealIntegerLaws.calls (k : Nat) (a0 : Int) (a1 : Int) (r : Bool) (w : World) (h : manorboylaw02_RealIntegerLaws.f k a0 a1 = some r) (hr : r = true) (ht : Table w) :
  Calls Tryz.prog 11 #[.int .i64 a0, .int .i64 a1] w fun e w' => e = .returned (.bool r) ∧ Below w.heap.size w w' := by
 have hu23 := Tryz.underlying23
 have HB := Aside0.mk (Below.refl w.heap.size w)
 have HT := Aside0.mk (Lib.tabBelow_of_tabIs ht)
 clear ht
 have H : ((real_FromIntN.f k (Int.tmod a1 16777217)).bind fun bt856 => ((real_Entier.f bt856.1 bt856.2).bind fun bt858 => (if bt858.2 = 0 then (manorboylaw02_RealIntegerLaws.j0 k a0 (bt858.1 != (Int.tmod a1 16777217))) else (manorboylaw02_RealIntegerLaws.j0 k a0 true)))) = some r := h
 clear h
 replace H := Option.bind_eq_some_iff.mp H
 obtain ⟨⟨t856, t857⟩, A30, H⟩ := H
 try dsimp only at H
 have A3 := Aside0.mk A30
 clear A30
 replace H := Option.bind_eq_some_iff.mp H
 obtain ⟨⟨t858, t859⟩, A40, H⟩ := H
 try dsimp only at H
 have A4 := Aside0.mk A40
 clear A40
 have HC5 := Aside0.mk H
 clear H
 go_enter Tryz.func11, Tryz.ntmps11
 go_upto_region 3 with (first | ((with_reducible refine gate_callee (f := 31) rfl ?_); refine goesL_ (some 24) rfl rfl Tryz.func31 (by kernel_rfl) rfl #[.int .i64 (Int.tmod a1 16777217)] rfl az ?_; (with_reducible refine (real_FromIntN.calls k (Int.tmod a1 16777217) t856 t857 _ A3.out).mono ?_); rintro e w6 ⟨rfl, hb⟩; refine ⟨_, rfl, ?_⟩; replace HB := bs hb; (try clear hb)) | ((with_reducible refine gate_callee (f := 21) rfl ?_); refine goesL_ (some 25) rfl rfl Tryz.func21 (by kernel_rfl) rfl #[.agg #[.int .i64 t856, .int .i64 t857]] rfl az ?_; (with_reducible refine (real_Entier.calls t856 t857 t858 t859 _ A4.out).mono ?_); rintro e w7 ⟨rfl, hb⟩; refine ⟨_, rfl, ?_⟩; replace HB := bs hb; (try clear hb)))
 (try simp only [Act.put, List.setIfInBounds_toArray, List.set_cons_zero, List.set_cons_succ])
 go_cut [34] (fun v34 wc => ∃ (kq : Nat) (x34_4 : Bool), v34 = .bool x34_4 ∧ Aside0 (manorboylaw02_RealIntegerLaws.j0 kq a0 x34_4 = some r) ∧ Aside0 (kq ≤ k) ∧ Aside0 (Below w.heap.size w wc))
 case first => as_aux_lemma =>
  have H := HC5.out
  clear HC5
  by_cases c8 : t859 = 0
  ·rw [if_pos c8] at H
   have c8b0 : (t859 == 0) = true := beq_iff_eq.mpr c8
   have c8b1 : (t859 != 0) = false := bne_eq_false_iff_eq.mpr c8
   clear c8
   (first | rw [c8b0] | (simp only [i64_w, i32_w]; rw [c8b0]) | skip)
   have H' := Aside0.mk H
   clear H
   go_wp2
   go_meet
   case rel => exact ⟨_, ((t858 != (Int.tmod a1 16777217))), (by first | rfl | (simp; done) | (simp [*]; done)), H', ⟨by first | omega | exact Nat.le_refl _⟩, ⟨bz⟩⟩
  ·rw [if_neg c8] at H
   first | exact absurd (Option.some.inj H) (by rw [hr]; decide) | exact absurd H (by rw [hr]; exact manorboylaw02_RealIntegerLaws.j0_no _ _) | exact absurd H (by rw [hr]; exact manorboylaw02_RealIntegerLaws.j2_no _ _ _ _ _ _ _) | exact absurd H (by rw [hr]; exact manorboylaw02_RealIntegerLaws.j4_no _ _ _ _ _)
 case rest => as_aux_lemma =>
  clear HC5
  try clear c8
  try clear c8b0
  try clear c8b1
  obtain ⟨kq, x34_4, rfl, HA, HJ4, HB⟩ := hcut
  cases kq with
  | zero => exact absurd HA.out (by simp [manorboylaw02_RealIntegerLaws.j0])
  | succ kj4 =>
   have H := HA.out
   clear HA
   simp only [manorboylaw02_RealIntegerLaws.j0] at H
   by_cases c9 : x34_4 = true
   ·subst c9
    have H1 : (some false) = some r := by rw [if_pos rfl] at H; exact H
    clear H
    have H := H1
    clear H1
    first | exact absurd (Option.some.inj H) (by rw [hr]; decide) | exact absurd H (by rw [hr]; exact manorboylaw02_RealIntegerLaws.j0_no _ _) | exact absurd H (by rw [hr]; exact manorboylaw02_RealIntegerLaws.j2_no _ _ _ _ _ _ _) | exact absurd H (by rw [hr]; exact manorboylaw02_RealIntegerLaws.j4_no _ _ _ _ _)
   ·replace c9 := Bool.eq_false_iff.mpr c9
    subst c9
    have H1 : ((manorboylaw02_at.f a0).bind fun bt860 => ((real_Entier.f bt860.1 bt860.2).bind fun bt863 => ((real_Round.f bt860.1 bt860.2).bind fun bt865 => ((real_Neg.f bt860.1 bt860.2).bind fun bt867 => ((real_Round.f bt867.1 bt867.2.1).bind fun bt871 => (if bt863.2 = 0 then (manorboylaw02_RealIntegerLaws.j1 kj4 bt863.2 bt863.1 bt865.1 bt865.2 bt867.2.2 bt871.1 bt871.2 (bt865.2 != 0) bt860.1 bt860.2) else (manorboylaw02_RealIntegerLaws.j1 kj4 bt863.2 bt863.1 bt865.1 bt865.2 bt867.2.2 bt871.1 bt871.2 true bt860.1 bt860.2))))))) = some r := by rw [if_neg (show ¬ (false = true) by decide)] at H; exact H
    clear H
    have H := H1
    clear H1
    replace H := Option.bind_eq_some_iff.mp H
    obtain ⟨⟨t860, t861⟩, A100, H⟩ := H
    try dsimp only at H
    have A10 := Aside0.mk A100
    clear A100
    replace H := Option.bind_eq_some_iff.mp H
    obtain ⟨⟨t863, t864⟩, A110, H⟩ := H
    try dsimp only at H
    have A11 := Aside0.mk A110
    clear A110
    replace H := Option.bind_eq_some_iff.mp H
    obtain ⟨⟨t865, t866⟩, A120, H⟩ := H
    try dsimp only at H
    have A12 := Aside0.mk A120
    clear A120
    replace H := Option.bind_eq_some_iff.mp H
    obtain ⟨⟨t867, t868, t869⟩, A130, H⟩ := H
    try dsimp only at H
    have A13 := Aside0.mk A130
    clear A130
    replace H := Option.bind_eq_some_iff.mp H
    obtain ⟨⟨t871, t872⟩, A140, H⟩ := H
    try dsimp only at H
    have A14 := Aside0.mk A140
    clear A140
    have HC15 := Aside0.mk H
    clear H
    go_upto_region 10 with (first | ((with_reducible refine gate_callee (f := 38) rfl ?_); refine goesL_ (some 36) rfl rfl Tryz.func38 (by kernel_rfl) rfl #[.int .i64 a0] rfl az ?_; (with_reducible refine (manorboylaw02_at.calls a0 t860 t861 _ A10.out).mono ?_); rintro e w16 ⟨rfl, hb⟩; refine ⟨_, rfl, ?_⟩; replace HB := bs hb; (try clear hb)) | ((with_reducible refine gate_dst (N := 7) rfl ?_); refine box_event ?hg (N := 7) ?hd (cs := #[.int .i64 0, .int .i64 0]) (t := 23) ?hr ?_; (case hd => rfl); (case hg => rfl); (case hr => first | (go_simp; done) | (go_simp; rfl)); intro gb862 hg w17 hbox hb; have BK862 := Aside0.mk hbox; have GW862 := ge hg; have GE862 := ge hg; replace HB := bs hb; clear hb hbox hg; have hcz18_0 := Given.c20 BK862; have hcz18_1 := Given.c21 BK862; have hfz18_0 := blk_frozen BK862.out 0; have hfz18_1 := blk_frozen BK862.out 1) | ((with_reducible refine gate_callee (f := 21) rfl ?_); refine goesL_ (some 39) rfl rfl Tryz.func21 (by kernel_rfl) rfl #[.agg #[.int .i64 t860, .int .i64 t861]] rfl az ?_; (with_reducible refine (real_Entier.calls t860 t861 t863 t864 _ A11.out).mono ?_); rintro e w19 ⟨rfl, hb⟩; refine ⟨_, rfl, ?_⟩; replace BK862 := Aside0.mk (blk_below (g := gb862) (o := .cells #[.int .i64 t860, .int .i64 t861] 23 (0, 0)) (by (with_reducible repeat (first | refine blk_drewN ?_ _ | refine blk_drew ?_ | refine blk_alloc ?_ _)); refine blk_put (cs := #[.int .i64 t860, .int .i64 0]) ?_ 1 _ rfl; (with_reducible repeat (first | refine blk_drewN ?_ _ | refine blk_drew ?_ | refine blk_alloc ?_ _)); refine blk_put (cs := #[.int .i64 0, .int .i64 0]) ?_ 0 _ rfl; (with_reducible repeat (first | refine blk_drewN ?_ _ | refine blk_drew ?_ | refine blk_alloc ?_ _)); exact BK862.out) hb); replace HB := bs hb; (try clear hb); have hcz20_0 := Given.c20 BK862; have hcz20_1 := Given.c21 BK862; have hfz20_0 := blk_frozen BK862.out 0; have hfz20_1 := blk_frozen BK862.out 1) | ((with_reducible refine gate_callee (f := 22) rfl ?_); refine goesL_ (some 44) rfl rfl Tryz.func22 (by kernel_rfl) rfl #[.agg #[.int .i64 t860, .int .i64 t861]] rfl az ?_; (with_reducible refine (real_Round.calls t860 t861 t865 t866 _ A12.out).mono ?_); rintro e w21 ⟨rfl, hb⟩; refine ⟨_, rfl, ?_⟩; replace BK862 := kb BK862 hb; replace HB := bs hb; (try clear hb); have hcz22_0 := Given.c20 BK862; have hcz22_1 := Given.c21 BK862; have hfz22_0 := blk_frozen BK862.out 0; have hfz22_1 := blk_frozen BK862.out 1) | ((with_reducible refine gate_callee (f := 47) rfl ?_); refine goesL_ (some 49) rfl rfl Tryz.func47 (by kernel_rfl) rfl #[.agg #[.int .i64 t860, .int .i64 t861]] rfl az ?_; (with_reducible refine (real_Neg.calls t860 t861 t867 t868 t869 _ A13.out).mono ?_); rintro e w23 ⟨rfl, hb⟩; refine ⟨_, rfl, ?_⟩; replace BK862 := kb BK862 hb; replace HB := bs hb; (try clear hb)) | ((with_reducible refine gate_dst (N := 11) rfl ?_); refine box_event ?hg (N := 11) ?hd (cs := #[.int .i64 0, .int .i64 0]) (t := 23) ?hr ?_; (case hd => rfl); (case hg => rfl); (case hr => first | (go_simp; done) | (go_simp; rfl)); intro gb870 hg w24 hbox hb; have BK870 := Aside0.mk hbox; have GW870 := ge hg; have GE870 := ge hg; have NB862_870 := nl BK862 hg; have NB870_862 := nr BK862 hg; replace BK862 := kb BK862 hb; replace HB := bs hb; clear hb hbox hg; have hnb25 := NB870_862.out; have hnc25 := NB862_870.out; have hcz26_0 := Given.c20 BK870; have hcz26_1 := Given.c21 BK870; have hfz26_0 := blk_frozen BK870.out 0; have hfz26_1 := blk_frozen BK870.out 1) | ((with_reducible refine gate_callee (f := 22) rfl ?_); refine goesL_ (some 54) rfl rfl Tryz.func22 (by kernel_rfl) rfl #[.agg #[.int .i64 t867, .int .i64 t868]] rfl az ?_; (with_reducible refine (real_Round.calls t867 t868 t871 t872 _ A14.out).mono ?_); rintro e w27 ⟨rfl, hb⟩; refine ⟨_, rfl, ?_⟩; replace BK862 := Aside0.mk (blk_below (g := gb862) (o := .cells #[.int .i64 t860, .int .i64 t861] 23 (0, 0)) (by (with_reducible repeat (first | refine blk_drewN ?_ _ | refine blk_drew ?_ | refine blk_alloc ?_ _)); refine blk_far ?_ NB862_870.out _; (with_reducible repeat (first | refine blk_drewN ?_ _ | refine blk_drew ?_ | refine blk_alloc ?_ _)); refine blk_far ?_ NB862_870.out _; (with_reducible repeat (first | refine blk_drewN ?_ _ | refine blk_drew ?_ | refine blk_alloc ?_ _)); exact BK862.out) hb); replace BK870 := Aside0.mk (blk_below (g := gb870) (o := .cells #[.int .i64 t867, .int .i64 t868] 23 (0, 0)) (by (with_reducible repeat (first | refine blk_drewN ?_ _ | refine blk_drew ?_ | refine blk_alloc ?_ _)); refine blk_put (cs := #[.int .i64 t867, .int .i64 0]) ?_ 1 _ rfl; (with_reducible repeat (first | refine blk_drewN ?_ _ | refine blk_drew ?_ | refine blk_alloc ?_ _)); refine blk_put (cs := #[.int .i64 0, .int .i64 0]) ?_ 0 _ rfl; (with_reducible repeat (first | refine blk_drewN ?_ _ | refine blk_drew ?_ | refine blk_alloc ?_ _)); exact BK870.out) hb); replace HB := bs hb; (try clear hb)))
    (try simp only [Act.put, List.setIfInBounds_toArray, List.set_cons_zero, List.set_cons_succ])
    go_cut [62] (fun v62 wc => ∃ (kq : Nat) (x62_14 : Bool), v62 = .bool x62_14 ∧ Aside0 (manorboylaw02_RealIntegerLaws.j1 kq t864 t863 t865 t866 t869 t871 t872 x62_14 t860 t861 = some r) ∧ Aside0 (kq ≤ kj4) ∧ Aside0 (wc.heap[gb862]? = some (.cells #[.int .i64 t860, .int .i64 t861] 23 (0, 0))) ∧ Aside0 (wc.heap[gb870]? = some (.cells #[.int .i64 t867, .int .i64 t868] 23 (0, 0))) ∧ Aside0 (Below w.heap.size w wc))
    case first => as_aux_lemma =>
     have H := HC15.out
     clear HC15
     by_cases c28 : t864 = 0
     ·rw [if_pos c28] at H
      have c28b0 : (t864 == 0) = true := beq_iff_eq.mpr c28
      have c28b1 : (t864 != 0) = false := bne_eq_false_iff_eq.mpr c28
      clear c28
      (first | rw [c28b0] | (simp only [i64_w, i32_w]; rw [c28b0]) | skip)
      have H' := Aside0.mk H
      clear H
      go_wp2
      go_meet
      case rel => exact ⟨_, ((t866 != 0)), (by first | rfl | (simp; done) | (simp [*]; done)), H', ⟨by have := HJ4.out; first | omega | exact Nat.le_refl _⟩, ⟨kz BK862⟩, ⟨kz BK870⟩, ⟨bz⟩⟩
     ·rw [if_neg c28] at H
      have c28b0 : (t864 == 0) = false := beq_eq_false_iff_ne.mpr c28
      have c28b1 : (t864 != 0) = true := bne_iff_ne.mpr c28
      (first | rw [c28b0] | (simp only [i64_w, i32_w]; rw [c28b0]) | skip)
      have H' := Aside0.mk H
      clear H
      go_wp2
      go_meet
      case rel => exact ⟨_, (true), (by first | rfl | (simp; done) | (simp [*]; done)), H', ⟨by have := HJ4.out; first | omega | exact Nat.le_refl _⟩, ⟨kz BK862⟩, ⟨kz BK870⟩, ⟨bz⟩⟩
    case rest => as_aux_lemma =>
     clear HC15
     try clear c8
     try clear c8b0
     try clear c8b1
     try clear c9
     try clear c21
     try clear c28
     try clear c28b0
     try clear c28b1
     try clear hcz18_0
     try clear hcz18_1
     try clear hcz20_0
     try clear hcz20_1
     try clear hcz22_0
     try clear hcz22_1
     try clear hcz26_0
     try clear hcz26_1
     try clear hfz18_0
     try clear hfz18_1
     try clear hfz20_0
     try clear hfz20_1
     try clear hfz22_0
     try clear hfz22_1
     try clear hfz26_0
     try clear hfz26_1
     obtain ⟨kq, x62_14, rfl, HA, HJ14, BK862, BK870, HB⟩ := hcut
     cases kq with
     | zero => exact absurd HA.out (by simp [manorboylaw02_RealIntegerLaws.j1])
     | succ kj14 =>
      have H := HA.out
      clear HA
      simp only [manorboylaw02_RealIntegerLaws.j1] at H
      by_cases c29 : x62_14 = true
      ·subst c29
       have H1 : ((manorboylaw02_sanity.f kj14).bind fun t873 => (if t873 = true then (if t864 = 0 then (if t866 = 0 then (some true) else (some (t866 == 3))) else (if t864 = 3 then (if t866 = 0 then (some true) else (some (t866 == 3))) else (some false))) else (some false))) = some r := by rw [if_pos rfl] at H; exact H
       clear H
       have H := H1
       clear H1
       replace H := Option.bind_eq_some_iff.mp H
       obtain ⟨t873, A300, H⟩ := H
       try dsimp only at H
       have A30 := Aside0.mk A300
       clear A300
       by_cases c31 : t873 = true
       ·subst c31
        have H1 : (if t864 = 0 then (if t866 = 0 then (some true) else (some (t866 == 3))) else (if t864 = 3 then (if t866 = 0 then (some true) else (some (t866 == 3))) else (some false))) = some r := by rw [if_pos rfl] at H; exact H
        clear H
        have H := H1
        clear H1
        by_cases c32 : t864 = 0
        ·rw [if_pos c32] at H
         have c32b0 : (t864 == 0) = true := beq_iff_eq.mpr c32
         have c32b1 : (t864 != 0) = false := bne_eq_false_iff_eq.mpr c32
         clear c32
         by_cases c33 : t866 = 0
         ·rw [if_pos c33] at H
          have c33b0 : (t866 == 0) = true := beq_iff_eq.mpr c33
          have c33b1 : (t866 != 0) = false := bne_eq_false_iff_eq.mpr c33
          clear c33
          obtain rfl := Option.some.inj H
          go_wp2_with (first | ((with_reducible refine gate_callee (f := 19) rfl ?_); refine goesL_ (some 63) rfl rfl Tryz.func19 (by kernel_rfl) rfl #[] rfl az ?_; (with_reducible refine (manorboylaw02_sanity.calls kj14  true _ A30.out (by first | rfl | exact hr) (tabAt HT.out bz)).mono ?_); rintro e w34 ⟨rfl, hb⟩; refine ⟨_, rfl, ?_⟩; replace BK862 := kb BK862 hb; replace BK870 := kb BK870 hb; replace HB := bs hb; (try clear hb)))
          go_ret
          exact ⟨by first | rfl | (simp [errW_none, errW_some] <;> rfl) | (simp [*, errW_none, errW_some] <;> rfl), bz⟩
         ·rw [if_neg c33] at H
          have c33b0 : (t866 == 0) = false := beq_eq_false_iff_ne.mpr c33
          have c33b1 : (t866 != 0) = true := bne_iff_ne.mpr c33
          obtain rfl := Option.some.inj H
          go_wp2_with (first | ((with_reducible refine gate_callee (f := 19) rfl ?_); refine goesL_ (some 63) rfl rfl Tryz.func19 (by kernel_rfl) rfl #[] rfl az ?_; (with_reducible refine (manorboylaw02_sanity.calls kj14  true _ A30.out (by first | rfl | exact hr) (tabAt HT.out bz)).mono ?_); rintro e w35 ⟨rfl, hb⟩; refine ⟨_, rfl, ?_⟩; replace BK862 := kb BK862 hb; replace BK870 := kb BK870 hb; replace HB := bs hb; (try clear hb)))
          go_ret
          exact ⟨by first | rfl | (simp [errW_none, errW_some] <;> rfl) | (simp [*, errW_none, errW_some] <;> rfl), bz⟩
        ·rw [if_neg c32] at H
         have c32b0 : (t864 == 0) = false := beq_eq_false_iff_ne.mpr c32
         have c32b1 : (t864 != 0) = true := bne_iff_ne.mpr c32
         by_cases c36 : t864 = 3
         ·rw [if_pos c36] at H
          have c36b0 : (t864 == 3) = true := beq_iff_eq.mpr c36
          have c36b1 : (t864 != 3) = false := bne_eq_false_iff_eq.mpr c36
          clear c36
          by_cases c37 : t866 = 0
          ·rw [if_pos c37] at H
           have c37b0 : (t866 == 0) = true := beq_iff_eq.mpr c37
           have c37b1 : (t866 != 0) = false := bne_eq_false_iff_eq.mpr c37
           clear c37
           obtain rfl := Option.some.inj H
           go_wp2_with (first | ((with_reducible refine gate_callee (f := 19) rfl ?_); refine goesL_ (some 63) rfl rfl Tryz.func19 (by kernel_rfl) rfl #[] rfl az ?_; (with_reducible refine (manorboylaw02_sanity.calls kj14  true _ A30.out (by first | rfl | exact hr) (tabAt HT.out bz)).mono ?_); rintro e w38 ⟨rfl, hb⟩; refine ⟨_, rfl, ?_⟩; replace BK862 := kb BK862 hb; replace BK870 := kb BK870 hb; replace HB := bs hb; (try clear hb)))
           go_ret
           exact ⟨by first | rfl | (simp [errW_none, errW_some] <;> rfl) | (simp [*, errW_none, errW_some] <;> rfl), bz⟩
          ·rw [if_neg c37] at H
           have c37b0 : (t866 == 0) = false := beq_eq_false_iff_ne.mpr c37
           have c37b1 : (t866 != 0) = true := bne_iff_ne.mpr c37
           obtain rfl := Option.some.inj H
           go_wp2_with (first | ((with_reducible refine gate_callee (f := 19) rfl ?_); refine goesL_ (some 63) rfl rfl Tryz.func19 (by kernel_rfl) rfl #[] rfl az ?_; (with_reducible refine (manorboylaw02_sanity.calls kj14  true _ A30.out (by first | rfl | exact hr) (tabAt HT.out bz)).mono ?_); rintro e w39 ⟨rfl, hb⟩; refine ⟨_, rfl, ?_⟩; replace BK862 := kb BK862 hb; replace BK870 := kb BK870 hb; replace HB := bs hb; (try clear hb)))
           go_ret
           exact ⟨by first | rfl | (simp [errW_none, errW_some] <;> rfl) | (simp [*, errW_none, errW_some] <;> rfl), bz⟩
         ·rw [if_neg c36] at H
          first | exact absurd (Option.some.inj H) (by rw [hr]; decide) | exact absurd H (by rw [hr]; exact manorboylaw02_RealIntegerLaws.j0_no _ _) | exact absurd H (by rw [hr]; exact manorboylaw02_RealIntegerLaws.j2_no _ _ _ _ _ _ _) | exact absurd H (by rw [hr]; exact manorboylaw02_RealIntegerLaws.j4_no _ _ _ _ _)
       ·replace c31 := Bool.eq_false_iff.mpr c31
        subst c31
        have H1 : (some false) = some r := by rw [if_neg (show ¬ (false = true) by decide)] at H; exact H
        clear H
        have H := H1
        clear H1
        first | exact absurd (Option.some.inj H) (by rw [hr]; decide) | exact absurd H (by rw [hr]; exact manorboylaw02_RealIntegerLaws.j0_no _ _) | exact absurd H (by rw [hr]; exact manorboylaw02_RealIntegerLaws.j2_no _ _ _ _ _ _ _) | exact absurd H (by rw [hr]; exact manorboylaw02_RealIntegerLaws.j4_no _ _ _ _ _)
      ·replace c29 := Bool.eq_false_iff.mpr c29
       subst c29
       have H1 : (if t869 = 0 then (if t872 = 0 then (if t865 = t863 then (manorboylaw02_RealIntegerLaws.j2 kj14 t863 t865 t871 t872 false t860 t861) else (manorboylaw02_RealIntegerLaws.j2 kj14 t863 t865 t871 t872 (t865 != (wrap64 (t863 + 1))) t860 t861)) else (if t872 = 3 then (if t865 = t863 then (manorboylaw02_RealIntegerLaws.j2 kj14 t863 t865 t871 t872 false t860 t861) else (manorboylaw02_RealIntegerLaws.j2 kj14 t863 t865 t871 t872 (t865 != (wrap64 (t863 + 1))) t860 t861)) else (manorboylaw02_RealIntegerLaws.j2 kj14 t863 t865 t871 t872 true t860 t861))) else (manorboylaw02_RealIntegerLaws.j2 kj14 t863 t865 t871 t872 true t860 t861)) = some r := by rw [if_neg (show ¬ (false = true) by decide)] at H; exact H
       clear H
       have H := H1
       clear H1
       have HC42 := Aside0.mk H
       clear H
       go_upto_region 12 with (fail)
       go_cut [100] (fun v100 wc => ∃ (kq : Nat) (x100_41 : Bool), v100 = .bool x100_41 ∧ Aside0 (manorboylaw02_RealIntegerLaws.j2 kq t863 t865 t871 t872 x100_41 t860 t861 = some r) ∧ Aside0 (kq ≤ kj14) ∧ Aside0 (wc.heap[gb862]? = some (.cells #[.int .i64 t860, .int .i64 t861] 23 (0, 0))) ∧ Aside0 (wc.heap[gb870]? = some (.cells #[.int .i64 t867, .int .i64 t868] 23 (0, 0))) ∧ Aside0 (Below w.heap.size w wc))
       case first => as_aux_lemma =>
        have H := HC42.out
        clear HC42
        by_cases c43 : t869 = 0
        ·rw [if_pos c43] at H
         have c43b0 : (t869 == 0) = true := beq_iff_eq.mpr c43
         have c43b1 : (t869 != 0) = false := bne_eq_false_iff_eq.mpr c43
         clear c43
         (first | rw [c43b0] | (simp only [i64_w, i32_w]; rw [c43b0]) | skip)
         by_cases c44 : t872 = 0
         ·rw [if_pos c44] at H
          have c44b0 : (t872 == 0) = true := beq_iff_eq.mpr c44
          have c44b1 : (t872 != 0) = false := bne_eq_false_iff_eq.mpr c44
          clear c44
          by_cases c45 : t865 = t863
          ·rw [if_pos c45] at H
           have c45b0 : (t865 == t863) = true := beq_iff_eq.mpr c45
           have c45b1 : (t865 != t863) = false := bne_eq_false_iff_eq.mpr c45
           clear c45
           have H' := Aside0.mk H
           clear H
           go_wp2
           go_meet
           case rel => exact ⟨_, (false), (by first | rfl | (simp; done) | (simp [*]; done)), H', ⟨by have := HJ4.out; have := HJ14.out; first | omega | exact Nat.le_refl _⟩, ⟨kz BK862⟩, ⟨kz BK870⟩, ⟨bz⟩⟩
          ·rw [if_neg c45] at H
           have c45b0 : (t865 == t863) = false := beq_eq_false_iff_ne.mpr c45
           have c45b1 : (t865 != t863) = true := bne_iff_ne.mpr c45
           have H' := Aside0.mk H
           clear H
           go_wp2
           go_meet
           case rel => exact ⟨_, ((t865 != (wrap64 (t863 + 1)))), (by first | rfl | (simp; done) | (simp [*]; done)), H', ⟨by have := HJ4.out; have := HJ14.out; first | omega | exact Nat.le_refl _⟩, ⟨kz BK862⟩, ⟨kz BK870⟩, ⟨bz⟩⟩
         ·rw [if_neg c44] at H
          have c44b0 : (t872 == 0) = false := beq_eq_false_iff_ne.mpr c44
          have c44b1 : (t872 != 0) = true := bne_iff_ne.mpr c44
          by_cases c46 : t872 = 3
          ·rw [if_pos c46] at H
           have c46b0 : (t872 == 3) = true := beq_iff_eq.mpr c46
           have c46b1 : (t872 != 3) = false := bne_eq_false_iff_eq.mpr c46
           clear c46
           by_cases c47 : t865 = t863
           ·rw [if_pos c47] at H
            have c47b0 : (t865 == t863) = true := beq_iff_eq.mpr c47
            have c47b1 : (t865 != t863) = false := bne_eq_false_iff_eq.mpr c47
            clear c47
            have H' := Aside0.mk H
            clear H
            go_wp2
            go_meet
            case rel => exact ⟨_, (false), (by first | rfl | (simp; done) | (simp [*]; done)), H', ⟨by have := HJ4.out; have := HJ14.out; first | omega | exact Nat.le_refl _⟩, ⟨kz BK862⟩, ⟨kz BK870⟩, ⟨bz⟩⟩
           ·rw [if_neg c47] at H
            have c47b0 : (t865 == t863) = false := beq_eq_false_iff_ne.mpr c47
            have c47b1 : (t865 != t863) = true := bne_iff_ne.mpr c47
            have H' := Aside0.mk H
            clear H
            go_wp2
            go_meet
            case rel => exact ⟨_, ((t865 != (wrap64 (t863 + 1)))), (by first | rfl | (simp; done) | (simp [*]; done)), H', ⟨by have := HJ4.out; have := HJ14.out; first | omega | exact Nat.le_refl _⟩, ⟨kz BK862⟩, ⟨kz BK870⟩, ⟨bz⟩⟩
          ·rw [if_neg c46] at H
           first | exact absurd (Option.some.inj H) (by rw [hr]; decide) | exact absurd H (by rw [hr]; exact manorboylaw02_RealIntegerLaws.j0_no _ _) | exact absurd H (by rw [hr]; exact manorboylaw02_RealIntegerLaws.j2_no _ _ _ _ _ _ _) | exact absurd H (by rw [hr]; exact manorboylaw02_RealIntegerLaws.j4_no _ _ _ _ _)
        ·rw [if_neg c43] at H
         first | exact absurd (Option.some.inj H) (by rw [hr]; decide) | exact absurd H (by rw [hr]; exact manorboylaw02_RealIntegerLaws.j0_no _ _) | exact absurd H (by rw [hr]; exact manorboylaw02_RealIntegerLaws.j2_no _ _ _ _ _ _ _) | exact absurd H (by rw [hr]; exact manorboylaw02_RealIntegerLaws.j4_no _ _ _ _ _)
       case rest => as_aux_lemma =>
        clear HC42
        try clear c8
        try clear c8b0
        try clear c8b1
        try clear c9
        try clear c21
        try clear c28
        try clear c28b0
        try clear c28b1
        try clear c29
        try clear c31
        try clear c32
        try clear c32b0
        try clear c32b1
        try clear c33
        try clear c33b0
        try clear c33b1
        try clear c36
        try clear c36b0
        try clear c36b1
        try clear c37
        try clear c37b0
        try clear c37b1
        try clear c43
        try clear c43b0
        try clear c43b1
        try clear c44
        try clear c44b0
        try clear c44b1
        try clear c45
        try clear c45b0
        try clear c45b1
        try clear c46
        try clear c46b0
        try clear c46b1
        try clear c47
        try clear c47b0
        try clear c47b1
        try clear hcz18_0
        try clear hcz18_1
        try clear hcz20_0
        try clear hcz20_1
        try clear hcz22_0
        try clear hcz22_1
        try clear hcz26_0
        try clear hcz26_1
        try clear hfz18_0
        try clear hfz18_1
        try clear hfz20_0
        try clear hfz20_1
        try clear hfz22_0
        try clear hfz22_1
        try clear hfz26_0
        try clear hfz26_1
        obtain ⟨kq, x100_41, rfl, HA, HJ41, BK862, BK870, HB⟩ := hcut
        cases kq with
        | zero => exact absurd HA.out (by simp [manorboylaw02_RealIntegerLaws.j2])
        | succ kj41 =>
         have H := HA.out
         clear HA
         simp only [manorboylaw02_RealIntegerLaws.j2] at H
         by_cases c48 : x100_41 = true
         ·subst c48
          have H1 : (some false) = some r := by rw [if_pos rfl] at H; exact H
          clear H
          have H := H1
          clear H1
          first | exact absurd (Option.some.inj H) (by rw [hr]; decide) | exact absurd H (by rw [hr]; exact manorboylaw02_RealIntegerLaws.j0_no _ _) | exact absurd H (by rw [hr]; exact manorboylaw02_RealIntegerLaws.j2_no _ _ _ _ _ _ _) | exact absurd H (by rw [hr]; exact manorboylaw02_RealIntegerLaws.j4_no _ _ _ _ _)
         ·replace c48 := Bool.eq_false_iff.mpr c48
          subst c48
          have H1 : (if t863 < (-8388608) then (manorboylaw02_RealIntegerLaws.j3 kj41 t863 t865 t871 t872 true t860 t861) else (manorboylaw02_RealIntegerLaws.j3 kj41 t863 t865 t871 t872 (decide (t863 ≥ 8388608)) t860 t861)) = some r := by rw [if_neg (show ¬ (false = true) by decide)] at H; exact H
          clear H
          have H := H1
          clear H1
          have HC49 := Aside0.mk H
          clear H
          go_upto_region 14 with (fail)
          go_cut [106] (fun v106 wc => ∃ (kq : Nat) (x106_48 : Bool), v106 = .bool x106_48 ∧ Aside0 (manorboylaw02_RealIntegerLaws.j3 kq t863 t865 t871 t872 x106_48 t860 t861 = some r) ∧ Aside0 (kq ≤ kj41) ∧ Aside0 (wc.heap[gb862]? = some (.cells #[.int .i64 t860, .int .i64 t861] 23 (0, 0))) ∧ Aside0 (wc.heap[gb870]? = some (.cells #[.int .i64 t867, .int .i64 t868] 23 (0, 0))) ∧ Aside0 (Below w.heap.size w wc))
          case first => as_aux_lemma =>
           have H := HC49.out
           clear HC49
           by_cases c50 : t863 < (-8388608)
           ·rw [if_pos c50] at H
            have c50b0 : decide (t863 < (-8388608)) = true := decide_eq_true c50
            clear c50
            (first | rw [c50b0] | (simp only [i64_w, i32_w]; rw [c50b0]) | skip)
            have H' := Aside0.mk H
            clear H
            go_wp2
            go_meet
            case rel => exact ⟨_, (true), (by first | rfl | (simp; done) | (simp [*]; done)), H', ⟨by have := HJ4.out; have := HJ14.out; have := HJ41.out; first | omega | exact Nat.le_refl _⟩, ⟨kz BK862⟩, ⟨kz BK870⟩, ⟨bz⟩⟩
           ·rw [if_neg c50] at H
            have c50b0 : decide (t863 < (-8388608)) = false := decide_eq_false c50
            clear c50
            (first | rw [c50b0] | (simp only [i64_w, i32_w]; rw [c50b0]) | skip)
            have H' := Aside0.mk H
            clear H
            go_wp2
            go_meet
            case rel => exact ⟨_, (decide (t863 ≥ 8388608)), (by first | rfl | (simp; done) | (simp [*]; done)), H', ⟨by have := HJ4.out; have := HJ14.out; have := HJ41.out; first | omega | exact Nat.le_refl _⟩, ⟨kz BK862⟩, ⟨kz BK870⟩, ⟨bz⟩⟩
          case rest => as_aux_lemma =>
           clear HC49
           try clear c8
           try clear c8b0
           try clear c8b1
           try clear c9
           try clear c21
           try clear c28
           try clear c28b0
           try clear c28b1
           try clear c29
           try clear c31
           try clear c32
           try clear c32b0
           try clear c32b1
           try clear c33
           try clear c33b0
           try clear c33b1
           try clear c36
           try clear c36b0
           try clear c36b1
           try clear c37
           try clear c37b0
           try clear c37b1
           try clear c43
           try clear c43b0
           try clear c43b1
           try clear c44
           try clear c44b0
           try clear c44b1
           try clear c45
           try clear c45b0
           try clear c45b1
           try clear c46
           try clear c46b0
           try clear c46b1
           try clear c47
           try clear c47b0
           try clear c47b1
           try clear c48
           try clear c50
           try clear c50b0
           try clear hcz18_0
           try clear hcz18_1
           try clear hcz20_0
           try clear hcz20_1
           try clear hcz22_0
           try clear hcz22_1
           try clear hcz26_0
           try clear hcz26_1
           try clear hfz18_0
           try clear hfz18_1
           try clear hfz20_0
           try clear hfz20_1
           try clear hfz22_0
           try clear hfz22_1
           try clear hfz26_0
           try clear hfz26_1
           obtain ⟨kq, x106_48, rfl, HA, HJ48, BK862, BK870, HB⟩ := hcut
           cases kq with
           | zero => exact absurd HA.out (by simp [manorboylaw02_RealIntegerLaws.j3])
           | succ kj48 =>
            have H := HA.out
            clear HA
            simp only [manorboylaw02_RealIntegerLaws.j3] at H
            by_cases c51 : x106_48 = true
            ·subst c51
             have H1 : ((manorboylaw02_sanity.f kj48).bind fun t874 => (some t874)) = some r := by rw [if_pos rfl] at H; exact H
             clear H
             have H := H1
             clear H1
             replace H := Option.bind_eq_some_iff.mp H
             obtain ⟨t874, A520, H⟩ := H
             try dsimp only at H
             have A52 := Aside0.mk A520
             clear A520
             obtain rfl := Option.some.inj H
             go_wp2_with (first | ((with_reducible refine gate_callee (f := 19) rfl ?_); refine goesL_ (some 107) rfl rfl Tryz.func19 (by kernel_rfl) rfl #[] rfl az ?_; (with_reducible refine (manorboylaw02_sanity.calls kj48  t874 _ A52.out (by first | rfl | exact hr) (tabAt HT.out bz)).mono ?_); rintro e w53 ⟨rfl, hb⟩; refine ⟨_, rfl, ?_⟩; replace BK862 := kb BK862 hb; replace BK870 := kb BK870 hb; replace HB := bs hb; (try clear hb)))
             go_ret
             exact ⟨by first | rfl | (simp [errW_none, errW_some] <;> rfl) | (simp [*, errW_none, errW_some] <;> rfl), bz⟩
            ·replace c51 := Bool.eq_false_iff.mpr c51
             subst c51
             have H1 : ((real_FromIntN.f kj48 t863).bind fun bt875 => ((real_Cmp.f bt875.1 bt875.2 t860 t861).bind fun bt877 => ((real_FromIntN.f kj48 (wrap64 (t863 + 1))).bind fun bt879 => ((real_Cmp.f t860 t861 bt879.1 bt879.2).bind fun bt881 => ((real_FromIntN.f kj48 t863).bind fun bt883 => ((real_Sub.f kj48 t860 t861 bt883.1 bt883.2).bind fun bt885 => ((manorboylaw02_two.f (-1)).bind fun bt889 => ((real_Cmp.f bt885.1 bt885.2.1 bt889.1 bt889.2).bind fun bt891 => (if bt877.2 = 0 then (if bt881.2 = 0 then (if bt885.2.2 = 0 then (if bt891.2 = 0 then (if t872 = 0 then (if bt877.1 > 0 then (manorboylaw02_RealIntegerLaws.j4 kj48 t863 t865 t871 bt891.1 true) else (manorboylaw02_RealIntegerLaws.j4 kj48 t863 t865 t871 bt891.1 (decide (bt881.1 ≥ 0)))) else (manorboylaw02_RealIntegerLaws.j4 kj48 t863 t865 t871 bt891.1 true)) else (manorboylaw02_RealIntegerLaws.j4 kj48 t863 t865 t871 bt891.1 true)) else (manorboylaw02_RealIntegerLaws.j4 kj48 t863 t865 t871 bt891.1 true)) else (manorboylaw02_RealIntegerLaws.j4 kj48 t863 t865 t871 bt891.1 true)) else (manorboylaw02_RealIntegerLaws.j4 kj48 t863 t865 t871 bt891.1 true)))))))))) = some r := by rw [if_neg (show ¬ (false = true) by decide)] at H; exact H
             clear H
             have H := H1
             clear H1
             replace H := Option.bind_eq_some_iff.mp H
             obtain ⟨⟨t875, t876⟩, A540, H⟩ := H
             try dsimp only at H
             have A54 := Aside0.mk A540
             clear A540
             replace H := Option.bind_eq_some_iff.mp H
             obtain ⟨⟨t877, t878⟩, A550, H⟩ := H
             try dsimp only at H
             have A55 := Aside0.mk A550
             clear A550
             replace H := Option.bind_eq_some_iff.mp H
             obtain ⟨⟨t879, t880⟩, A560, H⟩ := H
             try dsimp only at H
             have A56 := Aside0.mk A560
             clear A560
             replace H := Option.bind_eq_some_iff.mp H
             obtain ⟨⟨t881, t882⟩, A570, H⟩ := H
             try dsimp only at H
             have A57 := Aside0.mk A570
             clear A570
             replace H := Option.bind_eq_some_iff.mp H
             obtain ⟨⟨t883, t884⟩, A580, H⟩ := H
             try dsimp only at H
             have A58 := Aside0.mk A580
             clear A580
             replace H := Option.bind_eq_some_iff.mp H
             obtain ⟨⟨t885, t886, t887⟩, A590, H⟩ := H
             try dsimp only at H
             have A59 := Aside0.mk A590
             clear A590
             replace H := Option.bind_eq_some_iff.mp H
             obtain ⟨⟨t889, t890⟩, A600, H⟩ := H
             try dsimp only at H
             have A60 := Aside0.mk A600
             clear A600
             replace H := Option.bind_eq_some_iff.mp H
             obtain ⟨⟨t891, t892⟩, A610, H⟩ := H
             try dsimp only at H
             have A61 := Aside0.mk A610
             clear A610
             have HC62 := Aside0.mk H
             clear H
             try go_wp2
             replace BK862 := Aside0.mk (blk_drew BK862.out)
             replace BK870 := Aside0.mk (blk_drew BK870.out)
             replace HB := Aside0.mk (below_drew1 HB.out)
             refine start_ (n := 9) (S := fun w' => w'.cell? ⟨gb862, 0, none⟩ = some (.int .i64 t860) ∧ w'.cell? ⟨gb862, 1, none⟩ = some (.int .i64 t861)) (ds := []) #[false, false, false, false, false, false, false, false, false] (by kernel_rfl) rfl rfl ⟨(blk_cell BK862.out 0).trans rfl, (blk_cell BK862.out 1).trans rfl⟩ (fun hHeld => ?_); refine with_tabW manorboylaw02_RealIntegerLaws.tab16 manorboylaw02_RealIntegerLaws.bits16 (fun HT_ HW_ => ?_)
             generalize wc.drew = w63 at BK862 BK870 HB hHeld ⊢
             refine pur 0 (some 109) #[tt,ff,ff,ff,ff,ff,ff,ff,ff] ?_
             refine tk2 2 (some 111) #[tt,ff,tt,ff,ff,ff,ff,ff,ff] ?_
             refine one_ (i := 1) (N := some 110) #[true, true, true, false, false, false, false, false, false] rfl rfl (one_of HT_.out (by kernel_rfl)) (by decide) (fun K hK => ?_)
             refine goes_ Tryz.func31 (by kernel_rfl) rfl #[.int .i64 t863] (by rfl) rfl rfl az ?_
             with_reducible refine (real_FromIntN.calls kj48 t863 t875 t876 _ A54.out).mono ?_
             rintro e w64 ⟨rfl, hb⟩
             refine ⟨_, rfl, ?_⟩
             replace BK862 := kb BK862 hb
             replace BK870 := kb BK870 hb
             replace HB := bs hb
             (try clear hb)
             refine hK.out _ _ ⟨(blk_cell BK862.out 0).trans rfl, (blk_cell BK862.out 1).trans rfl⟩ (fun hHeld => ?_)
             clear hK K
             refine norm_ (a' := ?_) ?_ ?_
             rotate_left
             ·show Act.put _ (some 110) _ = _
              simp only [Act.put, List.setIfInBounds_toArray, List.set_cons_zero, List.set_cons_succ, i64_w, i32_w]
              rfl
             refine one_ (i := 3) (N := some 112) #[true, true, true, true, false, false, false, false, false] rfl rfl (one_of HT_.out (by kernel_rfl)) (by decide) (fun K hK => ?_)
             refine goes_ Tryz.func48 (by kernel_rfl) rfl #[.agg #[.int .i64 t875, .int .i64 t876], .agg #[.int .i64 t860, .int .i64 t861]] (by rfl) rfl rfl az ?_
             with_reducible refine (real_Cmp.calls t875 t876 t860 t861 t877 t878 _ A55.out).mono ?_
             rintro e w65 ⟨rfl, hb⟩
             refine ⟨_, rfl, ?_⟩
             replace BK862 := kb BK862 hb
             replace BK870 := kb BK870 hb
             replace HB := bs hb
             (try clear hb)
             refine hK.out _ _ ⟨(blk_cell BK862.out 0).trans rfl, (blk_cell BK862.out 1).trans rfl⟩ (fun hHeld => ?_)
             clear hK K
             refine norm_ (a' := ?_) ?_ ?_
             rotate_left
             ·show Act.put _ (some 112) _ = _
              simp only [Act.put, List.setIfInBounds_toArray, List.set_cons_zero, List.set_cons_succ, i64_w, i32_w]
              rfl
             refine pur 4 (some 108) #[tt,tt,tt,tt,tt,ff,ff,ff,ff] ?_
             refine pur 5 (some 113) #[tt,tt,tt,tt,tt,tt,ff,ff,ff] ?_
             refine pur 6 (some 114) #[tt,tt,tt,tt,tt,tt,tt,ff,ff] ?_
             refine pur 7 (some 15) #[tt,tt,tt,tt,tt,tt,tt,tt,ff] ?_
             refine pur 8 (some 6) #[tt,tt,tt,tt,tt,tt,tt,tt,tt] ?_
             refine done_ (done_of HT_.out (by kernel_rfl)) ?_
             try go_wp2
             replace BK862 := Aside0.mk (blk_drew BK862.out)
             replace BK870 := Aside0.mk (blk_drew BK870.out)
             replace HB := Aside0.mk (below_drew1 HB.out)
             refine start_ (n := 10) (S := fun w' => w'.cell? ⟨gb862, 0, none⟩ = some (.int .i64 t860) ∧ w'.cell? ⟨gb862, 1, none⟩ = some (.int .i64 t861)) (ds := []) #[false, false, false, false, false, false, false, false, false, false] (by kernel_rfl) rfl rfl ⟨(blk_cell BK862.out 0).trans rfl, (blk_cell BK862.out 1).trans rfl⟩ (fun hHeld => ?_); refine with_tabW manorboylaw02_RealIntegerLaws.tab17 manorboylaw02_RealIntegerLaws.bits17 (fun HT_ HW_ => ?_)
             generalize w65.drew = w66 at BK862 BK870 HB hHeld ⊢
             refine pur 1 (some 117) #[ff,tt,ff,ff,ff,ff,ff,ff,ff,ff] ?_
             refine pur 2 (some 118) #[ff,tt,tt,ff,ff,ff,ff,ff,ff,ff] ?_
             refine tk2 0 (some 116) #[tt,tt,tt,ff,ff,ff,ff,ff,ff,ff] ?_
             refine one_ (i := 3) (N := some 119) #[true, true, true, true, false, false, false, false, false, false] rfl rfl (one_of HT_.out (by kernel_rfl)) (by decide) (fun K hK => ?_)
             refine goes_ Tryz.func31 (by kernel_rfl) rfl #[.int .i64 (wrap64 (t863 + 1))] (by rfl) rfl rfl az ?_
             with_reducible refine (real_FromIntN.calls kj48 (wrap64 (t863 + 1)) t879 t880 _ A56.out).mono ?_
             rintro e w67 ⟨rfl, hb⟩
             refine ⟨_, rfl, ?_⟩
             replace BK862 := kb BK862 hb
             replace BK870 := kb BK870 hb
             replace HB := bs hb
             (try clear hb)
             refine hK.out _ _ ⟨(blk_cell BK862.out 0).trans rfl, (blk_cell BK862.out 1).trans rfl⟩ (fun hHeld => ?_)
             clear hK K
             refine norm_ (a' := ?_) ?_ ?_
             rotate_left
             ·show Act.put _ (some 119) _ = _
              simp only [Act.put, List.setIfInBounds_toArray, List.set_cons_zero, List.set_cons_succ, i64_w, i32_w]
              rfl
             refine one_ (i := 4) (N := some 120) #[true, true, true, true, true, false, false, false, false, false] rfl rfl (one_of HT_.out (by kernel_rfl)) (by decide) (fun K hK => ?_)
             refine goes_ Tryz.func48 (by kernel_rfl) rfl #[.agg #[.int .i64 t860, .int .i64 t861], .agg #[.int .i64 t879, .int .i64 t880]] (by rfl) rfl rfl az ?_
             with_reducible refine (real_Cmp.calls t860 t861 t879 t880 t881 t882 _ A57.out).mono ?_
             rintro e w68 ⟨rfl, hb⟩
             refine ⟨_, rfl, ?_⟩
             replace BK862 := kb BK862 hb
             replace BK870 := kb BK870 hb
             replace HB := bs hb
             (try clear hb)
             refine hK.out _ _ ⟨(blk_cell BK862.out 0).trans rfl, (blk_cell BK862.out 1).trans rfl⟩ (fun hHeld => ?_)
             clear hK K
             refine norm_ (a' := ?_) ?_ ?_
             rotate_left
             ·show Act.put _ (some 120) _ = _
              simp only [Act.put, List.setIfInBounds_toArray, List.set_cons_zero, List.set_cons_succ, i64_w, i32_w]
              rfl
             refine pur 5 (some 115) #[tt,tt,tt,tt,tt,tt,ff,ff,ff,ff] ?_
             refine pur 6 (some 121) #[tt,tt,tt,tt,tt,tt,tt,ff,ff,ff] ?_
             refine pur 7 (some 122) #[tt,tt,tt,tt,tt,tt,tt,tt,ff,ff] ?_
             refine pur 8 (some 16) #[tt,tt,tt,tt,tt,tt,tt,tt,tt,ff] ?_
             refine pur 9 (some 10) #[tt,tt,tt,tt,tt,tt,tt,tt,tt,tt] ?_
             refine done_ (done_of HT_.out (by kernel_rfl)) ?_
             try go_wp2
             replace BK862 := Aside0.mk (blk_drew BK862.out)
             replace BK870 := Aside0.mk (blk_drew BK870.out)
             replace HB := Aside0.mk (below_drew1 HB.out)
             refine start_ (n := 10) (S := fun w' => w'.cell? ⟨gb862, 0, none⟩ = some (.int .i64 t860) ∧ w'.cell? ⟨gb862, 1, none⟩ = some (.int .i64 t861)) (ds := []) #[false, false, false, false, false, false, false, false, false, false] (by kernel_rfl) rfl rfl ⟨(blk_cell BK862.out 0).trans rfl, (blk_cell BK862.out 1).trans rfl⟩ (fun hHeld => ?_); refine with_tabW manorboylaw02_RealIntegerLaws.tab18 manorboylaw02_RealIntegerLaws.bits18 (fun HT_ HW_ => ?_)
             generalize w68.drew = w69 at BK862 BK870 HB hHeld ⊢
             refine pur 1 (some 125) #[ff,tt,ff,ff,ff,ff,ff,ff,ff,ff] ?_
             refine tk2 0 (some 124) #[tt,tt,ff,ff,ff,ff,ff,ff,ff,ff] ?_
             refine join_ (σ := Nat) 2 #[true, true, true, true, true, true, true, true, false, false] (fun s_ => [(126, .agg #[.int .i64 t883, .int .i64 t884]), (127, .tuple #[.agg #[.int .i64 t885, .int .i64 t886], .int .i64 t887]), (17, .pointer (some ⟨s_, 0, none⟩)), (123, .tuple #[.agg #[.int .i64 t885, .int .i64 t886], .int .i64 t887]), (128, .agg #[.int .i64 t885, .int .i64 t886]), (129, .int .i64 t887)]) (fun s_ w' => (w'.cell? ⟨gb862, 0, none⟩ = some (.int .i64 t860) ∧ w'.cell? ⟨gb862, 1, none⟩ = some (.int .i64 t861)) ∧ (w'.heap[gb862]? = some (.cells #[.int .i64 t860, .int .i64 t861] 23 (0, 0))) ∧ (w'.heap[gb870]? = some (.cells #[.int .i64 t867, .int .i64 t868] 23 (0, 0))) ∧ (w'.heap[s_]? = some (.cells #[.int .i64 0, .int .i64 0] 23 (0, 0))) ∧ (w.heap.size ≤ s_) ∧ (w.heap.size ≤ s_) ∧ (gb862 ≠ s_) ∧ (s_ ≠ gb862) ∧ (gb870 ≠ s_) ∧ (s_ ≠ gb870) ∧ (Below w.heap.size w w')) ?_ ?_
             rotate_left
             ·intro hCont
              refine two_ (i := 2) (j := 7) (Ni := some 126) (Nj := some 17) #[true, true, true, false, false, false, false, false, false, false] #[true, true, false, false, false, false, false, true, false, false] rfl rfl rfl rfl (two_of HT_.out (by kernel_rfl)) (by decide) (by decide) (fun K hK => ?_) (fun K hK => ?_)
              ·skip
               refine goes_ Tryz.func31 (by kernel_rfl) rfl #[.int .i64 t863] (by rfl) rfl rfl az ?_
               with_reducible refine (real_FromIntN.calls kj48 t863 t883 t884 _ A58.out).mono ?_
               rintro e w70 ⟨rfl, hb⟩
               refine ⟨_, rfl, ?_⟩
               replace BK862 := kb BK862 hb
               replace BK870 := kb BK870 hb
               replace HB := bs hb
               (try clear hb)
               refine hK.out _ _ ⟨(blk_cell BK862.out 0).trans rfl, (blk_cell BK862.out 1).trans rfl⟩ (fun hHeld => ?_)
               clear hK K
               refine norm_ (a' := ?_) ?_ ?_
               rotate_left
               ·show Act.put _ (some 126) _ = _
                simp only [Act.put, List.setIfInBounds_toArray, List.set_cons_zero, List.set_cons_succ, i64_w, i32_w]
                rfl
               refine two_ (i := 3) (j := 7) (Ni := some 127) (Nj := some 17) #[true, true, true, true, false, false, false, false, false, false] #[true, true, true, false, false, false, false, true, false, false] rfl rfl rfl rfl (two_of HT_.out (by kernel_rfl)) (by decide) (by decide) (fun K hK => ?_) (fun K hK => ?_)
               ·skip
                refine goes_ Tryz.func34 (by kernel_rfl) rfl #[.agg #[.int .i64 t860, .int .i64 t861], .agg #[.int .i64 t883, .int .i64 t884]] (by rfl) rfl rfl az ?_
                with_reducible refine (real_Sub.calls kj48 t860 t861 t883 t884 t885 t886 t887 _ A59.out).mono ?_
                rintro e w71 ⟨rfl, hb⟩
                refine ⟨_, rfl, ?_⟩
                replace BK862 := kb BK862 hb
                replace BK870 := kb BK870 hb
                replace HB := bs hb
                (try clear hb)
                refine hK.out _ _ ⟨(blk_cell BK862.out 0).trans rfl, (blk_cell BK862.out 1).trans rfl⟩ (fun hHeld => ?_)
                clear hK K
                refine norm_ (a' := ?_) ?_ ?_
                rotate_left
                ·show Act.put _ (some 127) _ = _
                 simp only [Act.put, List.setIfInBounds_toArray, List.set_cons_zero, List.set_cons_succ, i64_w, i32_w]
                 rfl
                refine pur 4 (some 123) #[tt,tt,tt,tt,tt,ff,ff,ff,ff,ff] ?_
                refine pur 5 (some 128) #[tt,tt,tt,tt,tt,tt,ff,ff,ff,ff] ?_
                refine pur 6 (some 129) #[tt,tt,tt,tt,tt,tt,tt,ff,ff,ff] ?_
                refine one_ (i := 7) (N := some 17) #[true, true, true, true, true, true, true, true, false, false] rfl rfl (one_of HT_.out (by kernel_rfl)) (by decide) (fun K hK => ?_)
                refine box_step ?hg (N := 17) ?hd (cs := #[.int .i64 0, .int .i64 0]) (t := 23) ?hr ?_; (case hd => rfl); (case hg => rfl); (case hr => first | (go_simp; done) | (go_simp; rfl))
                intro gb888 hg w72 hbox hb
                have BK888 := Aside0.mk hbox
                have GW888 := ge hg
                have GE888 := ge hg
                have NB862_888 := nl BK862 hg
                have NB888_862 := nr BK862 hg
                have NB870_888 := nl BK870 hg
                have NB888_870 := nr BK870 hg
                replace BK862 := kb BK862 hb
                replace BK870 := kb BK870 hb
                replace HB := bs hb
                clear hb hbox hg
                refine hK.out _ _ ⟨(blk_cell BK862.out 0).trans rfl, (blk_cell BK862.out 1).trans rfl⟩ (fun hHeld => ?_)
                clear hK K
                refine norm_ (a' := ?_) ?_ ?_
                rotate_left
                ·show Act.put _ (some 17) _ = _
                 simp only [Act.put, List.setIfInBounds_toArray, List.set_cons_zero, List.set_cons_succ, i64_w, i32_w]
                 rfl
                exact norm_ (by simp only [putAll, Act.put, List.setIfInBounds_toArray, List.set_cons_zero, List.set_cons_succ]) (hCont (gb888) _ ⟨hHeld, (kz BK862), (kz BK870), (kz BK888), GW888.out, GE888.out, NB862_888.out, NB888_862.out, NB870_888.out, NB888_870.out, bz⟩)
               ·skip
                refine box_step ?hg (N := 17) ?hd (cs := #[.int .i64 0, .int .i64 0]) (t := 23) ?hr ?_; (case hd => rfl); (case hg => rfl); (case hr => first | (go_simp; done) | (go_simp; rfl))
                intro gb888 hg w71 hbox hb
                have BK888 := Aside0.mk hbox
                have GW888 := ge hg
                have GE888 := ge hg
                have NB862_888 := nl BK862 hg
                have NB888_862 := nr BK862 hg
                have NB870_888 := nl BK870 hg
                have NB888_870 := nr BK870 hg
                replace BK862 := kb BK862 hb
                replace BK870 := kb BK870 hb
                replace HB := bs hb
                clear hb hbox hg
                refine hK.out _ _ ⟨(blk_cell BK862.out 0).trans rfl, (blk_cell BK862.out 1).trans rfl⟩ (fun hHeld => ?_)
                clear hK K
                refine norm_ (a' := ?_) ?_ ?_
                rotate_left
                ·show Act.put _ (some 17) _ = _
                 simp only [Act.put, List.setIfInBounds_toArray, List.set_cons_zero, List.set_cons_succ, i64_w, i32_w]
                 rfl
                refine one_ (i := 3) (N := some 127) #[true, true, true, true, false, false, false, true, false, false] rfl rfl (one_of HT_.out (by kernel_rfl)) (by decide) (fun K hK => ?_)
                refine goes_ Tryz.func34 (by kernel_rfl) rfl #[.agg #[.int .i64 t860, .int .i64 t861], .agg #[.int .i64 t883, .int .i64 t884]] (by rfl) rfl rfl az ?_
                with_reducible refine (real_Sub.calls kj48 t860 t861 t883 t884 t885 t886 t887 _ A59.out).mono ?_
                rintro e w72 ⟨rfl, hb⟩
                refine ⟨_, rfl, ?_⟩
                replace BK862 := kb BK862 hb
                replace BK870 := kb BK870 hb
                replace BK888 := kb BK888 hb
                replace HB := bs hb
                (try clear hb)
                refine hK.out _ _ ⟨(blk_cell BK862.out 0).trans rfl, (blk_cell BK862.out 1).trans rfl⟩ (fun hHeld => ?_)
                clear hK K
                refine norm_ (a' := ?_) ?_ ?_
                rotate_left
                ·show Act.put _ (some 127) _ = _
                 simp only [Act.put, List.setIfInBounds_toArray, List.set_cons_zero, List.set_cons_succ, i64_w, i32_w]
                 rfl
                refine pur 4 (some 123) #[tt,tt,tt,tt,tt,ff,ff,tt,ff,ff] ?_
                refine pur 5 (some 128) #[tt,tt,tt,tt,tt,tt,ff,tt,ff,ff] ?_
                refine pur 6 (some 129) #[tt,tt,tt,tt,tt,tt,tt,tt,ff,ff] ?_
                exact norm_ (by simp only [putAll, Act.put, List.setIfInBounds_toArray, List.set_cons_zero, List.set_cons_succ]) (hCont (gb888) _ ⟨hHeld, (kz BK862), (kz BK870), (kz BK888), GW888.out, GE888.out, NB862_888.out, NB888_862.out, NB870_888.out, NB888_870.out, bz⟩)
              ·skip
               refine box_step ?hg (N := 17) ?hd (cs := #[.int .i64 0, .int .i64 0]) (t := 23) ?hr ?_; (case hd => rfl); (case hg => rfl); (case hr => first | (go_simp; done) | (go_simp; rfl))
               intro gb888 hg w70 hbox hb
               have BK888 := Aside0.mk hbox
               have GW888 := ge hg
               have GE888 := ge hg
               have NB862_888 := nl BK862 hg
               have NB888_862 := nr BK862 hg
               have NB870_888 := nl BK870 hg
               have NB888_870 := nr BK870 hg
               replace BK862 := kb BK862 hb
               replace BK870 := kb BK870 hb
               replace HB := bs hb
               clear hb hbox hg
               refine hK.out _ _ ⟨(blk_cell BK862.out 0).trans rfl, (blk_cell BK862.out 1).trans rfl⟩ (fun hHeld => ?_)
               clear hK K
               refine norm_ (a' := ?_) ?_ ?_
               rotate_left
               ·show Act.put _ (some 17) _ = _
                simp only [Act.put, List.setIfInBounds_toArray, List.set_cons_zero, List.set_cons_succ, i64_w, i32_w]
                rfl
               refine one_ (i := 2) (N := some 126) #[true, true, true, false, false, false, false, true, false, false] rfl rfl (one_of HT_.out (by kernel_rfl)) (by decide) (fun K hK => ?_)
               refine goes_ Tryz.func31 (by kernel_rfl) rfl #[.int .i64 t863] (by rfl) rfl rfl az ?_
               with_reducible refine (real_FromIntN.calls kj48 t863 t883 t884 _ A58.out).mono ?_
               rintro e w71 ⟨rfl, hb⟩
               refine ⟨_, rfl, ?_⟩
               replace BK862 := kb BK862 hb
               replace BK870 := kb BK870 hb
               replace BK888 := kb BK888 hb
               replace HB := bs hb
               (try clear hb)
               refine hK.out _ _ ⟨(blk_cell BK862.out 0).trans rfl, (blk_cell BK862.out 1).trans rfl⟩ (fun hHeld => ?_)
               clear hK K
               refine norm_ (a' := ?_) ?_ ?_
               rotate_left
               ·show Act.put _ (some 126) _ = _
                simp only [Act.put, List.setIfInBounds_toArray, List.set_cons_zero, List.set_cons_succ, i64_w, i32_w]
                rfl
               refine one_ (i := 3) (N := some 127) #[true, true, true, true, false, false, false, true, false, false] rfl rfl (one_of HT_.out (by kernel_rfl)) (by decide) (fun K hK => ?_)
               refine goes_ Tryz.func34 (by kernel_rfl) rfl #[.agg #[.int .i64 t860, .int .i64 t861], .agg #[.int .i64 t883, .int .i64 t884]] (by rfl) rfl rfl az ?_
               with_reducible refine (real_Sub.calls kj48 t860 t861 t883 t884 t885 t886 t887 _ A59.out).mono ?_
               rintro e w72 ⟨rfl, hb⟩
               refine ⟨_, rfl, ?_⟩
               replace BK862 := kb BK862 hb
               replace BK870 := kb BK870 hb
               replace BK888 := kb BK888 hb
               replace HB := bs hb
               (try clear hb)
               refine hK.out _ _ ⟨(blk_cell BK862.out 0).trans rfl, (blk_cell BK862.out 1).trans rfl⟩ (fun hHeld => ?_)
               clear hK K
               refine norm_ (a' := ?_) ?_ ?_
               rotate_left
               ·show Act.put _ (some 127) _ = _
                simp only [Act.put, List.setIfInBounds_toArray, List.set_cons_zero, List.set_cons_succ, i64_w, i32_w]
                rfl
               refine pur 4 (some 123) #[tt,tt,tt,tt,tt,ff,ff,tt,ff,ff] ?_
               refine pur 5 (some 128) #[tt,tt,tt,tt,tt,tt,ff,tt,ff,ff] ?_
               refine pur 6 (some 129) #[tt,tt,tt,tt,tt,tt,tt,tt,ff,ff] ?_
               exact norm_ (by simp only [putAll, Act.put, List.setIfInBounds_toArray, List.set_cons_zero, List.set_cons_succ]) (hCont (gb888) _ ⟨hHeld, (kz BK862), (kz BK870), (kz BK888), GW888.out, GE888.out, NB862_888.out, NB888_862.out, NB870_888.out, NB888_870.out, bz⟩)
             rintro gb888 w73 ⟨hS_, h0_, h1_, h2_, h3_, h4_, h5_, h6_, h7_, h8_, h9_⟩
             have BK888 : Aside0 (w73.heap[gb888]? = some (.cells #[.int .i64 0, .int .i64 0] 23 (0, 0))) := ⟨h2_⟩
             have GW888 : Aside0 (w.heap.size ≤ gb888) := ⟨h3_⟩
             have GE888 : Aside0 (w.heap.size ≤ gb888) := ⟨h4_⟩
             have NB862_888 : Aside0 (gb862 ≠ gb888) := ⟨h5_⟩
             have NB888_862 : Aside0 (gb888 ≠ gb862) := ⟨h6_⟩
             have NB870_888 : Aside0 (gb870 ≠ gb888) := ⟨h7_⟩
             have NB888_870 : Aside0 (gb888 ≠ gb870) := ⟨h8_⟩
             replace BK862 : Aside0 (w73.heap[gb862]? = some (.cells #[.int .i64 t860, .int .i64 t861] 23 (0, 0))) := ⟨h0_⟩
             replace BK870 : Aside0 (w73.heap[gb870]? = some (.cells #[.int .i64 t867, .int .i64 t868] 23 (0, 0))) := ⟨h1_⟩
             replace HB : Aside0 (Below w.heap.size w w73) := ⟨h9_⟩
             clear h0_ h1_ h2_ h3_ h4_ h5_ h6_ h7_ h8_ h9_
             have hHeld : w73.cell? ⟨gb862, 0, none⟩ = some (.int .i64 t860) ∧ w73.cell? ⟨gb862, 1, none⟩ = some (.int .i64 t861) := hS_
             refine norm_ (a' := ?_) ?_ ?_
             rotate_left
             ·simp only [putAll, Act.put, List.setIfInBounds_toArray, List.set_cons_zero, List.set_cons_succ]
              rfl
             refine one_ (i := 8) (N := none) #[true, true, true, true, true, true, true, true, true, false] rfl rfl (one_of HT_.out (by kernel_rfl)) (by decide) (fun K hK => ?_)
             have hs74 : w73.cell? ⟨gb888, 0, none⟩ = some (.int .i64 0) := (blk_cell BK888.out 0).trans rfl
             have hfs74 := blk_frozen BK888.out 0
             have hns74_0 := NB862_888.out
             have hns74_1 := NB870_888.out
             have hms74_0 := NB888_862.out
             have hms74_1 := NB888_870.out
             have hs75 : w73.cell? ⟨gb888, 1, none⟩ = some (.int .i64 0) := (blk_cell BK888.out 1).trans rfl
             have hfs75 := blk_frozen BK888.out 1
             have hns75_0 := NB862_888.out
             have hns75_1 := NB870_888.out
             have hms75_0 := NB888_862.out
             have hms75_1 := NB888_870.out
             refine skip_ (w1 := ?_) (by rfl) rfl ?_ ?_
             rotate_left
             ·go_simp
              rfl
             refine hK.out _ _ ⟨((cell_far (p := ⟨gb888, _, none⟩) NB862_888.out _).trans (((cell_far (p := ⟨gb888, _, none⟩) NB862_888.out _).trans (hHeld.1)))), ((cell_far (p := ⟨gb888, _, none⟩) NB862_888.out _).trans (((cell_far (p := ⟨gb888, _, none⟩) NB862_888.out _).trans (hHeld.2))))⟩ (fun hHeld => ?_)
             clear hK K
             refine pur 9 (some 12) #[tt,tt,tt,tt,tt,tt,tt,tt,tt,tt] ?_
             refine done_ (done_of HT_.out (by kernel_rfl)) ?_
             try go_wp2
             have n0_ : Aside0 (((w73.setCell ⟨gb888, 0, none⟩ (.int .i64 t885)).setCell ⟨gb888, 1, none⟩ (.int .i64 t886)).heap[gb862]? = some (.cells #[.int .i64 t860, .int .i64 t861] 23 (0, 0))) := ⟨by (with_reducible repeat (first | refine blk_drewN ?_ _ | refine blk_drew ?_ | refine blk_alloc ?_ _)); refine blk_far ?_ NB862_888.out _; (with_reducible repeat (first | refine blk_drewN ?_ _ | refine blk_drew ?_ | refine blk_alloc ?_ _)); refine blk_far ?_ NB862_888.out _; (with_reducible repeat (first | refine blk_drewN ?_ _ | refine blk_drew ?_ | refine blk_alloc ?_ _)); exact BK862.out⟩
             have n1_ : Aside0 (((w73.setCell ⟨gb888, 0, none⟩ (.int .i64 t885)).setCell ⟨gb888, 1, none⟩ (.int .i64 t886)).heap[gb870]? = some (.cells #[.int .i64 t867, .int .i64 t868] 23 (0, 0))) := ⟨by (with_reducible repeat (first | refine blk_drewN ?_ _ | refine blk_drew ?_ | refine blk_alloc ?_ _)); refine blk_far ?_ NB870_888.out _; (with_reducible repeat (first | refine blk_drewN ?_ _ | refine blk_drew ?_ | refine blk_alloc ?_ _)); refine blk_far ?_ NB870_888.out _; (with_reducible repeat (first | refine blk_drewN ?_ _ | refine blk_drew ?_ | refine blk_alloc ?_ _)); exact BK870.out⟩
             have n2_ : Aside0 (((w73.setCell ⟨gb888, 0, none⟩ (.int .i64 t885)).setCell ⟨gb888, 1, none⟩ (.int .i64 t886)).heap[gb888]? = some (.cells #[.int .i64 t885, .int .i64 t886] 23 (0, 0))) := ⟨by (with_reducible repeat (first | refine blk_drewN ?_ _ | refine blk_drew ?_ | refine blk_alloc ?_ _)); refine blk_put (cs := #[.int .i64 t885, .int .i64 0]) ?_ 1 _ rfl; (with_reducible repeat (first | refine blk_drewN ?_ _ | refine blk_drew ?_ | refine blk_alloc ?_ _)); refine blk_put (cs := #[.int .i64 0, .int .i64 0]) ?_ 0 _ rfl; (with_reducible repeat (first | refine blk_drewN ?_ _ | refine blk_drew ?_ | refine blk_alloc ?_ _)); exact BK888.out⟩
             have n3_ : Aside0 (Below w.heap.size w ((w73.setCell ⟨gb888, 0, none⟩ (.int .i64 t885)).setCell ⟨gb888, 1, none⟩ (.int .i64 t886))) := ⟨bz⟩
             (try clear BK862)
             (try clear BK870)
             (try clear BK888)
             (try clear HB)
             generalize ((w73.setCell ⟨gb888, 0, none⟩ (.int .i64 t885)).setCell ⟨gb888, 1, none⟩ (.int .i64 t886)) = w76 at n0_ n1_ n2_ n3_ ⊢
             have BK862 := n0_
             have BK870 := n1_
             have BK888 := n2_
             have HB := n3_
             clear n0_ n1_ n2_ n3_
             replace BK862 := Aside0.mk (blk_drew BK862.out)
             replace BK870 := Aside0.mk (blk_drew BK870.out)
             replace BK888 := Aside0.mk (blk_drew BK888.out)
             replace HB := Aside0.mk (below_drew1 HB.out)
             refine start_ (n := 8) (S := fun w' => w'.cell? ⟨gb888, 0, none⟩ = some (.int .i64 t885) ∧ w'.cell? ⟨gb888, 1, none⟩ = some (.int .i64 t886)) (ds := []) #[false, false, false, false, false, false, false, false] (by kernel_rfl) rfl rfl ⟨(blk_cell BK888.out 0).trans rfl, (blk_cell BK888.out 1).trans rfl⟩ (fun hHeld => ?_); refine with_tabW manorboylaw02_RealIntegerLaws.tab19 manorboylaw02_RealIntegerLaws.bits19 (fun HT_ HW_ => ?_)
             generalize w76.drew = w77 at BK862 BK870 BK888 HB hHeld ⊢
             refine tk2 0 (some 131) #[tt,ff,ff,ff,ff,ff,ff,ff] ?_
             refine one_ (i := 1) (N := some 132) #[true, true, false, false, false, false, false, false] rfl rfl (one_of HT_.out (by kernel_rfl)) (by decide) (fun K hK => ?_)
             refine goes_ Tryz.func49 (by kernel_rfl) rfl #[.int .i64 (-1)] (by rfl) rfl rfl az ?_
             with_reducible refine (manorboylaw02_two.calls (-1) t889 t890 _ A60.out).mono ?_
             rintro e w78 ⟨rfl, hb⟩
             refine ⟨_, rfl, ?_⟩
             replace BK862 := kb BK862 hb
             replace BK870 := kb BK870 hb
             replace BK888 := kb BK888 hb
             replace HB := bs hb
             (try clear hb)
             refine hK.out _ _ ⟨(blk_cell BK888.out 0).trans rfl, (blk_cell BK888.out 1).trans rfl⟩ (fun hHeld => ?_)
             clear hK K
             refine norm_ (a' := ?_) ?_ ?_
             rotate_left
             ·show Act.put _ (some 132) _ = _
              simp only [Act.put, List.setIfInBounds_toArray, List.set_cons_zero, List.set_cons_succ, i64_w, i32_w]
              rfl
             refine one_ (i := 2) (N := some 133) #[true, true, true, false, false, false, false, false] rfl rfl (one_of HT_.out (by kernel_rfl)) (by decide) (fun K hK => ?_)
             refine goes_ Tryz.func48 (by kernel_rfl) rfl #[.agg #[.int .i64 t885, .int .i64 t886], .agg #[.int .i64 t889, .int .i64 t890]] (by rfl) rfl rfl az ?_
             with_reducible refine (real_Cmp.calls t885 t886 t889 t890 t891 t892 _ A61.out).mono ?_
             rintro e w79 ⟨rfl, hb⟩
             refine ⟨_, rfl, ?_⟩
             replace BK862 := kb BK862 hb
             replace BK870 := kb BK870 hb
             replace BK888 := kb BK888 hb
             replace HB := bs hb
             (try clear hb)
             refine hK.out _ _ ⟨(blk_cell BK888.out 0).trans rfl, (blk_cell BK888.out 1).trans rfl⟩ (fun hHeld => ?_)
             clear hK K
             refine norm_ (a' := ?_) ?_ ?_
             rotate_left
             ·show Act.put _ (some 133) _ = _
              simp only [Act.put, List.setIfInBounds_toArray, List.set_cons_zero, List.set_cons_succ, i64_w, i32_w]
              rfl
             refine pur 3 (some 130) #[tt,tt,tt,tt,ff,ff,ff,ff] ?_
             refine pur 4 (some 134) #[tt,tt,tt,tt,tt,ff,ff,ff] ?_
             refine pur 5 (some 135) #[tt,tt,tt,tt,tt,tt,ff,ff] ?_
             refine pur 6 (some 18) #[tt,tt,tt,tt,tt,tt,tt,ff] ?_
             refine pur 7 (some 19) #[tt,tt,tt,tt,tt,tt,tt,tt] ?_
             refine done_ (done_of HT_.out (by kernel_rfl)) ?_
             go_upto_region 20 with (fail)
             go_cut [161] (fun v161 wc => ∃ (kq : Nat) (x161_61 : Bool), v161 = .bool x161_61 ∧ Aside0 (manorboylaw02_RealIntegerLaws.j4 kq t863 t865 t871 t891 x161_61 = some r) ∧ Aside0 (kq ≤ kj48) ∧ Aside0 (wc.heap[gb862]? = some (.cells #[.int .i64 t860, .int .i64 t861] 23 (0, 0))) ∧ Aside0 (wc.heap[gb870]? = some (.cells #[.int .i64 t867, .int .i64 t868] 23 (0, 0))) ∧ Aside0 (wc.heap[gb888]? = some (.cells #[.int .i64 t885, .int .i64 t886] 23 (0, 0))) ∧ Aside0 (Below w.heap.size w wc))
             case first => as_aux_lemma =>
              have H := HC62.out
              clear HC62
              by_cases c80 : t878 = 0
              ·rw [if_pos c80] at H
               have c80b0 : (t878 == 0) = true := beq_iff_eq.mpr c80
               have c80b1 : (t878 != 0) = false := bne_eq_false_iff_eq.mpr c80
               clear c80
               (first | rw [c80b0] | (simp only [i64_w, i32_w]; rw [c80b0]) | skip)
               by_cases c81 : t882 = 0
               ·rw [if_pos c81] at H
                have c81b0 : (t882 == 0) = true := beq_iff_eq.mpr c81
                have c81b1 : (t882 != 0) = false := bne_eq_false_iff_eq.mpr c81
                clear c81
                by_cases c82 : t887 = 0
                ·rw [if_pos c82] at H
                 have c82b0 : (t887 == 0) = true := beq_iff_eq.mpr c82
                 have c82b1 : (t887 != 0) = false := bne_eq_false_iff_eq.mpr c82
                 clear c82
                 by_cases c83 : t892 = 0
                 ·rw [if_pos c83] at H
                  have c83b0 : (t892 == 0) = true := beq_iff_eq.mpr c83
                  have c83b1 : (t892 != 0) = false := bne_eq_false_iff_eq.mpr c83
                  clear c83
                  by_cases c84 : t872 = 0
                  ·rw [if_pos c84] at H
                   have c84b0 : (t872 == 0) = true := beq_iff_eq.mpr c84
                   have c84b1 : (t872 != 0) = false := bne_eq_false_iff_eq.mpr c84
                   clear c84
                   by_cases c85 : t877 > 0
                   ·rw [if_pos c85] at H
                    first | exact absurd (Option.some.inj H) (by rw [hr]; decide) | exact absurd H (by rw [hr]; exact manorboylaw02_RealIntegerLaws.j0_no _ _) | exact absurd H (by rw [hr]; exact manorboylaw02_RealIntegerLaws.j2_no _ _ _ _ _ _ _) | exact absurd H (by rw [hr]; exact manorboylaw02_RealIntegerLaws.j4_no _ _ _ _ _)
                   ·rw [if_neg c85] at H
                    have c85b0 : decide (0 < t877) = false := decide_eq_false c85
                    clear c85
                    have H' := Aside0.mk H
                    clear H
                    go_wp2
                    go_meet
                    case rel => exact ⟨_, (decide (t881 ≥ 0)), (by first | rfl | (simp; done) | (simp [*]; done)), H', ⟨by have := HJ4.out; have := HJ14.out; have := HJ41.out; have := HJ48.out; first | omega | exact Nat.le_refl _⟩, ⟨kz BK862⟩, ⟨kz BK870⟩, ⟨kz BK888⟩, ⟨bz⟩⟩
                  ·rw [if_neg c84] at H
                   first | exact absurd (Option.some.inj H) (by rw [hr]; decide) | exact absurd H (by rw [hr]; exact manorboylaw02_RealIntegerLaws.j0_no _ _) | exact absurd H (by rw [hr]; exact manorboylaw02_RealIntegerLaws.j2_no _ _ _ _ _ _ _) | exact absurd H (by rw [hr]; exact manorboylaw02_RealIntegerLaws.j4_no _ _ _ _ _)
                 ·rw [if_neg c83] at H
                  first | exact absurd (Option.some.inj H) (by rw [hr]; decide) | exact absurd H (by rw [hr]; exact manorboylaw02_RealIntegerLaws.j0_no _ _) | exact absurd H (by rw [hr]; exact manorboylaw02_RealIntegerLaws.j2_no _ _ _ _ _ _ _) | exact absurd H (by rw [hr]; exact manorboylaw02_RealIntegerLaws.j4_no _ _ _ _ _)
                ·rw [if_neg c82] at H
                 first | exact absurd (Option.some.inj H) (by rw [hr]; decide) | exact absurd H (by rw [hr]; exact manorboylaw02_RealIntegerLaws.j0_no _ _) | exact absurd H (by rw [hr]; exact manorboylaw02_RealIntegerLaws.j2_no _ _ _ _ _ _ _) | exact absurd H (by rw [hr]; exact manorboylaw02_RealIntegerLaws.j4_no _ _ _ _ _)
               ·rw [if_neg c81] at H
                first | exact absurd (Option.some.inj H) (by rw [hr]; decide) | exact absurd H (by rw [hr]; exact manorboylaw02_RealIntegerLaws.j0_no _ _) | exact absurd H (by rw [hr]; exact manorboylaw02_RealIntegerLaws.j2_no _ _ _ _ _ _ _) | exact absurd H (by rw [hr]; exact manorboylaw02_RealIntegerLaws.j4_no _ _ _ _ _)
              ·rw [if_neg c80] at H
               first | exact absurd (Option.some.inj H) (by rw [hr]; decide) | exact absurd H (by rw [hr]; exact manorboylaw02_RealIntegerLaws.j0_no _ _) | exact absurd H (by rw [hr]; exact manorboylaw02_RealIntegerLaws.j2_no _ _ _ _ _ _ _) | exact absurd H (by rw [hr]; exact manorboylaw02_RealIntegerLaws.j4_no _ _ _ _ _)
             case rest => as_aux_lemma =>
              clear HC62
              try clear c8
              try clear c31
              try clear c48
              try clear c80
              try clear c80b0
              try clear c80b1
              try clear c81
              try clear c81b0
              try clear c81b1
              try clear c82
              try clear c82b0
              try clear c82b1
              try clear c83
              try clear c83b0
              try clear c83b1
              try clear c84
              try clear c84b0
              try clear c84b1
              try clear c85
              try clear c85b0
              obtain ⟨kq, x161_61, rfl, HA, HJ61, BK862, BK870, BK888, HB⟩ := hcut
              cases kq with
              | zero => exact absurd HA.out (by simp [manorboylaw02_RealIntegerLaws.j4])
              | succ kj61 =>
               have H := HA.out
               clear HA
               simp only [manorboylaw02_RealIntegerLaws.j4] at H
               by_cases c86 : x161_61 = true
               ·subst c86
                have H1 : (some false) = some r := by rw [if_pos rfl] at H; exact H
                clear H
                have H := H1
                clear H1
                first | exact absurd (Option.some.inj H) (by rw [hr]; decide) | exact absurd H (by rw [hr]; exact manorboylaw02_RealIntegerLaws.j0_no _ _) | exact absurd H (by rw [hr]; exact manorboylaw02_RealIntegerLaws.j2_no _ _ _ _ _ _ _) | exact absurd H (by rw [hr]; exact manorboylaw02_RealIntegerLaws.j4_no _ _ _ _ _)
               ·replace c86 := Bool.eq_false_iff.mpr c86
                subst c86
                have H1 : ((manorboylaw02_sanity.f kj61).bind fun t893 => (if t893 = true then (if t865 = (wrap64 (t863 + 1)) then (if ((decide (t891 > 0)) == (t891 != 0)) = true then (if t891 = 0 then (some true) else (some (t871 == (wrap64 (-t865))))) else (some false)) else (if ((decide (t891 > 0)) == false) = true then (if t891 = 0 then (some false) else (some (t871 == (wrap64 (-t865))))) else (some false))) else (some false))) = some r := by rw [if_neg (show ¬ (false = true) by decide)] at H; exact H
                clear H
                have H := H1
                clear H1
                replace H := Option.bind_eq_some_iff.mp H
                obtain ⟨t893, A870, H⟩ := H
                try dsimp only at H
                have A87 := Aside0.mk A870
                clear A870
                by_cases c88 : t893 = true
                ·subst c88
                 have H1 : (if t865 = (wrap64 (t863 + 1)) then (if ((decide (t891 > 0)) == (t891 != 0)) = true then (if t891 = 0 then (some true) else (some (t871 == (wrap64 (-t865))))) else (some false)) else (if ((decide (t891 > 0)) == false) = true then (if t891 = 0 then (some false) else (some (t871 == (wrap64 (-t865))))) else (some false))) = some r := by rw [if_pos rfl] at H; exact H
                 clear H
                 have H := H1
                 clear H1
                 by_cases c89 : t865 = (wrap64 (t863 + 1))
                 ·rw [if_pos c89] at H
                  have c89b0 : (t865 == (wrap64 (t863 + 1))) = true := beq_iff_eq.mpr c89
                  have c89b1 : (t865 != (wrap64 (t863 + 1))) = false := bne_eq_false_iff_eq.mpr c89
                  clear c89
                  by_cases c90 : ((decide (t891 > 0)) == (t891 != 0)) = true
                  ·rw [if_pos c90] at H
                   have c90b0 : ((decide (t891 > 0)) == (t891 != 0)) = true := c90
                   (try (have c90b1 : decide ((decide (t891 > 0)) = (t891 != 0)) = true := by simpa using c90))
                   (try (have c90b2 : ((decide (t891 > 0)) == (t891 != 0)) = true := by simpa using c90))
                   clear c90
                   by_cases c91 : t891 = 0
                   ·rw [if_pos c91] at H
                    have c91b0 : (t891 == 0) = true := beq_iff_eq.mpr c91
                    have c91b1 : (t891 != 0) = false := bne_eq_false_iff_eq.mpr c91
                    clear c91
                    obtain rfl := Option.some.inj H
                    go_wp2_with (first | ((with_reducible refine gate_callee (f := 19) rfl ?_); refine goesL_ (some 162) rfl rfl Tryz.func19 (by kernel_rfl) rfl #[] rfl az ?_; (with_reducible refine (manorboylaw02_sanity.calls kj61  true _ A87.out (by first | rfl | exact hr) (tabAt HT.out bz)).mono ?_); rintro e w92 ⟨rfl, hb⟩; refine ⟨_, rfl, ?_⟩; replace BK862 := kb BK862 hb; replace BK870 := kb BK870 hb; replace BK888 := kb BK888 hb; replace HB := bs hb; (try clear hb)))
                    go_ret
                    exact ⟨by first | rfl | (simp [errW_none, errW_some] <;> rfl) | (simp [*, errW_none, errW_some] <;> rfl), bz⟩
                    all_goals (exfalso; have hz_ := eq_of_beq c91b0; omega)
                   ·rw [if_neg c91] at H
                    have c91b0 : (t891 == 0) = false := beq_eq_false_iff_ne.mpr c91
                    have c91b1 : (t891 != 0) = true := bne_iff_ne.mpr c91
                    obtain rfl := Option.some.inj H
                    go_wp2_with (first | ((with_reducible refine gate_callee (f := 19) rfl ?_); refine goesL_ (some 162) rfl rfl Tryz.func19 (by kernel_rfl) rfl #[] rfl az ?_; (with_reducible refine (manorboylaw02_sanity.calls kj61  true _ A87.out (by first | rfl | exact hr) (tabAt HT.out bz)).mono ?_); rintro e w93 ⟨rfl, hb⟩; refine ⟨_, rfl, ?_⟩; replace BK862 := kb BK862 hb; replace BK870 := kb BK870 hb; replace BK888 := kb BK888 hb; replace HB := bs hb; (try clear hb)))
                    go_ret
                    exact ⟨by first | rfl | (simp [errW_none, errW_some] <;> rfl) | (simp [*, errW_none, errW_some] <;> rfl), bz⟩
                    all_goals (exfalso; have hz_ := c90b0; rw [c91b1] at hz_; simp at hz_; omega)
                  ·rw [if_neg c90] at H
                   first | exact absurd (Option.some.inj H) (by rw [hr]; decide) | exact absurd H (by rw [hr]; exact manorboylaw02_RealIntegerLaws.j0_no _ _) | exact absurd H (by rw [hr]; exact manorboylaw02_RealIntegerLaws.j2_no _ _ _ _ _ _ _) | exact absurd H (by rw [hr]; exact manorboylaw02_RealIntegerLaws.j4_no _ _ _ _ _)
                 ·rw [if_neg c89] at H
                  have c89b0 : (t865 == (wrap64 (t863 + 1))) = false := beq_eq_false_iff_ne.mpr c89
                  have c89b1 : (t865 != (wrap64 (t863 + 1))) = true := bne_iff_ne.mpr c89
                  by_cases c95 : ((decide (t891 > 0)) == false) = true
                  ·rw [if_pos c95] at H
                   have c95b0 : ((decide (t891 > 0)) == false) = true := c95
                   (try (have c95b1 : decide ((decide (t891 > 0)) = false) = true := by simpa using c95))
                   (try (have c95b2 : ((decide (t891 > 0)) == false) = true := by simpa using c95))
                   clear c95
                   by_cases c96 : t891 = 0
                   ·rw [if_pos c96] at H
                    first | exact absurd (Option.some.inj H) (by rw [hr]; decide) | exact absurd H (by rw [hr]; exact manorboylaw02_RealIntegerLaws.j0_no _ _) | exact absurd H (by rw [hr]; exact manorboylaw02_RealIntegerLaws.j2_no _ _ _ _ _ _ _) | exact absurd H (by rw [hr]; exact manorboylaw02_RealIntegerLaws.j4_no _ _ _ _ _)
                   ·rw [if_neg c96] at H
                    have c96b0 : (t891 == 0) = false := beq_eq_false_iff_ne.mpr c96
                    have c96b1 : (t891 != 0) = true := bne_iff_ne.mpr c96
                    obtain rfl := Option.some.inj H
                    go_wp2_with (first | ((with_reducible refine gate_callee (f := 19) rfl ?_); refine goesL_ (some 162) rfl rfl Tryz.func19 (by kernel_rfl) rfl #[] rfl az ?_; (with_reducible refine (manorboylaw02_sanity.calls kj61  true _ A87.out (by first | rfl | exact hr) (tabAt HT.out bz)).mono ?_); rintro e w98 ⟨rfl, hb⟩; refine ⟨_, rfl, ?_⟩; replace BK862 := kb BK862 hb; replace BK870 := kb BK870 hb; replace BK888 := kb BK888 hb; replace HB := bs hb; (try clear hb)))
                    go_ret
                    exact ⟨by first | rfl | (simp [errW_none, errW_some] <;> rfl) | (simp [*, errW_none, errW_some] <;> rfl), bz⟩
                  ·rw [if_neg c95] at H
                   first | exact absurd (Option.some.inj H) (by rw [hr]; decide) | exact absurd H (by rw [hr]; exact manorboylaw02_RealIntegerLaws.j0_no _ _) | exact absurd H (by rw [hr]; exact manorboylaw02_RealIntegerLaws.j2_no _ _ _ _ _ _ _) | exact absurd H (by rw [hr]; exact manorboylaw02_RealIntegerLaws.j4_no _ _ _ _ _)
                ·replace c88 := Bool.eq_false_iff.mpr c88
                 subst c88
                 have H1 : (some false) = some r := by rw [if_neg (show ¬ (false = true) by decide)] at H; exact H
                 clear H
                 have H := H1
                 clear H1
                 first | exact absurd (Option.some.inj H) (by rw [hr]; decide) | exact absurd H (by rw [hr]; exact manorboylaw02_RealIntegerLaws.j0_no _ _) | exact absurd H (by rw [hr]; exact manorboylaw02_RealIntegerLaws.j2_no _ _ _ _ _ _ _) | exact absurd H (by rw [hr]; exact manorboylaw02_RealIntegerLaws.j4_no _ _ _ _ _)

end Go.Proofs.YteigbokklclmbaaGreatDoor.Z.Y.V
end
section
namespace Go.Proofs.YteigbokklclmbaaGreatDoor.M
set_option linter.unusedVariables false
set_option linter.unusedSimpArgs false
/-- The value of a row of digits, the lowest first. -/
def val (B : Nat) : List Int → Nat
  | [] => 0
  | x :: l => x.toNat + B * val B l
/-- The row of a number's digits, the lowest first, without zeros at the end. -/
def dg (B n : Nat) : List Int := if h : 2 ≤ B ∧ 0 < n then ((n % B : Nat) : Int) :: dg B (n / B) else []
termination_by n
decreasing_by exact Nat.div_lt_self h.2 h.1
/-- All digits lie below the base. -/
def InB (B : Nat) (l : List Int) : Prop := ∀ x ∈ l, 0 ≤ x ∧ x < B
theorem InB.nil {B : Nat} : InB B [] := fun _ h => by cases h
theorem InB.cons {B : Nat} {x : Int} {l : List Int} (h : 0 ≤ x ∧ x < B) (k : InB B l) : InB B (x :: l) := fun y hy => by
  rcases List.mem_cons.1 hy with rfl | hy
  · exact h
  · exact k y hy
theorem InB.append {B : Nat} {l m : List Int} (h : InB B l) (k : InB B m) : InB B (l ++ m) := fun y hy => by
  rcases List.mem_append.1 hy with hy | hy
  · exact h y hy
  · exact k y hy
theorem InB.snoc {B : Nat} {l : List Int} {x : Int} (h : InB B l) (k : 0 ≤ x ∧ x < B) : InB B (l ++ [x]) := h.append (InB.cons k InB.nil)
theorem InB.take {B : Nat} {l : List Int} (h : InB B l) (i : Nat) : InB B (l.take i) := fun y hy => h y (List.mem_of_mem_take hy)
theorem InB.drop {B : Nat} {l : List Int} (h : InB B l) (i : Nat) : InB B (l.drop i) := fun y hy => h y (List.mem_of_mem_drop hy)
theorem InB.set {B : Nat} {l : List Int} (h : InB B l) (i : Nat) {v : Int} (k : 0 ≤ v ∧ v < B) : InB B (l.set i v) := fun y hy => by
  rcases List.mem_or_eq_of_mem_set hy with hy | rfl
  · exact h y hy
  · exact k
theorem InB.getD {B : Nat} {l : List Int} (h : InB B l) (hB : 0 < B) (i : Nat) : 0 ≤ l.getD i 0 ∧ l.getD i 0 < B := by
  rw [List.getD_eq_getElem?_getD]
  rcases e : l[i]? with _ | x
  · simp; omega
  · simp; exact h x (List.mem_of_getElem? e)
theorem InB.replicate {B : Nat} (hB : 0 < B) (n : Nat) : InB B (List.replicate n 0) := fun y hy => by
  rw [List.eq_of_mem_replicate hy]; omega
theorem val_nil {B : Nat} : val B [] = 0 := rfl
theorem val_cons {B : Nat} (x : Int) (l : List Int) : val B (x :: l) = x.toNat + B * val B l := rfl
theorem val_append {B : Nat} : ∀ l m : List Int, val B (l ++ m) = val B l + B ^ l.length * val B m
  | [], m => by simp [val]
  | x :: l, m => by
    rw [List.cons_append, val_cons, val_cons, val_append l m, List.length_cons, Nat.pow_succ, Nat.mul_add, Nat.add_assoc, Nat.mul_comm (B ^ l.length) B, Nat.mul_assoc]
theorem val_snoc {B : Nat} (l : List Int) (x : Int) : val B (l ++ [x]) = val B l + B ^ l.length * x.toNat := by
  rw [val_append, val_cons, val_nil, Nat.mul_zero, Nat.add_zero]
theorem val_lt {B : Nat} : ∀ {l : List Int}, InB B l → val B l < B ^ l.length
  | [], _ => by simp [val]
  | x :: l, h => by
    have h0 := h x (List.mem_cons_self)
    have ih := val_lt (l := l) (fun y hy => h y (List.mem_cons_of_mem _ hy))
    have h1 : B * (val B l + 1) ≤ B * B ^ l.length := Nat.mul_le_mul_left B ih
    rw [val_cons, List.length_cons, Nat.pow_succ, Nat.mul_comm (B ^ l.length) B]
    rw [Nat.mul_add, Nat.mul_one] at h1
    omega
theorem val_drop {B : Nat} : ∀ (l : List Int) (i : Nat), val B (l.drop i) = (l.getD i 0).toNat + B * val B (l.drop (i + 1))
  | [], i => by simp [val]
  | x :: l, 0 => by simp [val]
  | x :: l, i + 1 => by
    have := val_drop (B := B) l i
    simpa using this
theorem val_drop_ge {B : Nat} {l : List Int} {i : Nat} (h : l.length ≤ i) : val B (l.drop i) = 0 := by
  rw [List.drop_eq_nil_of_le h]; rfl
theorem val_split {B : Nat} {l : List Int} {i : Nat} (h : i ≤ l.length) : val B l = val B (l.take i) + B ^ i * val B (l.drop i) := by
  have := val_append (B := B) (l.take i) (l.drop i)
  rw [List.take_append_drop, List.length_take, Nat.min_eq_left h] at this
  exact this
theorem val_set {B : Nat} : ∀ (l : List Int) (i : Nat) (v : Int), i < l.length → val B (l.set i v) + B ^ i * (l.getD i 0).toNat = val B l + B ^ i * v.toNat
  | [], i, v, h => by simp at h
  | x :: l, 0, v, h => by simp [val]; omega
  | x :: l, i + 1, v, h => by
    have ih := val_set (B := B) l i v (by simpa using h)
    rw [List.set_cons_succ, val_cons, val_cons, List.getD_cons_succ, Nat.pow_succ, Nat.mul_comm (B ^ i) B, Nat.mul_assoc, Nat.mul_assoc, Nat.add_assoc, ← Nat.mul_add, ih, Nat.mul_add, Nat.add_assoc]
theorem val_replicate {B : Nat} : ∀ n : Nat, val B (List.replicate n 0) = 0
  | 0 => rfl
  | n + 1 => by rw [List.replicate_succ, val_cons, val_replicate n]; rfl
theorem dg_zero {B : Nat} : dg B 0 = [] := by rw [dg]; simp
theorem dg_pos {B n : Nat} (hB : 2 ≤ B) (hn : 0 < n) : dg B n = ((n % B : Nat) : Int) :: dg B (n / B) := by rw [dg, dif_pos ⟨hB, hn⟩]
theorem dg_nil {B n : Nat} (hB : 2 ≤ B) : dg B n = [] ↔ n = 0 := by
  constructor
  · intro h
    rcases Nat.eq_zero_or_pos n with hn | hn
    · exact hn
    · rw [dg_pos hB hn] at h; cases h
  · rintro rfl; exact dg_zero
theorem val_dg {B : Nat} (hB : 2 ≤ B) (n : Nat) : val B (dg B n) = n := by
  induction n using Nat.strongRecOn with
  | ind n ih =>
    rcases Nat.eq_zero_or_pos n with rfl | hn
    · rw [dg_zero]; rfl
    · rw [dg_pos hB hn, val_cons, ih _ (Nat.div_lt_self hn hB), Int.toNat_natCast]
      exact Nat.mod_add_div n B
theorem InB_dg {B : Nat} (hB : 2 ≤ B) (n : Nat) : InB B (dg B n) := by
  induction n using Nat.strongRecOn with
  | ind n ih =>
    rcases Nat.eq_zero_or_pos n with rfl | hn
    · rw [dg_zero]; exact InB.nil
    · rw [dg_pos hB hn]
      have := Nat.mod_lt n (show 0 < B by omega)
      exact InB.cons (by omega) (ih _ (Nat.div_lt_self hn hB))
/-- A row is the row of its value, if it does not end with a zero. -/
theorem dg_val {B : Nat} (hB : 2 ≤ B) : ∀ {l : List Int}, InB B l → (∀ h : l ≠ [], l.getLast h ≠ 0) → dg B (val B l) = l
  | [], _, _ => by rw [val_nil, dg_zero]
  | x :: l, h, hl => by
    have hx := h x (List.mem_cons_self)
    have hI : InB B l := fun y hy => h y (List.mem_cons_of_mem _ hy)
    have hlast : ∀ h : l ≠ [], l.getLast h ≠ 0 := fun hne => by
      have := hl (by simp)
      rwa [List.getLast_cons hne] at this
    have ih := dg_val hB hI hlast
    have hpos : 0 < val B (x :: l) := by
      rw [val_cons]
      rcases l with _ | ⟨y, t⟩
      · have : x ≠ 0 := by simpa using hl (by simp)
        omega
      · have : val B (y :: t) ≠ 0 := fun e => by
          have := ih
          rw [e, dg_zero] at this
          cases this
        have : 0 < B * val B (y :: t) := Nat.mul_pos (by omega) (by omega)
        omega
    rw [dg_pos hB hpos, val_cons]
    have e1 : (x.toNat + B * val B l) % B = x.toNat := by rw [Nat.add_mul_mod_self_left, Nat.mod_eq_of_lt (by omega)]
    have e2 : (x.toNat + B * val B l) / B = val B l := by rw [Nat.add_mul_div_left _ _ (by omega), Nat.div_eq_of_lt (by omega), Nat.zero_add]
    rw [e1, e2, ih, Int.toNat_of_nonneg hx.1]
theorem dg_len_le {B : Nat} (hB : 2 ≤ B) : ∀ (m n : Nat), n < B ^ m → (dg B n).length ≤ m
  | 0, n, h => by
    have : n = 0 := by simpa using h
    rw [this, dg_zero]; exact Nat.le_refl _
  | m + 1, n, h => by
    rcases Nat.eq_zero_or_pos n with rfl | hn
    · rw [dg_zero]; simp
    · rw [dg_pos hB hn, List.length_cons]
      have := dg_len_le hB m (n / B) (by rw [Nat.div_lt_iff_lt_mul (by omega)]; rwa [Nat.pow_succ] at h)
      omega
theorem dg_small {B n : Nat} (hB : 2 ≤ B) (h0 : 0 < n) (h : n < B) : dg B n = [(n : Int)] := by
  rw [dg_pos hB h0, Nat.mod_eq_of_lt h, Nat.div_eq_of_lt h, dg_zero]
theorem dg_lt_pow {B : Nat} (hB : 2 ≤ B) (n : Nat) : n < B ^ (dg B n).length := by
  have := val_lt (InB_dg hB n)
  rwa [val_dg hB] at this
theorem dg_ge_pow {B n : Nat} (hB : 2 ≤ B) (hn : 0 < n) : B ^ ((dg B n).length - 1) ≤ n := by
  rcases Nat.lt_or_ge n (B ^ ((dg B n).length - 1)) with h | h
  · have := dg_len_le hB _ _ h
    have h2 : (dg B n).length ≠ 0 := fun e => by
      have := (dg_nil (n := n) hB).1 (List.eq_nil_of_length_eq_zero e); omega
    omega
  · exact h
/-- The comparison of two rows from above. -/
theorem val_lt_of_drop {B : Nat} {a b : List Int} {i : Nat} (ha : InB B a) (hb : InB B b) (hia : i < a.length) (hib : i < b.length) (he : a.drop (i + 1) = b.drop (i + 1)) (h : a.getD i 0 < b.getD i 0) : val B a < val B b := by
  have hB : 0 < B := by
    rcases Nat.eq_zero_or_pos B with e | e
    · subst e
      have := ha (a[i]) (List.getElem_mem hia); omega
    · exact e
  have h1 := val_split (B := B) (Nat.le_of_lt hia)
  have h2 := val_split (B := B) (Nat.le_of_lt hib)
  have h3 := val_lt (ha.take i)
  rw [List.length_take, Nat.min_eq_left (Nat.le_of_lt hia)] at h3
  have ga := ha.getD hB i
  have gb := hb.getD hB i
  rw [val_drop] at h1 h2
  rw [he] at h1
  rw [h1, h2]
  generalize val B (b.drop (i + 1)) = R at *
  generalize val B (a.take i) = p at *
  generalize val B (b.take i) = q at *
  have h4 : (a.getD i 0).toNat + 1 ≤ (b.getD i 0).toNat := by omega
  have h5 : B ^ i * ((a.getD i 0).toNat + 1 + B * R) ≤ B ^ i * ((b.getD i 0).toNat + B * R) := Nat.mul_le_mul_left _ (by omega)
  have h6 : B ^ i * ((a.getD i 0).toNat + 1 + B * R) = B ^ i * ((a.getD i 0).toNat + B * R) + B ^ i := by
    rw [show (a.getD i 0).toNat + 1 + B * R = ((a.getD i 0).toNat + B * R) + 1 by omega, Nat.mul_add, Nat.mul_one]
  omega
end Go.Proofs.YteigbokklclmbaaGreatDoor.M
end
section
namespace Go.Proofs.YteigbokklclmbaaGreatDoor.M
open Go Go.RowKit Go.Proofs.YteigbokklclmbaaGreatDoor.Given Go.Proofs.YteigbokklclmbaaGreatDoorW.PrintWords Go.Proofs.YteigbokklclmbaaGreatDoorW.PrintLast Go.Proofs.YteigbokklclmbaaGreatDoorW.PrintMore Go.Proofs.YteigbokklclmbaaGreatDoor.Z
set_option linter.unusedVariables false
set_option linter.unusedSimpArgs false
abbrev B32 : Nat := 4294967296
abbrev D (n : Nat) : List Int := dg B32 n
theorem B2 : 2 ≤ B32 := by decide
/-- A number of modest size: at most 2048 digits. -/
def Sm (n : Nat) : Prop := (D n).length ≤ 2048
theorem pow32 (n : Nat) : B32 ^ n = 2 ^ (32 * n) := by rw [Nat.pow_mul]
theorem Sm.of {n m : Nat} (h : n < 2 ^ m) (hm : m ≤ 32 * 2048) : Sm n := by
  have key : ∀ L : Nat, m ≤ 32 * L → (D n).length ≤ L := fun L hL => by
    refine dg_len_le B2 L n ?_
    rw [pow32]
    exact Nat.lt_of_lt_of_le h (Nat.pow_le_pow_right (by decide) hL)
  exact key 2048 hm
theorem wu64 (x : Int) (h0 : 0 ≤ x) (h1 : x < 18446744073709551616) : IntKind.u64.wrap x = x := by
  have : IntKind.u64.wrap x = x % 18446744073709551616 := by simp [IntKind.wrap, IntKind.bits, IntKind.signed]
  rw [this]; omega
theorem rd_nat (l : List Int) (i : Nat) : rd l (i : Int) = l.getD i 0 := by unfold rd; rw [Int.toNat_natCast]
theorem rd_in {l : List Int} (h : InB B32 l) (i : Nat) : 0 ≤ rd l (i : Int) ∧ rd l (i : Int) < 4294967296 := by
  rw [rd_nat]; exact h.getD (by decide) i
theorem trim_ev : ∀ (n : Nat) (l : List Int), l.length = n → n ≤ 1000000 → InB B32 l → Ev (fun k => real_trim.l0 k l) (D (val B32 l))
  | 0, l, hl, _, h => by
    obtain rfl := List.eq_nil_of_length_eq_zero hl
    refine Ev.step (f := fun _ => some []) (fun k => by rw [real_trim.l0, if_neg (by simp)]) ?_
    rw [val_nil]
    show Ev _ (dg B32 0)
    rw [dg_zero]; exact Ev.now _
  | n + 1, l, hl, hn, h => by
    have hw : wrap64 ((l.length : Int) - 1) = (n : Int) := by rw [hl, w64 _ (by omega) (by omega)]; omega
    have hlt : n < l.length := by omega
    by_cases h0 : rd l (n : Int) = 0
    · refine Ev.step (f := fun k => real_trim.l0 k (l.take n)) (fun k => by rw [real_trim.l0, hw, if_pos (by omega), if_pos (by omega), if_pos (by omega), if_pos h0, if_pos (by omega), Int.toNat_natCast]) ?_
      have ih := trim_ev n (l.take n) (by rw [List.length_take]; omega) (by omega) (h.take n)
      have e : val B32 l = val B32 (l.take n) := by
        rw [val_split (B := B32) (Nat.le_of_lt hlt), val_drop, ← rd_nat, h0, val_drop_ge (by omega)]; simp
      rw [e]; exact ih
    · refine Ev.step (f := fun k => some l) (fun k => by rw [real_trim.l0, hw, if_pos (by omega), if_pos (by omega), if_pos (by omega), if_neg h0]) ?_
      have e : D (val B32 l) = l := dg_val B2 h (fun hne => by
        rw [rd_nat, List.getD_eq_getElem?_getD, List.getElem?_eq_getElem hlt] at h0
        rw [List.getLast_eq_getElem]
        have : l.length - 1 = n := by omega
        simpa [this] using h0)
      rw [e]; exact Ev.now _
theorem trim_f {l : List Int} (h : InB B32 l) (hl : l.length ≤ 1000000) {n : Nat} (hn : val B32 l = n) : Ev (fun k => real_trim.f k l) (D n) := by
  rw [← hn]; exact trim_ev _ l rfl hl h
theorem some_back {α : Type} {g : Nat → Option α} {r : α} (h : Ev g r) : Ev (fun k => (g k).bind fun t => some t) r := Ev.bind h (Ev.now r)
theorem natOf_ev (n : Nat) (h : n < 18446744073709551616) : Ev (fun k => real_natOf.f k (n : Int)) (D n) := by
  refine Ev.congr (f := fun k => (real_trim.f k [((n % 4294967296 : Nat) : Int), ((n / 4294967296 : Nat) : Int)]).bind fun t => some t) (fun k => by
    unfold real_natOf.f
    have e1 : (n : Int) % 4294967296 = ((n % 4294967296 : Nat) : Int) := by omega
    have e2 : (n : Int) / 4294967296 % 4294967296 = ((n / 4294967296 : Nat) : Int) := by omega
    rw [e1, e2]) ?_
  refine some_back (trim_f ?_ (by simp) ?_)
  · exact InB.cons (by show _ ∧ _ < (4294967296 : Int); omega) (InB.cons (by show _ ∧ _ < (4294967296 : Int); omega) InB.nil)
  · rw [val_cons, val_cons, val_nil, Int.toNat_natCast, Int.toNat_natCast]
    show _ + 4294967296 * (_ + 4294967296 * 0) = n
    omega
theorem mag_abs (a : Int) (h0 : -9223372036854775808 < a) (h1 : a ≤ 9223372036854775807) : mx a (wrap64 (-a)) = (a.natAbs : Int) := by
  unfold mx; rw [w64 _ (by omega) (by omega)]; split <;> omega
theorem magnitude_ev (a : Int) (h0 : -9223372036854775808 < a) (h1 : a ≤ 9223372036854775807) : Ev (fun k => real_magnitude.f k a) (D a.natAbs) := by
  have e : IntKind.u64.wrap (mx a (wrap64 (-a))) = (a.natAbs : Int) := by rw [mag_abs a h0 h1, wu64 _ (by omega) (by omega)]
  refine Ev.congr (f := fun k => (real_natOf.f k (a.natAbs : Int)).bind fun t => some t) (fun k => by unfold real_magnitude.f; rw [e]) ?_
  exact some_back (natOf_ev _ (by omega))
def cmpN (a b : Nat) : Int := if a < b then -1 else if a = b then 0 else 1
theorem cmp_l0 (a b : List Int) (ha : InB B32 a) (hb : InB B32 b) (hl : a.length = b.length) (hlen : a.length ≤ 1000000) : ∀ m : Nat, m ≤ a.length → a.drop m = b.drop m → Ev (fun k => real_nat_cmp.l0 k a b ((m : Int) - 1)) (cmpN (val B32 a) (val B32 b))
  | 0, _, he => by
    refine Ev.step (f := fun _ => some 0) (fun k => by rw [real_nat_cmp.l0, if_neg (by omega)]) ?_
    have : a = b := by simpa using he
    rw [this]; unfold cmpN; rw [if_neg (by omega), if_pos rfl]; exact Ev.now _
  | m + 1, hm, he => by
    have hw : ((m + 1 : Nat) : Int) - 1 = (m : Int) := by omega
    have hw2 : wrap64 ((m : Int) - 1) = (m : Int) - 1 := w64 _ (by omega) (by omega)
    rw [hw]
    by_cases h0 : rd a (m : Int) = rd b (m : Int)
    · refine Ev.step (f := fun k => real_nat_cmp.l0 k a b ((m : Int) - 1)) (fun k => by rw [real_nat_cmp.l0, if_pos (by omega), if_pos (by omega), if_pos (by omega), if_pos (by omega), if_pos h0, hw2]) ?_
      refine cmp_l0 a b ha hb hl hlen m (by omega) ?_
      have ea : a.drop m = rd a (m : Int) :: a.drop (m + 1) := by
        rw [rd_nat, List.drop_eq_getElem_cons (by omega), List.getD_eq_getElem?_getD, List.getElem?_eq_getElem (by omega)]; rfl
      have eb : b.drop m = rd b (m : Int) :: b.drop (m + 1) := by
        rw [rd_nat, List.drop_eq_getElem_cons (by omega), List.getD_eq_getElem?_getD, List.getElem?_eq_getElem (by omega)]; rfl
      rw [ea, eb, h0, he]
    · by_cases h1 : rd a (m : Int) < rd b (m : Int)
      · refine Ev.step (f := fun k => some (-1)) (fun k => by rw [real_nat_cmp.l0, if_pos (by omega), if_pos (by omega), if_pos (by omega), if_pos (by omega), if_neg h0, if_pos h1]) ?_
        have := val_lt_of_drop ha hb (show m < a.length by omega) (by omega) he (by rw [← rd_nat, ← rd_nat]; exact h1)
        unfold cmpN; rw [if_pos this]; exact Ev.now _
      · refine Ev.step (f := fun k => some 1) (fun k => by rw [real_nat_cmp.l0, if_pos (by omega), if_pos (by omega), if_pos (by omega), if_pos (by omega), if_neg h0, if_neg h1]) ?_
        have := val_lt_of_drop hb ha (show m < b.length by omega) (by omega) he.symm (by rw [← rd_nat, ← rd_nat]; omega)
        unfold cmpN; rw [if_neg (by omega), if_neg (by omega)]; exact Ev.now _
theorem cmp_ev {a b : Nat} (ha : Sm a) (hb : Sm b) : Ev (fun k => real_nat_cmp.f k (D a) (D b)) (cmpN a b) := by
  unfold Sm at ha hb
  by_cases hl : (D a).length = (D b).length
  · have hw : wrap64 (((D a).length : Int) - 1) = ((D a).length : Int) - 1 := w64 _ (by omega) (by omega)
    refine Ev.congr (f := fun k => real_nat_cmp.l0 k (D a) (D b) (((D a).length : Int) - 1)) (fun k => by unfold real_nat_cmp.f; rw [if_pos (by omega), hw]) ?_
    have := cmp_l0 (D a) (D b) (InB_dg B2 a) (InB_dg B2 b) hl (by omega) (D a).length (Nat.le_refl _) (by rw [List.drop_eq_nil_of_le (Nat.le_refl _), List.drop_eq_nil_of_le (by omega)])
    rw [val_dg B2, val_dg B2] at this
    exact this
  · have hla : a < B32 ^ (D a).length := dg_lt_pow B2 a
    have hlb : b < B32 ^ (D b).length := dg_lt_pow B2 b
    have h00 : (D 0).length = 0 := by rw [show D 0 = [] from dg_zero]; rfl
    by_cases h1 : (D a).length < (D b).length
    · refine Ev.congr (f := fun k => some (-1)) (fun k => by unfold real_nat_cmp.f; rw [if_neg (by omega), if_pos (by omega)]) ?_
      have hb0 : 0 < b := by
        rcases Nat.eq_zero_or_pos b with h | h
        · subst h; omega
        · exact h
      have h2 : B32 ^ ((D b).length - 1) ≤ b := dg_ge_pow B2 hb0
      have h3 := Nat.pow_le_pow_right (show 0 < B32 by decide) (show (D a).length ≤ (D b).length - 1 by omega)
      unfold cmpN; rw [if_pos (by omega)]; exact Ev.now _
    · refine Ev.congr (f := fun k => some 1) (fun k => by unfold real_nat_cmp.f; rw [if_neg (by omega), if_neg (by omega)]) ?_
      have ha0 : 0 < a := by
        rcases Nat.eq_zero_or_pos a with h | h
        · subst h; omega
        · exact h
      have h2 : B32 ^ ((D a).length - 1) ≤ a := dg_ge_pow B2 ha0
      have h3 := Nat.pow_le_pow_right (show 0 < B32 by decide) (show (D b).length ≤ (D a).length - 1 by omega)
      unfold cmpN; rw [if_neg (by omega), if_neg (by omega)]; exact Ev.now _
theorem add_j1 {a b x5 : List Int} {s : Int} {i n : Nat} {r : List Int} (hb : InB B32 b) (hs0 : 0 ≤ s) (hs : s < 1099511627776) (hx : x5.length ≤ 4096) (hi : i ≤ 4096)
    (h : Ev (fun k => real_nat_add.l0 k a b (x5 ++ [(s + rd b i) % 4294967296]) ((s + rd b i) / 4294967296) n ((i + 1 : Nat) : Int)) r) : Ev (fun k => real_nat_add.j1 k a b x5 s i n i) r := by
  have hr := rd_in hb i
  have hw : wrap64 ((i : Int) + 1) = ((i + 1 : Nat) : Int) := by rw [w64 _ (by omega) (by omega)]; omega
  have hu : IntKind.u64.wrap (rd b (i : Int)) = rd b (i : Int) := wu64 _ (by omega) (by omega)
  have hv : IntKind.u64.wrap (s + rd b (i : Int)) = s + rd b (i : Int) := wu64 _ (by omega) (by omega)
  by_cases hc : i < b.length
  · exact Ev.step (fun k => by rw [real_nat_add.j1, if_pos (by omega), if_pos (by omega), if_pos (by omega), hu, hv, hw]) h
  · have e : rd b (i : Int) = 0 := by rw [rd_nat, List.getD_eq_getElem?_getD, List.getElem?_eq_none (by omega)]; rfl
    rw [e, Int.add_zero] at h
    exact Ev.step (fun k => by rw [real_nat_add.j1, if_neg (by omega), if_pos (by omega), hw]) h
theorem add_l0 (a b : List Int) (ha : InB B32 a) (hb : InB B32 b) (n : Nat) (hn : n ≤ 4096) (hla : a.length ≤ n) (hlb : b.length ≤ n) (S : Nat) : ∀ (d i : Nat) (x5 : List Int) (c : Nat), n = i + d → x5.length = i → InB B32 x5 → c ≤ 1 → val B32 x5 + B32 ^ i * (c + val B32 (a.drop i) + val B32 (b.drop i)) = S → Ev (fun k => real_nat_add.l0 k a b x5 (c : Int) (n : Int) (i : Int)) (D S)
  | 0, i, x5, c, hd, hx, hI, hc, hS => by
    have e1 : (c : Int) % 4294967296 = (c : Int) := by omega
    refine Ev.step (f := fun k => (real_trim.f k (x5 ++ [(c : Int)])).bind fun t => some t) (fun k => by rw [real_nat_add.l0, if_neg (by omega), if_pos (by omega), e1]) ?_
    refine some_back (trim_f (hI.snoc (by show _ ∧ _ < (4294967296 : Int); omega)) (by simp; omega) ?_)
    rw [val_snoc, hx, Int.toNat_natCast]
    rw [val_drop_ge (by omega), val_drop_ge (by omega)] at hS
    simpa using hS
  | d + 1, i, x5, c, hd, hx, hI, hc, hS => by
    have hra := rd_in ha i
    have hrb := rd_in hb i
    have hua : IntKind.u64.wrap (rd a (i : Int)) = rd a (i : Int) := wu64 _ (by omega) (by omega)
    have hva : IntKind.u64.wrap ((c : Int) + rd a (i : Int)) = (c : Int) + rd a (i : Int) := wu64 _ (by omega) (by omega)
    obtain ⟨p, hp⟩ : ∃ p : Nat, rd a (i : Int) = p := ⟨(rd a (i : Int)).toNat, by omega⟩
    obtain ⟨q, hq⟩ : ∃ q : Nat, rd b (i : Int) = q := ⟨(rd b (i : Int)).toNat, by omega⟩
    have next : Ev (fun k => real_nat_add.l0 k a b (x5 ++ [((c : Int) + rd a i + rd b i) % 4294967296]) (((c : Int) + rd a i + rd b i) / 4294967296) n ((i + 1 : Nat) : Int)) (D S) := by
      rw [hp, hq]
      have e1 : ((c : Int) + p + q) % 4294967296 = (((c + p + q) % 4294967296 : Nat) : Int) := by omega
      have e2 : ((c : Int) + p + q) / 4294967296 = (((c + p + q) / 4294967296 : Nat) : Int) := by omega
      rw [e1, e2]
      refine add_l0 a b ha hb n hn hla hlb S d (i + 1) _ _ (by omega) (by simp [hx]) (hI.snoc (by show _ ∧ _ < (4294967296 : Int); omega)) (by omega) ?_
      rw [val_snoc, hx, Int.toNat_natCast, Nat.pow_succ]
      have f1 := val_drop (B := B32) a i
      have f2 := val_drop (B := B32) b i
      rw [← rd_nat, hp, Int.toNat_natCast] at f1
      rw [← rd_nat, hq, Int.toNat_natCast] at f2
      rw [f1, f2] at hS
      rw [← hS, Nat.mul_assoc, Nat.add_assoc, ← Nat.mul_add]
      congr 2
      show (c + p + q) % 4294967296 + 4294967296 * _ = _ + (p + 4294967296 * _) + (q + 4294967296 * _)
      omega
    by_cases hc1 : i < a.length
    · refine Ev.step (f := fun k => real_nat_add.j1 k a b x5 ((c : Int) + rd a i) i n i) (fun k => by rw [real_nat_add.l0, if_pos (by omega), if_pos (by omega), if_pos (by omega), hua, hva]) ?_
      exact add_j1 hb (by omega) (by omega) (by omega) (by omega) next
    · have e : rd a (i : Int) = 0 := by rw [rd_nat, List.getD_eq_getElem?_getD, List.getElem?_eq_none (by omega)]; rfl
      rw [e, Int.add_zero] at next
      refine Ev.step (f := fun k => real_nat_add.j1 k a b x5 (c : Int) i n i) (fun k => by rw [real_nat_add.l0, if_pos (by omega), if_neg (by omega)]) ?_
      exact add_j1 hb (by omega) (by omega) (by omega) (by omega) next
theorem add_ev {a b : Nat} (ha : Sm a) (hb : Sm b) : Ev (fun k => real_nat_add.f k (D a) (D b)) (D (a + b)) := by
  unfold Sm at ha hb
  have e : mx ((D a).length : Int) ((D b).length : Int) = ((max (D a).length (D b).length : Nat) : Int) := by unfold mx; split <;> omega
  refine Ev.congr (f := fun k => real_nat_add.l0 k (D a) (D b) [] ((0 : Nat) : Int) ((max (D a).length (D b).length : Nat) : Int) ((0 : Nat) : Int)) (fun k => by unfold real_nat_add.f; rw [e]; rfl) ?_
  exact add_l0 (D a) (D b) (InB_dg B2 a) (InB_dg B2 b) _ (by omega) (by omega) (by omega) (a + b) _ 0 [] 0 (by rw [Nat.zero_add]) rfl InB.nil (by omega) (by rw [val_nil, Nat.pow_zero, List.drop_zero, List.drop_zero, val_dg B2, val_dg B2]; omega)
end Go.Proofs.YteigbokklclmbaaGreatDoor.M
end
section
namespace Go.Proofs.YteigbokklclmbaaGreatDoor.M
open Go Go.RowKit Go.Proofs.YteigbokklclmbaaGreatDoor.Given Go.Proofs.YteigbokklclmbaaGreatDoorW.PrintWords Go.Proofs.YteigbokklclmbaaGreatDoorW.PrintLast Go.Proofs.YteigbokklclmbaaGreatDoorW.PrintMore Go.Proofs.YteigbokklclmbaaGreatDoor.Z
set_option linter.unusedVariables false
set_option linter.unusedSimpArgs false
theorem clone_is {l : List Int} (h : l.length ≤ 1000000) : real_nat_uint32.f l = some l := by
  unfold real_nat_uint32.f
  show (if ([] : List Int).length + l.length < 35184372088832 then some ([] ++ l) else none) = some l
  rw [if_pos (by simp; omega), List.nil_append]
theorem sub_j1 {b x5 : List Int} {x : Int} {i n : Nat} {r : List Int} (hi : i < x5.length) (hl : x5.length ≤ 4096) (hx0 : -4294967296 ≤ x) (hx1 : x < 4294967296)
    (h : Ev (fun k => real_nat_sub.l0 k b (x5.set i (x % 4294967296)) (if x < 0 then -1 else 0) n ((i + 1 : Nat) : Int)) r) : Ev (fun k => real_nat_sub.j1 k b x5 i x n i) r := by
  have hw : wrap64 ((i : Int) + 1) = ((i + 1 : Nat) : Int) := by rw [w64 _ (by omega) (by omega)]; omega
  by_cases hn : x < 0
  · rw [if_pos hn] at h
    have e : (wrap64 (x + 4294967296)) % 4294967296 = x % 4294967296 := by rw [w64 _ (by omega) (by omega)]; omega
    exact Ev.step (fun k => by rw [real_nat_sub.j1, if_pos hn, if_pos (by omega), if_pos (by omega), Int.toNat_natCast, e, hw]) h
  · rw [if_neg hn] at h
    exact Ev.step (fun k => by rw [real_nat_sub.j1, if_neg hn, if_pos (by omega), if_pos (by omega), Int.toNat_natCast, hw]) h
theorem sub_l0 (b : List Int) (hb : InB B32 b) (n : Nat) (hn : n ≤ 4096) (S : Nat) : ∀ (d i : Nat) (x5 : List Int) (c : Int), n = i + d → x5.length = n → InB B32 x5 → (c = 0 ∨ c = -1) → (val B32 x5 : Int) + B32 ^ i * (c - val B32 (b.drop i)) = S → Ev (fun k => real_nat_sub.l0 k b x5 c (n : Int) (i : Int)) (D S)
  | 0, i, x5, c, hd, hx, hI, hc, hS => by
    refine Ev.step (f := fun k => (real_trim.f k x5).bind fun t => some t) (fun k => by rw [real_nat_sub.l0, if_neg (by omega)]) ?_
    refine some_back (trim_f hI (by omega) ?_)
    have hlt := val_lt hI
    rw [hx, show n = i by omega] at hlt
    have hlt' : (val B32 x5 : Int) < (B32 : Int) ^ i := by exact_mod_cast hlt
    have hP : (0 : Int) < (B32 : Int) ^ i := Int.pow_pos (by decide)
    rcases Int.lt_or_le (c - (val B32 (b.drop i) : Int)) 0 with h | h
    · exfalso
      have := Int.mul_le_mul_of_nonneg_left (show c - (val B32 (b.drop i) : Int) ≤ -1 by omega) (Int.le_of_lt hP)
      rw [Int.mul_neg, Int.mul_one] at this
      omega
    · have : c - (val B32 (b.drop i) : Int) = 0 := by omega
      rw [this, Int.mul_zero, Int.add_zero] at hS
      omega
  | d + 1, i, x5, c, hd, hx, hI, hc, hS => by
    have hr5 := rd_in hI i
    have hrb := rd_in hb i
    have hi : i < x5.length := by omega
    have w1 : wrap64 (rd x5 (i : Int)) = rd x5 (i : Int) := w64 _ (by omega) (by omega)
    have w2 : wrap64 (rd x5 (i : Int) + c) = rd x5 (i : Int) + c := w64 _ (by omega) (by omega)
    have w3 : wrap64 (rd b (i : Int)) = rd b (i : Int) := w64 _ (by omega) (by omega)
    have w4 : wrap64 (rd x5 (i : Int) + c - rd b (i : Int)) = rd x5 (i : Int) + c - rd b (i : Int) := w64 _ (by omega) (by omega)
    have next : Ev (fun k => real_nat_sub.l0 k b (x5.set i ((rd x5 i + c - rd b i) % 4294967296)) (if rd x5 i + c - rd b i < 0 then -1 else 0) n ((i + 1 : Nat) : Int)) (D S) := by
      refine sub_l0 b hb n hn S d (i + 1) _ _ (by omega) (by rw [List.length_set]; exact hx) (hI.set i (by show _ ∧ _ < (4294967296 : Int); omega)) (by split <;> simp) ?_
      have f1 := val_drop (B := B32) b i
      rw [← rd_nat] at f1
      have f2 := val_set (B := B32) x5 i ((rd x5 i + c - rd b i) % 4294967296) hi
      rw [← rd_nat] at f2
      have f2' : (val B32 (x5.set i ((rd x5 i + c - rd b i) % 4294967296)) : Int) + (B32 : Int) ^ i * rd x5 i = val B32 x5 + (B32 : Int) ^ i * ((rd x5 i + c - rd b i) % 4294967296) := by
        have h1 : (((rd x5 i).toNat : Nat) : Int) = rd x5 i := Int.toNat_of_nonneg hr5.1
        have h2 : ((((rd x5 i + c - rd b i) % 4294967296).toNat : Nat) : Int) = (rd x5 i + c - rd b i) % 4294967296 := Int.toNat_of_nonneg (by omega)
        have h3 := congrArg (Nat.cast : Nat → Int) f2
        rw [Int.natCast_add, Int.natCast_add, Int.natCast_mul, Int.natCast_mul, h1, h2, Int.natCast_pow] at h3
        exact h3
      rw [f1] at hS
      rw [← hS, Int.pow_succ, Int.mul_assoc]
      generalize hP : (B32 : Int) ^ i = P at *
      have e1 : (((rd b (i : Int)).toNat + B32 * val B32 (b.drop (i + 1)) : Nat) : Int) = rd b i + 4294967296 * (val B32 (b.drop (i + 1)) : Int) := by
        rw [Int.natCast_add, Int.natCast_mul]; show _ + (4294967296 : Int) * _ = _; omega
      rw [e1]
      generalize (val B32 (b.drop (i + 1)) : Int) = R at *
      generalize rd x5 (i : Int) = u at *
      generalize rd b (i : Int) = v at *
      generalize (val B32 (x5.set i ((u + c - v) % 4294967296)) : Int) = X at *
      have e2 : (u + c - v) % 4294967296 = u + c - v - (if u + c - v < 0 then -1 else 0) * 4294967296 := by split <;> omega
      rw [e2] at f2'
      generalize (if u + c - v < 0 then (-1 : Int) else 0) = q at *
      have e3 : P * (u + c - v - q * 4294967296) = P * u + P * (c - v - q * 4294967296) := by rw [← Int.mul_add]; congr 1; omega
      rw [e3] at f2'
      rw [show X = val B32 x5 + P * (c - v - q * 4294967296) by omega, Int.add_assoc, ← Int.mul_add]
      congr 2
      show _ + (4294967296 : Int) * _ = _
      omega
    by_cases hcb : i < b.length
    · refine Ev.step (f := fun k => real_nat_sub.j1 k b x5 i (rd x5 i + c - rd b i) n i) (fun k => by rw [real_nat_sub.l0, if_pos (by omega), if_pos (by omega), if_pos (by omega), if_pos (by omega), w1, w2, w3, w4]) ?_
      exact sub_j1 hi (by omega) (by omega) (by omega) next
    · have e : rd b (i : Int) = 0 := by rw [rd_nat, List.getD_eq_getElem?_getD, List.getElem?_eq_none (by omega)]; rfl
      rw [e, Int.sub_zero] at next
      refine Ev.step (f := fun k => real_nat_sub.j1 k b x5 i (rd x5 i + c) n i) (fun k => by rw [real_nat_sub.l0, if_pos (by omega), if_pos (by omega), if_pos (by omega), if_neg (by omega), w1, w2]) ?_
      exact sub_j1 hi (by omega) (by omega) (by omega) next
theorem sub_ev {a b : Nat} (ha : Sm a) (hb : Sm b) (hle : b ≤ a) : Ev (fun k => real_nat_sub.f k (D a) (D b)) (D (a - b)) := by
  unfold Sm at ha hb
  refine Ev.congr (f := fun k => real_nat_sub.l0 k (D b) (D a) 0 ((D a).length : Int) ((0 : Nat) : Int)) (fun k => by unfold real_nat_sub.f; rw [clone_is (by omega)]; rfl) ?_
  refine sub_l0 (D b) (InB_dg B2 b) _ (by omega) (a - b) _ 0 (D a) 0 (by rw [Nat.zero_add]) rfl (InB_dg B2 a) (.inl rfl) ?_
  rw [Int.pow_zero, List.drop_zero, val_dg B2, val_dg B2]; omega
end Go.Proofs.YteigbokklclmbaaGreatDoor.M
end
section
namespace Go.Proofs.YteigbokklclmbaaGreatDoor.M
open Go Go.RowKit Go.Proofs.YteigbokklclmbaaGreatDoor.Given Go.Proofs.YteigbokklclmbaaGreatDoorW.PrintWords Go.Proofs.YteigbokklclmbaaGreatDoorW.PrintLast Go.Proofs.YteigbokklclmbaaGreatDoorW.PrintMore Go.Proofs.YteigbokklclmbaaGreatDoor.Z
set_option linter.unusedVariables false
set_option linter.unusedSimpArgs false
theorem or_shl (c x : Nat) (s : Nat) (hs : s ≤ 63) (hc : c < 2 ^ s) (hx : x * 2 ^ s < 18446744073709551616) (hx' : x < 18446744073709551616) :
    Go.bits .or .u64 (c : Int) (shl .u64 (IntKind.u64.wrap (x : Int)) (s : Int)) = ((c + x * 2 ^ s : Nat) : Int) := by
  have e0 : IntKind.u64.wrap (x : Int) = (x : Int) := wu64 _ (by omega) (by omega)
  have h1 : shl .u64 (IntKind.u64.wrap (x : Int)) (s : Int) = ((x * 2 ^ s : Nat) : Int) := by
    rw [e0]
    unfold shl
    rw [Int.toNat_natCast, Nat.min_eq_left (show s ≤ IntKind.u64.bits by show s ≤ 64; omega)]
    have : (x : Int) * 2 ^ s = ((x * 2 ^ s : Nat) : Int) := by rw [Int.natCast_mul, Int.natCast_pow]; rfl
    rw [this, wu64 _ (by omega) (by omega)]
  rw [h1]
  have h2 : 2 ^ s ≤ 2 ^ 63 := Nat.pow_le_pow_right (by decide) hs
  have hb := (bits_nat .u64 64 (by decide) (fun n h0 h1 => wu64 n h0 (by simpa using h1)) c (x * 2 ^ s) (by omega) (by omega)).2
  rw [hb, Nat.or_comm, Nat.mul_comm x, ← Nat.two_pow_add_eq_or_of_lt hc]
  congr 1; omega
theorem shl_l0 (a : List Int) (ha : InB B32 a) (n s : Nat) (hns : n % 32 = s) (hla : a.length ≤ 4096) (S : Nat) : ∀ (d i : Nat) (x5 : List Int) (c : Nat), a.length = i + d → x5.length ≤ 500000 + i → InB B32 x5 → c < 2 ^ s → Aside0 (val B32 x5 + B32 ^ x5.length * (c + 2 ^ s * val B32 (a.drop i)) = S) →
    Ev (fun k => real_nat_shl.l0 k (n : Int) x5 (c : Int) a (a.length : Int) (i : Int)) (D S)
  | 0, i, x5, c, hd, hx, hI, hc, hS => by
    have hc2 : (2 : Nat) ^ s ≤ 2 ^ 31 := Nat.pow_le_pow_right (by decide) (by omega)
    have e1 : Aside0 ((c : Int) % 4294967296 = (c : Int)) := Aside0.mk (by omega)
    refine Ev.step (f := fun k => (real_trim.f k (x5 ++ [(c : Int)])).bind fun t => some t) (fun k => by rw [real_nat_shl.l0, if_neg (by omega), if_pos (by omega), e1.out]) ?_
    refine some_back (trim_f (hI.snoc (by show _ ∧ _ < (4294967296 : Int); omega)) (by simp; omega) ?_)
    rw [val_snoc, Int.toNat_natCast]
    replace hS := hS.out
    rw [val_drop_ge (by omega)] at hS
    simpa using hS
  | d + 1, i, x5, c, hd, hx, hI, hc, hS => by
    have hc2 : (2 : Nat) ^ s ≤ 2 ^ 31 := Nat.pow_le_pow_right (by decide) (by omega)
    have hra := rd_in ha i
    obtain ⟨p, hp⟩ : ∃ p : Nat, rd a (i : Int) = p := ⟨(rd a (i : Int)).toNat, by omega⟩
    have ht : Aside0 (Int.tmod (n : Int) 32 = (s : Int)) := Aside0.mk (by rw [Int.tmod_eq_emod_of_nonneg (by omega)]; omega)
    have w2 : Aside0 (wrap64 ((i : Int) + 1) = ((i + 1 : Nat) : Int)) := Aside0.mk (by rw [w64 _ (by omega) (by omega)]; omega)
    have hpb : p * 2 ^ s ≤ 4294967295 * 2 ^ s := Nat.mul_le_mul_right _ (by omega)
    have ho := Aside0.mk (or_shl c p s (by omega) hc (by omega) (by omega))
    have e1 : Aside0 (((c + p * 2 ^ s : Nat) : Int) % 4294967296 = (((c + p * 2 ^ s) % 4294967296 : Nat) : Int)) := Aside0.mk (by omega)
    have e2 : Aside0 (((c + p * 2 ^ s : Nat) : Int) / 4294967296 = (((c + p * 2 ^ s) / 4294967296 : Nat) : Int)) := Aside0.mk (by omega)
    refine Ev.step (f := fun k => real_nat_shl.l0 k (n : Int) (x5 ++ [(((c + p * 2 ^ s) % 4294967296 : Nat) : Int)]) (((c + p * 2 ^ s) / 4294967296 : Nat) : Int) a a.length ((i + 1 : Nat) : Int)) (fun k => by
      rw [real_nat_shl.l0, if_pos (by omega), if_pos (by omega), if_pos (by omega), ht.out, if_pos (by omega), if_pos (by omega), hp, ho.out, e1.out, e2.out, w2.out]) ?_
    refine shl_l0 a ha n s hns hla S d (i + 1) _ _ (by omega) (by simp; omega) (hI.snoc (by show _ ∧ _ < (4294967296 : Int); omega)) ?_ (Aside0.mk ?_)
    · rw [Nat.div_lt_iff_lt_mul (by decide)]
      have : (2 : Nat) ^ s * 4294967296 = 4294967295 * 2 ^ s + 2 ^ s := by omega
      omega
    · have g := val_drop (B := B32) a i
      rw [← rd_nat, hp, Int.toNat_natCast] at g
      replace hS := hS.out
      rw [g] at hS
      rw [← hS, val_snoc, Int.toNat_natCast, List.length_append, List.length_singleton, Nat.pow_succ, Nat.mul_assoc, Nat.add_assoc, ← Nat.mul_add]
      congr 2
      show _ + 4294967296 * _ = c + 2 ^ s * (p + 4294967296 * _)
      generalize val B32 (a.drop (i + 1)) = R
      clear hpb e1 e2 ho
      have : 2 ^ s * (p + 4294967296 * R) = p * 2 ^ s + 4294967296 * (2 ^ s * R) := by rw [Nat.mul_add, Nat.mul_comm (2 ^ s) p, ← Nat.mul_assoc, Nat.mul_comm (2 ^ s) 4294967296, Nat.mul_assoc]
      rw [this, Nat.mul_add]
      generalize p * 2 ^ s = X
      generalize 2 ^ s * R = Y
      omega
theorem shl_ev {a : Nat} (ha : Sm a) (n : Nat) (hn : n ≤ 65536) : Ev (fun k => real_nat_shl.f k (D a) (n : Int)) (D (a * 2 ^ n)) := by
  unfold Sm at ha
  have t : Int.tdiv (n : Int) 32 = ((n / 32 : Nat) : Int) := by rw [Int.tdiv_eq_ediv_of_nonneg (by omega)]; omega
  have w1 : wrap64 ((n / 32 : Nat) : Int) = ((n / 32 : Nat) : Int) := w64 _ (by omega) (by omega)
  have w2 : wrap64 (((n / 32 : Nat) : Int) + ((D a).length : Int)) = ((n / 32 + (D a).length : Nat) : Int) := by rw [w64 _ (by omega) (by omega)]; omega
  have w3 : wrap64 (((n / 32 + (D a).length : Nat) : Int) + 1) = ((n / 32 + (D a).length + 1 : Nat) : Int) := by rw [w64 _ (by omega) (by omega)]; omega
  refine Ev.congr (f := fun k => real_nat_shl.l0 k (n : Int) (List.replicate (n / 32) 0) ((0 : Nat) : Int) (D a) ((D a).length : Int) ((0 : Nat) : Int)) (fun k => by unfold real_nat_shl.f; rw [t, w1, w2, w3, if_pos (by omega), if_pos (by omega), Int.toNat_natCast, Int.toNat_natCast, if_pos (by omega)]; rfl) ?_
  refine shl_l0 (D a) (InB_dg B2 a) n (n % 32) rfl (by omega) (a * 2 ^ n) (D a).length 0 _ 0 (by omega) (by simp; omega) (InB.replicate (by decide) _) (Nat.two_pow_pos _) (Aside0.mk ?_)
  rw [val_replicate, List.length_replicate, List.drop_zero, val_dg B2, Nat.zero_add, Nat.zero_add, pow32, ← Nat.mul_assoc, ← Nat.pow_add, Nat.mul_comm]
  congr 2; omega
/-- How many binary digits a number has. -/
def bl (n : Nat) : Nat := if h : 0 < n then bl (n / 2) + 1 else 0
termination_by n
decreasing_by exact Nat.div_lt_self h (by decide)
theorem bl_zero : bl 0 = 0 := by rw [bl]; simp
theorem bl_pos {n : Nat} (h : 0 < n) : bl n = bl (n / 2) + 1 := by rw [bl, dif_pos h]
theorem bl_lt (n : Nat) : n < 2 ^ bl n := by
  induction n using Nat.strongRecOn with
  | ind n ih =>
    rcases Nat.eq_zero_or_pos n with rfl | h
    · rw [bl_zero]; decide
    · rw [bl_pos h, Nat.pow_succ]
      have := ih (n / 2) (Nat.div_lt_self h (by decide))
      omega
theorem bl_ge {n : Nat} (h : 0 < n) : 2 ^ (bl n - 1) ≤ n := by
  induction n using Nat.strongRecOn with
  | ind n ih =>
    rw [bl_pos h, Nat.add_sub_cancel]
    rcases Nat.eq_zero_or_pos (n / 2) with h2 | h2
    · rw [h2, bl_zero]; exact h
    · have := ih (n / 2) (Nat.div_lt_self h (by decide)) h2
      have e : bl (n / 2) = bl (n / 2) - 1 + 1 := by rw [bl_pos h2]; omega
      rw [e, Nat.pow_succ]; omega
theorem bl_pos' {n : Nat} (h : 0 < n) : 0 < bl n := by rw [bl_pos h]; omega
theorem bl_le_iff {n m : Nat} : bl n ≤ m ↔ n < 2 ^ m := by
  constructor
  · intro h; exact Nat.lt_of_lt_of_le (bl_lt n) (Nat.pow_le_pow_right (by decide) h)
  · intro h
    rcases Nat.eq_zero_or_pos n with rfl | h0
    · rw [bl_zero]; omega
    · have h1 := bl_ge h0
      have h2 := bl_pos' h0
      rcases Nat.lt_or_ge m (bl n) with h3 | h3
      · have := Nat.pow_le_pow_right (show 0 < 2 by decide) (show m ≤ bl n - 1 by omega); omega
      · exact h3
theorem bl_of {n m : Nat} (h0 : 2 ^ m ≤ n) (h1 : n < 2 ^ (m + 1)) : bl n = m + 1 := by
  have a := bl_le_iff.2 h1
  have b : ¬ bl n ≤ m := fun h => by have := bl_le_iff.1 h; omega
  omega
theorem bits_l0 : ∀ (n : Nat) (x : Nat) (c : Int), bl x = n → 0 ≤ c → c + n ≤ 2000000 → Ev (fun k => real_nat_bits.l0 k c (x : Int)) (c + n)
  | 0, x, c, h, h0, h1 => by
    have : x = 0 := by
      rcases Nat.eq_zero_or_pos x with e | e
      · exact e
      · have := bl_pos' e; omega
    subst this
    refine Ev.step (f := fun _ => some c) (fun k => by rw [real_nat_bits.l0, if_neg (by omega)]) ?_
    rw [show c + ((0 : Nat) : Int) = c by omega]; exact Ev.now _
  | n + 1, x, c, h, h0, h1 => by
    have hx : 0 < x := by
      rcases Nat.eq_zero_or_pos x with e | e
      · subst e; rw [bl_zero] at h; omega
      · exact e
    rw [bl_pos hx] at h
    have e : (x : Int) / 2 = ((x / 2 : Nat) : Int) := by omega
    have w : wrap64 (c + 1) = c + 1 := w64 _ (by omega) (by omega)
    refine Ev.step (f := fun k => real_nat_bits.l0 k (c + 1) ((x / 2 : Nat) : Int)) (fun k => by rw [real_nat_bits.l0, if_pos (by omega), w, e]) ?_
    have ih := bits_l0 n (x / 2) (c + 1) (by omega) (by omega) (by omega)
    rw [show c + ((n + 1 : Nat) : Int) = c + 1 + (n : Int) by omega]; exact ih
theorem bits_ev {a : Nat} (ha : Sm a) : Ev (fun k => real_nat_bits.f k (D a)) (bl a : Int) := by
  unfold Sm at ha
  rcases Nat.eq_zero_or_pos a with rfl | h0
  · rw [bl_zero]
    refine Ev.congr (f := fun _ => some 0) (fun k => by rw [show D 0 = [] from dg_zero]; rfl) (Ev.now _)
  · have hne : (D a).length ≠ 0 := fun e => by
      have := (dg_nil (n := a) B2).1 (List.eq_nil_of_length_eq_zero e); omega
    obtain ⟨m, hm⟩ : ∃ m, (D a).length = m + 1 := ⟨(D a).length - 1, by omega⟩
    have w1 : wrap64 (((m + 1 : Nat) : Int) - 1) = (m : Int) := by rw [w64 _ (by omega) (by omega)]; omega
    have w2 : wrap64 (32 * (m : Int)) = ((32 * m : Nat) : Int) := by rw [w64 _ (by omega) (by omega)]; omega
    have hr : 0 ≤ rd (D a) (m : Int) ∧ rd (D a) (m : Int) < 4294967296 := rd_in (InB_dg B2 a) m
    have hs := val_split (B := B32) (l := D a) (i := m) (by omega)
    have hd := val_drop (B := B32) (D a) m
    have z1 : val B32 ((D a).drop (m + 1)) = 0 := val_drop_ge (by omega)
    rw [← rd_nat, z1, Nat.mul_zero, Nat.add_zero] at hd
    rw [val_dg B2, hd] at hs
    obtain ⟨t, ht⟩ : ∃ t : Nat, rd (D a) (m : Int) = t := ⟨(rd (D a) (m : Int)).toNat, by omega⟩
    rw [ht, Int.toNat_natCast] at hs
    have hlt : val B32 ((D a).take m) < B32 ^ ((D a).take m).length := val_lt ((show InB B32 (D a) from InB_dg B2 a).take m)
    rw [List.length_take, Nat.min_eq_left (by omega)] at hlt
    have hpow : B32 ^ ((D a).length - 1) ≤ a := dg_ge_pow B2 h0
    rw [hm, Nat.add_sub_cancel] at hpow
    have ht0 : 0 < t := by
      rcases Nat.eq_zero_or_pos t with e | e
      · subst e; omega
      · exact e
    have hbl : bl a = 32 * m + bl t := by
      have h1 := bl_ge ht0
      have h2 := bl_lt t
      have h3 := bl_pos' ht0
      have e : 32 * m + bl t = (32 * m + (bl t - 1)) + 1 := by omega
      rw [e]
      refine bl_of ?_ ?_
      · rw [Nat.pow_add, ← pow32]
        have := Nat.mul_le_mul_left (B32 ^ m) h1
        omega
      · rw [show 32 * m + (bl t - 1) + 1 = 32 * m + bl t by omega, Nat.pow_add, ← pow32]
        have := Nat.mul_le_mul_left (B32 ^ m) (show t + 1 ≤ 2 ^ bl t from h2)
        rw [Nat.mul_add, Nat.mul_one] at this
        omega
    have htb : bl t ≤ 32 := bl_le_iff.2 (by omega)
    refine Ev.congr (f := fun k => real_nat_bits.l0 k ((32 * m : Nat) : Int) (t : Int)) (fun k => by unfold real_nat_bits.f; rw [hm, if_neg (by omega), w1, if_pos (by omega), if_pos (by omega), w2, ht]) ?_
    have := bits_l0 (bl t) t ((32 * m : Nat) : Int) rfl (by omega) (by omega)
    rw [hbl, Int.natCast_add]; exact this
theorem small_l0 (a : List Int) (ha : InB B32 a) (hl : a.length ≤ 2) : ∀ (d i : Nat) (c : Nat), a.length = i + d → c < B32 ^ i → Aside0 (c + B32 ^ i * val B32 (a.drop i) = val B32 a) → Ev (fun k => real_nat_small.l0 k (c : Int) a (a.length : Int) (i : Int)) (val B32 a : Int)
  | 0, i, c, hd, hc, hT => by
    replace hT := hT.out
    rw [val_drop_ge (by omega), Nat.mul_zero, Nat.add_zero] at hT
    refine Ev.step (f := fun _ => some (c : Int)) (fun k => by rw [real_nat_small.l0, if_neg (by omega)]) ?_
    rw [hT]; exact Ev.now _
  | d + 1, i, c, hd, hc, hT => by
    have hra := rd_in ha i
    obtain ⟨p, hp⟩ : ∃ p : Nat, rd a (i : Int) = p := ⟨(rd a (i : Int)).toNat, by omega⟩
    have w1 : Aside0 (wrap64 (32 * (i : Int)) = ((32 * i : Nat) : Int)) := Aside0.mk (by rw [w64 _ (by omega) (by omega)]; omega)
    have w2 : Aside0 (wrap64 ((i : Int) + 1) = ((i + 1 : Nat) : Int)) := Aside0.mk (by rw [w64 _ (by omega) (by omega)]; omega)
    have hpw : (2 : Nat) ^ (32 * i) ≤ 4294967296 := by
      have := Nat.pow_le_pow_right (show 0 < 2 by decide) (show 32 * i ≤ 32 by omega); exact this
    have hpm : p * 2 ^ (32 * i) ≤ 4294967295 * 4294967296 := Nat.mul_le_mul (by omega) hpw
    have ho := Aside0.mk (or_shl c p (32 * i) (by omega) (by rw [← pow32]; exact hc) (by omega) (by omega))
    refine Ev.step (f := fun k => real_nat_small.l0 k ((c + p * 2 ^ (32 * i) : Nat) : Int) a a.length ((i + 1 : Nat) : Int)) (fun k => by
      rw [real_nat_small.l0, if_pos (by omega), if_pos (by omega), if_pos (by omega), w1.out, if_pos (Int.natCast_nonneg _), hp, ho.out, w2.out]) ?_
    refine small_l0 a ha hl d (i + 1) _ (by omega) ?_ (Aside0.mk ?_)
    · rw [Nat.pow_succ, ← pow32]
      have : p * B32 ^ i ≤ 4294967295 * B32 ^ i := Nat.mul_le_mul_right _ (by omega)
      show _ < B32 ^ i * 4294967296
      omega
    · have g := val_drop (B := B32) a i
      rw [← rd_nat, hp, Int.toNat_natCast] at g
      replace hT := hT.out
      rw [g] at hT
      rw [← hT, Nat.pow_succ, Nat.mul_assoc, Nat.add_assoc, ← pow32, Nat.mul_comm p, ← Nat.mul_add]
theorem small_ev {a : Nat} (ha : a < 18446744073709551616) : Ev (fun k => real_nat_small.f k (D a)) (a : Int) := by
  have hl : (D a).length ≤ 2 := dg_len_le B2 2 a (by show a < 4294967296 ^ 2; omega)
  have := small_l0 (D a) (InB_dg B2 a) hl (D a).length 0 0 (by omega) (by simp) (Aside0.mk (by rw [Nat.pow_zero, List.drop_zero]; omega))
  rw [val_dg B2] at this
  exact Ev.congr (fun k => by unfold real_nat_small.f; rfl) this
end Go.Proofs.YteigbokklclmbaaGreatDoor.M
end
section
namespace Go.Proofs.YteigbokklclmbaaGreatDoor.M
open Go Go.RowKit Go.Proofs.YteigbokklclmbaaGreatDoor.Given Go.Proofs.YteigbokklclmbaaGreatDoorW.PrintWords Go.Proofs.YteigbokklclmbaaGreatDoorW.PrintLast Go.Proofs.YteigbokklclmbaaGreatDoorW.PrintMore Go.Proofs.YteigbokklclmbaaGreatDoor.Z
set_option linter.unusedVariables false
set_option linter.unusedSimpArgs false
theorem Sm.bl {n : Nat} (h : M.bl n ≤ 32 * 2048) : Sm n := Sm.of (bl_lt n) h
theorem bl_mono {a b : Nat} (h : a ≤ b) : bl a ≤ bl b := bl_le_iff.2 (Nat.lt_of_le_of_lt h (bl_lt b))
theorem bl_shift (a m : Nat) : bl (a * 2 ^ m) ≤ bl a + m := by
  rw [bl_le_iff, Nat.pow_add]
  exact Nat.mul_lt_mul_of_pos_right (bl_lt a) (Nat.two_pow_pos m)
theorem bl_add (a b : Nat) : bl (a + b) ≤ max (bl a) (bl b) + 1 := by
  rw [bl_le_iff, Nat.pow_succ]
  have h1 := Nat.lt_of_lt_of_le (bl_lt a) (Nat.pow_le_pow_right (show 0 < 2 by decide) (Nat.le_max_left (bl a) (bl b)))
  have h2 := Nat.lt_of_lt_of_le (bl_lt b) (Nat.pow_le_pow_right (show 0 < 2 by decide) (Nat.le_max_right (bl a) (bl b)))
  omega
theorem bl_one : bl 1 = 1 := by rw [bl_pos (by decide)]; rw [show 1 / 2 = 0 by decide, bl_zero]
theorem div_l0 (a b : Nat) (hb : 0 < b) (hab : bl a ≤ 30000) (hbb : bl b ≤ 30000) : ∀ (m q r : Nat), m ≤ 30001 → a = q * 2 ^ m * b + r → r < 2 ^ m * b → Ev (fun k => real_nat_div.l0 k (D b) (D q) (D r) ((m : Int) - 1)) (D (a / b), D (a % b))
  | 0, q, r, _, h, hr => by
    rw [Nat.pow_zero, Nat.mul_one] at h
    rw [Nat.pow_zero, Nat.one_mul] at hr
    have e1 : a / b = q := by rw [h, Nat.mul_comm, Nat.mul_add_div hb, Nat.div_eq_of_lt hr, Nat.add_zero]
    have e2 : a % b = r := by rw [h, Nat.mul_comm, Nat.mul_add_mod, Nat.mod_eq_of_lt hr]
    refine Ev.step (f := fun _ => some (D q, D r)) (fun k => by rw [real_nat_div.l0, if_neg (by omega)]) ?_
    rw [e1, e2]; exact Ev.now _
  | m + 1, q, r, hm, h, hr => by
    have hw : ((m + 1 : Nat) : Int) - 1 = (m : Int) := by omega
    have hw2 : wrap64 ((m : Int) - 1) = (m : Int) - 1 := w64 _ (by omega) (by omega)
    rw [hw]
    have hra : r ≤ a := by omega
    have hqa : q * 2 ≤ a ∨ r = 0 ∨ True := .inr (.inr trivial)
    have hP := Nat.two_pow_pos m
    have hq1 : q * 2 ≤ a := by
      have h1 : q * 2 ≤ q * 2 ^ (m + 1) * b := by
        have : 2 ^ (m + 1) * b = 2 * (2 ^ m * b) := by rw [Nat.pow_succ]; ac_rfl
        rw [Nat.mul_assoc, this, ← Nat.mul_assoc]
        exact Nat.le_mul_of_pos_right _ (Nat.mul_pos hP hb)
      omega
    have b1 := bl_mono hra
    have b2 := bl_mono hq1
    have b3 := bl_mono (show q ≤ a by omega)
    have b4 := bl_shift b m
    have sb : Sm b := Sm.bl (by omega)
    have sq : Sm q := Sm.bl (by omega)
    have sq2 : Sm (q * 2) := Sm.bl (by omega)
    have sr : Sm r := Sm.bl (by omega)
    have sd : Sm (b * 2 ^ m) := Sm.bl (by omega)
    have s1 : Sm 1 := Sm.bl (by rw [bl_one]; decide)
    have hsh2 : Ev (fun k => real_nat_shl.f k (D q) 1) (D (q * 2)) := by
      have := shl_ev sq 1 (by decide)
      rw [Nat.pow_one] at this; exact this
    refine Ev.step (f := fun k => (real_nat_shl.f k (D b) (m : Int)).bind fun t162 => (real_nat_shl.f k (D q) 1).bind fun t165 => (real_nat_cmp.f k (D r) t162).bind fun t168 => if t168 ≥ 0 then (real_nat_sub.f k (D r) t162).bind fun t169 => (real_nat_add.f k t165 [1]).bind fun t175 => real_nat_div.l0 k (D b) t175 t169 (wrap64 ((m : Int) - 1)) else real_nat_div.l0 k (D b) t165 (D r) (wrap64 ((m : Int) - 1))) (fun k => by rw [real_nat_div.l0, if_pos (by omega)]) ?_
    refine Ev.bind (shl_ev sb m (by omega)) (Ev.bind hsh2 (Ev.bind (cmp_ev sr sd) ?_))
    rw [hw2]
    have hrr : 2 ^ (m + 1) * b = 2 ^ m * b + 2 ^ m * b := by rw [Nat.pow_succ, ← Nat.add_mul]; congr 1; omega
    have hqq : q * 2 ^ (m + 1) * b = q * 2 * 2 ^ m * b := by rw [Nat.pow_succ]; ac_rfl
    by_cases hc : r < b * 2 ^ m
    · have e : cmpN r (b * 2 ^ m) = -1 := by unfold cmpN; rw [if_pos hc]
      rw [e]
      refine Ev.congr (f := fun k => real_nat_div.l0 k (D b) (D (q * 2)) (D r) ((m : Int) - 1)) (fun k => by rw [if_neg (by omega)]) ?_
      exact div_l0 a b hb hab hbb m (q * 2) r (by omega) (by omega) (by rw [Nat.mul_comm]; exact hc)
    · have e : cmpN r (b * 2 ^ m) ≥ 0 := by unfold cmpN; rw [if_neg hc]; split <;> omega
      have one : D 1 = [1] := dg_small B2 (by decide) (by decide)
      refine Ev.congr (f := fun k => (real_nat_sub.f k (D r) (D (b * 2 ^ m))).bind fun t169 => (real_nat_add.f k (D (q * 2)) (D 1)).bind fun t175 => real_nat_div.l0 k (D b) t175 t169 ((m : Int) - 1)) (fun k => by rw [if_pos e, one]) ?_
      refine Ev.bind (sub_ev sr sd (by omega)) (Ev.bind (add_ev sq2 s1) ?_)
      refine div_l0 a b hb hab hbb m (q * 2 + 1) (r - b * 2 ^ m) (by omega) ?_ ?_
      · rw [hqq] at h
        rw [Nat.add_mul, Nat.one_mul, Nat.add_mul, Nat.mul_comm (2 ^ m) b]
        omega
      · rw [Nat.mul_comm b] at hc ⊢; omega
theorem div_ev {a b : Nat} (hb : 0 < b) (hab : bl a ≤ 30000) (hbb : bl b ≤ 30000) : Ev (fun k => real_nat_div.f k (D a) (D b)) (D (a / b), D (a % b)) := by
  have sa : Sm a := Sm.bl (by omega)
  have sb : Sm b := Sm.bl (by omega)
  have hla : (D a).length ≤ 2048 := sa
  refine Ev.congr (f := fun k => (real_nat_bits.f k (D a)).bind fun t160 => (real_nat_bits.f k (D b)).bind fun t161 => real_nat_div.l0 k (D b) [] (D a) (wrap64 (t160 - t161))) (fun k => by unfold real_nat_div.f; rw [clone_is (by omega)]; rfl) ?_
  refine Ev.bind (bits_ev sa) (Ev.bind (bits_ev sb) ?_)
  have w : wrap64 ((bl a : Int) - (bl b : Int)) = (bl a : Int) - (bl b : Int) := w64 _ (by omega) (by omega)
  rw [w]
  rcases Nat.lt_or_ge (bl a) (bl b) with h | h
  · have hlt : a < b := by
      have h3 := bl_lt a
      have h4 := bl_ge hb
      have := Nat.pow_le_pow_right (show 0 < 2 by decide) (show bl a ≤ bl b - 1 by omega); omega
    refine Ev.step (f := fun _ => some ([], D a)) (fun k => by rw [real_nat_div.l0, if_neg (by omega)]) ?_
    rw [Nat.div_eq_of_lt hlt, Nat.mod_eq_of_lt hlt, show D 0 = [] from dg_zero]; exact Ev.now _
  · have := div_l0 a b hb hab hbb (bl a - bl b + 1) 0 a (by omega) (by simp) ?_
    · rw [show D 0 = [] from dg_zero] at this
      rw [show (bl a : Int) - (bl b : Int) = ((bl a - bl b + 1 : Nat) : Int) - 1 by omega]; exact this
    · have h3 := bl_lt a
      have h4 := bl_ge hb
      have h5 := bl_pos' hb
      have := Nat.mul_le_mul_left (2 ^ (bl a - bl b + 1)) h4
      rw [← Nat.pow_add, show bl a - bl b + 1 + (bl b - 1) = bl a by omega] at this
      omega
end Go.Proofs.YteigbokklclmbaaGreatDoor.M
end
section
namespace Go.Proofs.YteigbokklclmbaaGreatDoor.M
open Go Go.RowKit Go.Proofs.YteigbokklclmbaaGreatDoor.Given Go.Proofs.YteigbokklclmbaaGreatDoorW.PrintWords Go.Proofs.YteigbokklclmbaaGreatDoorW.PrintLast Go.Proofs.YteigbokklclmbaaGreatDoorW.PrintMore Go.Proofs.YteigbokklclmbaaGreatDoor.Z Go.Proofs.YteigbokklclmbaaGreatDoor.Z.Y Go.Proofs.YteigbokklclmbaaGreatDoor.Z.Y.V
set_option linter.unusedVariables false
set_option linter.unusedSimpArgs false
abbrev B15 : Nat := 32768
abbrev E (n : Nat) : List Int := dg B15 n
theorem C2 : 2 ≤ B15 := by decide
theorem pow15 (n : Nat) : B15 ^ n = 2 ^ (15 * n) := by rw [Nat.pow_mul]
/-- A number of modest size: at most 8000 digits. -/
def Se (n : Nat) : Prop := (E n).length ≤ 8000
theorem Se.of {n : Nat} (h : bl n ≤ 15 * 8000) : Se n := by
  have key : ∀ L : Nat, bl n ≤ 15 * L → (E n).length ≤ L := fun L hL => by
    refine dg_len_le C2 L n ?_
    rw [pow15]
    exact bl_le_iff.1 hL
  exact key 8000 h
end Go.Proofs.YteigbokklclmbaaGreatDoor.M
end
section
namespace Go.Proofs.YteigbokklclmbaaGreatDoor.M
set_option linter.unusedVariables false
set_option linter.unusedSimpArgs false
/-- The exponent (above the least one) and the mantissa of the real with an index. -/
def sh (i : Nat) : Nat := i / 8388608 - 1
def man (i : Nat) : Nat := i - sh i * 8388608
/-- The real with an index, in units of 2^-150. -/
def G (i : Nat) : Nat := man i * 2 ^ sh i
/-- The middle of two neighbours, in units of 2^-151. -/
def H (i : Nat) : Nat := G i + G (i + 1)
theorem G_succ (i : Nat) : G (i + 1) = G i + 2 ^ sh i := by
  have hs : (sh (i + 1) = sh i ∧ man (i + 1) = man i + 1) ∨ (sh (i + 1) = sh i + 1 ∧ man i = 16777215 ∧ man (i + 1) = 8388608) := by
    unfold man sh; omega
  unfold G
  rcases hs with ⟨h1, h2⟩ | ⟨h1, h2, h3⟩
  · rw [h1, h2, Nat.add_mul, Nat.one_mul]
  · rw [h1, h2, h3, Nat.pow_succ]; omega
theorem G_zero : G 0 = 0 := by unfold G man sh; rfl
theorem G_lt_succ (i : Nat) : G i < G (i + 1) := by
  rw [G_succ]; have := Nat.two_pow_pos (sh i); omega
theorem G_lt {i j : Nat} (h : i < j) : G i < G j := by
  induction h with
  | refl => exact G_lt_succ i
  | step _ ih => exact Nat.lt_trans ih (G_lt_succ _)
theorem G_le {i j : Nat} (h : i ≤ j) : G i ≤ G j := by
  rcases Nat.lt_or_ge i j with h' | h'
  · exact Nat.le_of_lt (G_lt h')
  · rw [Nat.le_antisymm h h']; exact Nat.le_refl _
theorem G_lt_iff {i j : Nat} : G i < G j ↔ i < j := by
  constructor
  · intro h
    rcases Nat.lt_or_ge i j with h' | h'
    · exact h'
    · have := G_le h'; omega
  · exact G_lt
theorem H_lt {i j : Nat} (h : i < j) : H i < H j := by
  unfold H; have h1 := G_lt h; have h2 := G_lt (show i + 1 < j + 1 by omega); omega
theorem H_le {i j : Nat} (h : i ≤ j) : H i ≤ H j := by
  rcases Nat.lt_or_ge i j with h' | h'
  · exact Nat.le_of_lt (H_lt h')
  · rw [Nat.le_antisymm h h']; exact Nat.le_refl _
theorem H_inj {i j : Nat} (h : H i = H j) : i = j := by
  rcases Nat.lt_trichotomy i j with h' | h' | h'
  · have := H_lt h'; omega
  · exact h'
  · have := H_lt h'; omega
/-- A mantissa and an exponent, also where the mantissa is one too great. -/
theorem G_at (m u : Nat) (hm : m ≤ 16777216) (hu : u = 0 ∨ 8388608 ≤ m) : G (m + u * 8388608) = m * 2 ^ u := by
  unfold G
  rcases Nat.lt_or_ge m 16777216 with h | h
  · have h1 : sh (m + u * 8388608) = u := by unfold sh; omega
    have h2 : man (m + u * 8388608) = m := by unfold man; rw [h1]; omega
    rw [h1, h2]
  · have e : m = 16777216 := by omega
    subst e
    have h1 : sh (16777216 + u * 8388608) = u + 1 := by unfold sh; omega
    have h2 : man (16777216 + u * 8388608) = 8388608 := by unfold man; rw [h1]; omega
    rw [h1, h2, Nat.pow_succ]; omega
/-- I is the index of the rounded value of N / D, which is in units of 2^-150: to the nearest, on the middle to the even one. -/
def Rd (N D I : Nat) : Prop := (I = 0 ∨ (H (I - 1) * D ≤ 2 * N ∧ (H (I - 1) * D = 2 * N → I % 2 = 0))) ∧ 2 * N ≤ H I * D ∧ (2 * N = H I * D → I % 2 = 0)
theorem Rd.mono {N D I N' D' J : Nat} (hD : 0 < D) (hD' : 0 < D') (h : Rd N D I) (h' : Rd N' D' J) (hle : N * D' ≤ N' * D) : I ≤ J := by
  rcases Nat.lt_or_ge J I with hlt | hge
  · exfalso
    obtain ⟨h1, _⟩ := h
    obtain ⟨_, h2, h3⟩ := h'
    rcases h1 with h1 | ⟨h1, h4⟩
    · omega
    · have hH : H J ≤ H (I - 1) := H_le (by omega)
      -- H (I-1) * D * D' ≤ 2 N D' ≤ 2 N' D ≤ H J * D' * D
      have a1 : H (I - 1) * D * D' ≤ 2 * N * D' := Nat.mul_le_mul_right _ h1
      have a2 : 2 * N' * D ≤ H J * D' * D := Nat.mul_le_mul_right _ h2
      have a3 : H J * D' * D ≤ H (I - 1) * D' * D := Nat.mul_le_mul_right _ (Nat.mul_le_mul_right _ hH)
      have e1 : H (I - 1) * D' * D = H (I - 1) * D * D' := by rw [Nat.mul_assoc, Nat.mul_comm D' D, ← Nat.mul_assoc]
      have e2 : 2 * N * D' = 2 * (N * D') := Nat.mul_assoc _ _ _
      have e3 : 2 * N' * D = 2 * (N' * D) := Nat.mul_assoc _ _ _
      have b1 : H (I - 1) * D * D' = 2 * N * D' := by omega
      have b2 : 2 * N' * D = H J * D' * D := by omega
      have b3 : H J * D' * D = H (I - 1) * D' * D := by omega
      have c1 := Nat.eq_of_mul_eq_mul_right hD' b1
      have c2 := Nat.eq_of_mul_eq_mul_right hD b2
      have c3 := Nat.eq_of_mul_eq_mul_right hD' (Nat.eq_of_mul_eq_mul_right hD b3)
      have := h4 c1
      have := h3 c2
      have := H_inj c3
      omega
  · exact hge
theorem Rd.only {N D I N' D' J : Nat} (hD : 0 < D) (hD' : 0 < D') (h : Rd N D I) (h' : Rd N' D' J) (he : N * D' = N' * D) : I = J :=
  Nat.le_antisymm (h.mono hD hD' h' (Nat.le_of_eq he)) (h'.mono hD' hD h (Nat.le_of_eq he.symm))
theorem Rd.exact (I D : Nat) (hD : 0 < D) : Rd (G I * D) D I := by
  have h1 : 2 * (G I * D) = 2 * G I * D := (Nat.mul_assoc _ _ _).symm
  refine ⟨?_, ?_, ?_⟩
  · rcases Nat.eq_zero_or_pos I with h | h
    · exact .inl h
    · right
      have : H (I - 1) < 2 * G I := by
        unfold H; rw [show I - 1 + 1 = I by omega]; have := G_lt (show I - 1 < I by omega); omega
      have := Nat.mul_lt_mul_of_pos_right this hD
      rw [h1]
      exact ⟨Nat.le_of_lt this, fun e => by omega⟩
  · rw [h1]; refine Nat.mul_le_mul_right _ ?_
    unfold H; have := G_lt_succ I; omega
  · intro e
    rw [h1] at e
    have := Nat.eq_of_mul_eq_mul_right hD e
    unfold H at this; have := G_lt_succ I; omega
/-- The same fraction, the same index. -/
theorem Rd.congr {N D I N' D' : Nat} (hD : 0 < D) (hD' : 0 < D') (h : Rd N D I) (he : N * D' = N' * D) : Rd N' D' I := by
  have key : ∀ X : Nat, (X * D ≤ 2 * N ↔ X * D' ≤ 2 * N') ∧ (X * D = 2 * N ↔ X * D' = 2 * N') ∧ (2 * N ≤ X * D ↔ 2 * N' ≤ X * D') := by
    intro X
    have e1 : X * D * D' = X * D' * D := by rw [Nat.mul_assoc, Nat.mul_comm D D', ← Nat.mul_assoc]
    have e2 : 2 * N * D' = 2 * N' * D := by rw [Nat.mul_assoc, he, ← Nat.mul_assoc]
    refine ⟨?_, ?_, ?_⟩
    · rw [← Nat.mul_le_mul_right_iff hD', e1, e2, Nat.mul_le_mul_right_iff hD]
    · constructor
      · intro h; exact Nat.eq_of_mul_eq_mul_right hD (by rw [← e1, ← e2, h])
      · intro h; exact Nat.eq_of_mul_eq_mul_right hD' (by rw [e1, e2, h])
    · rw [← Nat.mul_le_mul_right_iff hD', e1, e2, Nat.mul_le_mul_right_iff hD]
  obtain ⟨h1, h2, h3⟩ := h
  refine ⟨?_, (key _).2.2.1 h2, fun e => h3 ((key _).2.1.2 e.symm).symm⟩
  rcases h1 with h1 | ⟨h1, h4⟩
  · exact .inl h1
  · exact .inr ⟨(key _).1.1 h1, fun e => h4 ((key _).2.1.2 e)⟩
/-- What the rounding by hand comes to: of n / d in units of 2^(u - 150), with a quotient of at most 24 bits, is rounded so. -/
theorem Rd.of_quo (n d u : Nat) (hd : 0 < d) (hq : n / d < 16777216) (hu : u = 0 ∨ 8388608 ≤ n / d) :
    Rd (n * 2 ^ u) d ((n / d + if d < 2 * (n % d) ∨ (d = 2 * (n % d) ∧ n / d % 2 = 1) then 1 else 0) + u * 8388608) := by
  have hn := Nat.div_add_mod n d
  have hr := Nat.mod_lt n hd
  generalize n / d = m at *
  generalize n % d = r at *
  have hP := Nat.two_pow_pos u
  have hG := G_at m u (by omega) hu
  have hG1 : G (m + u * 8388608 + 1) = (m + 1) * 2 ^ u := by
    have := G_at (m + 1) u (by omega) (by omega)
    rw [← this]; congr 1; omega
  have hH : H (m + u * 8388608) = (2 * m + 1) * 2 ^ u := by
    unfold H; rw [hG, hG1, ← Nat.add_mul]; congr 1; omega
  have hpar : (m + u * 8388608) % 2 = m % 2 := by omega
  have e1 : 2 * (n * 2 ^ u) = 2 * n * 2 ^ u := (Nat.mul_assoc _ _ _).symm
  have e2 : (2 * m + 1) * 2 ^ u * d = (2 * m + 1) * d * 2 ^ u := by rw [Nat.mul_assoc, Nat.mul_comm (2 ^ u) d, ← Nat.mul_assoc]
  have e3 : (2 * m + 1) * d = 2 * (d * m) + d := by rw [Nat.add_mul, Nat.one_mul, Nat.mul_assoc, Nat.mul_comm m d]
  have hlow : ∀ J, J = m + u * 8388608 → J = 0 ∨ (H (J - 1) * d ≤ 2 * (n * 2 ^ u) ∧ (H (J - 1) * d = 2 * (n * 2 ^ u) → J % 2 = 0)) := by
    intro J hJ
    rcases Nat.eq_zero_or_pos J with h | h
    · exact .inl h
    · right
      have h1 : H (J - 1) < 2 * (m * 2 ^ u) := by
        unfold H; rw [show J - 1 + 1 = J by omega]
        have h2 := G_lt (show J - 1 < J by omega)
        have h3 : G J = m * 2 ^ u := by rw [hJ, hG]
        omega
      have h2 := Nat.mul_lt_mul_of_pos_right h1 hd
      have h3 : 2 * (m * 2 ^ u) * d ≤ 2 * (n * 2 ^ u) := by
        rw [Nat.mul_assoc]
        refine Nat.mul_le_mul_left _ ?_
        rw [Nat.mul_assoc, Nat.mul_comm (2 ^ u) d, ← Nat.mul_assoc]
        refine Nat.mul_le_mul_right _ ?_
        rw [Nat.mul_comm m d]; omega
      exact ⟨by omega, fun e => by omega⟩
  split
  · rename_i hc
    have hI : m + 1 + u * 8388608 = m + u * 8388608 + 1 := by omega
    rw [hI]
    refine ⟨.inr ?_, ?_, ?_⟩
    · rw [Nat.add_sub_cancel, hH, e1, e2]
      constructor
      · refine Nat.mul_le_mul_right _ ?_
        omega
      · intro e
        have := Nat.eq_of_mul_eq_mul_right hP e
        omega
    · have : 2 * ((m + 1) * 2 ^ u) ≤ H (m + u * 8388608 + 1) := by
        unfold H; rw [hG1]; have := G_lt_succ (m + u * 8388608 + 1); rw [hG1] at this; omega
      have h2 := Nat.mul_le_mul_right d this
      have h3 : 2 * (n * 2 ^ u) ≤ 2 * ((m + 1) * 2 ^ u) * d := by
        rw [Nat.mul_assoc]
        refine Nat.mul_le_mul_left _ ?_
        rw [Nat.mul_assoc, Nat.mul_comm (2 ^ u) d, ← Nat.mul_assoc]
        refine Nat.mul_le_mul_right _ ?_
        rw [Nat.add_mul, Nat.one_mul, Nat.mul_comm m d]; omega
      omega
    · intro e
      exfalso
      have : 2 * ((m + 1) * 2 ^ u) < H (m + u * 8388608 + 1) := by
        unfold H; rw [hG1]; have := G_lt_succ (m + u * 8388608 + 1); rw [hG1] at this; omega
      have h2 := Nat.mul_lt_mul_of_pos_right this hd
      have h3 : 2 * (n * 2 ^ u) ≤ 2 * ((m + 1) * 2 ^ u) * d := by
        rw [Nat.mul_assoc]
        refine Nat.mul_le_mul_left _ ?_
        rw [Nat.mul_assoc, Nat.mul_comm (2 ^ u) d, ← Nat.mul_assoc]
        refine Nat.mul_le_mul_right _ ?_
        rw [Nat.add_mul, Nat.one_mul, Nat.mul_comm m d]; omega
      omega
  · rename_i hc
    rw [Nat.add_zero]
    refine ⟨hlow _ rfl, ?_, ?_⟩
    · rw [hH, e1, e2]
      refine Nat.mul_le_mul_right _ ?_
      omega
    · rw [hH, e1, e2]
      intro e
      have := Nat.eq_of_mul_eq_mul_right hP e
      omega
/-- A fraction num * 2^e / den, as a fraction in units of 2^x. -/
def nx (e x : Int) (num : Nat) : Nat := if x ≤ e then num * 2 ^ (e - x).toNat else num
def dx (e x : Int) (den : Nat) : Nat := if x ≤ e then den else den * 2 ^ (x - e).toNat
theorem dx_pos {e x : Int} {den : Nat} (h : 0 < den) : 0 < dx e x den := by
  unfold dx; split
  · exact h
  · exact Nat.mul_pos h (Nat.two_pow_pos _)
theorem frac_step (e x : Int) (num den : Nat) : nx e x num * dx e (x + 1) den = 2 * (nx e (x + 1) num * dx e x den) := by
  unfold nx dx
  rcases Int.lt_trichotomy x e with h | h | h
  · rw [if_pos (by omega), if_pos (by omega), if_pos (by omega), if_pos (by omega), show (e - x).toNat = (e - (x + 1)).toNat + 1 by omega, Nat.pow_succ]
    rw [← Nat.mul_assoc, Nat.mul_comm (num * 2 ^ _) 2, Nat.mul_assoc 2]
  · subst h
    rw [if_pos (by omega), if_neg (by omega), if_neg (by omega), if_pos (by omega), show (x - x).toNat = 0 by omega, show (x + 1 - x).toNat = 1 by omega, Nat.pow_zero, Nat.mul_one, Nat.pow_one]
    rw [← Nat.mul_assoc, Nat.mul_comm _ 2]
  · rw [if_neg (by omega), if_neg (by omega), if_neg (by omega), if_neg (by omega), show (x + 1 - e).toNat = (x - e).toNat + 1 by omega, Nat.pow_succ]
    rw [← Nat.mul_assoc, ← Nat.mul_assoc, Nat.mul_comm _ 2, Nat.mul_assoc]
theorem frac_at (e : Int) (num den : Nat) (hden : 0 < den) : ∀ u : Nat, nx e (-150 + u) num * 2 ^ u * dx e (-150) den = nx e (-150) num * dx e (-150 + u) den
  | 0 => by simp
  | u + 1 => by
    have ih := frac_at e num den hden u
    have hs := frac_step e (-150 + u) num den
    have hx : (-150 + (u : Int) + 1) = (-150 + ((u + 1 : Nat) : Int)) := by omega
    rw [hx] at hs
    have hp : 0 < dx e (-150 + u) den := dx_pos hden
    refine Nat.eq_of_mul_eq_mul_right hp ?_
    -- n' * 2^(u+1) * D * d = N * d' * d ; n * d' = 2 n' d ; n 2^u D = N d
    generalize nx e (-150 + u) num = n at *
    generalize nx e (-150 + ((u + 1 : Nat) : Int)) num = n' at *
    generalize dx e (-150 + u) den = d at *
    generalize dx e (-150 + ((u + 1 : Nat) : Int)) den = d' at *
    generalize nx e (-150) num = N at *
    generalize dx e (-150) den = D at *
    have h1 : n' * 2 ^ (u + 1) * D * d = 2 * (n' * d) * (2 ^ u * D) := by
      rw [Nat.pow_succ]; ac_rfl
    rw [h1, ← hs]
    have h2 : n * d' * (2 ^ u * D) = n * 2 ^ u * D * d' := by ac_rfl
    rw [h2, ih]; ac_rfl
end Go.Proofs.YteigbokklclmbaaGreatDoor.M
end
section
namespace Go.Proofs.YteigbokklclmbaaGreatDoor.M
open Go Go.RowKit Go.Proofs.YteigbokklclmbaaGreatDoor.Given Go.Proofs.YteigbokklclmbaaGreatDoorW.PrintWords Go.Proofs.YteigbokklclmbaaGreatDoorW.PrintLast Go.Proofs.YteigbokklclmbaaGreatDoorW.PrintMore Go.Proofs.YteigbokklclmbaaGreatDoor.Z
set_option linter.unusedVariables false
set_option linter.unusedSimpArgs false
/-- The real with an index, and what rounding to it answers (1000 in the exponent's place: it panics). -/
def atI (I : Nat) : Int × Int := if I = 0 then (0, 0) else ((man I : Int), (sh I : Int) - 150)
def rres (I : Nat) : Int × Int := if 2533359615 < I then (0, 1000) else atI I
theorem rounded_j4 (x m : Int) : Ev (fun k => real_rounded.j4 k x m) (if x > 150 then (0, 1000) else if m = 0 then (0, 0) else (m, x)) := by
  refine Ev.step (f := fun _ => some (if x > 150 then (0, 1000) else if m = 0 then (0, 0) else (m, x))) (fun k => ?_) (Ev.now _)
  rw [real_rounded.j4]
  split
  · rfl
  · split <;> rfl
theorem rounded_j3 (u m : Nat) (hu : u ≤ 60000) (hm : m ≤ 16777216) (hc : u = 0 ∨ 8388608 ≤ m) : Ev (fun k => real_rounded.j3 k (-150 + (u : Int)) (m : Int)) (rres (m + u * 8388608)) := by
  have w : wrap64 (-150 + (u : Int) + 1) = -150 + (u : Int) + 1 := w64 _ (by omega) (by omega)
  by_cases h : (m : Int) = 16777216
  · refine Ev.step (f := fun k => real_rounded.j4 k (-150 + (u : Int) + 1) 8388608) (fun k => by rw [real_rounded.j3, if_pos h, w]) ?_
    have := rounded_j4 (-150 + (u : Int) + 1) 8388608
    have e : (if -150 + (u : Int) + 1 > 150 then ((0 : Int), (1000 : Int)) else if (8388608 : Int) = 0 then (0, 0) else (8388608, -150 + (u : Int) + 1)) = rres (m + u * 8388608) := by
      unfold rres atI
      have hs : sh (m + u * 8388608) = u + 1 := by unfold sh; omega
      have hmn : man (m + u * 8388608) = 8388608 := by unfold man; rw [hs]; omega
      rw [hs, hmn]
      by_cases hg : -150 + (u : Int) + 1 > 150
      · rw [if_pos hg, if_pos (by omega)]
      · rw [if_neg hg, if_neg (by omega), if_neg (by omega), if_neg (by omega)]
        congr 1; omega
    rw [← e]; exact this
  · refine Ev.step (f := fun k => real_rounded.j4 k (-150 + (u : Int)) (m : Int)) (fun k => by rw [real_rounded.j3, if_neg h]) ?_
    have := rounded_j4 (-150 + (u : Int)) (m : Int)
    have e : (if -150 + (u : Int) > 150 then ((0 : Int), (1000 : Int)) else if (m : Int) = 0 then (0, 0) else ((m : Int), -150 + (u : Int))) = rres (m + u * 8388608) := by
      unfold rres atI
      have hs : sh (m + u * 8388608) = u := by unfold sh; omega
      have hmn : man (m + u * 8388608) = m := by unfold man; rw [hs]; omega
      rw [hs, hmn]
      by_cases hg : -150 + (u : Int) > 150
      · rw [if_pos hg, if_pos (by omega)]
      · by_cases hz : (m : Int) = 0
        · rw [if_neg hg, if_pos hz, if_neg (by omega), if_pos (by omega)]
        · rw [if_neg hg, if_neg hz, if_neg (by omega), if_neg (by omega)]
          congr 1 <;> omega
    rw [← e]; exact this
theorem rounded_j2 (u m : Nat) (b : Bool) (hu : u ≤ 60000) (hm : m < 16777216) (hc : u = 0 ∨ 8388608 ≤ m) : Ev (fun k => real_rounded.j2 k (-150 + (u : Int)) (m : Int) b) (rres ((m + if b = true then 1 else 0) + u * 8388608)) := by
  by_cases h : b = true
  · have w : wrap64 ((m : Int) + 1) = ((m + 1 : Nat) : Int) := by rw [w64 _ (by omega) (by omega)]; omega
    rw [if_pos h]
    refine Ev.step (fun k => by rw [real_rounded.j2, if_pos h, w]) (rounded_j3 u (m + 1) hu (by omega) (by omega))
  · rw [if_neg h, Nat.add_zero]
    exact Ev.step (fun k => by rw [real_rounded.j2, if_neg h]) (rounded_j3 u m hu (by omega) hc)
/-- Where the quotient has at most 24 bits. -/
theorem rounded_stop (num den n d u : Nat) (e : Int) (hd : 0 < d) (hn : bl n ≤ 30000) (hdd : bl d ≤ 29990) (hu : u ≤ 60000) (hq : n / d < 16777216) (hc : u = 0 ∨ 8388608 ≤ n / d) :
    Ev (fun k => real_rounded.j1 k (D num) e (D den) (-150 + (u : Int)) (D n) (D d)) (rres ((n / d + if d < 2 * (n % d) ∨ (d = 2 * (n % d) ∧ n / d % 2 = 1) then 1 else 0) + u * 8388608)) := by
  have hr := Nat.mod_lt n hd
  have b1 := bl_mono (Nat.le_of_lt hr)
  have b2 := bl_shift (n % d) 1
  rw [Nat.pow_one] at b2
  have b3 : bl (n / d) ≤ 24 := bl_le_iff.2 hq
  have hdiv := div_ev hd hn (show bl d ≤ 30000 by omega)
  clear hn
  generalize n / d = q at *
  generalize n % d = r at *
  have sq : Sm q := Sm.bl (by omega)
  have sr : Sm (r) := Sm.bl (by omega)
  have sr2 : Sm (r * 2) := Sm.bl (by omega)
  have sd : Sm d := Sm.bl (by omega)
  have hsh : Ev (fun k => real_nat_shl.f k (D (r)) 1) (D (r * 2)) := by
    have := shl_ev sr 1 (by decide)
    rw [Nat.pow_one] at this; exact this
  have hbl : ¬ ((bl (q) : Int) > 24) := by
    omega
  have w : wrap64 ((q : Nat) : Int) = ((q : Nat) : Int) := w64 _ (by omega) (by omega)
  refine Ev.step (fun k => by rw [real_rounded.j1]) ?_
  refine Ev.bind hdiv (Ev.bind (bits_ev sq) ?_)
  dsimp only
  refine Ev.congr (f := fun k => (real_nat_small.f k (D (q))).bind fun t195 => (real_nat_shl.f k (D (r)) 1).bind fun t196 => (real_nat_cmp.f k t196 (D d)).bind fun t199 => if t199 > 0 then real_rounded.j2 k (-150 + (u : Int)) (wrap64 t195) true else if t199 = 0 then real_rounded.j2 k (-150 + (u : Int)) (wrap64 t195) ((Int.tmod (wrap64 t195) 2) == 1) else real_rounded.j2 k (-150 + (u : Int)) (wrap64 t195) false) (fun k => by rw [if_neg hbl]) ?_
  refine Ev.bind (small_ev (by omega)) (Ev.bind hsh (Ev.bind (cmp_ev sr2 sd) ?_))
  rw [w]
  by_cases h1 : d < 2 * (r)
  · have e1 : cmpN (r * 2) d = 1 := by unfold cmpN; rw [if_neg (by omega), if_neg (by omega)]
    rw [e1, if_pos (Or.inl h1)]
    have := rounded_j2 u (q) true hu hq hc
    rw [if_pos rfl] at this
    exact Ev.congr (fun k => by rw [if_pos (by omega)]) this
  · by_cases h2 : d = 2 * (r)
    · have e1 : cmpN (r * 2) d = 0 := by unfold cmpN; rw [if_neg (by omega), if_pos (by omega)]
      rw [e1]
      have ht : (Int.tmod ((q : Nat) : Int) 2 == 1) = decide (q % 2 = 1) := by
        rw [Int.tmod_eq_emod_of_nonneg (by omega)]
        by_cases h : q % 2 = 1
        · rw [decide_eq_true h, beq_iff_eq]; omega
        · rw [decide_eq_false h, beq_eq_false_iff_ne]; omega
      have := rounded_j2 u (q) (decide (q % 2 = 1)) hu hq hc
      have e2 : (if decide (q % 2 = 1) = true then 1 else 0) = (if d < 2 * (r) ∨ (d = 2 * (r) ∧ q % 2 = 1) then 1 else 0) := by
        by_cases h : q % 2 = 1
        · rw [if_pos (by simpa using h), if_pos (Or.inr ⟨h2, h⟩)]
        · rw [if_neg (by simpa using h), if_neg (by rintro (h' | h') <;> omega)]
      rw [e2] at this
      exact Ev.congr (fun k => by rw [if_neg (by omega), if_pos rfl, ht]) this
    · have e1 : cmpN (r * 2) d = -1 := by unfold cmpN; rw [if_pos (by omega)]
      rw [e1, if_neg (by rintro (h' | h') <;> omega)]
      have := rounded_j2 u (q) false hu hq hc
      rw [if_neg (by decide)] at this
      exact Ev.congr (fun k => by rw [if_neg (by omega), if_neg (by omega)]) this
/-- The state of a round: how great the fraction's parts are, and how the shifts come to them. -/
theorem go_ (num den : Nat) (e : Int) (hnum : bl num ≤ 10000) (hden : 0 < den) (hden2 : bl den ≤ 10000) (he0 : -10000 ≤ e) (he1 : e ≤ 10000) (u : Nat) (hx : (-150 + (u : Int)) - e ≤ 10100) :
    bl (nx e (-150 + u) num) ≤ 30000 ∧ bl (dx e (-150 + u) den) ≤ 29990 ∧ ∀ r, Ev (fun k => real_rounded.j1 k (D num) e (D den) (-150 + (u : Int)) (D (nx e (-150 + u) num)) (D (dx e (-150 + u) den))) r → Ev (fun k => real_rounded.l0 k (D num) e (D den) (-150 + (u : Int))) r := by
  have sn : Sm num := Sm.bl (by omega)
  have sd : Sm den := Sm.bl (by omega)
  unfold nx dx
  by_cases h : -150 + (u : Int) ≤ e
  · rw [if_pos h, if_pos h]
    refine ⟨?_, by omega, fun r hr => ?_⟩
    · have := bl_shift num (e - (-150 + (u : Int))).toNat; omega
    · have w : wrap64 (e - (-150 + (u : Int))) = ((e - (-150 + (u : Int))).toNat : Int) := by rw [w64 _ (by omega) (by omega)]; omega
      refine Ev.step (f := fun k => (real_nat_shl.f k (D num) ((e - (-150 + (u : Int))).toNat : Int)).bind fun t => real_rounded.j1 k (D num) e (D den) (-150 + (u : Int)) t (D den)) (fun k => by rw [real_rounded.l0, if_pos (by omega), w]) ?_
      exact Ev.bind (shl_ev sn _ (by omega)) hr
  · rw [if_neg h, if_neg h]
    refine ⟨by omega, ?_, fun r hr => ?_⟩
    · have := bl_shift den ((-150 + (u : Int)) - e).toNat; omega
    · have w : wrap64 ((-150 + (u : Int)) - e) = (((-150 + (u : Int)) - e).toNat : Int) := by rw [w64 _ (by omega) (by omega)]; omega
      refine Ev.step (f := fun k => (real_nat_shl.f k (D den) (((-150 + (u : Int)) - e).toNat : Int)).bind fun t => real_rounded.j1 k (D num) e (D den) (-150 + (u : Int)) (D num) t) (fun k => by rw [real_rounded.l0, if_neg (by omega), w]) ?_
      exact Ev.bind (shl_ev sd _ (by omega)) hr
theorem stop_ (num den : Nat) (e : Int) (hnum : bl num ≤ 10000) (hden : 0 < den) (hden2 : bl den ≤ 10000) (he0 : -10000 ≤ e) (he1 : e ≤ 10000) (u : Nat) (hx : (-150 + (u : Int)) - e ≤ 10100)
    (hq : nx e (-150 + u) num / dx e (-150 + u) den < 16777216) (hge : u = 0 ∨ 8388608 * dx e (-150 + u) den ≤ nx e (-150 + u) num) :
    ∃ I, Rd (nx e (-150) num) (dx e (-150) den) I ∧ Ev (fun k => real_rounded.l0 k (D num) e (D den) (-150 + (u : Int))) (rres I) := by
  have hdp : 0 < dx e (-150 + u) den := dx_pos hden
  have hgo := go_ num den e hnum hden hden2 he0 he1 u hx
  have hc : u = 0 ∨ 8388608 ≤ nx e (-150 + u) num / dx e (-150 + u) den := by
    rcases hge with h | h
    · exact .inl h
    · right; rw [Nat.le_div_iff_mul_le hdp]; exact h
  refine ⟨_, Rd.congr hdp (dx_pos hden) (Rd.of_quo _ _ u hdp hq hc) (frac_at e num den hden u), hgo.2.2 _ ?_⟩
  exact rounded_stop num den _ _ u e hdp hgo.1 hgo.2.1 (by omega) hq hc
set_option maxHeartbeats 2000000 in
theorem rounded_l0 (num den : Nat) (e : Int) (hnum : bl num ≤ 10000) (hden : 0 < den) (hden2 : bl den ≤ 10000) (he0 : -10000 ≤ e) (he1 : e ≤ 10000) :
    ∀ (j u : Nat), (-150 + (u : Int)) - e + j ≤ 10100 → nx e (-150 + u) num < 2 ^ (24 + j) * dx e (-150 + u) den → (u = 0 ∨ 8388608 * dx e (-150 + u) den ≤ nx e (-150 + u) num) →
    ∃ I, Rd (nx e (-150) num) (dx e (-150) den) I ∧ Ev (fun k => real_rounded.l0 k (D num) e (D den) (-150 + (u : Int))) (rres I) := by
  intro j
  induction j with
  | zero => 
    intro u hx hlt hge
    rw [show (2 : Nat) ^ (24 + 0) = 16777216 by decide] at hlt
    exact stop_ num den e hnum hden hden2 he0 he1 u (by omega) (by rw [Nat.div_lt_iff_lt_mul (dx_pos hden)]; exact hlt) hge
  | succ j ih =>
    intro u hx hlt hge
    have hdp : 0 < dx e (-150 + u) den := dx_pos hden
    by_cases hq : nx e (-150 + u) num / dx e (-150 + u) den < 16777216
    · exact stop_ num den e hnum hden hden2 he0 he1 u (by omega) hq hge
    · have hq' : 16777216 * dx e (-150 + u) den ≤ nx e (-150 + u) num := by
        rw [← Nat.le_div_iff_mul_le hdp]; omega
      have hs := frac_step e (-150 + u) num den
      have hxx : (-150 + (u : Int) + 1) = (-150 + ((u + 1 : Nat) : Int)) := by omega
      rw [hxx] at hs
      have hdp' : 0 < dx e (-150 + ((u + 1 : Nat) : Int)) den := dx_pos hden
      have up : nx e (-150 + ((u + 1 : Nat) : Int)) num < 2 ^ (24 + j) * dx e (-150 + ((u + 1 : Nat) : Int)) den := by
        have h1 := Nat.mul_lt_mul_of_pos_right hlt hdp'
        rw [hs, show 24 + (j + 1) = (24 + j) + 1 from rfl, Nat.pow_succ] at h1
        clear hlt hge hq hq' hs ih
        generalize (2 : Nat) ^ (24 + j) = P at *
        generalize nx e (-150 + ((u + 1 : Nat) : Int)) num = n' at *
        generalize dx e (-150 + ((u + 1 : Nat) : Int)) den = d' at *
        generalize dx e (-150 + (u : Int)) den = d at *
        have h2 : P * 2 * d * d' = 2 * (P * d' * d) := by ac_rfl
        rw [h2] at h1
        exact Nat.lt_of_mul_lt_mul_right (a := d) (Nat.lt_of_mul_lt_mul_left (a := 2) h1)
      have low : 8388608 * dx e (-150 + ((u + 1 : Nat) : Int)) den ≤ nx e (-150 + ((u + 1 : Nat) : Int)) num := by
        have h1 := Nat.mul_le_mul_right (dx e (-150 + ((u + 1 : Nat) : Int)) den) hq'
        rw [hs] at h1
        clear hlt hge hq hq' hs ih up
        generalize nx e (-150 + ((u + 1 : Nat) : Int)) num = n' at *
        generalize dx e (-150 + ((u + 1 : Nat) : Int)) den = d' at *
        generalize dx e (-150 + (u : Int)) den = d at *
        have h2 : 16777216 * d * d' = 2 * (8388608 * d' * d) := by
          rw [show (16777216 : Nat) = 2 * 8388608 by decide]; ac_rfl
        rw [h2] at h1
        exact Nat.le_of_mul_le_mul_right (Nat.le_of_mul_le_mul_left h1 (by decide)) hdp
      obtain ⟨I, hR, hE⟩ := ih (u + 1) (by omega) up (.inr low)
      refine ⟨I, hR, ?_⟩
      have hgo := go_ num den e hnum hden hden2 he0 he1 u (by omega)
      have sq : Sm (nx e (-150 + u) num / dx e (-150 + u) den) := Sm.bl (by have := bl_mono (Nat.div_le_self (nx e (-150 + u) num) (dx e (-150 + u) den)); have := hgo.1; omega)
      have hbl : (bl (nx e (-150 + u) num / dx e (-150 + u) den) : Int) > 24 := by
        have : ¬ bl (nx e (-150 + u) num / dx e (-150 + u) den) ≤ 24 := fun h => hq (bl_le_iff.1 h)
        omega
      have w : wrap64 (-150 + (u : Int) + 1) = -150 + ((u + 1 : Nat) : Int) := by rw [w64 _ (by omega) (by omega)]; omega
      refine hgo.2.2 _ (Ev.step (fun k => by rw [real_rounded.j1]) ?_)
      refine Ev.bind (div_ev hdp hgo.1 (by have := hgo.2.1; omega)) (Ev.bind (bits_ev sq) ?_)
      dsimp only
      exact Ev.congr (fun k => by rw [if_pos hbl, w]) hE
theorem rounded_ev (num den : Nat) (e : Int) (hnum : bl num ≤ 10000) (hden : 0 < den) (hden2 : bl den ≤ 10000) (he0 : -10000 ≤ e) (he1 : e ≤ 10000) :
    ∃ I, Rd (nx e (-150) num) (dx e (-150) den) I ∧ Ev (fun k => real_rounded.f k (D num) e (D den)) (rres I) := by
  rcases Nat.eq_zero_or_pos num with h0 | h0
  · subst h0
    refine ⟨0, ⟨.inl rfl, ?_, fun _ => rfl⟩, ?_⟩
    · have : nx e (-150) 0 = 0 := by unfold nx; split <;> simp
      rw [this]; omega
    · refine Ev.congr (f := fun _ => some (0, 0)) (fun k => by rw [show D 0 = [] from dg_zero]; rfl) ?_
      exact Ev.now _
  · have sn : Sm num := Sm.bl (by omega)
    have sd : Sm den := Sm.bl (by omega)
    have hne : (D num).length ≠ 0 := fun e => by
      have := (dg_nil (n := num) B2).1 (List.eq_nil_of_length_eq_zero e); omega
    have w1 : wrap64 ((bl num : Int) - (bl den : Int)) = (bl num : Int) - (bl den : Int) := w64 _ (by omega) (by omega)
    have w2 : wrap64 ((bl num : Int) - (bl den : Int) + e) = (bl num : Int) - (bl den : Int) + e := w64 _ (by omega) (by omega)
    have w3 : wrap64 ((bl num : Int) - (bl den : Int) + e - 24) = (bl num : Int) - (bl den : Int) + e - 24 := w64 _ (by omega) (by omega)
    have w4 : wrap64 ((bl num : Int) - (bl den : Int) + e - 24 - 1) = (bl num : Int) - (bl den : Int) + e - 24 - 1 := w64 _ (by omega) (by omega)
    obtain ⟨u, hu⟩ : ∃ u : Nat, mx (-150) ((bl num : Int) - (bl den : Int) + e - 24 - 1) = -150 + (u : Int) := ⟨(mx (-150) ((bl num : Int) - (bl den : Int) + e - 24 - 1) + 150).toNat, by unfold mx; split <;> omega⟩
    have hu1 : (bl num : Int) - (bl den : Int) + e - 25 ≤ -150 + (u : Int) := by unfold mx at hu; split at hu <;> omega
    have hu2 : u = 0 ∨ (bl num : Int) - (bl den : Int) + e - 25 = -150 + (u : Int) := by unfold mx at hu; split at hu <;> omega
    have p1 := bl_pos' h0
    have p2 := bl_pos' hden
    obtain ⟨I, hR, hE⟩ := rounded_l0 num den e hnum hden hden2 he0 he1 2 u (by omega) (by
      have a1 := bl_lt num
      have a2 := bl_ge hden
      unfold nx dx
      by_cases h : -150 + (u : Int) ≤ e
      · rw [if_pos h, if_pos h]
        have c1 := Nat.mul_lt_mul_of_pos_right a1 (Nat.two_pow_pos (e - (-150 + (u : Int))).toNat)
        rw [← Nat.pow_add] at c1
        have c2 := Nat.mul_le_mul_left (2 ^ (24 + 2)) a2
        rw [← Nat.pow_add] at c2
        have c3 : 2 ^ (bl num + (e - (-150 + (u : Int))).toNat) ≤ 2 ^ (24 + 2 + (bl den - 1)) := Nat.pow_le_pow_right (by decide) (by omega)
        exact Nat.lt_of_lt_of_le c1 (Nat.le_trans c3 c2)
      · rw [if_neg h, if_neg h]
        have c2 := Nat.mul_le_mul_left (2 ^ (24 + 2)) (Nat.mul_le_mul_right (2 ^ ((-150 + (u : Int)) - e).toNat) a2)
        rw [← Nat.pow_add, ← Nat.pow_add] at c2
        have c3 : 2 ^ (bl num) ≤ 2 ^ (24 + 2 + (bl den - 1 + ((-150 + (u : Int)) - e).toNat)) := Nat.pow_le_pow_right (by decide) (by omega)
        exact Nat.lt_of_lt_of_le a1 (Nat.le_trans c3 c2)) (by
      rcases hu2 with hu2 | hu2
      · exact .inl hu2
      · right
        have a1 := bl_ge h0
        have a2 := bl_lt den
        unfold nx dx
        by_cases h : -150 + (u : Int) ≤ e
        · rw [if_pos h, if_pos h]
          have c1 := Nat.mul_le_mul_right (2 ^ (e - (-150 + (u : Int))).toNat) a1
          rw [← Nat.pow_add] at c1
          have c2 := Nat.mul_le_mul_left (2 ^ 23) (Nat.le_of_lt a2)
          rw [← Nat.pow_add] at c2
          have c3 : 2 ^ (23 + bl den) ≤ 2 ^ (bl num - 1 + (e - (-150 + (u : Int))).toNat) := Nat.pow_le_pow_right (by decide) (by omega)
          exact Nat.le_trans c2 (Nat.le_trans c3 c1)
        · rw [if_neg h, if_neg h]
          have c2 := Nat.mul_le_mul_left (2 ^ 23) (Nat.mul_le_mul_right (2 ^ ((-150 + (u : Int)) - e).toNat) (Nat.le_of_lt a2))
          rw [← Nat.pow_add, ← Nat.pow_add] at c2
          have c3 : 2 ^ (23 + (bl den + ((-150 + (u : Int)) - e).toNat)) ≤ 2 ^ (bl num - 1) := Nat.pow_le_pow_right (by decide) (by omega)
          exact Nat.le_trans c2 (Nat.le_trans c3 a1))
    refine ⟨I, hR, ?_⟩
    refine Ev.congr (f := fun k => (real_nat_bits.f k (D num)).bind fun t180 => (real_nat_bits.f k (D den)).bind fun t181 => real_rounded.l0 k (D num) e (D den) (mx (-150) (wrap64 (wrap64 (wrap64 (wrap64 (t180 - t181) + e) - 24) - 1)))) (fun k => by unfold real_rounded.f; rw [if_neg (by omega)]) ?_
    refine Ev.bind (bits_ev sn) (Ev.bind (bits_ev sd) ?_)
    rw [w1, w2, w3, w4, hu]
    exact hE
end Go.Proofs.YteigbokklclmbaaGreatDoor.M
end
section
namespace Go.Proofs.YteigbokklclmbaaGreatDoor.Z.Y.V
open Go.RowKit Go.Proofs.YteigbokklclmbaaGreatDoor.Given Go.Proofs.YteigbokklclmbaaGreatDoorW.PrintWords Go.Proofs.YteigbokklclmbaaGreatDoorW.PrintLast Go.Proofs.YteigbokklclmbaaGreatDoorW.PrintMore
attribute [local go_sem] max2_int min2_int max_two min_two max_three min_three max_four min_four   -- for this text's walks alone
set_option linter.unusedVariables false
set_option linter.unusedSimpArgs false

def manorboyref02_Of.T7 : Bool × List (List Nat × List Nat) := (true, [([], []), ([0], [0]), ([1], [1]), ([], []), ([3], [3]), ([], []), ([5], [5]), ([6, 4], [6]), ([4, 7, 7], [4, 7]), ([8], []), ([2, 8, 9], [2, 8, 9]), ([10, 9, 0, 1, 2, 3, 4, 5, 6, 7, 8, 9, 10], [10])])
def manorboyref02_Of.B7 : List Nat := [0, 1, 3, 0, 8, 0, 32, 120, 248, 504, 1023, 2047]
theorem manorboyref02_Of.tab7 : rtab .any (opsOf Tryz.f102 7) = manorboyref02_Of.T7 := by kernel_rfl
theorem manorboyref02_Of.bits7 : waitsOk manorboyref02_Of.T7.2 manorboyref02_Of.B7 = true := by kernel_rfl
end Go.Proofs.YteigbokklclmbaaGreatDoor.Z.Y.V
end
section
namespace Go.Proofs.YteigbokklclmbaaGreatDoor.M
open Go Go.RowKit Go.Proofs.YteigbokklclmbaaGreatDoor.Given Go.Proofs.YteigbokklclmbaaGreatDoorW.PrintWords Go.Proofs.YteigbokklclmbaaGreatDoorW.PrintLast Go.Proofs.YteigbokklclmbaaGreatDoorW.PrintMore Go.Proofs.YteigbokklclmbaaGreatDoor.Z Go.Proofs.YteigbokklclmbaaGreatDoor.Z.Y Go.Proofs.YteigbokklclmbaaGreatDoor.Z.Y.V
set_option linter.unusedVariables false
set_option linter.unusedSimpArgs false
/-- A sign laid on a real. -/
def sgn (neg : Bool) (p : Int × Int) : Int × Int := (if neg = true then -p.1 else p.1, p.2)
theorem man_bd (I : Nat) : man I < 16777216 := by unfold man sh; omega
theorem cmp_neg {x y : Nat} (h : x < y) : ¬ cmpN x y ≥ 0 := by unfold cmpN; rw [if_pos h]; decide
theorem cmp_nn {x y : Nat} (h : ¬ x < y) : cmpN x y ≥ 0 := by unfold cmpN; rw [if_neg h]; split <;> decide
end Go.Proofs.YteigbokklclmbaaGreatDoor.M
end
section
namespace Go.Proofs.YteigbokklclmbaaGreatDoor.Z.Y
open Go Go.RowKit Go.Proofs.YteigbokklclmbaaGreatDoor.Given Go.Proofs.YteigbokklclmbaaGreatDoorW.PrintWords Go.Proofs.YteigbokklclmbaaGreatDoorW.PrintLast Go.Proofs.YteigbokklclmbaaGreatDoorW.PrintMore
set_option linter.unusedVariables false
set_option linter.unusedSimpArgs false
/-- What a valid real is. -/
def VR (a b : Int) : Prop := (a = 0 ∧ b = 0) ∨ (1 ≤ mx a (wrap64 (-a)) ∧ mx a (wrap64 (-a)) < 16777216 ∧ (b = -150 ∨ (8388608 ≤ mx a (wrap64 (-a)) ∧ -150 < b ∧ b ≤ 150)))
instance (a b : Int) : Decidable (VR a b) := by unfold VR; infer_instance
theorem valid_real (a b : Int) : real_Valid.f a b = some (decide (VR a b)) := by
  unfold real_Valid.f
  have hd : ∀ (p q : Prop) [Decidable p] [Decidable q], (p ↔ q) → decide p = decide q := fun p q _ _ h => by simp [h]
  have hv : VR a b ↔ ((a = 0 ∧ b = 0) ∨ (1 ≤ mx a (wrap64 (-a)) ∧ mx a (wrap64 (-a)) < 16777216 ∧ (b = -150 ∨ (8388608 ≤ mx a (wrap64 (-a)) ∧ -150 < b ∧ b ≤ 150)))) := Iff.rfl
  generalize mx a (wrap64 (-a)) = m at *
  by_cases h0 : a = 0 ∧ b = 0
  · have : decide (VR a b) = true := decide_eq_true (hv.2 (.inl h0))
    rw [this, if_pos (by simp [h0.1, h0.2])]
  · have h0' : ¬ ((a == 0 && (b == 0)) = true) := by simpa using h0
    rw [if_neg h0']
    by_cases h1 : m < 1
    · rw [if_pos h1]; congr 1; symm; rw [decide_eq_false_iff_not, hv]; rintro (h | h); exact h0 h; omega
    rw [if_neg h1]
    by_cases h2 : m ≥ 16777216
    · rw [if_pos h2]; congr 1; symm; rw [decide_eq_false_iff_not, hv]; rintro (h | h); exact h0 h; omega
    rw [if_neg h2]
    by_cases h3 : b = -150
    · rw [if_pos h3]; congr 1; symm; rw [decide_eq_true_eq, hv]; exact .inr ⟨by omega, by omega, .inl h3⟩
    rw [if_neg h3]
    by_cases h4 : m ≥ 8388608
    · rw [if_pos h4]
      by_cases h5 : b > -150
      · rw [if_pos h5]; congr 1; apply hd; rw [hv]
        constructor
        · intro h; exact .inr ⟨by omega, by omega, .inr ⟨h4, h5, h⟩⟩
        · rintro (h | h)
          · exact absurd h h0
          · omega
      · rw [if_neg h5]; congr 1; symm; rw [decide_eq_false_iff_not, hv]; rintro (h | h); exact h0 h; omega
    · rw [if_neg h4]; congr 1; symm; rw [decide_eq_false_iff_not, hv]; rintro (h | h); exact h0 h; omega
theorem VR_abs {a b : Int} (hw : -9223372036854775808 ≤ a ∧ a ≤ 9223372036854775807) (h : VR a b) : -16777216 < a ∧ a < 16777216 ∧ -150 ≤ b ∧ b ≤ 150 ∧ (b > -150 → a ≠ 0 → a ≤ -8388608 ∨ 8388608 ≤ a) := by
  unfold VR mx wrap64 at h
  rcases h with ⟨rfl, rfl⟩ | h
  · omega
  · split at h <;> omega
/-- What floor's end says of a number. -/
def inR (n : Int) : Int × Bool := if n < -2147483647 then (0, false) else if n > 2147483647 then (0, false) else (n, true)
/-- An integer with its error. -/
def whole_ (p : Int × Bool) : Int × Int := if p.2 = true then (p.1, 0) else (0, 3)
theorem whole_is (p : Int × Bool) : real_whole.f p.1 p.2 = some (whole_ p) := by unfold real_whole.f whole_; split <;> rfl
theorem shl_is (a b : Int) (h0 : 0 ≤ b) (h31 : b ≤ 31) (ha : -2199023255552 ≤ a ∧ a ≤ 2199023255552) (hlim : b ≤ 8 ∨ (-16777216 < a ∧ a < 16777216)) : shl .i64 a b = a * 2 ^ b.toNat := by
  unfold shl
  have e : min b.toNat IntKind.i64.bits = b.toNat := Nat.min_eq_left (by show b.toNat ≤ 64; omega)
  rw [e, i64_w]
  have hp : ∃ n : Nat, b.toNat = n ∧ n ≤ 31 := ⟨_, rfl, by omega⟩
  obtain ⟨n, hn, hn31⟩ := hp
  rw [hn]
  have hpw : (1 : Int) ≤ 2 ^ n ∧ (2 : Int) ^ n ≤ 2147483648 ∧ (n ≤ 8 → (2 : Int) ^ n ≤ 256) := by
    have : ∀ m : Fin 32, (1 : Int) ≤ 2 ^ m.val ∧ (2 : Int) ^ m.val ≤ 2147483648 ∧ (m.val ≤ 8 → (2 : Int) ^ m.val ≤ 256) := by decide
    exact this ⟨n, by omega⟩
  generalize (2 : Int) ^ n = P at *
  have hb1 : a * P ≤ 9223372036854775807 ∧ -9223372036854775808 ≤ a * P := by
    rcases hlim with h8 | hs
    · have := hpw.2.2 (by omega)
      constructor
      · rcases Int.le_total 0 a with h | h
        · have := Int.mul_le_mul ha.2 this (by omega) (by omega); omega
        · have : a * P ≤ 0 := Int.mul_nonpos_of_nonpos_of_nonneg h (by omega); omega
      · rcases Int.le_total 0 a with h | h
        · have : 0 ≤ a * P := Int.mul_nonneg h (by omega); omega
        · have h2 := Int.mul_le_mul (show -a ≤ 2199023255552 by omega) this (by omega) (by omega); rw [Int.neg_mul] at h2; omega
    · constructor
      · rcases Int.le_total 0 a with h | h
        · have := Int.mul_le_mul (show a ≤ 16777216 by omega) hpw.2.1 (by omega) (by omega); omega
        · have : a * P ≤ 0 := Int.mul_nonpos_of_nonpos_of_nonneg h (by omega); omega
      · rcases Int.le_total 0 a with h | h
        · have : 0 ≤ a * P := Int.mul_nonneg h (by omega); omega
        · have h2 := Int.mul_le_mul (show -a ≤ 16777216 by omega) hpw.2.1 (by omega) (by omega); rw [Int.neg_mul] at h2; omega
  exact w64 _ hb1.2 hb1.1
def fl (a b : Int) : Int := if 0 ≤ b then a * 2 ^ b.toNat else a / 2 ^ (-b).toNat
theorem tell_is (n : Int) : (some (if n ≥ (-2147483647) then (n, decide (n ≤ 2147483647)) else (n, false)) : Option (Int × Bool)) = (if n ≥ (-2147483647) then some (n, decide (n ≤ 2147483647)) else some (n, false)) := by split <;> rfl
theorem tell_whole (n : Int) : whole_ (if n ≥ (-2147483647) then (n, decide (n ≤ 2147483647)) else (n, false)) = whole_ (inR n) := by
  unfold whole_ inR
  by_cases h : n ≥ (-2147483647)
  · rw [if_pos h, if_neg (show ¬ n < -2147483647 by omega)]
    by_cases g : n ≤ 2147483647
    · rw [if_neg (show ¬ n > 2147483647 by omega)]; simp [g]
    · rw [if_pos (show n > 2147483647 by omega)]; simp [g]
  · rw [if_neg h, if_pos (show n < -2147483647 by omega)]; simp
theorem far_down (a : Int) (n : Nat) (ha : -2199023255552 ≤ a ∧ a ≤ 2199023255552) (hn : 60 ≤ n) : a / 2 ^ n = if a < 0 then -1 else 0 := by
  have hp : (2199023255552 : Int) < 2 ^ n := by
    have : (2 : Int) ^ 60 ≤ 2 ^ n := by exact_mod_cast Nat.pow_le_pow_right (by decide) hn
    omega
  by_cases h : a < 0
  · rw [if_pos h]
    exact Int.ediv_eq_neg_one_of_neg_of_le h (by omega)
  · rw [if_neg h]
    exact Int.ediv_eq_zero_of_lt (by omega) (by omega)
theorem real_fl (a b : Int) (ha : -2199023255552 ≤ a ∧ a ≤ 2199023255552) (hb : -150 ≤ b) (h31 : b ≤ 31) (h0 : a ≠ 0) (hlim : b ≤ 8 ∨ (-16777216 < a ∧ a < 16777216)) : ((real_floor.f a b).bind fun p => (real_whole.f p.1 p.2).bind fun q => some (q.1, q.2)) = some (whole_ (inR (fl a b))) := by
  have hw : ∀ p : Int × Bool, ((real_whole.f p.1 p.2).bind fun q => some (q.1, q.2)) = some (whole_ p) := fun p => by rw [whole_is]; rfl
  simp only [hw]
  unfold real_floor.f fl
  rw [if_neg h0, if_neg (show ¬ b > 31 by omega)]
  by_cases hp : b ≥ 0
  · rw [if_pos hp, if_pos hp, if_pos (show 0 ≤ b from hp), shl_is a b hp h31 ha hlim, ← tell_is, ← tell_whole]; rfl
  · rw [if_neg hp, if_neg (show ¬ 0 ≤ b from hp)]
    by_cases hl : b > -60
    · have e : wrap64 (-b) = -b := w64 _ (by omega) (by omega)
      rw [if_pos hl, e, if_pos (by omega)]
      have es : shr .i64 a (-b) = a / 2 ^ (-b).toNat := by
        unfold shr; rw [Nat.min_eq_left (show (-b).toNat ≤ IntKind.i64.bits by show (-b).toNat ≤ 64; omega)]
      rw [es, ← tell_is, ← tell_whole]; rfl
    · rw [if_neg hl, far_down a (-b).toNat ha (by omega)]
      by_cases hn : a < 0
      · rw [if_pos hn, if_pos hn]; rfl
      · rw [if_neg hn, if_neg hn]; rfl
end Go.Proofs.YteigbokklclmbaaGreatDoor.Z.Y
end
section
namespace Go.Proofs.YteigbokklclmbaaGreatDoor.Z.Y.V
open Go.RowKit Go.Proofs.YteigbokklclmbaaGreatDoor.Given Go.Proofs.YteigbokklclmbaaGreatDoorW.PrintWords Go.Proofs.YteigbokklclmbaaGreatDoorW.PrintLast Go.Proofs.YteigbokklclmbaaGreatDoorW.PrintMore
attribute [local go_sem] max2_int min2_int max_two min_two max_three min_three max_four min_four   -- for this text's walks alone
set_option linter.unusedVariables false
set_option linter.unusedSimpArgs false

def manorboyref02_Add.T4 : Bool × List (List Nat × List Nat) := (true, [([], []), ([0], [0]), ([], []), ([2], [2]), ([], []), ([4], [4]), ([3, 5], [3, 5]), ([], []), ([7], [7]), ([1, 6, 8], [1, 6, 8]), ([9, 6], [9]), ([10, 10, 0, 1, 2, 3, 4, 5, 6, 7, 8, 9, 10], [10])])
def manorboyref02_Add.B4 : List Nat := [0, 1, 0, 4, 0, 16, 60, 0, 128, 511, 1023, 2047]
theorem manorboyref02_Add.tab4 : rtab .any (opsOf Tryz.f36 4) = manorboyref02_Add.T4 := by kernel_rfl
theorem manorboyref02_Add.bits4 : waitsOk manorboyref02_Add.T4.2 manorboyref02_Add.B4 = true := by kernel_rfl
def manorboyref02_Add.T6 : Bool × List (List Nat × List Nat) := (true, [([], []), ([0], [0]), ([], []), ([2], [2]), ([], []), ([4], [4]), ([3, 5], [3, 5]), ([], []), ([7], [7]), ([1, 6, 8], [1, 6, 8]), ([9, 6], [9]), ([10, 10, 0, 1, 2, 3, 4, 5, 6, 7, 8, 9, 10], [10])])
def manorboyref02_Add.B6 : List Nat := [0, 1, 0, 4, 0, 16, 60, 0, 128, 511, 1023, 2047]
theorem manorboyref02_Add.tab6 : rtab .any (opsOf Tryz.f36 6) = manorboyref02_Add.T6 := by kernel_rfl
theorem manorboyref02_Add.bits6 : waitsOk manorboyref02_Add.T6.2 manorboyref02_Add.B6 = true := by kernel_rfl
def manorboyref02_Add.T7 : Bool × List (List Nat × List Nat) := (true, [([], []), ([0], [0]), ([], []), ([2], [2]), ([], []), ([4], [4]), ([3, 5], [3, 5]), ([], []), ([7], [7]), ([1, 6, 8], [1, 6, 8]), ([9, 6], [9]), ([10, 10, 0, 1, 2, 3, 4, 5, 6, 7, 8, 9, 10], [10])])
def manorboyref02_Add.B7 : List Nat := [0, 1, 0, 4, 0, 16, 60, 0, 128, 511, 1023, 2047]
theorem manorboyref02_Add.tab7 : rtab .any (opsOf Tryz.f36 7) = manorboyref02_Add.T7 := by kernel_rfl
theorem manorboyref02_Add.bits7 : waitsOk manorboyref02_Add.T7.2 manorboyref02_Add.B7 = true := by kernel_rfl
end Go.Proofs.YteigbokklclmbaaGreatDoor.Z.Y.V
end
section
namespace Go.Proofs.YteigbokklclmbaaGreatDoor.M
open Go Go.RowKit Go.Proofs.YteigbokklclmbaaGreatDoor.Given Go.Proofs.YteigbokklclmbaaGreatDoorW.PrintWords Go.Proofs.YteigbokklclmbaaGreatDoorW.PrintLast Go.Proofs.YteigbokklclmbaaGreatDoorW.PrintMore Go.Proofs.YteigbokklclmbaaGreatDoor.Z Go.Proofs.YteigbokklclmbaaGreatDoor.Z.Y Go.Proofs.YteigbokklclmbaaGreatDoor.Z.Y.V
set_option linter.unusedVariables false
set_option linter.unusedSimpArgs false
/-- The range of an int. -/
def I64 (a : Int) : Prop := -9223372036854775808 ≤ a ∧ a ≤ 9223372036854775807
/-- What is known of the parts of a real. -/
def RC (a b : Int) : Prop := a.natAbs < 16777216 ∧ -150 ≤ b ∧ b ≤ 150
theorem VR.rc {a b : Int} (hw : I64 a) (h : VR a b) : RC a b := by
  obtain ⟨h1, h2, h3, h4, _⟩ := VR_abs hw h
  exact ⟨by omega, h3, h4⟩
/-- The index of a real's magnitude. -/
def ix (a b : Int) : Nat := if a = 0 then 0 else a.natAbs + (b + 150).toNat * 8388608
theorem VR.norm {a b : Int} (hw : I64 a) (h : VR a b) : (a = 0 ∧ b = 0) ∨ (a ≠ 0 ∧ ((b + 150).toNat = 0 ∨ 8388608 ≤ a.natAbs)) := by
  obtain ⟨h1, h2, h3, h4, h5⟩ := VR_abs hw h
  rcases h with ⟨h6, h7⟩ | h
  · exact .inl ⟨h6, h7⟩
  · right
    have ha : a ≠ 0 := by
      rintro rfl
      have : mx 0 (wrap64 (-0)) = 0 := by unfold mx wrap64; split <;> omega
      omega
    refine ⟨ha, ?_⟩
    by_cases hb : b > -150
    · right; have := h5 hb ha; omega
    · left; omega
theorem ix_G {a b : Int} (hw : I64 a) (h : VR a b) : G (ix a b) = a.natAbs * 2 ^ (b + 150).toNat := by
  unfold ix
  have hr := VR.rc hw h
  rcases VR.norm hw h with ⟨h1, h2⟩ | ⟨h1, h2⟩
  · rw [if_pos h1, G_zero, h1]; simp
  · rw [if_neg h1]; exact G_at _ _ (by have := hr.1; omega) h2
theorem ix_le {a b : Int} (hw : I64 a) (h : VR a b) : ix a b ≤ 2533359615 := by
  unfold ix; have hr := VR.rc hw h; obtain ⟨h1, h2, h3⟩ := hr; split <;> omega
/-- What an operation of the program answers: a real, or overflow. -/
def res3 (neg : Bool) (I : Nat) : Int × Int × Int := if 2533359615 < I then (0, 0, 3) else ((sgn neg (atI I)).1, (sgn neg (atI I)).2, 0)
/-- The same ahead of 'caught'. -/
def sgnr (neg : Bool) (I : Nat) : Int × Int := (if neg = true then wrap64 (-(rres I).1) else (rres I).1, (rres I).2)
theorem signed_is (neg : Bool) (p : Int × Int) : real_signed.f neg p.1 p.2 = some (if neg = true then wrap64 (-p.1) else p.1, p.2) := by
  unfold real_signed.f; split <;> rfl
theorem signed_back (neg : Bool) (I : Nat) : ((real_signed.f neg (rres I).1 (rres I).2).bind fun bt => some (bt.1, bt.2)) = some (sgnr neg I) := by
  rw [signed_is]; rfl
theorem atI_bd (I : Nat) (h : I ≤ 2533359615) : 0 ≤ (atI I).1 ∧ (atI I).1 < 16777216 ∧ -150 ≤ (atI I).2 ∧ (atI I).2 ≤ 150 := by
  have hm := man_bd I
  unfold atI
  split
  · show (0 : Int) ≤ 0 ∧ (0 : Int) < 16777216 ∧ -150 ≤ (0 : Int) ∧ (0 : Int) ≤ 150; omega
  · show (0 : Int) ≤ ((man I : Nat) : Int) ∧ ((man I : Nat) : Int) < 16777216 ∧ -150 ≤ ((sh I : Nat) : Int) - 150 ∧ ((sh I : Nat) : Int) - 150 ≤ 150
    unfold sh; omega
theorem rres_in {I : Nat} (h : I ≤ 2533359615) : rres I = atI I := by unfold rres; rw [if_neg (by omega)]
theorem sgnr_in {neg : Bool} {I : Nat} (h : I ≤ 2533359615) : sgnr neg I = sgn neg (atI I) := by
  have hb := atI_bd I h
  have hw : wrap64 (-(atI I).1) = -(atI I).1 := w64 _ (by omega) (by omega)
  unfold sgnr sgn
  rw [rres_in h, hw]
theorem caught_is (neg : Bool) (I : Nat) : caughtS (sgnr neg I).1 (sgnr neg I).2 = res3 neg I := by
  unfold caughtS res3
  by_cases h : 2533359615 < I
  · rw [if_pos h, if_pos]
    unfold sgnr rres; rw [if_pos h]
  · rw [if_neg h, sgnr_in (by omega), if_neg]
    have := atI_bd I (by omega)
    show ¬ (atI I).2 = 1000
    omega
/-- A sum of two signed numbers: its sign and its magnitude. -/
def plus (sx sy : Bool) (gx gy : Nat) : Bool × Nat := if (sx == sy) = true then (sx, gx + gy) else if gy ≤ gx then (sx, gx - gy) else (sy, gy - gx)
theorem one_D : D 1 = [1] := dg_small B2 (by decide) (by decide)
theorem nx_at (e : Int) (h : -150 ≤ e) (n : Nat) : nx e (-150) n = n * 2 ^ (e + 150).toNat := by
  unfold nx; rw [if_pos h]; congr 2
theorem dx_at (e : Int) (h : -150 ≤ e) (n : Nat) : dx e (-150) n = n := by unfold dx; rw [if_pos h]
/-- The program's rounding of a whole number times a power of two. -/
theorem rounded_one (n : Nat) (e : Int) (hn : bl n ≤ 10000) (h0 : -150 ≤ e) (h1 : e ≤ 10000) : ∃ I, Rd (n * 2 ^ (e + 150).toNat) 1 I ∧ Ev (fun k => real_rounded.f k (D n) e [1]) (rres I) := by
  obtain ⟨I, hR, hE⟩ := rounded_ev n 1 e hn (by decide) (by rw [bl_one]; decide) (by omega) h1
  rw [nx_at e h0, dx_at e h0] at hR
  rw [one_D] at hE
  exact ⟨I, hR, hE⟩
theorem shift_eq (m : Nat) (x e : Int) (h : e ≤ x) (h0 : -150 ≤ e) : m * 2 ^ (x - e).toNat * 2 ^ (e + 150).toNat = m * 2 ^ (x + 150).toNat := by
  rw [Nat.mul_assoc, ← Nat.pow_add]; congr 2; omega
theorem real_sum_ev {x0 x1 y0 y1 : Int} (hx : RC x0 x1) (hy : RC y0 y1) :
    ∃ I, Rd (plus (decide (x0 < 0)) (decide (y0 < 0)) (x0.natAbs * 2 ^ (x1 + 150).toNat) (y0.natAbs * 2 ^ (y1 + 150).toNat)).2 1 I ∧ Ev (fun k => real_sum.f k x0 x1 y0 y1) (sgnr (plus (decide (x0 < 0)) (decide (y0 < 0)) (x0.natAbs * 2 ^ (x1 + 150).toNat) (y0.natAbs * 2 ^ (y1 + 150).toNat)).1 I) := by
  obtain ⟨hx1, hx2, hx3⟩ := hx
  obtain ⟨hy1, hy2, hy3⟩ := hy
  obtain ⟨e, he⟩ : ∃ e, e = mn x1 y1 := ⟨_, rfl⟩
  have he1 : e ≤ x1 ∧ e ≤ y1 ∧ -150 ≤ e ∧ e ≤ 150 := by rw [he]; unfold mn; split <;> omega
  have wx : wrap64 (x1 - e) = (((x1 - e).toNat : Nat) : Int) := by rw [w64 _ (by omega) (by omega)]; omega
  have wy : wrap64 (y1 - e) = (((y1 - e).toNat : Nat) : Int) := by rw [w64 _ (by omega) (by omega)]; omega
  have bx : bl x0.natAbs ≤ 24 := bl_le_iff.2 hx1
  have by_ : bl y0.natAbs ≤ 24 := bl_le_iff.2 hy1
  have sx := shift_eq x0.natAbs x1 e he1.1 he1.2.2.1
  have sy := shift_eq y0.natAbs y1 e he1.2.1 he1.2.2.1
  have bx2 := bl_shift x0.natAbs (x1 - e).toNat
  have by2 := bl_shift y0.natAbs (y1 - e).toNat
  have ex := shl_ev (a := x0.natAbs) (Sm.bl (by omega)) (x1 - e).toNat (by omega)
  have ey := shl_ev (a := y0.natAbs) (Sm.bl (by omega)) (y1 - e).toNat (by omega)
  have mxe := magnitude_ev x0 (by omega) (by omega)
  have mye := magnitude_ev y0 (by omega) (by omega)
  rw [← sx, ← sy]
  generalize hA : x0.natAbs * 2 ^ (x1 - e).toNat = A at *
  generalize hB : y0.natAbs * 2 ^ (y1 - e).toNat = B at *
  have sA : Sm A := Sm.bl (by omega)
  have sB : Sm B := Sm.bl (by omega)
  have hP := Nat.two_pow_pos (e + 150).toNat
  have start : ∀ r, Ev (fun k => if ((decide (x0 < 0)) == (decide (y0 < 0))) = true then ((real_nat_add.f k (D A) (D B)).bind fun t271 => ((real_rounded.f k t271 e (([1] : List Int))).bind fun bt277 => ((real_signed.f (decide (x0 < 0)) bt277.1 bt277.2).bind fun bt279 => (some (bt279.1, bt279.2))))) else ((real_nat_cmp.f k (D A) (D B)).bind fun t281 => (if t281 ≥ 0 then ((real_nat_sub.f k (D A) (D B)).bind fun t282 => ((real_rounded.f k t282 e (([1] : List Int))).bind fun bt288 => ((real_signed.f (decide (x0 < 0)) bt288.1 bt288.2).bind fun bt290 => (some (bt290.1, bt290.2))))) else ((real_nat_sub.f k (D B) (D A)).bind fun t292 => ((real_rounded.f k t292 e (([1] : List Int))).bind fun bt298 => ((real_signed.f (decide (y0 < 0)) bt298.1 bt298.2).bind fun bt300 => (some (bt300.1, bt300.2)))))))) r → Ev (fun k => real_sum.f k x0 x1 y0 y1) r := by
    intro r hr
    refine Ev.congr (f := fun k => (real_magnitude.f k x0).bind fun t259 => (real_nat_shl.f k t259 (((x1 - e).toNat : Nat) : Int)).bind fun t262 => (real_magnitude.f k y0).bind fun t265 => (real_nat_shl.f k t265 (((y1 - e).toNat : Nat) : Int)).bind fun t268 => _) (fun k => by unfold real_sum.f; rw [← he, wx, wy]) ?_
    exact Ev.bind mxe (Ev.bind ex (Ev.bind mye (Ev.bind ey hr)))
  unfold plus
  by_cases hs : (decide (x0 < 0) == decide (y0 < 0)) = true
  · rw [if_pos hs]
    have b3 := bl_add A B
    obtain ⟨I, hR, hE⟩ := rounded_one (A + B) e (by omega) he1.2.2.1 (by omega)
    refine ⟨I, by rw [Nat.add_mul] at hR; exact hR, start _ (Ev.congr (fun k => if_pos hs) ?_)⟩
    refine Ev.bind (add_ev sA sB) (Ev.bind hE ?_)
    exact Ev.congr (fun k => signed_back _ I) (Ev.now _)
  · rw [if_neg hs]
    by_cases hc : B * 2 ^ (e + 150).toNat ≤ A * 2 ^ (e + 150).toNat
    · rw [if_pos hc]
      have hc' : B ≤ A := Nat.le_of_mul_le_mul_right hc hP
      have b3 := bl_mono (Nat.sub_le A B)
      obtain ⟨I, hR, hE⟩ := rounded_one (A - B) e (by omega) he1.2.2.1 (by omega)
      refine ⟨I, by rw [Nat.sub_mul] at hR; exact hR, start _ (Ev.congr (fun k => if_neg hs) ?_)⟩
      refine Ev.bind (cmp_ev sA sB) (Ev.congr (fun k => if_pos (cmp_nn (by omega))) ?_)
      refine Ev.bind (sub_ev sA sB hc') (Ev.bind hE ?_)
      exact Ev.congr (fun k => signed_back _ I) (Ev.now _)
    · rw [if_neg hc]
      have hc' : A < B := by
        rcases Nat.lt_or_ge A B with h | h
        · exact h
        · exact absurd (Nat.mul_le_mul_right _ h) hc
      have b3 := bl_mono (Nat.sub_le B A)
      obtain ⟨I, hR, hE⟩ := rounded_one (B - A) e (by omega) he1.2.2.1 (by omega)
      refine ⟨I, by rw [Nat.sub_mul] at hR; exact hR, start _ (Ev.congr (fun k => if_neg hs) ?_)⟩
      refine Ev.bind (cmp_ev sA sB) (Ev.congr (fun k => if_neg (cmp_neg hc')) ?_)
      refine Ev.bind (sub_ev sB sA (by omega)) (Ev.bind hE ?_)
      exact Ev.congr (fun k => signed_back _ I) (Ev.now _)
theorem neg_VR {y0 y1 : Int} (wy : I64 y0) (hy : VR y0 y1) : VR (-y0) y1 ∧ I64 (-y0) ∧ wrap64 (-y0) = -y0 ∧ ix (-y0) y1 = ix y0 y1 := by
  have hr := VR.rc wy hy
  obtain ⟨h1, h2, h3⟩ := hr
  have hw : wrap64 (-y0) = -y0 := w64 _ (by omega) (by omega)
  refine ⟨?_, ⟨by omega, by omega⟩, hw, ?_⟩
  · unfold VR at hy ⊢
    rcases hy with ⟨h4, h5⟩ | h4
    · left; omega
    · right
      have e : mx (-y0) (wrap64 (- -y0)) = mx y0 (wrap64 (-y0)) := by
        rw [hw, w64 (- -y0) (by omega) (by omega)]; unfold mx; split <;> split <;> omega
      rw [e]; exact h4
  · unfold ix
    by_cases h : y0 = 0
    · rw [if_pos h, if_pos (by omega)]
    · rw [if_neg h, if_neg (by omega), Int.natAbs_neg]
theorem real_Sub_ev {x0 x1 y0 y1 : Int} (wx : I64 x0) (wy : I64 y0) (hx : VR x0 x1) (hy : VR y0 y1) :
    ∃ I, Rd (plus (decide (x0 < 0)) (decide (-y0 < 0)) (G (ix x0 x1)) (G (ix y0 y1))).2 1 I ∧ Ev (fun k => real_Sub.f k x0 x1 y0 y1) (res3 (plus (decide (x0 < 0)) (decide (-y0 < 0)) (G (ix x0 x1)) (G (ix y0 y1))).1 I) := by
  obtain ⟨hn, wn, hw, hi⟩ := neg_VR wy hy
  obtain ⟨I, hR, hE⟩ := real_sum_ev (VR.rc wx hx) (VR.rc wn hn)
  rw [← ix_G wx hx, ← ix_G wn hn, hi] at hR hE
  refine ⟨I, hR, ?_⟩
  rw [← caught_is]
  refine Ev.congr (f := fun k => ((real_sum.f k x0 x1 (-y0) y1).bind fun bt320 => some (bt320.1, bt320.2)).bind fun r => some (caughtS r.1 r.2)) (fun k => by
    unfold real_Sub.f real_SubOp.f; rw [valid_real, valid_real, decide_eq_true hx, decide_eq_true hy]
    have : real_signed.f true y0 y1 = some (-y0, y1) := by unfold real_signed.f; rw [if_pos rfl, hw]
    rw [this]; rfl) ?_
  exact Ev.bind (Ev.bind hE (Ev.now _)) (Ev.now _)
theorem sanity_ev : Ev (fun k => manorboylaw02_sanity.f k) true := Ev.of (fun k => manorboylaw02_sanity.mono k) sanity_ok
end Go.Proofs.YteigbokklclmbaaGreatDoor.M
end
section
namespace Go.Proofs.YteigbokklclmbaaGreatDoor.M
open Go Go.RowKit Go.Proofs.YteigbokklclmbaaGreatDoor.Given Go.Proofs.YteigbokklclmbaaGreatDoorW.PrintWords Go.Proofs.YteigbokklclmbaaGreatDoorW.PrintLast Go.Proofs.YteigbokklclmbaaGreatDoorW.PrintMore Go.Proofs.YteigbokklclmbaaGreatDoor.Z Go.Proofs.YteigbokklclmbaaGreatDoor.Z.Y Go.Proofs.YteigbokklclmbaaGreatDoor.Z.Y.Q
set_option linter.unusedVariables false
set_option linter.unusedSimpArgs false
/-- The range of the indices. -/
def IR (n : Int) : Prop := -2533359615 ≤ n ∧ n ≤ 2533359615
/-- The real with a signed index. -/
def rl (n : Int) : Int × Int := sgn (decide (n < 0)) (atI n.natAbs)
/-- The signed index of a real. -/
def sx (a b : Int) : Int := if a < 0 then -((ix a b : Nat) : Int) else ((ix a b : Nat) : Int)
theorem abs_mx (n : Int) (h : IR n) : mx n (wrap64 (-n)) = ((n.natAbs : Nat) : Int) := mag_abs n (by have := h.1; omega) (by have := h.2; omega)
theorem at_ev {n : Int} (h : IR n) : real_at.f n = some (rl n) := by
  obtain ⟨h0, h1⟩ := h
  have hm := abs_mx n ⟨h0, h1⟩
  unfold real_at.f rl
  rw [hm]
  generalize hN : n.natAbs = N at *
  have hb := atI_bd N (by omega)
  by_cases hs : ((N : Nat) : Int) < 16777216
  · rw [if_pos hs]
    by_cases hz : ((N : Nat) : Int) = 0
    · rw [if_pos hz]
      have : N = 0 := by omega
      subst this
      unfold sgn atI; rw [if_pos rfl]
      split <;> rfl
    · rw [if_neg hz, signed_is (decide (n < 0)) (((N : Nat) : Int), -150)]
      have e1 : sh N = 0 := by unfold sh; omega
      have e2 : man N = N := by unfold man; rw [e1]; omega
      have e3 : atI N = (((N : Nat) : Int), -150) := by unfold atI; rw [if_neg (by omega), e1, e2]; rfl
      rw [e3]
      unfold sgn
      show some ((if decide (n < 0) = true then wrap64 (-((N : Nat) : Int)) else ((N : Nat) : Int)), (-150 : Int)) = _
      rw [w64 (-((N : Nat) : Int)) (by omega) (by omega)]
  · rw [if_neg hs]
    have e1 : Int.tmod ((N : Nat) : Int) 8388608 = ((N % 8388608 : Nat) : Int) := by rw [Int.tmod_eq_emod_of_nonneg (by omega)]; omega
    have e2 : Int.tdiv ((N : Nat) : Int) 8388608 = ((N / 8388608 : Nat) : Int) := by rw [Int.tdiv_eq_ediv_of_nonneg (by omega)]; omega
    have e3 : wrap64 (((N % 8388608 : Nat) : Int) + 8388608) = ((man N : Nat) : Int) := by
      rw [w64 _ (by omega) (by omega)]; unfold man sh; omega
    have e4 : wrap64 (wrap64 (wrap64 ((N / 8388608 : Nat) : Int) - 1) + -150) = ((sh N : Nat) : Int) - 150 := by
      rw [w64 ((N / 8388608 : Nat) : Int) (by omega) (by omega), w64 (((N / 8388608 : Nat) : Int) - 1) (by omega) (by omega), w64 _ (by omega) (by omega)]
      unfold sh; omega
    rw [e1, e2, e3, e4, signed_is (decide (n < 0)) (((man N : Nat) : Int), ((sh N : Nat) : Int) - 150)]
    have e5 : atI N = (((man N : Nat) : Int), ((sh N : Nat) : Int) - 150) := by unfold atI; rw [if_neg (by omega)]
    have hmb := man_bd N
    rw [e5]
    unfold sgn
    show some ((if decide (n < 0) = true then wrap64 (-((man N : Nat) : Int)) else ((man N : Nat) : Int)), ((sh N : Nat) : Int) - 150) = _
    rw [w64 (-((man N : Nat) : Int)) (by omega) (by omega)]
theorem At_ev {n : Int} (h : IR n) : real_At.f n = some ((rl n).1, (rl n).2, 0) := by
  unfold real_At.f; rw [if_neg (by have := h.1; omega), if_neg (by have := h.2; omega), at_ev h]; rfl
theorem tmod_IR (i : Int) : IR (Int.tmod i 2533359616) := by
  have h1 := Int.tmod_lt_of_pos i (show (0 : Int) < 2533359616 by decide)
  have h2 : -2533359616 < Int.tmod i 2533359616 := by
    rcases Int.lt_or_le i 0 with h | h
    · have e : i = -(-i) := by omega
      rw [e, Int.neg_tmod]
      have := Int.tmod_lt_of_pos (-i) (show (0 : Int) < 2533359616 by decide)
      omega
    · have := Int.tmod_nonneg 2533359616 h; omega
  exact ⟨by omega, by omega⟩
theorem law_at_ev (i : Int) : manorboylaw02_at.f i = some (rl (Int.tmod i 2533359616)) := by
  unfold manorboylaw02_at.f; rw [At_ev (tmod_IR i)]; rfl
theorem rl_bd {n : Int} (h : IR n) : -16777216 < (rl n).1 ∧ (rl n).1 < 16777216 ∧ -150 ≤ (rl n).2 ∧ (rl n).2 ≤ 150 := by
  obtain ⟨h0, h1⟩ := h
  have := atI_bd n.natAbs (by omega)
  unfold rl sgn; split <;> (dsimp only; omega)
theorem rl_64 {n : Int} (h : IR n) : I64 (rl n).1 := by have := rl_bd h; exact ⟨by omega, by omega⟩
theorem rl_abs {n : Int} (h : IR n) : ((rl n).1.natAbs : Int) = (atI n.natAbs).1 ∧ (rl n).2 = (atI n.natAbs).2 := by
  obtain ⟨h0, h1⟩ := h
  have := atI_bd n.natAbs (by omega)
  unfold rl sgn; split <;> (dsimp only; omega)
theorem rl_VR {n : Int} (h : IR n) : VR (rl n).1 (rl n).2 := by
  have hb := rl_bd h
  have ha := rl_abs h
  obtain ⟨h0, h1⟩ := h
  unfold VR
  rw [mag_abs (rl n).1 (by omega) (by omega), ha.1, ha.2]
  unfold atI
  have hm := man_bd n.natAbs
  by_cases hz : n.natAbs = 0
  · left
    have hn : n = 0 := by omega
    subst hn
    exact ⟨rfl, rfl⟩
  · right
    rw [if_neg hz]
    show 1 ≤ ((man n.natAbs : Nat) : Int) ∧ ((man n.natAbs : Nat) : Int) < 16777216 ∧ (((sh n.natAbs : Nat) : Int) - 150 = -150 ∨ (8388608 ≤ ((man n.natAbs : Nat) : Int) ∧ -150 < ((sh n.natAbs : Nat) : Int) - 150 ∧ ((sh n.natAbs : Nat) : Int) - 150 ≤ 150))
    have hN : n.natAbs ≤ 2533359615 := by omega
    clear ha
    generalize n.natAbs = N at *
    unfold man sh
    omega
theorem sx_IR {a b : Int} (hw : I64 a) (h : VR a b) : IR (sx a b) := by
  have := ix_le hw h
  unfold sx; exact ⟨by split <;> omega, by split <;> omega⟩
theorem index_ev {a b : Int} (hw : I64 a) (h : VR a b) : real_index.f a b = some (sx a b) := by
  obtain ⟨h1, h2, h3⟩ := VR.rc hw h
  have hm := mag_abs a (by omega) (by omega)
  unfold real_index.f sx ix
  by_cases h0 : a = 0
  · rw [if_pos h0, if_pos h0, if_neg (by omega)]; rfl
  · rw [if_neg h0, if_neg h0, hm, w64 (b - -150) (by omega) (by omega), w64 ((b - -150) * 8388608) (by omega) (by omega), w64 (((a.natAbs : Nat) : Int) + (b - -150) * 8388608) (by omega) (by omega)]
    by_cases hn : a < 0
    · rw [if_pos hn, if_pos hn, w64 _ (by omega) (by omega)]; congr 1; omega
    · rw [if_neg hn, if_neg hn]; congr 1; omega
/-- The comparison of two whole numbers. -/
def cmpI (x y : Int) : Int := if x < y then -1 else if x > y then 1 else 0
theorem Cmp_ev {a b c d : Int} (wa : I64 a) (wc : I64 c) (h : VR a b) (h' : VR c d) : real_Cmp.f a b c d = some (cmpI (sx a b) (sx c d), 0) := by
  obtain ⟨h0, h1⟩ := sx_IR wa h
  obtain ⟨h2, h3⟩ := sx_IR wc h'
  unfold real_Cmp.f
  show (((real_Valid.f a b).bind fun v0 => (real_Valid.f c d).bind fun v1 => some (v0 && v1)).bind _) = _
  rw [valid_real, valid_real, decide_eq_true h, decide_eq_true h']
  simp only [Option.bind_some, Bool.and_true]
  rw [if_pos trivial, index_ev wa h, index_ev wc h']
  simp only [Option.bind_some]
  rw [w64 _ (by omega) (by omega)]
  unfold real_sign.f cmpI
  by_cases hl : sx a b - sx c d < 0
  · rw [if_pos hl, if_pos (show sx a b < sx c d by omega)]; rfl
  · by_cases hg : sx a b - sx c d > 0
    · rw [if_neg hl, if_pos hg, if_neg (show ¬ sx a b < sx c d by omega), if_pos (show sx a b > sx c d by omega)]; rfl
    · rw [if_neg hl, if_neg hg, if_neg (show ¬ sx a b < sx c d by omega), if_neg (show ¬ sx a b > sx c d by omega)]; rfl
theorem Valid_ev {a b : Int} (h : VR a b) : real_Valid.f a b = some true := by rw [valid_real, decide_eq_true h]
end Go.Proofs.YteigbokklclmbaaGreatDoor.M
end
section
namespace Go.Proofs.YteigbokklclmbaaGreatDoor.M
open Go Go.RowKit Go.Proofs.YteigbokklclmbaaGreatDoor.Given Go.Proofs.YteigbokklclmbaaGreatDoorW.PrintWords Go.Proofs.YteigbokklclmbaaGreatDoorW.PrintLast Go.Proofs.YteigbokklclmbaaGreatDoorW.PrintMore Go.Proofs.YteigbokklclmbaaGreatDoor.Z Go.Proofs.YteigbokklclmbaaGreatDoor.Z.Y Go.Proofs.YteigbokklclmbaaGreatDoor.Z.Y.Q
set_option linter.unusedVariables false
set_option linter.unusedSimpArgs false
/-- A signed number. -/
def sval (neg : Bool) (n : Nat) : Int := if neg = true then -(n : Int) else (n : Int)
theorem plus_val (a b : Bool) (g h : Nat) : sval (plus a b g h).1 (plus a b g h).2 = sval a g + sval b h := by
  unfold plus
  by_cases hs : (a == b) = true
  · rw [if_pos hs]
    have : a = b := by simpa using hs
    subst this
    unfold sval; split <;> (dsimp only; omega)
  · rw [if_neg hs]
    have hab : a = !b := by cases a <;> cases b <;> simp at hs <;> rfl
    by_cases hc : h ≤ g
    · rw [if_pos hc]; subst hab; cases b <;> simp [sval] <;> omega
    · rw [if_neg hc]; subst hab; cases b <;> simp [sval] <;> omega
/-- The value of a real in units of 2^-150. -/
def vv (p q : Int) : Int := p * 2 ^ (q + 150).toNat
theorem vv_sval {a b : Int} (hw : I64 a) (h : VR a b) : vv a b = sval (decide (a < 0)) (G (ix a b)) := by
  rw [ix_G hw h]
  unfold vv sval
  by_cases hn : a < 0
  · rw [if_pos (decide_eq_true hn), Int.natCast_mul, Int.natCast_pow]
    have : ((a.natAbs : Nat) : Int) = -a := by omega
    rw [this, Int.neg_mul, Int.neg_neg]; rfl
  · rw [if_neg (by simpa using hn), Int.natCast_mul, Int.natCast_pow]
    have : ((a.natAbs : Nat) : Int) = a := by omega
    rw [this]; rfl
/-- The value of a rounded result. -/
theorem vv_sgn (neg : Bool) (I : Nat) (h : I ≤ 2533359615) : vv (sgn neg (atI I)).1 (sgn neg (atI I)).2 = sval neg (G I) := by
  unfold vv sgn sval
  have e : (atI I).1 * 2 ^ ((atI I).2 + 150).toNat = ((G I : Nat) : Int) := by
    unfold atI
    by_cases h0 : I = 0
    · rw [if_pos h0, h0, G_zero]; simp
    · rw [if_neg h0]
      show ((man I : Nat) : Int) * 2 ^ (((sh I : Nat) : Int) - 150 + 150).toNat = _
      have : (((sh I : Nat) : Int) - 150 + 150).toNat = sh I := by omega
      rw [this]; unfold G; rw [Int.natCast_mul, Int.natCast_pow]; rfl
  split
  · rw [Int.neg_mul, e]
  · exact e
theorem H_two (I : Nat) : H I = G I + G (I + 1) := rfl
/-- The rounded value is a nearest one among those above 0. -/
theorem Rd.near {N I : Nat} (h : Rd N 1 I) (K : Nat) : ((G I : Int) - N).natAbs ≤ ((G K : Int) - N).natAbs := by
  obtain ⟨h1, h2, h3⟩ := h
  rw [Nat.mul_one] at h2 h3
  rcases Nat.lt_trichotomy K I with hk | hk | hk
  · rcases h1 with h1 | ⟨h1, _⟩
    · omega
    · rw [Nat.mul_one] at h1
      have h4 := G_le (show K ≤ I - 1 by omega)
      have h5 := H_two (I - 1)
      rw [show I - 1 + 1 = I by omega] at h5
      have h6 := G_lt (show I - 1 < I by omega)
      omega
  · rw [hk]; exact Nat.le_refl _
  · have h4 := G_le (show I + 1 ≤ K by omega)
    have h5 := H_two I
    have h6 := G_lt_succ I
    omega
/-- .. and among all. -/
theorem Rd.nearest {N I : Nat} (h : Rd N 1 I) (neg σ : Bool) (K : Nat) : (sval neg (G I) - sval neg N).natAbs ≤ (sval σ (G K) - sval neg N).natAbs := by
  have h1 := Rd.near h K
  have h0 := Rd.near h 0
  rw [G_zero] at h0
  unfold sval
  cases neg <;> cases σ <;> simp only [if_true, if_false, Bool.false_eq_true] <;> omega
/-- Two is the greatest sum of numbers below one. -/
theorem Rd.le_two {N I : Nat} (h : Rd N 1 I) (hN : N ≤ 2 ^ 151) : I ≤ 1082130432 := by
  have hG : G 1082130432 = 2 ^ 151 := by
    have := G_at 8388608 128 (by decide) (by decide)
    rw [show 8388608 + 128 * 8388608 = 1082130432 by decide] at this
    rw [this, show (8388608 : Nat) = 2 ^ 23 by decide, ← Nat.pow_add]
  have he := Rd.exact 1082130432 1 (by decide)
  rw [hG] at he
  exact h.mono (by decide) (by decide) he (by omega)
end Go.Proofs.YteigbokklclmbaaGreatDoor.M
end
section
namespace Go.Proofs.YteigbokklclmbaaGreatDoor.M
open Go Go.RowKit Go.Proofs.YteigbokklclmbaaGreatDoor.Given Go.Proofs.YteigbokklclmbaaGreatDoorW.PrintWords Go.Proofs.YteigbokklclmbaaGreatDoorW.PrintLast Go.Proofs.YteigbokklclmbaaGreatDoorW.PrintMore Go.Proofs.YteigbokklclmbaaGreatDoor.Z Go.Proofs.YteigbokklclmbaaGreatDoor.Z.Y Go.Proofs.YteigbokklclmbaaGreatDoor.Z.Y.Q
set_option linter.unusedVariables false
set_option linter.unusedSimpArgs false
/-- A mantissa times a power of two is a real. -/
theorem repr_ : ∀ (u m : Nat), m ≤ 16777216 → ∃ I, G I = m * 2 ^ u
  | 0, m, h => ⟨_, G_at m 0 h (.inl rfl)⟩
  | u + 1, m, h => by
    by_cases hm : 8388608 ≤ m
    · exact ⟨_, G_at m (u + 1) h (.inr hm)⟩
    · obtain ⟨I, hI⟩ := repr_ u (2 * m) (by omega)
      exact ⟨I, by rw [hI, Nat.pow_succ]; ac_rfl⟩
theorem fromN_ev (n : Int) (h0 : -9223372036854775808 < n) (h1 : n ≤ 9223372036854775807) : ∃ I, Rd (n.natAbs * 2 ^ 150) 1 I ∧ I ≤ 2533359615 ∧ Ev (fun k => real_FromIntN.f k n) (sgn (decide (n < 0)) (atI I)) := by
  have b1 : bl n.natAbs ≤ 64 := bl_le_iff.2 (by omega)
  obtain ⟨I, hR, hE⟩ := rounded_one n.natAbs 0 (by omega) (by omega) (by omega)
  have e150 : ((0 : Int) + 150).toNat = 150 := rfl
  rw [e150] at hR
  have hI : I ≤ 2533359615 := by
    have hG : G (8388608 + 190 * 8388608) = 9223372036854775808 * 2 ^ 150 := by
      rw [G_at 8388608 190 (by decide) (by decide), show (9223372036854775808 : Nat) = 8388608 * 2 ^ 40 by decide, Nat.mul_assoc, ← Nat.pow_add]
    have he := Rd.exact (8388608 + 190 * 8388608) 1 (by decide)
    rw [hG] at he
    have := hR.mono (by decide) (by decide) he (by
      rw [Nat.mul_one, Nat.mul_one, Nat.mul_one]
      exact Nat.mul_le_mul_right _ (by omega))
    omega
  refine ⟨I, hR, hI, ?_⟩
  have hb := atI_bd I hI
  have hj : Ev (fun k => real_FromInt.j0 k n ((n.natAbs : Nat) : Int)) (sgn (decide (n < 0)) (atI I)) := by
    refine Ev.step (fun k => by rw [real_FromInt.j0]) ?_
    refine Ev.bind (natOf_ev n.natAbs (by omega)) (Ev.bind hE ?_)
    rw [← sgnr_in hI]
    exact Ev.congr (fun k => signed_back _ I) (Ev.now _)
  have hf : Ev (fun k => real_FromInt.f k n) (sgn (decide (n < 0)) (atI I)) := by
    by_cases hn : n < 0
    · have u1 : IntKind.u64.wrap n = n + 18446744073709551616 := by
        have : IntKind.u64.wrap n = n % 18446744073709551616 := by simp [IntKind.wrap, IntKind.bits, IntKind.signed]
        rw [this]; omega
      have u2 : IntKind.u64.wrap (-(n + 18446744073709551616)) = ((n.natAbs : Nat) : Int) := by
        have : IntKind.u64.wrap (-(n + 18446744073709551616)) = (-(n + 18446744073709551616)) % 18446744073709551616 := by simp [IntKind.wrap, IntKind.bits, IntKind.signed]
        rw [this]; omega
      exact Ev.congr (fun k => by unfold real_FromInt.f; rw [if_pos hn, u1, u2]) hj
    · have u1 : IntKind.u64.wrap n = ((n.natAbs : Nat) : Int) := by rw [wu64 _ (by omega) (by omega)]; omega
      exact Ev.congr (fun k => by unfold real_FromInt.f; rw [if_neg hn, u1]) hj
  refine Ev.congr (f := fun k => (real_FromInt.f k n).bind fun r => if r.2 = 1000 then none else some r) (fun k => rfl) (Ev.bind hf ?_)
  have h2 : ¬ (sgn (decide (n < 0)) (atI I)).2 = 1000 := by unfold sgn; show ¬ (atI I).2 = 1000; omega
  exact Ev.congr (fun k => if_neg h2) (Ev.now _)
theorem sgn_rl (neg : Bool) (I : Nat) : sgn neg (atI I) = rl (if neg = true then -((I : Nat) : Int) else ((I : Nat) : Int)) := by
  unfold rl
  rcases Nat.eq_zero_or_pos I with h | h
  · subst h; cases neg <;> rfl
  · cases neg
    · simp only [if_false, Bool.false_eq_true, Int.natAbs_natCast]; rw [decide_eq_false (by omega)]
    · simp only [if_true, Int.natAbs_neg, Int.natAbs_natCast]; rw [decide_eq_true (by omega)]
theorem res_VR {neg : Bool} {I : Nat} (h : I ≤ 2533359615) : VR (sgn neg (atI I)).1 (sgn neg (atI I)).2 ∧ I64 (sgn neg (atI I)).1 := by
  rw [sgn_rl]
  have : IR (if neg = true then -((I : Nat) : Int) else ((I : Nat) : Int)) := ⟨by split <;> omega, by split <;> omega⟩
  exact ⟨rl_VR this, rl_64 this⟩
/-- FromInt of a modest integer is this integer. -/
theorem fromS_ev (n : Int) (h0 : -16777216 ≤ n) (h1 : n ≤ 16777216) : ∃ p q, VR p q ∧ I64 p ∧ vv p q = n * 2 ^ 150 ∧ Ev (fun k => real_FromIntN.f k n) (p, q) := by
  obtain ⟨I, hR, hI, hE⟩ := fromN_ev n (by omega) (by omega)
  obtain ⟨J, hJ⟩ := repr_ 150 n.natAbs (by omega)
  have he := Rd.exact J 1 (by decide)
  rw [Nat.mul_one, hJ] at he
  have hIJ : I = J := hR.only (by decide) (by decide) he rfl
  obtain ⟨v1, v2⟩ := res_VR (neg := decide (n < 0)) hI
  refine ⟨_, _, v1, v2, ?_, hE⟩
  rw [vv_sgn _ I hI, hIJ, hJ]
  unfold sval
  by_cases hn : n < 0
  · rw [if_pos (decide_eq_true hn), Int.natCast_mul, Int.natCast_pow, ← Int.neg_mul]
    congr 1; omega
  · rw [if_neg (by simpa using hn), Int.natCast_mul, Int.natCast_pow]
    congr 1; omega
/-- The value of a signed index. -/
def vI (n : Int) : Int := if n < 0 then -((G n.natAbs : Nat) : Int) else ((G n.natAbs : Nat) : Int)
theorem vI_lt {n m : Int} (h : n < m) : vI n < vI m := by
  unfold vI
  by_cases hn : n < 0
  · rw [if_pos hn]
    have h1 := G_lt (show 0 < n.natAbs by omega)
    by_cases hm : m < 0
    · rw [if_pos hm]; have := G_lt (show m.natAbs < n.natAbs by omega); omega
    · rw [if_neg hm]; omega
  · rw [if_neg hn, if_neg (by omega)]
    have := G_lt (show n.natAbs < m.natAbs by omega); omega
theorem vv_vI {a b : Int} (hw : I64 a) (h : VR a b) : vv a b = vI (sx a b) := by
  rw [vv_sval hw h]
  unfold sval vI sx
  by_cases hn : a < 0
  · rw [if_pos (decide_eq_true hn), if_pos hn]
    rcases Nat.eq_zero_or_pos (ix a b) with h0 | h0
    · rw [h0, G_zero]; rfl
    · rw [if_pos (by omega), Int.natAbs_neg, Int.natAbs_natCast]
  · rw [if_neg (by simpa using hn), if_neg hn, if_neg (by omega)]; congr 1
theorem cmp_vv {a b c d : Int} (wa : I64 a) (wc : I64 c) (h : VR a b) (h' : VR c d) : cmpI (sx a b) (sx c d) = cmpI (vv a b) (vv c d) := by
  rw [vv_vI wa h, vv_vI wc h']
  unfold cmpI
  rcases Int.lt_trichotomy (sx a b) (sx c d) with hlt | heq | hgt
  · rw [if_pos hlt, if_pos (vI_lt hlt)]
  · rw [heq, if_neg (by omega), if_neg (by omega), if_neg (by omega), if_neg (by omega)]
  · have := vI_lt hgt
    rw [if_neg (by omega), if_pos hgt, if_neg (by omega), if_pos this]
theorem CmpV_ev {a b c d : Int} (wa : I64 a) (wc : I64 c) (h : VR a b) (h' : VR c d) : real_Cmp.f a b c d = some (cmpI (vv a b) (vv c d), 0) := by
  rw [Cmp_ev wa wc h h', cmp_vv wa wc h h']
theorem pow_add_150 (b : Int) (h : 0 ≤ b) : (2 : Int) ^ (b + 150).toNat = 2 ^ b.toNat * 2 ^ 150 := by
  rw [← Int.pow_add]; congr 1; omega
theorem pow_sub_150 (b : Int) (h : b < 0) (h1 : -150 ≤ b) : (2 : Int) ^ 150 = 2 ^ (-b).toNat * 2 ^ (b + 150).toNat := by
  rw [← Int.pow_add]; congr 1; omega
theorem fl_vv (a b : Int) (h : -150 ≤ b) : fl a b = vv a b / 2 ^ 150 := by
  unfold fl vv
  by_cases hb : 0 ≤ b
  · rw [if_pos hb, pow_add_150 b hb, ← Int.mul_assoc, Int.mul_ediv_cancel _ (by decide)]
  · rw [if_neg hb, pow_sub_150 b (by omega) h, Int.mul_ediv_mul_of_pos_left _ _ (Int.pow_pos (by decide))]
/-- What an integer beyond the range, or within, is told as. -/
theorem Entier_ev {a b : Int} (hw : I64 a) (h : VR a b) : real_Entier.f a b = some (whole_ (inR (vv a b / 2 ^ 150))) := by
  obtain ⟨h1, h2, h3, h4, h5⟩ := VR_abs hw h
  rw [← fl_vv a b h3]
  unfold real_Entier.f
  rw [valid_real, decide_eq_true h]
  show ((real_floor.f a b).bind fun p => (real_whole.f p.1 p.2).bind fun q => some (q.1, q.2)) = _
  by_cases h0 : a = 0
  · subst h0
    have : fl 0 b = 0 := by unfold fl; split <;> simp
    rw [this]; rfl
  · by_cases h31 : b > 31
    · have e1 : real_floor.f a b = some (0, false) := by unfold real_floor.f; rw [if_neg h0, if_pos h31]
      rw [e1]
      have e2 : whole_ (inR (fl a b)) = (0, 3) := by
        unfold fl; rw [if_pos (by omega)]
        have hp : (4294967296 : Int) ≤ 2 ^ b.toNat := by
          have : (2 : Int) ^ 32 ≤ 2 ^ b.toNat := by exact_mod_cast Nat.pow_le_pow_right (by decide) (show 32 ≤ b.toNat by omega)
          omega
        generalize (2 : Int) ^ b.toNat = P at *
        have hh := h5 (by omega) h0
        have : a * P < -2147483647 ∨ a * P > 2147483647 := by
          rcases hh with h | h
          · left
            have := Int.mul_le_mul (show (8388608 : Int) ≤ -a by omega) hp (by omega) (by omega)
            rw [Int.neg_mul] at this; omega
          · right
            have := Int.mul_le_mul h hp (by omega) (by omega)
            omega
        unfold inR whole_
        rcases this with h | h
        · rw [if_pos h]; rfl
        · rw [if_neg (show ¬ a * P < -2147483647 by omega), if_pos h]; rfl
      rw [e2]; rfl
    · exact real_fl a b (by omega) h3 (by omega) h0 (.inr ⟨h1, h2⟩)
theorem Round_ev {a b : Int} (hw : I64 a) (h : VR a b) : real_Round.f a b = some (whole_ (inR ((vv a b + 2 ^ 149) / 2 ^ 150))) := by
  obtain ⟨h1, h2, h3, h4, h5⟩ := VR_abs hw h
  have hE := Entier_ev hw h
  unfold real_Entier.f at hE
  rw [valid_real, decide_eq_true h] at hE
  unfold real_Round.f
  rw [valid_real, decide_eq_true h]
  show (if b ≥ 0 then ((real_floor.f a b).bind fun p => (real_whole.f p.1 p.2).bind fun q => some (q.1, q.2)) else _) = _
  have e149 : (2 : Int) ^ 149 = 713623846352979940529142984724747568191373312 := by decide
  have e150 : (2 : Int) ^ 150 = 1427247692705959881058285969449495136382746624 := by decide
  by_cases hb : b ≥ 0
  · rw [if_pos hb]
    have e : (vv a b + 2 ^ 149) / 2 ^ 150 = vv a b / 2 ^ 150 := by
      unfold vv
      rw [pow_add_150 b hb, ← Int.mul_assoc, e149, e150]
      omega
    rw [e]; exact hE
  · rw [if_neg hb]
    by_cases hl : b < -40
    · rw [if_pos hl]
      have hp : (2 : Int) ^ (b + 150).toNat ≤ 2 ^ 109 ∧ (1 : Int) ≤ 2 ^ (b + 150).toNat := by
        constructor
        · exact_mod_cast Nat.pow_le_pow_right (show 0 < 2 by decide) (show (b + 150).toNat ≤ 109 by omega)
        · exact Int.pow_pos (by decide)
      have e : (vv a b + 2 ^ 149) / 2 ^ 150 = 0 := by
        unfold vv
        have e109 : (2 : Int) ^ 109 = 649037107316853453566312041152512 := by decide
        rw [e109] at hp
        generalize (2 : Int) ^ (b + 150).toNat = P at *
        have u1 := Int.mul_le_mul (show a ≤ 16777216 by omega) hp.1 (by omega) (by omega)
        have u2 := Int.mul_le_mul (show -a ≤ 16777216 by omega) hp.1 (by omega) (by omega)
        rw [Int.neg_mul] at u2
        rw [e149, e150]
        omega
      rw [e]; rfl
    · rw [if_neg hl]
      have w1 : wrap64 (-b) = -b := w64 _ (by omega) (by omega)
      have w2 : wrap64 (-b - 1) = -b - 1 := w64 _ (by omega) (by omega)
      have hpw : (2 : Int) ^ (-b - 1).toNat ≤ 549755813888 ∧ (1 : Int) ≤ 2 ^ (-b - 1).toNat := by
        have : ∀ m : Fin 40, (2 : Int) ^ m.val ≤ 549755813888 ∧ (1 : Int) ≤ 2 ^ m.val := by decide
        exact this ⟨(-b - 1).toNat, by omega⟩
      have hs : shl .i64 1 (-b - 1) = 2 ^ (-b - 1).toNat := by
        unfold shl
        rw [Nat.min_eq_left (show (-b - 1).toNat ≤ IntKind.i64.bits by show (-b - 1).toNat ≤ 64; omega), i64_w, Int.one_mul]
        exact w64 _ (by omega) (by omega)
      rw [w1, w2, if_pos (by omega), hs, w64 _ (by omega) (by omega)]
      have e : (vv a b + 2 ^ 149) / 2 ^ 150 = fl (a + 2 ^ (-b - 1).toNat) b := by
        rw [fl_vv _ b h3]
        congr 1
        unfold vv
        rw [Int.add_mul, ← Int.pow_add]
        congr 2; omega
      rw [e]
      by_cases h0 : a + 2 ^ (-b - 1).toNat = 0
      · rw [h0]
        have : fl 0 b = 0 := by unfold fl; split <;> simp
        rw [this]; rfl
      · exact real_fl _ b (by omega) h3 (by omega) h0 (.inl (by omega))
end Go.Proofs.YteigbokklclmbaaGreatDoor.M
end
section
namespace Go.Proofs.YteigbokklclmbaaGreatDoor.M
open Go Go.RowKit Go.Proofs.YteigbokklclmbaaGreatDoor.Given Go.Proofs.YteigbokklclmbaaGreatDoorW.PrintWords Go.Proofs.YteigbokklclmbaaGreatDoorW.PrintLast Go.Proofs.YteigbokklclmbaaGreatDoorW.PrintMore Go.Proofs.YteigbokklclmbaaGreatDoor.Z Go.Proofs.YteigbokklclmbaaGreatDoor.Z.Y Go.Proofs.YteigbokklclmbaaGreatDoor.Z.Y.V Go.Proofs.YteigbokklclmbaaGreatDoor.Z.Y.Q
set_option linter.unusedVariables false
set_option linter.unusedSimpArgs false
theorem wi6 (x : Int) (h0 : -9223372036854775808 ≤ x) (h1 : x ≤ 9223372036854775807) : wrap64 x = x := by unfold wrap64; omega
theorem G_half : G 1065353216 = 2 ^ 149 := by
  have h : G (8388608 + 126 * 8388608) = 8388608 * 2 ^ 126 := G_at 8388608 126 (by omega) (.inr (by omega))
  exact h.trans (by decide)
theorem G_below : G 1065353215 = 2 ^ 149 - 2 ^ 125 := by
  have h : G (16777215 + 125 * 8388608) = 16777215 * 2 ^ 125 := G_at 16777215 125 (by omega) (.inr (by omega))
  exact h.trans (by decide)
theorem half_low {N I : Nat} (h : Rd N 1 I) (hN : 2 * N < 2 ^ 150 - 2 ^ 125) : G I < 2 ^ 149 := by
  rw [← G_half]
  refine G_lt_iff.2 (Nat.lt_of_not_le fun hle => ?_)
  rcases h.1 with h0 | ⟨h1, _⟩
  · omega
  have g1 : G 1065353215 ≤ G (I - 1) := G_le (by omega)
  have g2 : G 1065353216 ≤ G (I - 1 + 1) := G_le (by omega)
  rw [G_below] at g1
  rw [G_half] at g2
  unfold H at h1
  have e : (2 : Nat) ^ 149 - 2 ^ 125 + 2 ^ 149 = 2 ^ 150 - 2 ^ 125 := by decide
  omega
theorem half_high {N I : Nat} (h : Rd N 1 I) (hN : 2 ^ 149 ≤ N) : 2 ^ 149 ≤ G I := by
  have hx := Rd.exact 1065353216 1 (by decide)
  rw [G_half, Nat.mul_one] at hx
  have := hx.mono (by decide) (by decide) h (by omega)
  rw [← G_half]; exact G_le this
theorem half_same {N I : Nat} (h : Rd N 1 I) (hN : N = 2 ^ 149) : G I = 2 ^ 149 := by
  have hx := Rd.exact 1065353216 1 (by decide)
  rw [G_half, Nat.mul_one] at hx
  rw [← hx.only (by decide) (by decide) h (by omega), G_half]
theorem whole_is_ (q : Int) : whole_ (inR q) = if -2147483647 ≤ q ∧ q ≤ 2147483647 then (q, 0) else (0, 3) := by
  unfold inR whole_
  by_cases h1 : q < -2147483647
  · rw [if_pos h1]; show ((0, 3) : Int × Int) = _; rw [if_neg (by omega)]
  · rw [if_neg h1]
    by_cases h2 : q > 2147483647
    · rw [if_pos h2]; show ((0, 3) : Int × Int) = _; rw [if_neg (by omega)]
    · rw [if_neg h2]; show ((q, 0) : Int × Int) = _; rw [if_pos (by omega)]
/-- What of a real lies above its Entier is far from the half, or not below it. -/
theorem grid {x0 x1 n : Int} (h0 : -16777216 < x0) (h1 : x0 < 16777216) (hn1 : n * 2 ^ 150 ≤ vv x0 x1) (hn2 : vv x0 x1 < n * 2 ^ 150 + 2 ^ 150) (hl : vv x0 x1 - n * 2 ^ 150 < 2 ^ 149) :
    2 * (vv x0 x1 - n * 2 ^ 150) < 2 ^ 150 - 2 ^ 125 := by
  unfold vv at *
  generalize (x1 + 150).toNat = e at *
  rcases Nat.lt_or_ge e 125 with h | h
  · have hp : (0 : Int) < 2 ^ e ∧ (2 : Int) ^ e ≤ 21267647932558653966460912964485513216 := by
      have : ∀ m : Fin 125, (0 : Int) < 2 ^ m.val ∧ (2 : Int) ^ m.val ≤ 21267647932558653966460912964485513216 := by decide
      exact this ⟨e, h⟩
    generalize (2 : Int) ^ e = p at *
    have m1 := Int.mul_le_mul (show x0 ≤ 16777215 by omega) hp.2 (by omega) (by omega)
    have m2 := Int.mul_le_mul (show -x0 ≤ 16777215 by omega) hp.2 (by omega) (by omega)
    rw [Int.neg_mul] at m2
    generalize x0 * p = X at *
    have e1 : (2 : Int) ^ 150 = 1427247692705959881058285969449495136382746624 := by decide
    have e2 : (2 : Int) ^ 149 = 713623846352979940529142984724747568191373312 := by decide
    have e3 : (2 : Int) ^ 125 = 42535295865117307932921825928971026432 := by decide
    rw [e1] at *
    rw [e2] at *
    rw [e3]
    omega
  · have ep : (2 : Int) ^ e = 2 ^ (e - 125) * 2 ^ 125 := by rw [← Int.pow_add]; congr 1; omega
    have ez : x0 * 2 ^ e = x0 * 2 ^ (e - 125) * 2 ^ 125 := by rw [ep, Int.mul_assoc]
    rw [ez] at hn1 hn2 hl ⊢
    clear ez ep
    generalize x0 * 2 ^ (e - 125) = z at *
    have e1 : (2 : Int) ^ 150 = 1427247692705959881058285969449495136382746624 := by decide
    have e2 : (2 : Int) ^ 149 = 713623846352979940529142984724747568191373312 := by decide
    have e3 : (2 : Int) ^ 125 = 42535295865117307932921825928971026432 := by decide
    rw [e1, e3] at *
    rw [e2] at hl
    omega
theorem low_i {N I : Nat} (h : Rd N 1 I) (hN : 2 * (N : Int) < 2 ^ 150 - 2 ^ 125) : ((G I : Nat) : Int) < 2 ^ 149 := by
  have e1 : (2 : Int) ^ 150 - 2 ^ 125 = ((2 ^ 150 - 2 ^ 125 : Nat) : Int) := by decide
  rw [e1] at hN
  have := half_low h (Int.ofNat_lt.1 (by rw [Int.natCast_mul]; exact hN))
  have e2 : ((2 ^ 149 : Nat) : Int) = 2 ^ 149 := by decide
  rw [← e2]; exact Int.ofNat_lt.2 this
theorem high_i {N I : Nat} (h : Rd N 1 I) (hN : (2 : Int) ^ 149 ≤ (N : Int)) : (2 : Int) ^ 149 ≤ ((G I : Nat) : Int) := by
  have e2 : ((2 ^ 149 : Nat) : Int) = 2 ^ 149 := by decide
  rw [← e2] at hN ⊢
  exact Int.ofNat_le.2 (half_high h (Int.ofNat_le.1 hN))
theorem same_i {N I : Nat} (h : Rd N 1 I) (hN : (N : Int) = 2 ^ 149) : ((G I : Nat) : Int) = 2 ^ 149 := by
  have e2 : ((2 ^ 149 : Nat) : Int) = 2 ^ 149 := by decide
  rw [← e2] at hN ⊢
  exact congrArg _ (half_same h (Int.ofNat.inj hN))
theorem pos_i : (0 : Int) < 2 ^ 149 := by decide
theorem sub_half {x0 x1 y0 y1 n : Int} (wx : I64 x0) (wy : I64 y0) (hx : VR x0 x1) (hy : VR y0 y1) (hv : vv y0 y1 = n * 2 ^ 150)
    (h0 : n * 2 ^ 150 ≤ vv x0 x1) (h1 : vv x0 x1 < n * 2 ^ 150 + 2 ^ 150) (hg : vv x0 x1 - n * 2 ^ 150 < 2 ^ 149 → 2 * (vv x0 x1 - n * 2 ^ 150) < 2 ^ 150 - 2 ^ 125) :
    ∃ s0 s1, Ev (fun k => real_Sub.f k x0 x1 y0 y1) (s0, s1, 0) ∧ VR s0 s1 ∧ I64 s0 ∧ (vv x0 x1 - n * 2 ^ 150 < 2 ^ 149 → vv s0 s1 < 2 ^ 149) ∧ (2 ^ 149 ≤ vv x0 x1 - n * 2 ^ 150 → 2 ^ 149 ≤ vv s0 s1) ∧ (vv x0 x1 - n * 2 ^ 150 = 2 ^ 149 → vv s0 s1 = 2 ^ 149) := by
  obtain ⟨I, hR, hE⟩ := real_Sub_ev wx wy hx hy
  obtain ⟨vn, wn, hw, hin⟩ := neg_VR wy hy
  have pv := plus_val (decide (x0 < 0)) (decide (-y0 < 0)) (G (ix x0 x1)) (G (ix y0 y1))
  have e1 := vv_sval wx hx
  have e3 := vv_sval wn vn
  rw [hin] at e3
  have e4 : vv (-y0) y1 = -vv y0 y1 := by unfold vv; rw [Int.neg_mul]
  rw [← e1, ← e3, e4, hv] at pv
  generalize plus (decide (x0 < 0)) (decide (-y0 < 0)) (G (ix x0 x1)) (G (ix y0 y1)) = P at *
  obtain ⟨neg, N⟩ := P
  generalize hX : vv x0 x1 = X at *
  rw [← Int.sub_eq_add_neg] at pv
  generalize hDD : X - n * 2 ^ 150 = D at *
  have d0 : 0 ≤ D := by rw [← hDD]; exact Int.sub_nonneg_of_le h0
  have d1 : D < 2 ^ 150 := by rw [← hDD]; exact Int.sub_left_lt_of_lt_add h1
  clear h0 h1 hDD
  dsimp only at pv hR hE
  have hN : N ≤ 2 ^ 151 := by
    have : (N : Int) = sval neg N ∨ (N : Int) = -sval neg N := by unfold sval; split <;> omega
    have e5 : (2 : Int) ^ 150 = 1427247692705959881058285969449495136382746624 := by decide
    have e6 : (2 : Nat) ^ 151 = 2854495385411919762116571938898990272765493248 := by decide
    rw [e5] at d1; rw [e6]; rw [pv] at this; omega
  have hI := hR.le_two hN
  have er : res3 neg I = ((sgn neg (atI I)).1, (sgn neg (atI I)).2, 0) := by unfold res3; rw [if_neg (by omega)]
  rw [er] at hE
  obtain ⟨v1, v2⟩ := res_VR (neg := neg) (I := I) (by omega)
  have vs := vv_sgn neg I (by omega)
  refine ⟨_, _, hE, v1, v2, ?_, ?_, ?_⟩
  all_goals (intro hl; rw [vs])
  · have hg' := hg hl
    cases neg with
    | true =>
      unfold sval; rw [if_pos rfl]
      have := pos_i
      exact Int.lt_of_le_of_lt (Int.neg_nonpos_of_nonneg (Int.natCast_nonneg _)) this
    | false =>
      unfold sval at pv ⊢; rw [if_neg (by decide)] at pv ⊢
      rw [← pv] at hg'
      exact low_i hR hg'
  · cases neg with
    | true =>
      unfold sval at pv; rw [if_pos rfl] at pv
      have p := pos_i
      exact absurd (Int.lt_of_lt_of_le p hl) (by rw [← pv]; exact Int.not_lt.2 (Int.neg_nonpos_of_nonneg (Int.natCast_nonneg _)))
    | false =>
      unfold sval at pv ⊢; rw [if_neg (by decide)] at pv ⊢
      rw [← pv] at hl
      exact high_i hR hl
  · cases neg with
    | true =>
      unfold sval at pv; rw [if_pos rfl] at pv
      have p := pos_i
      rw [← hl] at p
      exact absurd p (by rw [← pv]; exact Int.not_lt.2 (Int.neg_nonpos_of_nonneg (Int.natCast_nonneg _)))
    | false =>
      unfold sval at pv ⊢; rw [if_neg (by decide)] at pv ⊢
      rw [← pv] at hl
      exact same_i hR hl
theorem il_j4 (n r r' half : Int) (hn : -2147483648 ≤ n ∧ n ≤ 2147483648) (hr : (r = n ∧ half < 0 ∧ r' = -n) ∨ (r = n + 1 ∧ (half = 0 ∨ (half > 0 ∧ r' = -(n + 1))))) : Ev (fun k => manorboylaw02_RealIntegerLaws.j4 k n r r' half false) true := by
  refine Ev.step (f := fun k => (manorboylaw02_sanity.f k).bind fun t893 => (if t893 = true then some true else some false)) (fun k => ?_) (Ev.bind sanity_ev (Ev.now _))
  rw [manorboylaw02_RealIntegerLaws.j4, if_neg (by decide)]
  have w1 : wrap64 (n + 1) = n + 1 := wi6 _ (by omega) (by omega)
  have w2 : wrap64 (-r) = -r := wi6 _ (by omega) (by omega)
  rw [w1, w2]
  congr 1; funext t
  congr 1
  rcases hr with ⟨h1, h2, h3⟩ | ⟨h1, h2⟩
  · rw [if_neg (by omega)]
    have d : decide (half > 0) = false := decide_eq_false (by omega)
    rw [d, if_pos (show (false == false) = true from rfl), if_neg (by omega)]
    have : (r' == -r) = true := by rw [beq_iff_eq]; omega
    rw [this]
  · rw [if_pos h1]
    rcases h2 with h2 | ⟨h2, h3⟩
    · rw [h2]; rfl
    · have d : decide (half > 0) = true := decide_eq_true h2
      have e : (half != 0) = true := by rw [bne_iff_ne]; omega
      rw [d, e, if_pos (show (true == true) = true from rfl), if_neg (by omega)]
      have : (r' == -r) = true := by rw [beq_iff_eq]; omega
      rw [this]
theorem two_half : manorboylaw02_two.f (-1) = some (8388608, -24) := by decide +kernel
theorem vv_half : vv 8388608 (-24) = 2 ^ 149 := by decide
theorem il_j3 {x0 x1 n r r' : Int} (wx : I64 x0) (hx : VR x0 x1) (b0 : -16777216 < x0) (b1 : x0 < 16777216) (hn1 : n * 2 ^ 150 ≤ vv x0 x1) (hn2 : vv x0 x1 < n * 2 ^ 150 + 2 ^ 150) (hn : -8388608 ≤ n ∧ n < 8388608)
    (hr : (r = n ∧ vv x0 x1 - n * 2 ^ 150 < 2 ^ 149) ∨ (r = n + 1 ∧ 2 ^ 149 ≤ vv x0 x1 - n * 2 ^ 150))
    (hr' : (r' = -n ∧ vv x0 x1 - n * 2 ^ 150 ≤ 2 ^ 149) ∨ (r' = -(n + 1) ∧ 2 ^ 149 < vv x0 x1 - n * 2 ^ 150)) :
    Ev (fun k => manorboylaw02_RealIntegerLaws.j3 k n r r' 0 false x0 x1) true := by
  obtain ⟨p0, p1, vp, wp, hp, eP⟩ := fromS_ev n (by omega) (by omega)
  obtain ⟨q0, q1, vq, wq, hq, eQ⟩ := fromS_ev (n + 1) (by omega) (by omega)
  obtain ⟨s0, s1, eS, vs, ws, t1, t2, t3⟩ := sub_half wx wp hx vp hp hn1 hn2 (grid b0 b1 hn1 hn2)
  have w1 : wrap64 (n + 1) = n + 1 := wi6 _ (by omega) (by omega)
  have c1 := CmpV_ev wp wx vp hx
  have c2 := CmpV_ev wx wq hx vq
  have c3 := CmpV_ev ws (show I64 8388608 from ⟨by decide, by decide⟩) vs (show VR 8388608 (-24) by decide +kernel)
  rw [hp] at c1
  rw [hq] at c2
  rw [vv_half] at c3
  have em : (n + 1) * (2 : Int) ^ 150 = n * 2 ^ 150 + 2 ^ 150 := by rw [Int.add_mul, Int.one_mul]
  rw [em] at c2
  have k1 : ¬ cmpI (n * 2 ^ 150) (vv x0 x1) > 0 := by unfold cmpI; split; omega; rw [if_neg (by omega)]; omega
  have k2 : cmpI (vv x0 x1) (n * 2 ^ 150 + 2 ^ 150) = -1 := by unfold cmpI; rw [if_pos hn2]
  rw [k2] at c2
  have k3 : (r = n ∧ cmpI (vv s0 s1) (2 ^ 149) < 0 ∧ r' = -n) ∨ (r = n + 1 ∧ (cmpI (vv s0 s1) (2 ^ 149) = 0 ∨ (cmpI (vv s0 s1) (2 ^ 149) > 0 ∧ r' = -(n + 1)))) := by
    rcases hr with ⟨h1, h2⟩ | ⟨h1, h2⟩
    · refine .inl ⟨h1, ?_, ?_⟩
      · unfold cmpI; rw [if_pos (t1 h2)]; decide
      · rcases hr' with ⟨h3, _⟩ | ⟨_, h4⟩
        · exact h3
        · exact absurd h4 (by omega)
    · refine .inr ⟨h1, ?_⟩
      have u := t2 h2
      rcases Int.lt_or_eq_of_le u with hl | he
      · refine .inr ⟨?_, ?_⟩
        · unfold cmpI; rw [if_neg (by omega), if_pos hl]; decide
        · rcases hr' with ⟨h3, h4⟩ | ⟨h3, _⟩
          · have := t3 (by omega)
            omega
          · exact h3
      · left; unfold cmpI; rw [if_neg (by omega), if_neg (by omega)]
  refine Ev.step (fun k => by rw [manorboylaw02_RealIntegerLaws.j3, if_neg (by decide)]) ?_
  rw [w1]
  refine Ev.bind eP (Ev.bind (⟨0, fun _ _ => c1⟩ : Ev (fun _ => real_Cmp.f p0 p1 x0 x1) _) (Ev.bind eQ (Ev.bind (⟨0, fun _ _ => c2⟩ : Ev (fun _ => real_Cmp.f x0 x1 q0 q1) _) (Ev.bind eP (Ev.bind eS (Ev.bind (⟨0, fun _ _ => two_half⟩ : Ev (fun _ => manorboylaw02_two.f (-1)) _) (Ev.bind (⟨0, fun _ _ => c3⟩ : Ev (fun _ => real_Cmp.f s0 s1 8388608 (-24)) _) ?_)))))))
  refine Ev.congr (fun k => if_pos rfl) (Ev.congr (fun k => if_pos rfl) (Ev.congr (fun k => if_pos rfl) (Ev.congr (fun k => if_pos rfl) (Ev.congr (fun k => if_pos rfl) (Ev.congr (fun k => if_neg k1) ?_)))))
  exact il_j4 n r r' _ (by omega) k3
theorem il_j3t (n r r' re x0 x1 : Int) : Ev (fun k => manorboylaw02_RealIntegerLaws.j3 k n r r' re true x0 x1) true := by
  refine Ev.step (fun k => by rw [manorboylaw02_RealIntegerLaws.j3, if_pos rfl]) ?_
  exact Ev.bind sanity_ev (Ev.now _)
theorem il_j1t {x6 x10 : Int} (x8 x9 x12 x13 x14 x0 x1 : Int) (h6 : x6 = 0 ∨ x6 = 3) (h10 : x10 = 0 ∨ x10 = 3) : Ev (fun k => manorboylaw02_RealIntegerLaws.j1 k x6 x8 x9 x10 x12 x13 x14 true x0 x1) true := by
  refine Ev.step (fun k => by rw [manorboylaw02_RealIntegerLaws.j1, if_pos rfl]) ?_
  refine Ev.bind sanity_ev ?_
  rcases h6 with rfl | rfl <;> rcases h10 with rfl | rfl <;> exact ⟨0, fun _ _ => by first | rfl | decide⟩
theorem three (X q r s : Int) (h1 : q * 2 ^ 150 ≤ X) (h2 : X < q * 2 ^ 150 + 2 ^ 150) (r1 : r * 2 ^ 150 ≤ X + 2 ^ 149) (r2 : X + 2 ^ 149 < r * 2 ^ 150 + 2 ^ 150) (s1 : s * 2 ^ 150 ≤ -X + 2 ^ 149) (s2 : -X + 2 ^ 149 < s * 2 ^ 150 + 2 ^ 150) :
    ((r = q ∧ X - q * 2 ^ 150 < 2 ^ 149) ∨ (r = q + 1 ∧ 2 ^ 149 ≤ X - q * 2 ^ 150)) ∧ ((s = -q ∧ X - q * 2 ^ 150 ≤ 2 ^ 149) ∨ (s = -(q + 1) ∧ 2 ^ 149 < X - q * 2 ^ 150)) := by
  have e1 : (2 : Int) ^ 150 = 1427247692705959881058285969449495136382746624 := by decide
  have e2 : (2 : Int) ^ 149 = 713623846352979940529142984724747568191373312 := by decide
  rw [e1] at *
  rw [e2] at *
  constructor <;> omega
theorem il_j2 {x0 x1 n r r' re : Int} (wx : I64 x0) (hx : VR x0 x1) (b0 : -16777216 < x0) (b1 : x0 < 16777216) (hn1 : n * 2 ^ 150 ≤ vv x0 x1) (hn2 : vv x0 x1 < n * 2 ^ 150 + 2 ^ 150)
    (hr : (r = n ∧ vv x0 x1 - n * 2 ^ 150 < 2 ^ 149) ∨ (r = n + 1 ∧ 2 ^ 149 ≤ vv x0 x1 - n * 2 ^ 150))
    (hr' : (-8388608 ≤ n ∧ n < 8388608) → re = 0 ∧ ((r' = -n ∧ vv x0 x1 - n * 2 ^ 150 ≤ 2 ^ 149) ∨ (r' = -(n + 1) ∧ 2 ^ 149 < vv x0 x1 - n * 2 ^ 150))) :
    Ev (fun k => manorboylaw02_RealIntegerLaws.j2 k n r r' re false x0 x1) true := by
  by_cases h1 : n < -8388608
  · exact Ev.step (fun k => by rw [manorboylaw02_RealIntegerLaws.j2, if_neg (by decide), if_pos h1]) (il_j3t _ _ _ _ _ _)
  · by_cases h2 : n ≥ 8388608
    · exact Ev.step (fun k => by rw [manorboylaw02_RealIntegerLaws.j2, if_neg (by decide), if_neg h1, decide_eq_true h2]) (il_j3t _ _ _ _ _ _)
    · obtain ⟨h3, h4⟩ := hr' (by omega)
      subst h3
      exact Ev.step (fun k => by rw [manorboylaw02_RealIntegerLaws.j2, if_neg (by decide), if_neg h1, decide_eq_false h2]) (il_j3 wx hx b0 b1 hn1 hn2 (by omega) hr h4)
theorem il_j1 {x0 x1 n r s : Int} {S : Int × Int} (wx : I64 x0) (hx : VR x0 x1) (b0 : -16777216 < x0) (b1 : x0 < 16777216) (hn1 : n * 2 ^ 150 ≤ vv x0 x1) (hn2 : vv x0 x1 < n * 2 ^ 150 + 2 ^ 150)
    (hr : (r = n ∧ vv x0 x1 - n * 2 ^ 150 < 2 ^ 149) ∨ (r = n + 1 ∧ 2 ^ 149 ≤ vv x0 x1 - n * 2 ^ 150))
    (hs : (s = -n ∧ vv x0 x1 - n * 2 ^ 150 ≤ 2 ^ 149) ∨ (s = -(n + 1) ∧ 2 ^ 149 < vv x0 x1 - n * 2 ^ 150))
    (hS : (-8388608 ≤ n ∧ n < 8388608) → S.1 = s ∧ S.2 = 0) (hS2 : S.2 = 0 ∨ S.2 = 3) (hn : -2147483647 ≤ n ∧ n ≤ 2147483647) :
    Ev (fun k => manorboylaw02_RealIntegerLaws.j1 k 0 n r 0 0 S.1 S.2 false x0 x1) true := by
  obtain ⟨S1, S2⟩ := S
  dsimp only at hS hS2 ⊢
  have w1 : wrap64 (n + 1) = n + 1 := wi6 _ (by omega) (by omega)
  have key : Ev (fun k => manorboylaw02_RealIntegerLaws.j2 k n r S1 S2 false x0 x1) true := by
    refine il_j2 wx hx b0 b1 hn1 hn2 hr (fun h => ?_)
    obtain ⟨h1, h2⟩ := hS h
    exact ⟨h2, by rw [h1]; exact hs⟩
  have key2 : Ev (fun k => if r = n then manorboylaw02_RealIntegerLaws.j2 k n r S1 S2 false x0 x1 else manorboylaw02_RealIntegerLaws.j2 k n r S1 S2 (r != (wrap64 (n + 1))) x0 x1) true := by
    rcases hr with ⟨h1, _⟩ | ⟨h1, _⟩
    · exact Ev.congr (fun k => if_pos h1) key
    · refine Ev.congr (fun k => if_neg (by omega)) ?_
      have : (r != wrap64 (n + 1)) = false := by rw [w1, h1]; simp
      rw [this]; exact key
  refine Ev.step (fun k => by rw [manorboylaw02_RealIntegerLaws.j1, if_neg (by decide), if_pos rfl]) ?_
  rcases hS2 with h | h
  · subst h; exact Ev.congr (fun k => if_pos rfl) key2
  · subst h; exact Ev.congr (fun k => (if_neg (by decide)).trans (if_pos rfl)) key2
theorem quo (X : Int) : X / 2 ^ 150 * 2 ^ 150 ≤ X ∧ X < X / 2 ^ 150 * 2 ^ 150 + 2 ^ 150 := by
  have h := Int.ediv_mul_le X (show (2 : Int) ^ 150 ≠ 0 by decide)
  have h' := Int.lt_ediv_add_one_mul_self X (show (0 : Int) < 2 ^ 150 by decide)
  rw [Int.add_mul, Int.one_mul] at h'
  exact ⟨h, h'⟩
theorem il_j0 (a0 : Int) : Ev (fun k => manorboylaw02_RealIntegerLaws.j0 k a0 false) true := by
  have hT := tmod_IR a0
  have hb := rl_bd hT
  have hat := law_at_ev a0
  have vx := rl_VR hT
  have wx := rl_64 hT
  generalize rl (Int.tmod a0 2533359616) = X_ at hb hat vx wx
  obtain ⟨x0, x1⟩ := X_
  dsimp only at hb vx wx
  obtain ⟨b0, b1, _⟩ := hb
  obtain ⟨vn, wn, hw, _⟩ := neg_VR wx vx
  have e4 : vv (-x0) x1 = -vv x0 x1 := by unfold vv; rw [Int.neg_mul]
  have eE := Entier_ev wx vx
  have eR := Round_ev wx vx
  have eN := Round_ev wn vn
  rw [e4] at eN
  have eG : real_Neg.f x0 x1 = some (-x0, x1, 0) := by
    unfold real_Neg.f
    rw [Valid_ev vx]
    show ((real_signed.f true x0 x1).bind fun bt287 => (some (bt287.1, bt287.2, 0))) = _
    rw [signed_is true (x0, x1)]
    show some (wrap64 (-x0), x1, (0 : Int)) = _
    rw [hw]
  obtain ⟨h1, h2⟩ := quo (vv x0 x1)
  obtain ⟨r1, r2⟩ := quo (vv x0 x1 + 2 ^ 149)
  obtain ⟨s1, s2⟩ := quo (-vv x0 x1 + 2 ^ 149)
  have hrs := three _ _ _ _ h1 h2 r1 r2 s1 s2
  clear r1 r2 s1 s2
  generalize vv x0 x1 / 2 ^ 150 = q at *
  generalize (vv x0 x1 + 2 ^ 149) / 2 ^ 150 = r at *
  generalize (-vv x0 x1 + 2 ^ 149) / 2 ^ 150 = s at *
  obtain ⟨hr, hs⟩ := hrs
  rw [whole_is_] at eE eR eN
  refine Ev.step (fun k => by rw [manorboylaw02_RealIntegerLaws.j0, if_neg (by decide)]) ?_
  refine Ev.bind (⟨0, fun _ _ => hat⟩ : Ev (fun _ => manorboylaw02_at.f a0) _) (Ev.bind (⟨0, fun _ _ => eE⟩ : Ev (fun _ => real_Entier.f x0 x1) _) (Ev.bind (⟨0, fun _ _ => eR⟩ : Ev (fun _ => real_Round.f x0 x1) _) (Ev.bind (⟨0, fun _ _ => eG⟩ : Ev (fun _ => real_Neg.f x0 x1) _) (Ev.bind (⟨0, fun _ _ => eN⟩ : Ev (fun _ => real_Round.f (-x0) x1) _) ?_))))
  have hre : (if -2147483647 ≤ r ∧ r ≤ 2147483647 then (r, (0 : Int)) else (0, 3)).2 = 0 ∨ (if -2147483647 ≤ r ∧ r ≤ 2147483647 then (r, (0 : Int)) else (0, 3)).2 = 3 := by
    by_cases hq : -2147483647 ≤ r ∧ r ≤ 2147483647
    · rw [if_pos hq]; exact .inl rfl
    · rw [if_neg hq]; exact .inr rfl
  by_cases hq : -2147483647 ≤ q ∧ q ≤ 2147483647
  · rw [if_pos hq]
    refine Ev.congr (fun k => if_pos rfl) ?_
    by_cases hR : -2147483647 ≤ r ∧ r ≤ 2147483647
    · rw [if_pos hR]
      refine il_j1 wx vx b0 b1 h1 h2 hr hs ?_ ?_ hq
      · intro hn
        rw [if_pos (by omega)]; exact ⟨rfl, rfl⟩
      · by_cases hS : -2147483647 ≤ s ∧ s ≤ 2147483647
        · rw [if_pos hS]; exact .inl rfl
        · rw [if_neg hS]; exact .inr rfl
    · rw [if_neg hR]
      exact il_j1t _ _ _ _ _ _ _ (.inl rfl) (.inr rfl)
  · rw [if_neg hq]
    refine Ev.congr (fun k => if_neg (by decide)) ?_
    exact il_j1t _ _ _ _ _ _ _ (.inr rfl) hre
theorem pure_real_integer_laws (a0 a1 : Int) (h0 : I64 a0) (h1 : I64 a1) : ∃ k, manorboylaw02_RealIntegerLaws.f k a0 a1 = some true := by
  refine Ev.rounds ?_
  have hb : -16777217 < Int.tmod a1 16777217 ∧ Int.tmod a1 16777217 < 16777217 := ⟨Int.lt_tmod_of_pos a1 (by decide), Int.tmod_lt_of_pos a1 (by decide)⟩
  obtain ⟨p, q, vp, wp, hp, eP⟩ := fromS_ev (Int.tmod a1 16777217) (by omega) (by omega)
  have eE := Entier_ev wp vp
  rw [hp, Int.mul_ediv_cancel _ (show (2 : Int) ^ 150 ≠ 0 by decide), whole_is_, if_pos (by omega)] at eE
  unfold manorboylaw02_RealIntegerLaws.f
  refine Ev.bind eP (Ev.bind (⟨0, fun _ _ => eE⟩ : Ev (fun _ => real_Entier.f p q) _) ?_)
  refine Ev.congr (fun k => if_pos rfl) ?_
  have : (Int.tmod a1 16777217 != Int.tmod a1 16777217) = false := by simp
  show Ev (fun k => manorboylaw02_RealIntegerLaws.j0 k a0 (Int.tmod a1 16777217 != Int.tmod a1 16777217)) true
  rw [this]
  exact il_j0 a0
end Go.Proofs.YteigbokklclmbaaGreatDoor.M
end
section
namespace Go.Proofs.YteigbokklclmbaaGreatDoor.Given
open Go
theorem gT : Tryz.prog.globalNamed "internal/strconv.uint64pow10" = some 0 := by kernel_rfl
theorem gTType : (Tryz.prog.globals[0]?).map (·.type) = some 188 := by kernel_rfl
theorem pow10_datum : (Rows.laid_internal_strconv_uint64pow10 : DataW Unit) = Lib.tabData .u64 Lib.pow10Tab := by kernel_rfl
theorem table_of {W : World} (h : laidMet Tryz.prog [("math/bits.deBruijn32tab", Rows.laid_math_bits_deBruijn32tab), ("math/bits.deBruijn64tab", Rows.laid_math_bits_deBruijn64tab), ("internal/strconv.uint64pow10", Rows.laid_internal_strconv_uint64pow10), ("unicode/utf8.acceptRanges", Rows.laid_unicode_utf8_acceptRanges), ("unicode/utf8.first", Rows.laid_unicode_utf8_first)] W) : Z.Table W := by
  obtain ⟨ps, ⟨_, _, _, _, _, _, _, _, _, _, ⟨_, _, _, _, _, _, _, _, _, _, ⟨g, t, cs, f, p, q, hg, ht, hv, hd, _, _⟩, _⟩, _⟩, _⟩ := h
  obtain rfl := Option.some.inj (gT.symm.trans hg)
  obtain rfl := Option.some.inj (gTType.symm.trans ht)
  rw [pow10_datum] at hd
  show Lib.TabIs _ _ _ _ _
  unfold Lib.TabIs
  rw [hv, ← Lib.cells_of_tab Tryz.underlying188 Tryz.underlying72 (by kernel_rfl) (by kernel_rfl) hd]
theorem i64_of {a : Int} (h : (Lit.int IntKind.i64 a).wf = true) : -9223372036854775808 ≤ a ∧ a ≤ 9223372036854775807 := by
  have h1 : (decide ((-9223372036854775808 : Int) ≤ a) && decide (a ≤ (9223372036854775807 : Int))) = true := h
  simpa using h1
end Go.Proofs.YteigbokklclmbaaGreatDoor.Given
end
