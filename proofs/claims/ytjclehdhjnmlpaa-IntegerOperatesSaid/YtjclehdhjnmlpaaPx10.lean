/- Contracts of functions that the laws reach, written by program (printx.py): each call returns what its plain Lean function computes, where that has a value; no other condition. -/
import Derived.Test.YtjclehdhjnmlpaaPx0
import Derived.Test.YtjclehdhjnmlpaaPx1
import Derived.Test.YtjclehdhjnmlpaaPx3
import Derived.Test.YtjclehdhjnmlpaaPx8
import Derived.Test.YtjclehdhjnmlpaaPx9
namespace Go.Proofs.Ytjclehdhjnmlpaa.P
open Go.RowKit Go.Proofs.Ytjclehdhjnmlpaa.Given Go.Proofs.YtjclehdhjnmlpaaW.PrintWords Go.Proofs.YtjclehdhjnmlpaaW.PrintLast Go.Proofs.YtjclehdhjnmlpaaW.PrintMore
attribute [local go_sem] max2_int min2_int max_two min_two max_three min_three max_four min_four   -- for this text's walks alone
set_option linter.unusedVariables false
set_option linter.unusedSimpArgs false

/-! ### manorboylaw01_IntegerOperates: function 7 -/
mutual
def manorboylaw01_IntegerOperates.j0 : Nat → Int → Int → Bool → Option (Bool)
  | 0, _, _, _ => none
  | k + 1, x0, x1, x33 => if x33 = true then (some false) else ((integer_Abs.f x0).bind fun bt227 => ((manorboyref01_Abs.f x0).bind fun bt229 => (if bt227.1 = bt229.1 then (manorboylaw01_IntegerOperates.j1 k x0 x1 (bt227.2 != bt229.2)) else (manorboylaw01_IntegerOperates.j1 k x0 x1 true))))
def manorboylaw01_IntegerOperates.j1 : Nat → Int → Int → Bool → Option (Bool)
  | 0, _, _, _ => none
  | k + 1, x0, x1, x51 => if x51 = true then (some false) else ((integer_Sign.f x0).bind fun bt231 => ((manorboyref01_Sign.f k x0).bind fun bt233 => (if bt231.1 = bt233.1 then (manorboylaw01_IntegerOperates.j2 k x0 x1 (bt231.2 != bt233.2)) else (manorboylaw01_IntegerOperates.j2 k x0 x1 true))))
def manorboylaw01_IntegerOperates.j2 : Nat → Int → Int → Bool → Option (Bool)
  | 0, _, _, _ => none
  | k + 1, x0, x1, x69 => if x69 = true then (some false) else ((integer_Add.f x0 x1).bind fun bt235 => ((manorboyref01_Add.f x0 x1).bind fun bt237 => (if bt235.1 = bt237.1 then (manorboylaw01_IntegerOperates.j3 k x0 x1 (bt235.2 != bt237.2)) else (manorboylaw01_IntegerOperates.j3 k x0 x1 true))))
def manorboylaw01_IntegerOperates.j3 : Nat → Int → Int → Bool → Option (Bool)
  | 0, _, _, _ => none
  | k + 1, x0, x1, x89 => if x89 = true then (some false) else ((integer_Sub.f x0 x1).bind fun bt239 => ((manorboyref01_Sub.f x0 x1).bind fun bt241 => (if bt239.1 = bt241.1 then (manorboylaw01_IntegerOperates.j4 k x0 x1 (bt239.2 != bt241.2)) else (manorboylaw01_IntegerOperates.j4 k x0 x1 true))))
def manorboylaw01_IntegerOperates.j4 : Nat → Int → Int → Bool → Option (Bool)
  | 0, _, _, _ => none
  | k + 1, x0, x1, x109 => if x109 = true then (some false) else ((integer_Mul.f x0 x1).bind fun bt243 => ((manorboyref01_Mul.f x0 x1).bind fun bt245 => (if bt243.1 = bt245.1 then (manorboylaw01_IntegerOperates.j5 k x0 x1 (bt243.2 != bt245.2)) else (manorboylaw01_IntegerOperates.j5 k x0 x1 true))))
def manorboylaw01_IntegerOperates.j5 : Nat → Int → Int → Bool → Option (Bool)
  | 0, _, _, _ => none
  | k + 1, x0, x1, x129 => if x129 = true then (some false) else ((integer_Cmp.f x0 x1).bind fun bt247 => ((manorboyref01_Cmp.f k x0 x1).bind fun bt249 => ((manorboylaw01_awake.f k).bind fun t251 => (if t251 = true then (if bt247.1 = bt249.1 then (some (bt247.2 == bt249.2)) else (some false)) else (some false)))))
end
def manorboylaw01_IntegerOperates.f (k : Nat) (a0 : Int) (a1 : Int) : Option (Bool) := (integer_Neg.f a0).bind fun bt221 => ((manorboyref01_Neg.f a0).bind fun bt223 => ((integer_Valid.f a0).bind fun t225 => ((manorboyref01_Valid.f a0).bind fun t226 => (if (t225 != t226) = true then (manorboylaw01_IntegerOperates.j0 k a0 a1 true) else (if bt221.1 = bt223.1 then (manorboylaw01_IntegerOperates.j0 k a0 a1 (bt221.2 != bt223.2)) else (manorboylaw01_IntegerOperates.j0 k a0 a1 true))))))
theorem manorboylaw01_IntegerOperates.mono_l : ∀ k, (∀ y0 y1 y2, LeO (manorboylaw01_IntegerOperates.j0 k y0 y1 y2) (manorboylaw01_IntegerOperates.j0 (k + 1) y0 y1 y2)) ∧ (∀ y0 y1 y2, LeO (manorboylaw01_IntegerOperates.j1 k y0 y1 y2) (manorboylaw01_IntegerOperates.j1 (k + 1) y0 y1 y2)) ∧ (∀ y0 y1 y2, LeO (manorboylaw01_IntegerOperates.j2 k y0 y1 y2) (manorboylaw01_IntegerOperates.j2 (k + 1) y0 y1 y2)) ∧ (∀ y0 y1 y2, LeO (manorboylaw01_IntegerOperates.j3 k y0 y1 y2) (manorboylaw01_IntegerOperates.j3 (k + 1) y0 y1 y2)) ∧ (∀ y0 y1 y2, LeO (manorboylaw01_IntegerOperates.j4 k y0 y1 y2) (manorboylaw01_IntegerOperates.j4 (k + 1) y0 y1 y2)) ∧ (∀ y0 y1 y2, LeO (manorboylaw01_IntegerOperates.j5 k y0 y1 y2) (manorboylaw01_IntegerOperates.j5 (k + 1) y0 y1 y2))
  | 0 => ⟨fun _ _ _ r h => by simp [manorboylaw01_IntegerOperates.j0] at h, fun _ _ _ r h => by simp [manorboylaw01_IntegerOperates.j1] at h, fun _ _ _ r h => by simp [manorboylaw01_IntegerOperates.j2] at h, fun _ _ _ r h => by simp [manorboylaw01_IntegerOperates.j3] at h, fun _ _ _ r h => by simp [manorboylaw01_IntegerOperates.j4] at h, fun _ _ _ r h => by simp [manorboylaw01_IntegerOperates.j5] at h⟩
  | k + 1 => by
    obtain ⟨ih0, ih1, ih2, ih3, ih4, ih5⟩ := manorboylaw01_IntegerOperates.mono_l k
    refine ⟨?_, ?_, ?_, ?_, ?_, ?_⟩
    · intro y0 y1 y2
      unfold manorboylaw01_IntegerOperates.j0
      repeat' first
      | (with_reducible exact ih0 _ _ _)
      | (with_reducible exact ih1 _ _ _)
      | (with_reducible exact ih2 _ _ _)
      | (with_reducible exact ih3 _ _ _)
      | (with_reducible exact ih4 _ _ _)
      | (with_reducible exact ih5 _ _ _)
      | (with_reducible exact manorboylaw01_awake.mono _)
      | (with_reducible exact manorboyref01_Cmp.mono _ _ _)
      | (with_reducible exact manorboyref01_Sign.mono _ _)
      | (with_reducible exact LeO.refl _)
      | (with_reducible exact LeO.none _)
      | (with_reducible refine LeO.ite ?_ ?_)
      | (with_reducible refine LeO.bind ?_ (fun _ => ?_))
      | exact ih0 _ _ _
      | exact ih1 _ _ _
      | exact ih2 _ _ _
      | exact ih3 _ _ _
      | exact ih4 _ _ _
      | exact ih5 _ _ _
      | exact manorboylaw01_awake.mono _
      | exact manorboyref01_Cmp.mono _ _ _
      | exact manorboyref01_Sign.mono _ _
      | exact LeO.none _
      | refine LeO.ite ?_ ?_
      | refine LeO.bind ?_ (fun _ => ?_)
    · intro y0 y1 y2
      unfold manorboylaw01_IntegerOperates.j1
      repeat' first
      | (with_reducible exact ih0 _ _ _)
      | (with_reducible exact ih1 _ _ _)
      | (with_reducible exact ih2 _ _ _)
      | (with_reducible exact ih3 _ _ _)
      | (with_reducible exact ih4 _ _ _)
      | (with_reducible exact ih5 _ _ _)
      | (with_reducible exact manorboylaw01_awake.mono _)
      | (with_reducible exact manorboyref01_Cmp.mono _ _ _)
      | (with_reducible exact manorboyref01_Sign.mono _ _)
      | (with_reducible exact LeO.refl _)
      | (with_reducible exact LeO.none _)
      | (with_reducible refine LeO.ite ?_ ?_)
      | (with_reducible refine LeO.bind ?_ (fun _ => ?_))
      | exact ih0 _ _ _
      | exact ih1 _ _ _
      | exact ih2 _ _ _
      | exact ih3 _ _ _
      | exact ih4 _ _ _
      | exact ih5 _ _ _
      | exact manorboylaw01_awake.mono _
      | exact manorboyref01_Cmp.mono _ _ _
      | exact manorboyref01_Sign.mono _ _
      | exact LeO.none _
      | refine LeO.ite ?_ ?_
      | refine LeO.bind ?_ (fun _ => ?_)
    · intro y0 y1 y2
      unfold manorboylaw01_IntegerOperates.j2
      repeat' first
      | (with_reducible exact ih0 _ _ _)
      | (with_reducible exact ih1 _ _ _)
      | (with_reducible exact ih2 _ _ _)
      | (with_reducible exact ih3 _ _ _)
      | (with_reducible exact ih4 _ _ _)
      | (with_reducible exact ih5 _ _ _)
      | (with_reducible exact manorboylaw01_awake.mono _)
      | (with_reducible exact manorboyref01_Cmp.mono _ _ _)
      | (with_reducible exact manorboyref01_Sign.mono _ _)
      | (with_reducible exact LeO.refl _)
      | (with_reducible exact LeO.none _)
      | (with_reducible refine LeO.ite ?_ ?_)
      | (with_reducible refine LeO.bind ?_ (fun _ => ?_))
      | exact ih0 _ _ _
      | exact ih1 _ _ _
      | exact ih2 _ _ _
      | exact ih3 _ _ _
      | exact ih4 _ _ _
      | exact ih5 _ _ _
      | exact manorboylaw01_awake.mono _
      | exact manorboyref01_Cmp.mono _ _ _
      | exact manorboyref01_Sign.mono _ _
      | exact LeO.none _
      | refine LeO.ite ?_ ?_
      | refine LeO.bind ?_ (fun _ => ?_)
    · intro y0 y1 y2
      unfold manorboylaw01_IntegerOperates.j3
      repeat' first
      | (with_reducible exact ih0 _ _ _)
      | (with_reducible exact ih1 _ _ _)
      | (with_reducible exact ih2 _ _ _)
      | (with_reducible exact ih3 _ _ _)
      | (with_reducible exact ih4 _ _ _)
      | (with_reducible exact ih5 _ _ _)
      | (with_reducible exact manorboylaw01_awake.mono _)
      | (with_reducible exact manorboyref01_Cmp.mono _ _ _)
      | (with_reducible exact manorboyref01_Sign.mono _ _)
      | (with_reducible exact LeO.refl _)
      | (with_reducible exact LeO.none _)
      | (with_reducible refine LeO.ite ?_ ?_)
      | (with_reducible refine LeO.bind ?_ (fun _ => ?_))
      | exact ih0 _ _ _
      | exact ih1 _ _ _
      | exact ih2 _ _ _
      | exact ih3 _ _ _
      | exact ih4 _ _ _
      | exact ih5 _ _ _
      | exact manorboylaw01_awake.mono _
      | exact manorboyref01_Cmp.mono _ _ _
      | exact manorboyref01_Sign.mono _ _
      | exact LeO.none _
      | refine LeO.ite ?_ ?_
      | refine LeO.bind ?_ (fun _ => ?_)
    · intro y0 y1 y2
      unfold manorboylaw01_IntegerOperates.j4
      repeat' first
      | (with_reducible exact ih0 _ _ _)
      | (with_reducible exact ih1 _ _ _)
      | (with_reducible exact ih2 _ _ _)
      | (with_reducible exact ih3 _ _ _)
      | (with_reducible exact ih4 _ _ _)
      | (with_reducible exact ih5 _ _ _)
      | (with_reducible exact manorboylaw01_awake.mono _)
      | (with_reducible exact manorboyref01_Cmp.mono _ _ _)
      | (with_reducible exact manorboyref01_Sign.mono _ _)
      | (with_reducible exact LeO.refl _)
      | (with_reducible exact LeO.none _)
      | (with_reducible refine LeO.ite ?_ ?_)
      | (with_reducible refine LeO.bind ?_ (fun _ => ?_))
      | exact ih0 _ _ _
      | exact ih1 _ _ _
      | exact ih2 _ _ _
      | exact ih3 _ _ _
      | exact ih4 _ _ _
      | exact ih5 _ _ _
      | exact manorboylaw01_awake.mono _
      | exact manorboyref01_Cmp.mono _ _ _
      | exact manorboyref01_Sign.mono _ _
      | exact LeO.none _
      | refine LeO.ite ?_ ?_
      | refine LeO.bind ?_ (fun _ => ?_)
    · intro y0 y1 y2
      unfold manorboylaw01_IntegerOperates.j5
      repeat' first
      | (with_reducible exact ih0 _ _ _)
      | (with_reducible exact ih1 _ _ _)
      | (with_reducible exact ih2 _ _ _)
      | (with_reducible exact ih3 _ _ _)
      | (with_reducible exact ih4 _ _ _)
      | (with_reducible exact ih5 _ _ _)
      | (with_reducible exact manorboylaw01_awake.mono _)
      | (with_reducible exact manorboyref01_Cmp.mono _ _ _)
      | (with_reducible exact manorboyref01_Sign.mono _ _)
      | (with_reducible exact LeO.refl _)
      | (with_reducible exact LeO.none _)
      | (with_reducible refine LeO.ite ?_ ?_)
      | (with_reducible refine LeO.bind ?_ (fun _ => ?_))
      | exact ih0 _ _ _
      | exact ih1 _ _ _
      | exact ih2 _ _ _
      | exact ih3 _ _ _
      | exact ih4 _ _ _
      | exact ih5 _ _ _
      | exact manorboylaw01_awake.mono _
      | exact manorboyref01_Cmp.mono _ _ _
      | exact manorboyref01_Sign.mono _ _
      | exact LeO.none _
      | refine LeO.ite ?_ ?_
      | refine LeO.bind ?_ (fun _ => ?_)
theorem manorboylaw01_IntegerOperates.mono : ∀ a0 a1 k, LeO (manorboylaw01_IntegerOperates.f k a0 a1) (manorboylaw01_IntegerOperates.f (k + 1) a0 a1) := by
  intro a0 a1 k
  obtain ⟨ih0, ih1, ih2, ih3, ih4, ih5⟩ := manorboylaw01_IntegerOperates.mono_l k
  unfold manorboylaw01_IntegerOperates.f
  repeat' first
      | (with_reducible exact ih0 _ _ _)
      | (with_reducible exact ih1 _ _ _)
      | (with_reducible exact ih2 _ _ _)
      | (with_reducible exact ih3 _ _ _)
      | (with_reducible exact ih4 _ _ _)
      | (with_reducible exact ih5 _ _ _)
      | (with_reducible exact manorboylaw01_awake.mono _)
      | (with_reducible exact manorboyref01_Cmp.mono _ _ _)
      | (with_reducible exact manorboyref01_Sign.mono _ _)
      | (with_reducible exact LeO.refl _)
      | (with_reducible exact LeO.none _)
      | (with_reducible refine LeO.ite ?_ ?_)
      | (with_reducible refine LeO.bind ?_ (fun _ => ?_))
      | exact ih0 _ _ _
      | exact ih1 _ _ _
      | exact ih2 _ _ _
      | exact ih3 _ _ _
      | exact ih4 _ _ _
      | exact ih5 _ _ _
      | exact manorboylaw01_awake.mono _
      | exact manorboyref01_Cmp.mono _ _ _
      | exact manorboyref01_Sign.mono _ _
      | exact LeO.none _
      | refine LeO.ite ?_ ?_
      | refine LeO.bind ?_ (fun _ => ?_)
set_option maxHeartbeats 8000000 in
set_option maxRecDepth 100000 in
theorem manorboylaw01_IntegerOperates.calls (k : Nat) (a0 : Int) (a1 : Int) (r : Bool) (w : World) (h : manorboylaw01_IntegerOperates.f k a0 a1 = some r) :
    Calls Try.prog 7 #[.int .i64 a0, .int .i64 a1] w fun e w' => e = .returned (.bool r) ∧ Below w.heap.size w w' := by
  have HB := Aside0.mk (Below.refl w.heap.size w)
  have H : ((integer_Neg.f a0).bind fun bt221 => ((manorboyref01_Neg.f a0).bind fun bt223 => ((integer_Valid.f a0).bind fun t225 => ((manorboyref01_Valid.f a0).bind fun t226 => (if (t225 != t226) = true then (manorboylaw01_IntegerOperates.j0 k a0 a1 true) else (if bt221.1 = bt223.1 then (manorboylaw01_IntegerOperates.j0 k a0 a1 (bt221.2 != bt223.2)) else (manorboylaw01_IntegerOperates.j0 k a0 a1 true))))))) = some r := h
  clear h
  replace H := Option.bind_eq_some_iff.mp H
  obtain ⟨⟨t221, t222⟩, A30, H⟩ := H
  replace H : ((manorboyref01_Neg.f a0).bind fun bt223 => ((integer_Valid.f a0).bind fun t225 => ((manorboyref01_Valid.f a0).bind fun t226 => (if (t225 != t226) = true then (manorboylaw01_IntegerOperates.j0 k a0 a1 true) else (if t221 = bt223.1 then (manorboylaw01_IntegerOperates.j0 k a0 a1 (t222 != bt223.2)) else (manorboylaw01_IntegerOperates.j0 k a0 a1 true)))))) = some r := H
  have A3 := Aside0.mk A30
  clear A30
  replace H := Option.bind_eq_some_iff.mp H
  obtain ⟨⟨t223, t224⟩, A40, H⟩ := H
  replace H : ((integer_Valid.f a0).bind fun t225 => ((manorboyref01_Valid.f a0).bind fun t226 => (if (t225 != t226) = true then (manorboylaw01_IntegerOperates.j0 k a0 a1 true) else (if t221 = t223 then (manorboylaw01_IntegerOperates.j0 k a0 a1 (t222 != t224)) else (manorboylaw01_IntegerOperates.j0 k a0 a1 true))))) = some r := H
  have A4 := Aside0.mk A40
  clear A40
  have HC5 := Aside0.mk H
  clear H
  go_enter Try.func7, Try.ntmps7
  go_upto_region 3 with (first | ((with_reducible refine gate_callee (f := 31) rfl ?_); refine goesL_ (some 11) rfl rfl Try.func31 (by kernel_rfl) rfl #[.int .i64 a0] rfl (by (try simp only [List.map_toArray, List.map_cons, List.map_nil]); first | done | rfl | (simp only [List.length_drop, List.length_take]; rfl)) ?_; (with_reducible refine (integer_Neg.calls a0 t221 t222 _ A3.out).mono ?_); rintro e w' ⟨rfl, ⟨nd, rfl⟩⟩; refine ⟨_, rfl, ?_⟩) | ((with_reducible refine gate_callee (f := 32) rfl ?_); refine goesL_ (some 16) rfl rfl Try.func32 (by kernel_rfl) rfl #[.int .i64 a0] rfl (by (try simp only [List.map_toArray, List.map_cons, List.map_nil]); first | done | rfl | (simp only [List.length_drop, List.length_take]; rfl)) ?_; (with_reducible refine (manorboyref01_Neg.calls a0 t223 t224 _ A4.out).mono ?_); rintro e w' ⟨rfl, ⟨nd, rfl⟩⟩; refine ⟨_, rfl, ?_⟩))
  (try simp only [Act.put, List.setIfInBounds_toArray, List.set_cons_zero, List.set_cons_succ])
  go_cut [33] (fun v33 wc => ∃ (kq : Nat) (x33_4 : Bool), v33 = .bool x33_4 ∧ Aside0 (manorboylaw01_IntegerOperates.j0 kq a0 a1 x33_4 = some r) ∧ Aside0 (kq ≤ k) ∧ Aside0 (Below w.heap.size w wc))
  case first => as_aux_lemma =>
    have H := HC5.out
    clear HC5
    replace H := Option.bind_eq_some_iff.mp H
    obtain ⟨t225, A60, H⟩ := H
    replace H : ((manorboyref01_Valid.f a0).bind fun t226 => (if (t225 != t226) = true then (manorboylaw01_IntegerOperates.j0 k a0 a1 true) else (if t221 = t223 then (manorboylaw01_IntegerOperates.j0 k a0 a1 (t222 != t224)) else (manorboylaw01_IntegerOperates.j0 k a0 a1 true)))) = some r := H
    have A6 := Aside0.mk A60
    clear A60
    replace H := Option.bind_eq_some_iff.mp H
    obtain ⟨t226, A70, H⟩ := H
    replace H : (if (t225 != t226) = true then (manorboylaw01_IntegerOperates.j0 k a0 a1 true) else (if t221 = t223 then (manorboylaw01_IntegerOperates.j0 k a0 a1 (t222 != t224)) else (manorboylaw01_IntegerOperates.j0 k a0 a1 true))) = some r := H
    have A7 := Aside0.mk A70
    clear A70
    by_cases c8 : (t225 != t226) = true
    · rw [if_pos c8] at H
      have c8b0 : (t225 != t226) = true := c8
      (try (have c8b1 : decide (t225 = t226) = false := by simpa using c8))
      (try (have c8b2 : (t225 == t226) = false := by simpa using c8))
      (try (have c8b3 : ¬ (t225 = t226) := by simpa using c8))
      clear c8
      (first | rw [c8b0] | (simp only [i64_w, i32_w]; rw [c8b0]) | skip)
      have H' := Aside0.mk H
      clear H
      go_wp2_with (first | ((with_reducible refine gate_callee (f := 26) rfl ?_); refine goesL_ (some 20) rfl rfl Try.func26 (by kernel_rfl) rfl #[.int .i64 a0] rfl (by (try simp only [List.map_toArray, List.map_cons, List.map_nil]); first | done | rfl | (simp only [List.length_drop, List.length_take]; rfl)) ?_; (with_reducible refine (integer_Valid.calls a0 t225 _ A6.out).mono ?_); rintro e w' ⟨rfl, ⟨nd, rfl⟩⟩; refine ⟨_, rfl, ?_⟩) | ((with_reducible refine gate_callee (f := 33) rfl ?_); refine goesL_ (some 22) rfl rfl Try.func33 (by kernel_rfl) rfl #[.int .i64 a0] rfl (by (try simp only [List.map_toArray, List.map_cons, List.map_nil]); first | done | rfl | (simp only [List.length_drop, List.length_take]; rfl)) ?_; (with_reducible refine (manorboyref01_Valid.calls a0 t226 _ A7.out).mono ?_); rintro e w' ⟨rfl, ⟨nd, rfl⟩⟩; refine ⟨_, rfl, ?_⟩))
      go_meet
      case rel => exact ⟨_, (true), (by first | rfl | (simp; done) | (simp [*]; done)), H', ⟨by first | omega | exact Nat.le_refl _⟩, ⟨by repeat (first | (with_reducible first | exact HB.out | apply below_alloc | apply pw_below_drewN | apply below_drew1) | exact HB.out)⟩⟩
    · rw [if_neg c8] at H
      have c8b0 : (t225 != t226) = false := by simpa using c8
      (try (have c8b1 : decide (t225 = t226) = true := by simpa using c8))
      (try (have c8b2 : (t225 == t226) = true := by simpa using c8))
      clear c8
      (first | rw [c8b0] | (simp only [i64_w, i32_w]; rw [c8b0]) | skip)
      by_cases c9 : t221 = t223
      · rw [if_pos c9] at H
        have c9b0 : (t221 == t223) = true := beq_iff_eq.mpr c9
        have c9b1 : (t221 != t223) = false := bne_eq_false_iff_eq.mpr c9
        clear c9
        have H' := Aside0.mk H
        clear H
        go_wp2_with (first | ((with_reducible refine gate_callee (f := 26) rfl ?_); refine goesL_ (some 20) rfl rfl Try.func26 (by kernel_rfl) rfl #[.int .i64 a0] rfl (by (try simp only [List.map_toArray, List.map_cons, List.map_nil]); first | done | rfl | (simp only [List.length_drop, List.length_take]; rfl)) ?_; (with_reducible refine (integer_Valid.calls a0 t225 _ A6.out).mono ?_); rintro e w' ⟨rfl, ⟨nd, rfl⟩⟩; refine ⟨_, rfl, ?_⟩) | ((with_reducible refine gate_callee (f := 33) rfl ?_); refine goesL_ (some 22) rfl rfl Try.func33 (by kernel_rfl) rfl #[.int .i64 a0] rfl (by (try simp only [List.map_toArray, List.map_cons, List.map_nil]); first | done | rfl | (simp only [List.length_drop, List.length_take]; rfl)) ?_; (with_reducible refine (manorboyref01_Valid.calls a0 t226 _ A7.out).mono ?_); rintro e w' ⟨rfl, ⟨nd, rfl⟩⟩; refine ⟨_, rfl, ?_⟩))
        go_meet
        case rel => exact ⟨_, ((t222 != t224)), (by first | rfl | (simp; done) | (simp [*]; done)), H', ⟨by first | omega | exact Nat.le_refl _⟩, ⟨by repeat (first | (with_reducible first | exact HB.out | apply below_alloc | apply pw_below_drewN | apply below_drew1) | exact HB.out)⟩⟩
      · rw [if_neg c9] at H
        have c9b0 : (t221 == t223) = false := beq_eq_false_iff_ne.mpr c9
        have c9b1 : (t221 != t223) = true := bne_iff_ne.mpr c9
        have H' := Aside0.mk H
        clear H
        go_wp2_with (first | ((with_reducible refine gate_callee (f := 26) rfl ?_); refine goesL_ (some 20) rfl rfl Try.func26 (by kernel_rfl) rfl #[.int .i64 a0] rfl (by (try simp only [List.map_toArray, List.map_cons, List.map_nil]); first | done | rfl | (simp only [List.length_drop, List.length_take]; rfl)) ?_; (with_reducible refine (integer_Valid.calls a0 t225 _ A6.out).mono ?_); rintro e w' ⟨rfl, ⟨nd, rfl⟩⟩; refine ⟨_, rfl, ?_⟩) | ((with_reducible refine gate_callee (f := 33) rfl ?_); refine goesL_ (some 22) rfl rfl Try.func33 (by kernel_rfl) rfl #[.int .i64 a0] rfl (by (try simp only [List.map_toArray, List.map_cons, List.map_nil]); first | done | rfl | (simp only [List.length_drop, List.length_take]; rfl)) ?_; (with_reducible refine (manorboyref01_Valid.calls a0 t226 _ A7.out).mono ?_); rintro e w' ⟨rfl, ⟨nd, rfl⟩⟩; refine ⟨_, rfl, ?_⟩))
        go_meet
        case rel => exact ⟨_, (true), (by first | rfl | (simp; done) | (simp [*]; done)), H', ⟨by first | omega | exact Nat.le_refl _⟩, ⟨by repeat (first | (with_reducible first | exact HB.out | apply below_alloc | apply pw_below_drewN | apply below_drew1) | exact HB.out)⟩⟩
  case rest => as_aux_lemma =>
    clear HC5
    try clear c2
    try clear p2
    try clear c3
    try clear c7
    try clear c8
    try clear c8b0
    try clear c8b1
    try clear c8b2
    try clear c9
    try clear c9b0
    try clear c9b1
    obtain ⟨kq, x33_4, rfl, HA, HJ4, HB⟩ := hcut
    cases kq with
    | zero => exact absurd HA.out (by simp [manorboylaw01_IntegerOperates.j0])
    | succ kj4 =>
      have H := HA.out
      clear HA
      simp only [manorboylaw01_IntegerOperates.j0] at H
      by_cases c10 : x33_4 = true
      · subst c10
        have H1 : (some false) = some r := by rw [if_pos rfl] at H; exact H
        clear H
        have H := H1
        clear H1
        obtain rfl := Option.some.inj H
        go_wp2
        go_ret
        exact ⟨by first | rfl | (simp [errW_none, errW_some] <;> rfl) | (simp [*, errW_none, errW_some] <;> rfl), by repeat (first | (with_reducible first | exact HB.out | apply below_alloc | apply pw_below_drewN | apply below_drew1) | exact HB.out)⟩
      · replace c10 := Bool.eq_false_iff.mpr c10
        subst c10
        have H1 : ((integer_Abs.f a0).bind fun bt227 => ((manorboyref01_Abs.f a0).bind fun bt229 => (if bt227.1 = bt229.1 then (manorboylaw01_IntegerOperates.j1 kj4 a0 a1 (bt227.2 != bt229.2)) else (manorboylaw01_IntegerOperates.j1 kj4 a0 a1 true)))) = some r := by rw [if_neg (show ¬ (false = true) by decide)] at H; exact H
        clear H
        have H := H1
        clear H1
        replace H := Option.bind_eq_some_iff.mp H
        obtain ⟨⟨t227, t228⟩, A110, H⟩ := H
        replace H : ((manorboyref01_Abs.f a0).bind fun bt229 => (if t227 = bt229.1 then (manorboylaw01_IntegerOperates.j1 kj4 a0 a1 (t228 != bt229.2)) else (manorboylaw01_IntegerOperates.j1 kj4 a0 a1 true))) = some r := H
        have A11 := Aside0.mk A110
        clear A110
        replace H := Option.bind_eq_some_iff.mp H
        obtain ⟨⟨t229, t230⟩, A120, H⟩ := H
        replace H : (if t227 = t229 then (manorboylaw01_IntegerOperates.j1 kj4 a0 a1 (t228 != t230)) else (manorboylaw01_IntegerOperates.j1 kj4 a0 a1 true)) = some r := H
        have A12 := Aside0.mk A120
        clear A120
        have HC13 := Aside0.mk H
        clear H
        go_upto_region 7 with (first | ((with_reducible refine gate_callee (f := 34) rfl ?_); refine goesL_ (some 36) rfl rfl Try.func34 (by kernel_rfl) rfl #[.int .i64 a0] rfl (by (try simp only [List.map_toArray, List.map_cons, List.map_nil]); first | done | rfl | (simp only [List.length_drop, List.length_take]; rfl)) ?_; (with_reducible refine (integer_Abs.calls a0 t227 t228 _ A11.out).mono ?_); rintro e w' ⟨rfl, ⟨nd, rfl⟩⟩; refine ⟨_, rfl, ?_⟩) | ((with_reducible refine gate_callee (f := 35) rfl ?_); refine goesL_ (some 41) rfl rfl Try.func35 (by kernel_rfl) rfl #[.int .i64 a0] rfl (by (try simp only [List.map_toArray, List.map_cons, List.map_nil]); first | done | rfl | (simp only [List.length_drop, List.length_take]; rfl)) ?_; (with_reducible refine (manorboyref01_Abs.calls a0 t229 t230 _ A12.out).mono ?_); rintro e w14 ⟨rfl, hb⟩; refine ⟨_, rfl, ?_⟩; have n0_ := Aside0.mk (below_step (by repeat (first | (with_reducible first | exact HB.out | apply below_alloc | apply pw_below_drewN | apply below_drew1) | exact HB.out)) hb); clear HB; have HB := n0_; clear n0_; (try clear hb); (try clear hb2); (try clear hk); (try clear hi)))
        (try simp only [Act.put, List.setIfInBounds_toArray, List.set_cons_zero, List.set_cons_succ])
        go_cut [51] (fun v51 wc => ∃ (kq : Nat) (x51_12 : Bool), v51 = .bool x51_12 ∧ Aside0 (manorboylaw01_IntegerOperates.j1 kq a0 a1 x51_12 = some r) ∧ Aside0 (kq ≤ kj4) ∧ Aside0 (Below w.heap.size w wc))
        case first => as_aux_lemma =>
          have H := HC13.out
          clear HC13
          by_cases c15 : t227 = t229
          · rw [if_pos c15] at H
            have c15b0 : (t227 == t229) = true := beq_iff_eq.mpr c15
            have c15b1 : (t227 != t229) = false := bne_eq_false_iff_eq.mpr c15
            clear c15
            (first | rw [c15b0] | (simp only [i64_w, i32_w]; rw [c15b0]) | skip)
            have H' := Aside0.mk H
            clear H
            go_wp2
            go_meet
            case rel => exact ⟨_, ((t228 != t230)), (by first | rfl | (simp; done) | (simp [*]; done)), H', ⟨by have := HJ4.out; first | omega | exact Nat.le_refl _⟩, ⟨by repeat (first | (with_reducible first | exact HB.out | apply below_alloc | apply pw_below_drewN | apply below_drew1) | exact HB.out)⟩⟩
          · rw [if_neg c15] at H
            have c15b0 : (t227 == t229) = false := beq_eq_false_iff_ne.mpr c15
            have c15b1 : (t227 != t229) = true := bne_iff_ne.mpr c15
            (first | rw [c15b0] | (simp only [i64_w, i32_w]; rw [c15b0]) | skip)
            have H' := Aside0.mk H
            clear H
            go_wp2
            go_meet
            case rel => exact ⟨_, (true), (by first | rfl | (simp; done) | (simp [*]; done)), H', ⟨by have := HJ4.out; first | omega | exact Nat.le_refl _⟩, ⟨by repeat (first | (with_reducible first | exact HB.out | apply below_alloc | apply pw_below_drewN | apply below_drew1) | exact HB.out)⟩⟩
        case rest => as_aux_lemma =>
          clear HC13
          try clear c1
          try clear c2
          try clear p2
          try clear c3
          try clear c7
          try clear c8
          try clear c8b0
          try clear c8b1
          try clear c8b2
          try clear c9
          try clear c9b0
          try clear c9b1
          try clear c10
          try clear c15
          try clear c15b0
          try clear c15b1
          try clear p2
          obtain ⟨kq, x51_12, rfl, HA, HJ12, HB⟩ := hcut
          cases kq with
          | zero => exact absurd HA.out (by simp [manorboylaw01_IntegerOperates.j1])
          | succ kj12 =>
            have H := HA.out
            clear HA
            simp only [manorboylaw01_IntegerOperates.j1] at H
            by_cases c16 : x51_12 = true
            · subst c16
              have H1 : (some false) = some r := by rw [if_pos rfl] at H; exact H
              clear H
              have H := H1
              clear H1
              obtain rfl := Option.some.inj H
              go_wp2
              go_ret
              exact ⟨by first | rfl | (simp [errW_none, errW_some] <;> rfl) | (simp [*, errW_none, errW_some] <;> rfl), by repeat (first | (with_reducible first | exact HB.out | apply below_alloc | apply pw_below_drewN | apply below_drew1) | exact HB.out)⟩
            · replace c16 := Bool.eq_false_iff.mpr c16
              subst c16
              have H1 : ((integer_Sign.f a0).bind fun bt231 => ((manorboyref01_Sign.f kj12 a0).bind fun bt233 => (if bt231.1 = bt233.1 then (manorboylaw01_IntegerOperates.j2 kj12 a0 a1 (bt231.2 != bt233.2)) else (manorboylaw01_IntegerOperates.j2 kj12 a0 a1 true)))) = some r := by rw [if_neg (show ¬ (false = true) by decide)] at H; exact H
              clear H
              have H := H1
              clear H1
              replace H := Option.bind_eq_some_iff.mp H
              obtain ⟨⟨t231, t232⟩, A170, H⟩ := H
              replace H : ((manorboyref01_Sign.f kj12 a0).bind fun bt233 => (if t231 = bt233.1 then (manorboylaw01_IntegerOperates.j2 kj12 a0 a1 (t232 != bt233.2)) else (manorboylaw01_IntegerOperates.j2 kj12 a0 a1 true))) = some r := H
              have A17 := Aside0.mk A170
              clear A170
              replace H := Option.bind_eq_some_iff.mp H
              obtain ⟨⟨t233, t234⟩, A180, H⟩ := H
              replace H : (if t231 = t233 then (manorboylaw01_IntegerOperates.j2 kj12 a0 a1 (t232 != t234)) else (manorboylaw01_IntegerOperates.j2 kj12 a0 a1 true)) = some r := H
              have A18 := Aside0.mk A180
              clear A180
              have HC19 := Aside0.mk H
              clear H
              go_upto_region 11 with (first | ((with_reducible refine gate_callee (f := 30) rfl ?_); refine goesL_ (some 54) rfl rfl Try.func30 (by kernel_rfl) rfl #[.int .i64 a0] rfl (by (try simp only [List.map_toArray, List.map_cons, List.map_nil]); first | done | rfl | (simp only [List.length_drop, List.length_take]; rfl)) ?_; (with_reducible refine (integer_Sign.calls a0 t231 t232 _ A17.out).mono ?_); rintro e w' ⟨rfl, ⟨nd, rfl⟩⟩; refine ⟨_, rfl, ?_⟩) | ((with_reducible refine gate_callee (f := 36) rfl ?_); refine goesL_ (some 59) rfl rfl Try.func36 (by kernel_rfl) rfl #[.int .i64 a0] rfl (by (try simp only [List.map_toArray, List.map_cons, List.map_nil]); first | done | rfl | (simp only [List.length_drop, List.length_take]; rfl)) ?_; (with_reducible refine (manorboyref01_Sign.calls kj12 a0 t233 t234 _ A18.out).mono ?_); rintro e w' ⟨rfl, ⟨nd, rfl⟩⟩; refine ⟨_, rfl, ?_⟩))
              (try simp only [Act.put, List.setIfInBounds_toArray, List.set_cons_zero, List.set_cons_succ])
              go_cut [69] (fun v69 wc => ∃ (kq : Nat) (x69_18 : Bool), v69 = .bool x69_18 ∧ Aside0 (manorboylaw01_IntegerOperates.j2 kq a0 a1 x69_18 = some r) ∧ Aside0 (kq ≤ kj12) ∧ Aside0 (Below w.heap.size w wc))
              case first => as_aux_lemma =>
                have H := HC19.out
                clear HC19
                by_cases c20 : t231 = t233
                · rw [if_pos c20] at H
                  have c20b0 : (t231 == t233) = true := beq_iff_eq.mpr c20
                  have c20b1 : (t231 != t233) = false := bne_eq_false_iff_eq.mpr c20
                  clear c20
                  (first | rw [c20b0] | (simp only [i64_w, i32_w]; rw [c20b0]) | skip)
                  have H' := Aside0.mk H
                  clear H
                  go_wp2
                  go_meet
                  case rel => exact ⟨_, ((t232 != t234)), (by first | rfl | (simp; done) | (simp [*]; done)), H', ⟨by have := HJ4.out; have := HJ12.out; first | omega | exact Nat.le_refl _⟩, ⟨by repeat (first | (with_reducible first | exact HB.out | apply below_alloc | apply pw_below_drewN | apply below_drew1) | exact HB.out)⟩⟩
                · rw [if_neg c20] at H
                  have c20b0 : (t231 == t233) = false := beq_eq_false_iff_ne.mpr c20
                  have c20b1 : (t231 != t233) = true := bne_iff_ne.mpr c20
                  (first | rw [c20b0] | (simp only [i64_w, i32_w]; rw [c20b0]) | skip)
                  have H' := Aside0.mk H
                  clear H
                  go_wp2
                  go_meet
                  case rel => exact ⟨_, (true), (by first | rfl | (simp; done) | (simp [*]; done)), H', ⟨by have := HJ4.out; have := HJ12.out; first | omega | exact Nat.le_refl _⟩, ⟨by repeat (first | (with_reducible first | exact HB.out | apply below_alloc | apply pw_below_drewN | apply below_drew1) | exact HB.out)⟩⟩
              case rest => as_aux_lemma =>
                clear HC19
                try clear c1
                try clear c2
                try clear p2
                try clear c3
                try clear c7
                try clear c8
                try clear c8b0
                try clear c8b1
                try clear c8b2
                try clear c9
                try clear c9b0
                try clear c9b1
                try clear c10
                try clear c15
                try clear c15b0
                try clear c15b1
                try clear c16
                try clear c20
                try clear c20b0
                try clear c20b1
                try clear p2
                obtain ⟨kq, x69_18, rfl, HA, HJ18, HB⟩ := hcut
                cases kq with
                | zero => exact absurd HA.out (by simp [manorboylaw01_IntegerOperates.j2])
                | succ kj18 =>
                  have H := HA.out
                  clear HA
                  simp only [manorboylaw01_IntegerOperates.j2] at H
                  by_cases c21 : x69_18 = true
                  · subst c21
                    have H1 : (some false) = some r := by rw [if_pos rfl] at H; exact H
                    clear H
                    have H := H1
                    clear H1
                    obtain rfl := Option.some.inj H
                    go_wp2
                    go_ret
                    exact ⟨by first | rfl | (simp [errW_none, errW_some] <;> rfl) | (simp [*, errW_none, errW_some] <;> rfl), by repeat (first | (with_reducible first | exact HB.out | apply below_alloc | apply pw_below_drewN | apply below_drew1) | exact HB.out)⟩
                  · replace c21 := Bool.eq_false_iff.mpr c21
                    subst c21
                    have H1 : ((integer_Add.f a0 a1).bind fun bt235 => ((manorboyref01_Add.f a0 a1).bind fun bt237 => (if bt235.1 = bt237.1 then (manorboylaw01_IntegerOperates.j3 kj18 a0 a1 (bt235.2 != bt237.2)) else (manorboylaw01_IntegerOperates.j3 kj18 a0 a1 true)))) = some r := by rw [if_neg (show ¬ (false = true) by decide)] at H; exact H
                    clear H
                    have H := H1
                    clear H1
                    replace H := Option.bind_eq_some_iff.mp H
                    obtain ⟨⟨t235, t236⟩, A220, H⟩ := H
                    replace H : ((manorboyref01_Add.f a0 a1).bind fun bt237 => (if t235 = bt237.1 then (manorboylaw01_IntegerOperates.j3 kj18 a0 a1 (t236 != bt237.2)) else (manorboylaw01_IntegerOperates.j3 kj18 a0 a1 true))) = some r := H
                    have A22 := Aside0.mk A220
                    clear A220
                    replace H := Option.bind_eq_some_iff.mp H
                    obtain ⟨⟨t237, t238⟩, A230, H⟩ := H
                    replace H : (if t235 = t237 then (manorboylaw01_IntegerOperates.j3 kj18 a0 a1 (t236 != t238)) else (manorboylaw01_IntegerOperates.j3 kj18 a0 a1 true)) = some r := H
                    have A23 := Aside0.mk A230
                    clear A230
                    have HC24 := Aside0.mk H
                    clear H
                    go_upto_region 15 with (first | ((with_reducible refine gate_callee (f := 19) rfl ?_); refine goesL_ (some 73) rfl rfl Try.func19 (by kernel_rfl) rfl #[.int .i64 a0, .int .i64 a1] rfl (by (try simp only [List.map_toArray, List.map_cons, List.map_nil]); first | done | rfl | (simp only [List.length_drop, List.length_take]; rfl)) ?_; (with_reducible refine (integer_Add.calls a0 a1 t235 t236 _ A22.out).mono ?_); rintro e w25 ⟨rfl, hb⟩; refine ⟨_, rfl, ?_⟩; have n0_ := Aside0.mk (below_step (by repeat (first | (with_reducible first | exact HB.out | apply below_alloc | apply pw_below_drewN | apply below_drew1) | exact HB.out)) hb); clear HB; have HB := n0_; clear n0_; (try clear hb); (try clear hb2); (try clear hk); (try clear hi)) | ((with_reducible refine gate_callee (f := 37) rfl ?_); refine goesL_ (some 79) rfl rfl Try.func37 (by kernel_rfl) rfl #[.int .i64 a0, .int .i64 a1] rfl (by (try simp only [List.map_toArray, List.map_cons, List.map_nil]); first | done | rfl | (simp only [List.length_drop, List.length_take]; rfl)) ?_; (with_reducible refine (manorboyref01_Add.calls a0 a1 t237 t238 _ A23.out).mono ?_); rintro e w' ⟨rfl, ⟨nd, rfl⟩⟩; refine ⟨_, rfl, ?_⟩))
                    (try simp only [Act.put, List.setIfInBounds_toArray, List.set_cons_zero, List.set_cons_succ])
                    go_cut [89] (fun v89 wc => ∃ (kq : Nat) (x89_23 : Bool), v89 = .bool x89_23 ∧ Aside0 (manorboylaw01_IntegerOperates.j3 kq a0 a1 x89_23 = some r) ∧ Aside0 (kq ≤ kj18) ∧ Aside0 (Below w.heap.size w wc))
                    case first => as_aux_lemma =>
                      have H := HC24.out
                      clear HC24
                      by_cases c26 : t235 = t237
                      · rw [if_pos c26] at H
                        have c26b0 : (t235 == t237) = true := beq_iff_eq.mpr c26
                        have c26b1 : (t235 != t237) = false := bne_eq_false_iff_eq.mpr c26
                        clear c26
                        (first | rw [c26b0] | (simp only [i64_w, i32_w]; rw [c26b0]) | skip)
                        have H' := Aside0.mk H
                        clear H
                        go_wp2
                        go_meet
                        case rel => exact ⟨_, ((t236 != t238)), (by first | rfl | (simp; done) | (simp [*]; done)), H', ⟨by have := HJ4.out; have := HJ12.out; have := HJ18.out; first | omega | exact Nat.le_refl _⟩, ⟨by repeat (first | (with_reducible first | exact HB.out | apply below_alloc | apply pw_below_drewN | apply below_drew1) | exact HB.out)⟩⟩
                      · rw [if_neg c26] at H
                        have c26b0 : (t235 == t237) = false := beq_eq_false_iff_ne.mpr c26
                        have c26b1 : (t235 != t237) = true := bne_iff_ne.mpr c26
                        (first | rw [c26b0] | (simp only [i64_w, i32_w]; rw [c26b0]) | skip)
                        have H' := Aside0.mk H
                        clear H
                        go_wp2
                        go_meet
                        case rel => exact ⟨_, (true), (by first | rfl | (simp; done) | (simp [*]; done)), H', ⟨by have := HJ4.out; have := HJ12.out; have := HJ18.out; first | omega | exact Nat.le_refl _⟩, ⟨by repeat (first | (with_reducible first | exact HB.out | apply below_alloc | apply pw_below_drewN | apply below_drew1) | exact HB.out)⟩⟩
                    case rest => as_aux_lemma =>
                      clear HC24
                      try clear c1
                      try clear c2
                      try clear p2
                      try clear c3
                      try clear c7
                      try clear c8
                      try clear c8b0
                      try clear c8b1
                      try clear c8b2
                      try clear c9
                      try clear c9b0
                      try clear c9b1
                      try clear c10
                      try clear c15
                      try clear c15b0
                      try clear c15b1
                      try clear c16
                      try clear c19
                      try clear c20
                      try clear c20b0
                      try clear c20b1
                      try clear c21
                      try clear c26
                      try clear c26b0
                      try clear c26b1
                      try clear p2
                      obtain ⟨kq, x89_23, rfl, HA, HJ23, HB⟩ := hcut
                      cases kq with
                      | zero => exact absurd HA.out (by simp [manorboylaw01_IntegerOperates.j3])
                      | succ kj23 =>
                        have H := HA.out
                        clear HA
                        simp only [manorboylaw01_IntegerOperates.j3] at H
                        by_cases c27 : x89_23 = true
                        · subst c27
                          have H1 : (some false) = some r := by rw [if_pos rfl] at H; exact H
                          clear H
                          have H := H1
                          clear H1
                          obtain rfl := Option.some.inj H
                          go_wp2
                          go_ret
                          exact ⟨by first | rfl | (simp [errW_none, errW_some] <;> rfl) | (simp [*, errW_none, errW_some] <;> rfl), by repeat (first | (with_reducible first | exact HB.out | apply below_alloc | apply pw_below_drewN | apply below_drew1) | exact HB.out)⟩
                        · replace c27 := Bool.eq_false_iff.mpr c27
                          subst c27
                          have H1 : ((integer_Sub.f a0 a1).bind fun bt239 => ((manorboyref01_Sub.f a0 a1).bind fun bt241 => (if bt239.1 = bt241.1 then (manorboylaw01_IntegerOperates.j4 kj23 a0 a1 (bt239.2 != bt241.2)) else (manorboylaw01_IntegerOperates.j4 kj23 a0 a1 true)))) = some r := by rw [if_neg (show ¬ (false = true) by decide)] at H; exact H
                          clear H
                          have H := H1
                          clear H1
                          replace H := Option.bind_eq_some_iff.mp H
                          obtain ⟨⟨t239, t240⟩, A280, H⟩ := H
                          replace H : ((manorboyref01_Sub.f a0 a1).bind fun bt241 => (if t239 = bt241.1 then (manorboylaw01_IntegerOperates.j4 kj23 a0 a1 (t240 != bt241.2)) else (manorboylaw01_IntegerOperates.j4 kj23 a0 a1 true))) = some r := H
                          have A28 := Aside0.mk A280
                          clear A280
                          replace H := Option.bind_eq_some_iff.mp H
                          obtain ⟨⟨t241, t242⟩, A290, H⟩ := H
                          replace H : (if t239 = t241 then (manorboylaw01_IntegerOperates.j4 kj23 a0 a1 (t240 != t242)) else (manorboylaw01_IntegerOperates.j4 kj23 a0 a1 true)) = some r := H
                          have A29 := Aside0.mk A290
                          clear A290
                          have HC30 := Aside0.mk H
                          clear H
                          go_upto_region 19 with (first | ((with_reducible refine gate_callee (f := 21) rfl ?_); refine goesL_ (some 93) rfl rfl Try.func21 (by kernel_rfl) rfl #[.int .i64 a0, .int .i64 a1] rfl (by (try simp only [List.map_toArray, List.map_cons, List.map_nil]); first | done | rfl | (simp only [List.length_drop, List.length_take]; rfl)) ?_; (with_reducible refine (integer_Sub.calls a0 a1 t239 t240 _ A28.out).mono ?_); rintro e w31 ⟨rfl, hb⟩; refine ⟨_, rfl, ?_⟩; have n0_ := Aside0.mk (below_step (by repeat (first | (with_reducible first | exact HB.out | apply below_alloc | apply pw_below_drewN | apply below_drew1) | exact HB.out)) hb); clear HB; have HB := n0_; clear n0_; (try clear hb); (try clear hb2); (try clear hk); (try clear hi)) | ((with_reducible refine gate_callee (f := 38) rfl ?_); refine goesL_ (some 99) rfl rfl Try.func38 (by kernel_rfl) rfl #[.int .i64 a0, .int .i64 a1] rfl (by (try simp only [List.map_toArray, List.map_cons, List.map_nil]); first | done | rfl | (simp only [List.length_drop, List.length_take]; rfl)) ?_; (with_reducible refine (manorboyref01_Sub.calls a0 a1 t241 t242 _ A29.out).mono ?_); rintro e w' ⟨rfl, ⟨nd, rfl⟩⟩; refine ⟨_, rfl, ?_⟩))
                          (try simp only [Act.put, List.setIfInBounds_toArray, List.set_cons_zero, List.set_cons_succ])
                          go_cut [109] (fun v109 wc => ∃ (kq : Nat) (x109_29 : Bool), v109 = .bool x109_29 ∧ Aside0 (manorboylaw01_IntegerOperates.j4 kq a0 a1 x109_29 = some r) ∧ Aside0 (kq ≤ kj23) ∧ Aside0 (Below w.heap.size w wc))
                          case first => as_aux_lemma =>
                            have H := HC30.out
                            clear HC30
                            by_cases c32 : t239 = t241
                            · rw [if_pos c32] at H
                              have c32b0 : (t239 == t241) = true := beq_iff_eq.mpr c32
                              have c32b1 : (t239 != t241) = false := bne_eq_false_iff_eq.mpr c32
                              clear c32
                              (first | rw [c32b0] | (simp only [i64_w, i32_w]; rw [c32b0]) | skip)
                              have H' := Aside0.mk H
                              clear H
                              go_wp2
                              go_meet
                              case rel => exact ⟨_, ((t240 != t242)), (by first | rfl | (simp; done) | (simp [*]; done)), H', ⟨by have := HJ4.out; have := HJ12.out; have := HJ18.out; have := HJ23.out; first | omega | exact Nat.le_refl _⟩, ⟨by repeat (first | (with_reducible first | exact HB.out | apply below_alloc | apply pw_below_drewN | apply below_drew1) | exact HB.out)⟩⟩
                            · rw [if_neg c32] at H
                              have c32b0 : (t239 == t241) = false := beq_eq_false_iff_ne.mpr c32
                              have c32b1 : (t239 != t241) = true := bne_iff_ne.mpr c32
                              (first | rw [c32b0] | (simp only [i64_w, i32_w]; rw [c32b0]) | skip)
                              have H' := Aside0.mk H
                              clear H
                              go_wp2
                              go_meet
                              case rel => exact ⟨_, (true), (by first | rfl | (simp; done) | (simp [*]; done)), H', ⟨by have := HJ4.out; have := HJ12.out; have := HJ18.out; have := HJ23.out; first | omega | exact Nat.le_refl _⟩, ⟨by repeat (first | (with_reducible first | exact HB.out | apply below_alloc | apply pw_below_drewN | apply below_drew1) | exact HB.out)⟩⟩
                          case rest => as_aux_lemma =>
                            clear HC30
                            try clear c1
                            try clear c2
                            try clear p2
                            try clear c3
                            try clear c7
                            try clear c8
                            try clear c8b0
                            try clear c8b1
                            try clear c8b2
                            try clear c9
                            try clear c9b0
                            try clear c9b1
                            try clear c10
                            try clear c15
                            try clear c15b0
                            try clear c15b1
                            try clear c16
                            try clear c19
                            try clear c20
                            try clear c20b0
                            try clear c20b1
                            try clear c21
                            try clear c26
                            try clear c26b0
                            try clear c26b1
                            try clear c27
                            try clear c30
                            try clear c31
                            try clear c32
                            try clear c32b0
                            try clear c32b1
                            try clear p2
                            obtain ⟨kq, x109_29, rfl, HA, HJ29, HB⟩ := hcut
                            cases kq with
                            | zero => exact absurd HA.out (by simp [manorboylaw01_IntegerOperates.j4])
                            | succ kj29 =>
                              have H := HA.out
                              clear HA
                              simp only [manorboylaw01_IntegerOperates.j4] at H
                              by_cases c33 : x109_29 = true
                              · subst c33
                                have H1 : (some false) = some r := by rw [if_pos rfl] at H; exact H
                                clear H
                                have H := H1
                                clear H1
                                obtain rfl := Option.some.inj H
                                go_wp2
                                go_ret
                                exact ⟨by first | rfl | (simp [errW_none, errW_some] <;> rfl) | (simp [*, errW_none, errW_some] <;> rfl), by repeat (first | (with_reducible first | exact HB.out | apply below_alloc | apply pw_below_drewN | apply below_drew1) | exact HB.out)⟩
                              · replace c33 := Bool.eq_false_iff.mpr c33
                                subst c33
                                have H1 : ((integer_Mul.f a0 a1).bind fun bt243 => ((manorboyref01_Mul.f a0 a1).bind fun bt245 => (if bt243.1 = bt245.1 then (manorboylaw01_IntegerOperates.j5 kj29 a0 a1 (bt243.2 != bt245.2)) else (manorboylaw01_IntegerOperates.j5 kj29 a0 a1 true)))) = some r := by rw [if_neg (show ¬ (false = true) by decide)] at H; exact H
                                clear H
                                have H := H1
                                clear H1
                                replace H := Option.bind_eq_some_iff.mp H
                                obtain ⟨⟨t243, t244⟩, A340, H⟩ := H
                                replace H : ((manorboyref01_Mul.f a0 a1).bind fun bt245 => (if t243 = bt245.1 then (manorboylaw01_IntegerOperates.j5 kj29 a0 a1 (t244 != bt245.2)) else (manorboylaw01_IntegerOperates.j5 kj29 a0 a1 true))) = some r := H
                                have A34 := Aside0.mk A340
                                clear A340
                                replace H := Option.bind_eq_some_iff.mp H
                                obtain ⟨⟨t245, t246⟩, A350, H⟩ := H
                                replace H : (if t243 = t245 then (manorboylaw01_IntegerOperates.j5 kj29 a0 a1 (t244 != t246)) else (manorboylaw01_IntegerOperates.j5 kj29 a0 a1 true)) = some r := H
                                have A35 := Aside0.mk A350
                                clear A350
                                have HC36 := Aside0.mk H
                                clear H
                                go_upto_region 23 with (first | ((with_reducible refine gate_callee (f := 20) rfl ?_); refine goesL_ (some 113) rfl rfl Try.func20 (by kernel_rfl) rfl #[.int .i64 a0, .int .i64 a1] rfl (by (try simp only [List.map_toArray, List.map_cons, List.map_nil]); first | done | rfl | (simp only [List.length_drop, List.length_take]; rfl)) ?_; (with_reducible refine (integer_Mul.calls a0 a1 t243 t244 _ A34.out).mono ?_); rintro e w37 ⟨rfl, hb⟩; refine ⟨_, rfl, ?_⟩; have n0_ := Aside0.mk (below_step (by repeat (first | (with_reducible first | exact HB.out | apply below_alloc | apply pw_below_drewN | apply below_drew1) | exact HB.out)) hb); clear HB; have HB := n0_; clear n0_; (try clear hb); (try clear hb2); (try clear hk); (try clear hi)) | ((with_reducible refine gate_callee (f := 39) rfl ?_); refine goesL_ (some 119) rfl rfl Try.func39 (by kernel_rfl) rfl #[.int .i64 a0, .int .i64 a1] rfl (by (try simp only [List.map_toArray, List.map_cons, List.map_nil]); first | done | rfl | (simp only [List.length_drop, List.length_take]; rfl)) ?_; (with_reducible refine (manorboyref01_Mul.calls a0 a1 t245 t246 _ A35.out).mono ?_); rintro e w' ⟨rfl, ⟨nd, rfl⟩⟩; refine ⟨_, rfl, ?_⟩))
                                (try simp only [Act.put, List.setIfInBounds_toArray, List.set_cons_zero, List.set_cons_succ])
                                go_cut [129] (fun v129 wc => ∃ (kq : Nat) (x129_35 : Bool), v129 = .bool x129_35 ∧ Aside0 (manorboylaw01_IntegerOperates.j5 kq a0 a1 x129_35 = some r) ∧ Aside0 (kq ≤ kj29) ∧ Aside0 (Below w.heap.size w wc))
                                case first => as_aux_lemma =>
                                  have H := HC36.out
                                  clear HC36
                                  by_cases c38 : t243 = t245
                                  · rw [if_pos c38] at H
                                    have c38b0 : (t243 == t245) = true := beq_iff_eq.mpr c38
                                    have c38b1 : (t243 != t245) = false := bne_eq_false_iff_eq.mpr c38
                                    clear c38
                                    (first | rw [c38b0] | (simp only [i64_w, i32_w]; rw [c38b0]) | skip)
                                    have H' := Aside0.mk H
                                    clear H
                                    go_wp2
                                    go_meet
                                    case rel => exact ⟨_, ((t244 != t246)), (by first | rfl | (simp; done) | (simp [*]; done)), H', ⟨by have := HJ4.out; have := HJ12.out; have := HJ18.out; have := HJ23.out; have := HJ29.out; first | omega | exact Nat.le_refl _⟩, ⟨by repeat (first | (with_reducible first | exact HB.out | apply below_alloc | apply pw_below_drewN | apply below_drew1) | exact HB.out)⟩⟩
                                  · rw [if_neg c38] at H
                                    have c38b0 : (t243 == t245) = false := beq_eq_false_iff_ne.mpr c38
                                    have c38b1 : (t243 != t245) = true := bne_iff_ne.mpr c38
                                    (first | rw [c38b0] | (simp only [i64_w, i32_w]; rw [c38b0]) | skip)
                                    have H' := Aside0.mk H
                                    clear H
                                    go_wp2
                                    go_meet
                                    case rel => exact ⟨_, (true), (by first | rfl | (simp; done) | (simp [*]; done)), H', ⟨by have := HJ4.out; have := HJ12.out; have := HJ18.out; have := HJ23.out; have := HJ29.out; first | omega | exact Nat.le_refl _⟩, ⟨by repeat (first | (with_reducible first | exact HB.out | apply below_alloc | apply pw_below_drewN | apply below_drew1) | exact HB.out)⟩⟩
                                case rest => as_aux_lemma =>
                                  clear HC36
                                  try clear c1
                                  try clear c2
                                  try clear p2
                                  try clear c3
                                  try clear c7
                                  try clear c8
                                  try clear c8b0
                                  try clear c8b1
                                  try clear c8b2
                                  try clear c9
                                  try clear c9b0
                                  try clear c9b1
                                  try clear c10
                                  try clear c15
                                  try clear c15b0
                                  try clear c15b1
                                  try clear c16
                                  try clear c19
                                  try clear c20
                                  try clear c20b0
                                  try clear c20b1
                                  try clear c21
                                  try clear c26
                                  try clear c26b0
                                  try clear c26b1
                                  try clear c27
                                  try clear c30
                                  try clear c31
                                  try clear c32
                                  try clear c32b0
                                  try clear c32b1
                                  try clear c33
                                  try clear c34
                                  try clear c35
                                  try clear c36
                                  try clear c37
                                  try clear c38
                                  try clear c38b0
                                  try clear c38b1
                                  try clear p2
                                  obtain ⟨kq, x129_35, rfl, HA, HJ35, HB⟩ := hcut
                                  cases kq with
                                  | zero => exact absurd HA.out (by simp [manorboylaw01_IntegerOperates.j5])
                                  | succ kj35 =>
                                    have H := HA.out
                                    clear HA
                                    simp only [manorboylaw01_IntegerOperates.j5] at H
                                    by_cases c39 : x129_35 = true
                                    · subst c39
                                      have H1 : (some false) = some r := by rw [if_pos rfl] at H; exact H
                                      clear H
                                      have H := H1
                                      clear H1
                                      obtain rfl := Option.some.inj H
                                      go_wp2
                                      go_ret
                                      exact ⟨by first | rfl | (simp [errW_none, errW_some] <;> rfl) | (simp [*, errW_none, errW_some] <;> rfl), by repeat (first | (with_reducible first | exact HB.out | apply below_alloc | apply pw_below_drewN | apply below_drew1) | exact HB.out)⟩
                                    · replace c39 := Bool.eq_false_iff.mpr c39
                                      subst c39
                                      have H1 : ((integer_Cmp.f a0 a1).bind fun bt247 => ((manorboyref01_Cmp.f kj35 a0 a1).bind fun bt249 => ((manorboylaw01_awake.f kj35).bind fun t251 => (if t251 = true then (if bt247.1 = bt249.1 then (some (bt247.2 == bt249.2)) else (some false)) else (some false))))) = some r := by rw [if_neg (show ¬ (false = true) by decide)] at H; exact H
                                      clear H
                                      have H := H1
                                      clear H1
                                      replace H := Option.bind_eq_some_iff.mp H
                                      obtain ⟨⟨t247, t248⟩, A400, H⟩ := H
                                      replace H : ((manorboyref01_Cmp.f kj35 a0 a1).bind fun bt249 => ((manorboylaw01_awake.f kj35).bind fun t251 => (if t251 = true then (if t247 = bt249.1 then (some (t248 == bt249.2)) else (some false)) else (some false)))) = some r := H
                                      have A40 := Aside0.mk A400
                                      clear A400
                                      replace H := Option.bind_eq_some_iff.mp H
                                      obtain ⟨⟨t249, t250⟩, A410, H⟩ := H
                                      replace H : ((manorboylaw01_awake.f kj35).bind fun t251 => (if t251 = true then (if t247 = t249 then (some (t248 == t250)) else (some false)) else (some false))) = some r := H
                                      have A41 := Aside0.mk A410
                                      clear A410
                                      replace H := Option.bind_eq_some_iff.mp H
                                      obtain ⟨t251, A420, H⟩ := H
                                      replace H : (if t251 = true then (if t247 = t249 then (some (t248 == t250)) else (some false)) else (some false)) = some r := H
                                      have A42 := Aside0.mk A420
                                      clear A420
                                      by_cases c43 : t251 = true
                                      · subst c43
                                        have H1 : (if t247 = t249 then (some (t248 == t250)) else (some false)) = some r := by rw [if_pos rfl] at H; exact H
                                        clear H
                                        have H := H1
                                        clear H1
                                        by_cases c44 : t247 = t249
                                        · rw [if_pos c44] at H
                                          have c44b0 : (t247 == t249) = true := beq_iff_eq.mpr c44
                                          have c44b1 : (t247 != t249) = false := bne_eq_false_iff_eq.mpr c44
                                          clear c44
                                          obtain rfl := Option.some.inj H
                                          go_wp2_with (first | ((with_reducible refine gate_callee (f := 29) rfl ?_); refine goesL_ (some 133) rfl rfl Try.func29 (by kernel_rfl) rfl #[.int .i64 a0, .int .i64 a1] rfl (by (try simp only [List.map_toArray, List.map_cons, List.map_nil]); first | done | rfl | (simp only [List.length_drop, List.length_take]; rfl)) ?_; (with_reducible refine (integer_Cmp.calls a0 a1 t247 t248 _ A40.out).mono ?_); rintro e w45 ⟨rfl, hb⟩; refine ⟨_, rfl, ?_⟩; have n0_ := Aside0.mk (below_step (by repeat (first | (with_reducible first | exact HB.out | apply below_alloc | apply pw_below_drewN | apply below_drew1) | exact HB.out)) hb); clear HB; have HB := n0_; clear n0_; (try clear hb); (try clear hb2); (try clear hk); (try clear hi)) | ((with_reducible refine gate_callee (f := 40) rfl ?_); refine goesL_ (some 139) rfl rfl Try.func40 (by kernel_rfl) rfl #[.int .i64 a0, .int .i64 a1] rfl (by (try simp only [List.map_toArray, List.map_cons, List.map_nil]); first | done | rfl | (simp only [List.length_drop, List.length_take]; rfl)) ?_; (with_reducible refine (manorboyref01_Cmp.calls kj35 a0 a1 t249 t250 _ A41.out).mono ?_); rintro e w' ⟨rfl, ⟨nd, rfl⟩⟩; refine ⟨_, rfl, ?_⟩) | ((with_reducible refine gate_callee (f := 18) rfl ?_); refine goesL_ (some 142) rfl rfl Try.func18 (by kernel_rfl) rfl #[] rfl (by (try simp only [List.map_toArray, List.map_cons, List.map_nil]); first | done | rfl | (simp only [List.length_drop, List.length_take]; rfl)) ?_; (with_reducible refine (manorboylaw01_awake.calls kj35  true _ A42.out).mono ?_); rintro e w46 ⟨rfl, hb⟩; refine ⟨_, rfl, ?_⟩; have n0_ := Aside0.mk (below_step (by repeat (first | (with_reducible first | exact HB.out | apply below_alloc | apply pw_below_drewN | apply below_drew1) | exact HB.out)) hb); clear HB; have HB := n0_; clear n0_; (try clear hb); (try clear hb2); (try clear hk); (try clear hi)))
                                          go_ret
                                          exact ⟨by first | rfl | (simp [errW_none, errW_some] <;> rfl) | (simp [*, errW_none, errW_some] <;> rfl), by repeat (first | (with_reducible first | exact HB.out | apply below_alloc | apply pw_below_drewN | apply below_drew1) | exact HB.out)⟩
                                        · rw [if_neg c44] at H
                                          have c44b0 : (t247 == t249) = false := beq_eq_false_iff_ne.mpr c44
                                          have c44b1 : (t247 != t249) = true := bne_iff_ne.mpr c44
                                          obtain rfl := Option.some.inj H
                                          go_wp2_with (first | ((with_reducible refine gate_callee (f := 29) rfl ?_); refine goesL_ (some 133) rfl rfl Try.func29 (by kernel_rfl) rfl #[.int .i64 a0, .int .i64 a1] rfl (by (try simp only [List.map_toArray, List.map_cons, List.map_nil]); first | done | rfl | (simp only [List.length_drop, List.length_take]; rfl)) ?_; (with_reducible refine (integer_Cmp.calls a0 a1 t247 t248 _ A40.out).mono ?_); rintro e w47 ⟨rfl, hb⟩; refine ⟨_, rfl, ?_⟩; have n0_ := Aside0.mk (below_step (by repeat (first | (with_reducible first | exact HB.out | apply below_alloc | apply pw_below_drewN | apply below_drew1) | exact HB.out)) hb); clear HB; have HB := n0_; clear n0_; (try clear hb); (try clear hb2); (try clear hk); (try clear hi)) | ((with_reducible refine gate_callee (f := 40) rfl ?_); refine goesL_ (some 139) rfl rfl Try.func40 (by kernel_rfl) rfl #[.int .i64 a0, .int .i64 a1] rfl (by (try simp only [List.map_toArray, List.map_cons, List.map_nil]); first | done | rfl | (simp only [List.length_drop, List.length_take]; rfl)) ?_; (with_reducible refine (manorboyref01_Cmp.calls kj35 a0 a1 t249 t250 _ A41.out).mono ?_); rintro e w' ⟨rfl, ⟨nd, rfl⟩⟩; refine ⟨_, rfl, ?_⟩) | ((with_reducible refine gate_callee (f := 18) rfl ?_); refine goesL_ (some 142) rfl rfl Try.func18 (by kernel_rfl) rfl #[] rfl (by (try simp only [List.map_toArray, List.map_cons, List.map_nil]); first | done | rfl | (simp only [List.length_drop, List.length_take]; rfl)) ?_; (with_reducible refine (manorboylaw01_awake.calls kj35  true _ A42.out).mono ?_); rintro e w48 ⟨rfl, hb⟩; refine ⟨_, rfl, ?_⟩; have n0_ := Aside0.mk (below_step (by repeat (first | (with_reducible first | exact HB.out | apply below_alloc | apply pw_below_drewN | apply below_drew1) | exact HB.out)) hb); clear HB; have HB := n0_; clear n0_; (try clear hb); (try clear hb2); (try clear hk); (try clear hi)))
                                          go_ret
                                          exact ⟨by first | rfl | (simp [errW_none, errW_some] <;> rfl) | (simp [*, errW_none, errW_some] <;> rfl), by repeat (first | (with_reducible first | exact HB.out | apply below_alloc | apply pw_below_drewN | apply below_drew1) | exact HB.out)⟩
                                      · replace c43 := Bool.eq_false_iff.mpr c43
                                        subst c43
                                        have H1 : (some false) = some r := by rw [if_neg (show ¬ (false = true) by decide)] at H; exact H
                                        clear H
                                        have H := H1
                                        clear H1
                                        obtain rfl := Option.some.inj H
                                        go_wp2_with (first | ((with_reducible refine gate_callee (f := 29) rfl ?_); refine goesL_ (some 133) rfl rfl Try.func29 (by kernel_rfl) rfl #[.int .i64 a0, .int .i64 a1] rfl (by (try simp only [List.map_toArray, List.map_cons, List.map_nil]); first | done | rfl | (simp only [List.length_drop, List.length_take]; rfl)) ?_; (with_reducible refine (integer_Cmp.calls a0 a1 t247 t248 _ A40.out).mono ?_); rintro e w49 ⟨rfl, hb⟩; refine ⟨_, rfl, ?_⟩; have n0_ := Aside0.mk (below_step (by repeat (first | (with_reducible first | exact HB.out | apply below_alloc | apply pw_below_drewN | apply below_drew1) | exact HB.out)) hb); clear HB; have HB := n0_; clear n0_; (try clear hb); (try clear hb2); (try clear hk); (try clear hi)) | ((with_reducible refine gate_callee (f := 40) rfl ?_); refine goesL_ (some 139) rfl rfl Try.func40 (by kernel_rfl) rfl #[.int .i64 a0, .int .i64 a1] rfl (by (try simp only [List.map_toArray, List.map_cons, List.map_nil]); first | done | rfl | (simp only [List.length_drop, List.length_take]; rfl)) ?_; (with_reducible refine (manorboyref01_Cmp.calls kj35 a0 a1 t249 t250 _ A41.out).mono ?_); rintro e w' ⟨rfl, ⟨nd, rfl⟩⟩; refine ⟨_, rfl, ?_⟩) | ((with_reducible refine gate_callee (f := 18) rfl ?_); refine goesL_ (some 142) rfl rfl Try.func18 (by kernel_rfl) rfl #[] rfl (by (try simp only [List.map_toArray, List.map_cons, List.map_nil]); first | done | rfl | (simp only [List.length_drop, List.length_take]; rfl)) ?_; (with_reducible refine (manorboylaw01_awake.calls kj35  false _ A42.out).mono ?_); rintro e w50 ⟨rfl, hb⟩; refine ⟨_, rfl, ?_⟩; have n0_ := Aside0.mk (below_step (by repeat (first | (with_reducible first | exact HB.out | apply below_alloc | apply pw_below_drewN | apply below_drew1) | exact HB.out)) hb); clear HB; have HB := n0_; clear n0_; (try clear hb); (try clear hb2); (try clear hk); (try clear hi)))
                                        go_ret
                                        exact ⟨by first | rfl | (simp [errW_none, errW_some] <;> rfl) | (simp [*, errW_none, errW_some] <;> rfl), by repeat (first | (with_reducible first | exact HB.out | apply below_alloc | apply pw_below_drewN | apply below_drew1) | exact HB.out)⟩

/-- THE ONE PURE STATEMENT of manorboylaw01_IntegerOperates: yours. -/
def manorboylaw01_IntegerOperates.Pure : Prop := ∀ (a0 : Int) (a1 : Int), (Lit.int .i64 a0).wf = true → (Lit.int .i64 a1).wf = true → ∃ k, manorboylaw01_IntegerOperates.f k a0 a1 = some true
theorem manorboylaw01_IntegerOperates.walk (P : manorboylaw01_IntegerOperates.Pure) (a0 : Int) (a1 : Int) (w : World) (w0 : (Lit.int .i64 a0).wf = true) (w1 : (Lit.int .i64 a1).wf = true) :
    Calls Try.prog 7 #[.int .i64 a0, .int .i64 a1] w fun e w' => e = .returned (.bool true) ∧ Below w.heap.size w w' := by
  obtain ⟨k, h⟩ := P a0 a1 w0 w1
  refine (manorboylaw01_IntegerOperates.calls k a0 a1 true w h).mono ?_
  rintro e w' ⟨rfl, hd⟩
  exact ⟨rfl, hd⟩

end Go.Proofs.Ytjclehdhjnmlpaa.P
