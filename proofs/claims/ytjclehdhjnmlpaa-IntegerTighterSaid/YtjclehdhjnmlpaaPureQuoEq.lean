/- What SpanQuo computes, as a run over the divisors. -/
import Derived.Test.YtjclehdhjnmlpaaPureSpanT
namespace Go.Proofs.Ytjclehdhjnmlpaa.T
open Go Go.RowKit Go.Proofs.Ytjclehdhjnmlpaa.Given Go.Proofs.YtjclehdhjnmlpaaW.PrintWords Go.Proofs.YtjclehdhjnmlpaaW.PrintLast Go.Proofs.YtjclehdhjnmlpaaW.PrintMore
set_option linter.unusedVariables false
set_option linter.unusedSimpArgs false

/-- One divisor of the specification's loop. -/
def rstep (a b c d y : Int) (s : Int × Int) : Int × Int :=
  if y = 0 then s else if (decide (c ≤ y) && decide (y ≤ d)) = true then (mn (mn s.1 (a.tdiv y)) (b.tdiv y), mx (mx s.2 (a.tdiv y)) (b.tdiv y)) else s
theorem mnM {x : Int} (h : x ≤ 2147483647) : mn 2147483647 x = x := by unfold mn; split <;> omega
theorem mxM {x : Int} (h : -2147483647 ≤ x) : mx (-2147483647) x = x := by unfold mx; split <;> omega
theorem imin_e (a b : Int) : imin a b = mn a b := rfl
theorem imax_e (a b : Int) : imax a b = mx a b := rfl
theorem rstep_in {a b c d y : Int} {s : Int × Int} (h : y ≠ 0) (h1 : c ≤ y) (h2 : y ≤ d) : rstep a b c d y s = (mn (mn s.1 (a.tdiv y)) (b.tdiv y), mx (mx s.2 (a.tdiv y)) (b.tdiv y)) := by
  unfold rstep; rw [if_neg h, if_pos (by simp [h1, h2])]
theorem rstep_out {a b c d y : Int} {s : Int × Int} (h : y = 0 ∨ y < c ∨ d < y) : rstep a b c d y s = s := by
  unfold rstep
  by_cases h0 : y = 0
  · rw [if_pos h0]
  · rw [if_neg h0, if_neg (by simp; omega)]
theorem half0 (c d : Int) : halfS c d 0 = (c, mn d (-1)) := rfl
theorem half1 (c d : Int) : halfS c d 1 = (mx c 1, d) := rfl
theorem step_out {a b : Int} {s : Bool × Int × Int} {h1 h2 : Int} (h : h1 > h2) : stepS a b s h1 h2 = s := by unfold stepS; rw [if_pos h]
theorem step_in {a b : Int} {s : Bool × Int × Int} {h1 h2 : Int} (h : ¬ h1 > h2) : stepS a b s h1 h2 =
    (true, if s.1 = true then mn s.2.1 (lmin [a.tdiv h1, a.tdiv h2, b.tdiv h1, b.tdiv h2]) else lmin [a.tdiv h1, a.tdiv h2, b.tdiv h1, b.tdiv h2],
      if s.1 = true then mx s.2.2 (lmax [a.tdiv h1, a.tdiv h2, b.tdiv h1, b.tdiv h2]) else lmax [a.tdiv h1, a.tdiv h2, b.tdiv h1, b.tdiv h2]) := by unfold stepS; rw [if_neg h]; rfl
theorem st2 (a b c d : Int) : stS a b c d 2 = stepS a b (stepS a b (false, 0, 0) c (mn d (-1))) (mx c 1) d := rfl
theorem quo_eq (a b c d : Int) (ha : vspan a b = true) (hc : vspan c d = true) :
    quoS a b c d = (if c = 0 ∧ d = 0 then (0, 0, false, 5) else
      ((rstep a b c d (-1) (rstep a b c d 1 (rstep a b c d d (rstep a b c d c (2147483647, -2147483647))))).1,
        (rstep a b c d (-1) (rstep a b c d 1 (rstep a b c d d (rstep a b c d c (2147483647, -2147483647))))).2, decide (c ≤ 0) && decide (0 ≤ d), 0)) := by
  have ⟨⟨⟨p1, p2⟩, p3, p4⟩, p5⟩ := (vspan_iff _ _).mp ha
  have ⟨⟨⟨q1, q2⟩, q3, q4⟩, q5⟩ := (vspan_iff _ _).mp hc
  have A : ∀ y : Int, mn 2147483647 (a.tdiv y) = a.tdiv y := fun y => mnM (tdiv_in p1 p2).2
  have A' : ∀ y : Int, mx (-2147483647) (a.tdiv y) = a.tdiv y := fun y => mxM (tdiv_in p1 p2).1
  unfold quoS
  rw [ha, hc, Bool.and_self, if_pos rfl, st2]
  have m1 : ∀ {x y : Int}, ¬ y < x → mn x y = x := fun h => by unfold mn; rw [if_neg h]
  have m2 : ∀ {x y : Int}, y < x → mn x y = y := fun h => by unfold mn; rw [if_pos h]
  have m3 : ∀ {x y : Int}, ¬ x < y → mx x y = x := fun h => by unfold mx; rw [if_neg h]
  have m4 : ∀ {x y : Int}, x < y → mx x y = y := fun h => by unfold mx; rw [if_pos h]
  rcases (by omega : (c ≤ -1 ∧ d < -1) ∨ (c ≤ -1 ∧ d = -1) ∨ (c ≤ -1 ∧ d = 0) ∨ (c = -1 ∧ 1 < d) ∨ (c < -1 ∧ 1 < d) ∨ (c ≤ -1 ∧ d = 1) ∨ (c = 0 ∧ d = 0) ∨ (c = 0 ∧ d = 1) ∨ (c = 0 ∧ 1 < d) ∨ (c = 1 ∧ 1 ≤ d) ∨ (1 < c ∧ 1 < d)) with h | h | h | h | h | h | h | h | h | h | h
  · obtain ⟨hc', hd'⟩ := h
    rw [m1 (x := d) (y := -1) (by omega), m4 (x := c) (y := 1) (by omega)]
    rw [step_in (s := (false, 0, 0)) (by omega)]
    rw [step_out (by omega)]
    rw [if_neg (show ¬ (c = 0 ∧ d = 0) by omega)]
    rw [rstep_in (y := c) (by omega) (by omega) (by omega)]
    rw [rstep_in (y := d) (by omega) (by omega) (by omega)]
    rw [rstep_out (y := 1) (by omega)]
    rw [rstep_out (y := -1) (by omega)]
    simp only [A, A', lmin4, lmax4, if_true, Bool.false_eq_true, if_false]
    refine Prod.ext ?_ (Prod.ext ?_ rfl)
    · show mn _ _ = mn _ _; ac_rfl
    · show mx _ _ = mx _ _; ac_rfl
  · obtain ⟨hc', hd'⟩ := h
    rw [m1 (x := d) (y := -1) (by omega), m4 (x := c) (y := 1) (by omega)]
    rw [step_in (s := (false, 0, 0)) (by omega)]
    rw [step_out (by omega)]
    rw [if_neg (show ¬ (c = 0 ∧ d = 0) by omega)]
    rw [rstep_in (y := c) (by omega) (by omega) (by omega)]
    rw [rstep_in (y := d) (by omega) (by omega) (by omega)]
    rw [rstep_out (y := 1) (by omega)]
    rw [rstep_in (y := -1) (by omega) (by omega) (by omega)]
    simp only [A, A', lmin4, lmax4, if_true, Bool.false_eq_true, if_false]
    subst hd'
    refine Prod.ext ?_ (Prod.ext ?_ rfl)
    · show mn _ _ = mn _ _; ac_rfl
    · show mx _ _ = mx _ _; ac_rfl
  · obtain ⟨hc', hd'⟩ := h
    rw [m2 (x := d) (y := -1) (by omega), m4 (x := c) (y := 1) (by omega)]
    rw [step_in (s := (false, 0, 0)) (by omega)]
    rw [step_out (by omega)]
    rw [if_neg (show ¬ (c = 0 ∧ d = 0) by omega)]
    rw [rstep_in (y := c) (by omega) (by omega) (by omega)]
    rw [rstep_out (y := d) (by omega)]
    rw [rstep_out (y := 1) (by omega)]
    rw [rstep_in (y := -1) (by omega) (by omega) (by omega)]
    simp only [A, A', lmin4, lmax4, if_true, Bool.false_eq_true, if_false]
    refine Prod.ext ?_ (Prod.ext ?_ rfl)
    · show mn _ _ = mn _ _; ac_rfl
    · show mx _ _ = mx _ _; ac_rfl
  · obtain ⟨hc', hd'⟩ := h
    rw [m2 (x := d) (y := -1) (by omega), m4 (x := c) (y := 1) (by omega)]
    rw [step_in (s := (false, 0, 0)) (by omega)]
    rw [step_in (by omega)]
    rw [if_neg (show ¬ (c = 0 ∧ d = 0) by omega)]
    rw [rstep_in (y := c) (by omega) (by omega) (by omega)]
    rw [rstep_in (y := d) (by omega) (by omega) (by omega)]
    rw [rstep_in (y := 1) (by omega) (by omega) (by omega)]
    rw [rstep_in (y := -1) (by omega) (by omega) (by omega)]
    simp only [A, A', lmin4, lmax4, if_true, Bool.false_eq_true, if_false]
    subst hc'
    refine Prod.ext ?_ (Prod.ext ?_ rfl)
    · show mn _ _ = mn _ _; ac_rfl
    · show mx _ _ = mx _ _; ac_rfl
  · obtain ⟨hc', hd'⟩ := h
    rw [m2 (x := d) (y := -1) (by omega), m4 (x := c) (y := 1) (by omega)]
    rw [step_in (s := (false, 0, 0)) (by omega)]
    rw [step_in (by omega)]
    rw [if_neg (show ¬ (c = 0 ∧ d = 0) by omega)]
    rw [rstep_in (y := c) (by omega) (by omega) (by omega)]
    rw [rstep_in (y := d) (by omega) (by omega) (by omega)]
    rw [rstep_in (y := 1) (by omega) (by omega) (by omega)]
    rw [rstep_in (y := -1) (by omega) (by omega) (by omega)]
    simp only [A, A', lmin4, lmax4, if_true, Bool.false_eq_true, if_false]
    refine Prod.ext ?_ (Prod.ext ?_ rfl)
    · show mn _ _ = mn _ _; ac_rfl
    · show mx _ _ = mx _ _; ac_rfl
  · obtain ⟨hc', hd'⟩ := h
    rw [m2 (x := d) (y := -1) (by omega), m4 (x := c) (y := 1) (by omega)]
    rw [step_in (s := (false, 0, 0)) (by omega)]
    rw [step_in (by omega)]
    rw [if_neg (show ¬ (c = 0 ∧ d = 0) by omega)]
    rw [rstep_in (y := c) (by omega) (by omega) (by omega)]
    rw [rstep_in (y := d) (by omega) (by omega) (by omega)]
    rw [rstep_in (y := 1) (by omega) (by omega) (by omega)]
    rw [rstep_in (y := -1) (by omega) (by omega) (by omega)]
    simp only [A, A', lmin4, lmax4, if_true, Bool.false_eq_true, if_false]
    subst hd'
    refine Prod.ext ?_ (Prod.ext ?_ rfl)
    · show mn _ _ = mn _ _; ac_rfl
    · show mx _ _ = mx _ _; ac_rfl
  · obtain ⟨hc', hd'⟩ := h
    rw [m2 (x := d) (y := -1) (by omega), m4 (x := c) (y := 1) (by omega)]
    rw [step_out (s := (false, 0, 0)) (by omega)]
    rw [step_out (by omega)]
    rw [if_pos (show c = 0 ∧ d = 0 by omega)]
    rfl
  · obtain ⟨hc', hd'⟩ := h
    rw [m2 (x := d) (y := -1) (by omega), m4 (x := c) (y := 1) (by omega)]
    rw [step_out (s := (false, 0, 0)) (by omega)]
    rw [step_in (by omega)]
    rw [if_neg (show ¬ (c = 0 ∧ d = 0) by omega)]
    rw [rstep_out (y := c) (by omega)]
    rw [rstep_in (y := d) (by omega) (by omega) (by omega)]
    rw [rstep_in (y := 1) (by omega) (by omega) (by omega)]
    rw [rstep_out (y := -1) (by omega)]
    simp only [A, A', lmin4, lmax4, if_true, Bool.false_eq_true, if_false]
    subst hd'
    refine Prod.ext ?_ (Prod.ext ?_ rfl)
    · show mn _ _ = mn _ _; ac_rfl
    · show mx _ _ = mx _ _; ac_rfl
  · obtain ⟨hc', hd'⟩ := h
    rw [m2 (x := d) (y := -1) (by omega), m4 (x := c) (y := 1) (by omega)]
    rw [step_out (s := (false, 0, 0)) (by omega)]
    rw [step_in (by omega)]
    rw [if_neg (show ¬ (c = 0 ∧ d = 0) by omega)]
    rw [rstep_out (y := c) (by omega)]
    rw [rstep_in (y := d) (by omega) (by omega) (by omega)]
    rw [rstep_in (y := 1) (by omega) (by omega) (by omega)]
    rw [rstep_out (y := -1) (by omega)]
    simp only [A, A', lmin4, lmax4, if_true, Bool.false_eq_true, if_false]
    refine Prod.ext ?_ (Prod.ext ?_ rfl)
    · show mn _ _ = mn _ _; ac_rfl
    · show mx _ _ = mx _ _; ac_rfl
  · obtain ⟨hc', hd'⟩ := h
    rw [m2 (x := d) (y := -1) (by omega), m3 (x := c) (y := 1) (by omega)]
    rw [step_out (s := (false, 0, 0)) (by omega)]
    rw [step_in (by omega)]
    rw [if_neg (show ¬ (c = 0 ∧ d = 0) by omega)]
    rw [rstep_in (y := c) (by omega) (by omega) (by omega)]
    rw [rstep_in (y := d) (by omega) (by omega) (by omega)]
    rw [rstep_in (y := 1) (by omega) (by omega) (by omega)]
    rw [rstep_out (y := -1) (by omega)]
    simp only [A, A', lmin4, lmax4, if_true, Bool.false_eq_true, if_false]
    subst hc'
    refine Prod.ext ?_ (Prod.ext ?_ rfl)
    · show mn _ _ = mn _ _; ac_rfl
    · show mx _ _ = mx _ _; ac_rfl
  · obtain ⟨hc', hd'⟩ := h
    rw [m2 (x := d) (y := -1) (by omega), m3 (x := c) (y := 1) (by omega)]
    rw [step_out (s := (false, 0, 0)) (by omega)]
    rw [step_in (by omega)]
    rw [if_neg (show ¬ (c = 0 ∧ d = 0) by omega)]
    rw [rstep_in (y := c) (by omega) (by omega) (by omega)]
    rw [rstep_in (y := d) (by omega) (by omega) (by omega)]
    rw [rstep_out (y := 1) (by omega)]
    rw [rstep_out (y := -1) (by omega)]
    simp only [A, A', lmin4, lmax4, if_true, Bool.false_eq_true, if_false]
    refine Prod.ext ?_ (Prod.ext ?_ rfl)
    · show mn _ _ = mn _ _; ac_rfl
    · show mx _ _ = mx _ _; ac_rfl
end Go.Proofs.Ytjclehdhjnmlpaa.T
