/- What the law IntegerTighter's loop finds: the ends of SpanQuo. -/
import Derived.Test.YtjclehdhjnmlpaaPureQuoEq
namespace Go.Proofs.Ytjclehdhjnmlpaa.T
open Go Go.RowKit Go.Proofs.Ytjclehdhjnmlpaa.Given Go.Proofs.YtjclehdhjnmlpaaW.PrintWords Go.Proofs.YtjclehdhjnmlpaaW.PrintLast Go.Proofs.YtjclehdhjnmlpaaW.PrintMore
set_option linter.unusedVariables false
set_option linter.unusedSimpArgs false

/-- One divisor of the law's loop: least, greatest and number of the results so far. -/
def fstep (a b c d y : Int) (s : Int × Int × Int) : Int × Int × Int :=
  if y ≠ 0 ∧ c ≤ y ∧ y ≤ d then
    (if s.2.2 = 0 then (mn (a.tdiv y) (b.tdiv y), mx (a.tdiv y) (b.tdiv y), s.2.2 + 2) else (mn (mn s.1 (a.tdiv y)) (b.tdiv y), mx (mx s.2.1 (a.tdiv y)) (b.tdiv y), s.2.2 + 2))
  else s
def byS (c d : Int) (j : Nat) : Int := [c, d, -1, 1].getD j 0
def foundS (a b c d : Int) : Nat → Int × Int × Int
  | 0 => (0, 0, 0)
  | k + 1 => fstep a b c d (byS c d k) (foundS a b c d k)
/-- The run of the specification beside the law's: they stand alike. -/
def Alike (s : Int × Int) (f : Int × Int × Int) : Prop := (f.2.2 = 0 ∧ s = (2147483647, -2147483647)) ∨ (0 < f.2.2 ∧ s = (f.1, f.2.1))
theorem alike_step {a b c d y : Int} {s : Int × Int} {f : Int × Int × Int} (ha : vspan a b = true) (h : Alike s f) : Alike (rstep a b c d y s) (fstep a b c d y f) := by
  have ⟨⟨⟨p1, p2⟩, p3, p4⟩, p5⟩ := (vspan_iff _ _).mp ha
  by_cases hy : y ≠ 0 ∧ c ≤ y ∧ y ≤ d
  · rw [rstep_in hy.1 hy.2.1 hy.2.2]
    unfold fstep
    rw [if_pos hy]
    rcases h with ⟨h1, rfl⟩ | ⟨h1, rfl⟩
    · rw [if_pos h1, mnM (tdiv_in p1 p2).2, mxM (tdiv_in p1 p2).1]
      exact Or.inr ⟨by show 0 < f.2.2 + 2; omega, rfl⟩
    · rw [if_neg (by omega)]
      exact Or.inr ⟨by show 0 < f.2.2 + 2; omega, rfl⟩
  · rw [rstep_out (by omega)]
    unfold fstep
    rw [if_neg hy]
    exact h
/-- Two divisors, in the one order or in the other. -/
theorem rstep_swap (a b c d x y : Int) (s : Int × Int) : rstep a b c d x (rstep a b c d y s) = rstep a b c d y (rstep a b c d x s) := by
  by_cases hx : x ≠ 0 ∧ c ≤ x ∧ x ≤ d <;> by_cases hy : y ≠ 0 ∧ c ≤ y ∧ y ≤ d
  · rw [rstep_in hx.1 hx.2.1 hx.2.2, rstep_in hy.1 hy.2.1 hy.2.2, rstep_in hx.1 hx.2.1 hx.2.2, rstep_in hy.1 hy.2.1 hy.2.2]
    refine Prod.ext ?_ ?_
    · dsimp only; ac_rfl
    · dsimp only; ac_rfl
  · rw [rstep_out (y := y) (by omega), rstep_out (y := y) (by omega)]
  · rw [rstep_out (y := x) (by omega), rstep_out (y := x) (by omega)]
  · rw [rstep_out (y := x) (by omega), rstep_out (s := rstep a b c d x s) (y := y) (by omega), rstep_out (y := x) (by omega), rstep_out (y := y) (by omega)]
theorem found_alike (a b c d : Int) (ha : vspan a b = true) : Alike (rstep a b c d (-1) (rstep a b c d 1 (rstep a b c d d (rstep a b c d c (2147483647, -2147483647))))) (foundS a b c d 4) := by
  rw [rstep_swap a b c d (-1) 1]
  exact alike_step ha (alike_step ha (alike_step ha (alike_step ha (Or.inl ⟨rfl, rfl⟩))))
theorem found_some {a b c d : Int} (hc : vspan c d = true) (h : ¬ (c = 0 ∧ d = 0)) : 0 < (foundS a b c d 4).2.2 := by
  have ⟨⟨⟨q1, q2⟩, q3, q4⟩, q5⟩ := (vspan_iff _ _).mp hc
  have up : ∀ y s, s.2.2 ≤ (fstep a b c d y s).2.2 := fun y s => by
    unfold fstep; split
    · split <;> (show s.2.2 ≤ s.2.2 + 2; omega)
    · omega
  have hit : ∀ y s, y ≠ 0 → c ≤ y → y ≤ d → (fstep a b c d y s).2.2 = s.2.2 + 2 := fun y s h1 h2 h3 => by
    unfold fstep; rw [if_pos ⟨h1, h2, h3⟩]; split <;> rfl
  show 0 < (fstep a b c d 1 (fstep a b c d (-1) (fstep a b c d d (fstep a b c d c (0, 0, 0))))).2.2
  have u1 := up 1 (fstep a b c d (-1) (fstep a b c d d (fstep a b c d c (0, 0, 0))))
  have u2 := up (-1) (fstep a b c d d (fstep a b c d c (0, 0, 0)))
  by_cases h0 : c = 0
  · have e := hit d (fstep a b c d c (0, 0, 0)) (by omega) (by omega) (by omega)
    have u4 := up c (0, 0, 0)
    have : (0 : Int) ≤ (fstep a b c d c (0, 0, 0)).2.2 := u4
    omega
  · have e := hit c (0, 0, 0) h0 (by omega) (by omega)
    have u3 := up d (fstep a b c d c (0, 0, 0))
    have e' : (fstep a b c d c (0, 0, 0)).2.2 = 2 := e
    omega
theorem found_none {a b : Int} : (foundS a b 0 0 4).2.2 = 0 := by
  have o : ∀ y s, fstep a b 0 0 y s = s := fun y s => by unfold fstep; rw [if_neg (by omega)]
  show (fstep a b 0 0 1 (fstep a b 0 0 (-1) (fstep a b 0 0 0 (fstep a b 0 0 0 (0, 0, 0))))).2.2 = 0
  rw [o, o, o, o]
/-- What the law's loop finds, beside what SpanQuo returns. -/
theorem found_quo {a b c d : Int} (ha : vspan a b = true) (hc : vspan c d = true) :
    (c = 0 ∧ d = 0 ∧ (foundS a b c d 4).2.2 = 0 ∧ quoS a b c d = (0, 0, false, 5)) ∨
    (¬ (c = 0 ∧ d = 0) ∧ 0 < (foundS a b c d 4).2.2 ∧ quoS a b c d = ((foundS a b c d 4).1, (foundS a b c d 4).2.1, decide (c ≤ 0) && decide (0 ≤ d), 0)) := by
  have q := quo_eq a b c d ha hc
  by_cases h : c = 0 ∧ d = 0
  · rw [if_pos h] at q
    obtain ⟨rfl, rfl⟩ := h
    exact Or.inl ⟨rfl, rfl, found_none, q⟩
  · rw [if_neg h] at q
    have n := found_some (a := a) (b := b) hc h
    rcases found_alike a b c d ha with ⟨h1, h2⟩ | ⟨h1, h2⟩
    · omega
    · rw [h2] at q
      exact Or.inr ⟨h, n, q⟩
end Go.Proofs.Ytjclehdhjnmlpaa.T
