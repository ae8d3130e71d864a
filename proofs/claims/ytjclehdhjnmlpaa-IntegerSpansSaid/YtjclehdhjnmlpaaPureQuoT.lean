/- What SpanQuo of the specification computes. -/
import Derived.Test.YtjclehdhjnmlpaaPureQuoEq
import Derived.Test.YtjclehdhjnmlpaaTx4
namespace Go.Proofs.Ytjclehdhjnmlpaa.T
open Go Go.RowKit Go.Proofs.Ytjclehdhjnmlpaa.Given Go.Proofs.YtjclehdhjnmlpaaW.PrintWords Go.Proofs.YtjclehdhjnmlpaaW.PrintLast Go.Proofs.YtjclehdhjnmlpaaW.PrintMore
set_option linter.unusedVariables false
set_option linter.unusedSimpArgs false

theorem rloop_step (k : Nat) (l : List Int) (i : Nat) (a b c d lo hi : Int) (h : i < l.length) (hi' : i < 4) (ha : vld a = true) (hb : vld b = true) :
    manorboyref01_SpanQuo.l0 (k + 1) l i a b c d lo hi = manorboyref01_SpanQuo.l0 k l ((i + 1 : Nat) : Int) a b c d (rstep a b c d (l.getD i 0) (lo, hi)).1 (rstep a b c d (l.getD i 0) (lo, hi)).2 := by
  have va := vld_yes ha
  have vb := vld_yes hb
  have e1 : wrap64 ((i : Int) + 1) = ((i + 1 : Nat) : Int) := by rw [w64 (by omega) (by omega)]; omega
  have e2 : rd l (i : Int) = l.getD i 0 := by unfold rd; simp
  rw [manorboyref01_SpanQuo.l0]
  rw [if_pos (by omega), if_pos (by omega), e2, e1]
  have q1 := tdiv_in (b := l.getD i 0) va.1 va.2
  have q2 := tdiv_in (b := l.getD i 0) vb.1 vb.2
  rw [w64 (n := a.tdiv _) (by omega) (by omega), w64 (n := b.tdiv _) (by omega) (by omega)]
  unfold rstep
  by_cases h0 : l.getD i 0 = 0
  · rw [if_pos h0, if_pos h0]
  · rw [if_neg h0, if_neg h0, in_e, Option.bind_some]
    by_cases h1 : (decide (c ≤ l.getD i 0) && decide (l.getD i 0 ≤ d)) = true
    · rw [if_pos h1, if_pos h1]
    · rw [if_neg h1, if_neg h1]
theorem rloop (k : Nat) (a b c d : Int) (ha : vld a = true) (hb : vld b = true) :
    manorboyref01_SpanQuo.l0 (k + 5) [c, d, 1, -1] 0 a b c d 2147483647 (-2147483647) =
      some ((rstep a b c d (-1) (rstep a b c d 1 (rstep a b c d d (rstep a b c d c (2147483647, -2147483647))))).1,
        (rstep a b c d (-1) (rstep a b c d 1 (rstep a b c d d (rstep a b c d c (2147483647, -2147483647))))).2, decide (c ≤ 0) && decide (0 ≤ d), 0) := by
  have s0 := rloop_step (k + 4) [c, d, 1, -1] 0 a b c d 2147483647 (-2147483647) (by simp) (by omega) ha hb
  have s1 := fun lo hi => rloop_step (k + 3) [c, d, 1, -1] 1 a b c d lo hi (by simp) (by omega) ha hb
  have s2 := fun lo hi => rloop_step (k + 2) [c, d, 1, -1] 2 a b c d lo hi (by simp) (by omega) ha hb
  have s3 := fun lo hi => rloop_step (k + 1) [c, d, 1, -1] 3 a b c d lo hi (by simp) (by omega) ha hb
  refine s0.trans ((s1 _ _).trans ((s2 _ _).trans ((s3 _ _).trans ?_)))
  rw [manorboyref01_SpanQuo.l0]
  rw [if_neg (by simp), in_e, Option.bind_some]
  rfl
theorem rquo_e (k : Nat) (a b c d : Int) : manorboyref01_SpanQuo.f (k + 7) a b c d = some (if vspan a b = true ∧ vspan c d = true then (if c = 0 ∧ d = 0 then (0, 0, false, 5) else
      ((rstep a b c d (-1) (rstep a b c d 1 (rstep a b c d d (rstep a b c d c (2147483647, -2147483647))))).1,
        (rstep a b c d (-1) (rstep a b c d 1 (rstep a b c d d (rstep a b c d c (2147483647, -2147483647))))).2, decide (c ≤ 0) && decide (0 ≤ d), 0)) else (0, 0, false, 1)) := by
  unfold manorboyref01_SpanQuo.f
  simp only [rvalid_e, Option.bind_some]
  cases h1 : vspan a b <;> cases h2 : vspan c d
  · simp [manorboyref01_SpanQuo.j0]
  · simp [manorboyref01_SpanQuo.j0]
  · simp [manorboyref01_SpanQuo.j0]
  · have v : vld a = true ∧ vld b = true := by unfold vspan at h1; simp at h1; exact h1.1
    have L := rloop k a b c d v.1 v.2
    simp only [if_true, Bool.not_true, and_self]
    rw [manorboyref01_SpanQuo.j0, if_neg (by decide)]
    by_cases hc : c = 0
    · rw [if_pos hc, manorboyref01_SpanQuo.j1]
      by_cases hd : d = 0
      · rw [if_pos (by simp [hd]), if_pos ⟨hc, hd⟩]
      · rw [if_neg (by simp [hd]), if_neg (by simp [hd]), L]
    · rw [if_neg hc, manorboyref01_SpanQuo.j1, if_neg (by decide), if_neg (by simp [hc]), L]
end Go.Proofs.Ytjclehdhjnmlpaa.T
