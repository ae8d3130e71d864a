/- The law IntegerSpans as a statement about whole numbers. -/
import Derived.Test.YtjclehdhjnmlpaaPureQuoT
import Derived.Test.YtjclehdhjnmlpaaTx5
namespace Go.Proofs.Ytjclehdhjnmlpaa.T
open Go Go.RowKit Go.Proofs.Ytjclehdhjnmlpaa.Given Go.Proofs.YtjclehdhjnmlpaaW.PrintWords Go.Proofs.YtjclehdhjnmlpaaW.PrintLast Go.Proofs.YtjclehdhjnmlpaaW.PrintMore
set_option linter.unusedVariables false
set_option linter.unusedSimpArgs false

theorem spans_pure (a b c d : Int) : manorboylaw01_IntegerSpans.f 14 a b c d = some true := by
  have hq : manorboylaw01_IntegerSpans.j3 11 false a b c d = some true := by
    unfold manorboylaw01_IntegerSpans.j3
    simp only [rquo_e, wide_e, Option.bind_some, integer_SpanQuo.f]
    have e : quoS a b c d = (if vspan a b = true ∧ vspan c d = true then (if c = 0 ∧ d = 0 then (0, 0, false, 5) else
      ((rstep a b c d (-1) (rstep a b c d 1 (rstep a b c d d (rstep a b c d c (2147483647, -2147483647))))).1,
        (rstep a b c d (-1) (rstep a b c d 1 (rstep a b c d d (rstep a b c d c (2147483647, -2147483647))))).2, decide (c ≤ 0) && decide (0 ≤ d), 0)) else (0, 0, false, 1)) := by
      by_cases h : vspan a b = true ∧ vspan c d = true
      · rw [if_pos h]; exact quo_eq a b c d h.1 h.2
      · rw [if_neg h]; unfold quoS; rw [if_neg (by simpa using h)]
    rw [e]
    generalize (if vspan a b = true ∧ vspan c d = true then (if c = 0 ∧ d = 0 then ((0 : Int), (0 : Int), false, (5 : Int)) else
      ((rstep a b c d (-1) (rstep a b c d 1 (rstep a b c d d (rstep a b c d c (2147483647, -2147483647))))).1,
        (rstep a b c d (-1) (rstep a b c d 1 (rstep a b c d d (rstep a b c d c (2147483647, -2147483647))))).2, decide (c ≤ 0) && decide (0 ≤ d), 0)) else (0, 0, false, 1)) = X
    simp
  have hm : manorboylaw01_IntegerSpans.j2 12 false a b c d = some true := by
    unfold manorboylaw01_IntegerSpans.j2
    simp only [rmul_e, Option.bind_some, integer_SpanMul.f]
    simp [hq]
  have hs : manorboylaw01_IntegerSpans.j1 13 false a b c d = some true := by
    unfold manorboylaw01_IntegerSpans.j1
    simp only [rsub_e, Option.bind_some, integer_SpanSub.f]
    simp [hm]
  have hd : manorboylaw01_IntegerSpans.j0 14 false a b c d = some true := by
    unfold manorboylaw01_IntegerSpans.j0
    simp only [radd_e, Option.bind_some, integer_SpanAdd.f]
    simp [hs]
  unfold manorboylaw01_IntegerSpans.f
  simp only [neg_e, rneg_e, valid_e, rvalid_e, Option.bind_some]
  simp [hd]
end Go.Proofs.Ytjclehdhjnmlpaa.T
