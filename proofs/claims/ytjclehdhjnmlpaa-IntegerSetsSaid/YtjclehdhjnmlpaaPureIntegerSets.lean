/- The law IntegerSets as a statement about whole numbers. -/
import Derived.Test.YtjclehdhjnmlpaaPureSpanT
import Derived.Test.YtjclehdhjnmlpaaTx10
namespace Go.Proofs.Ytjclehdhjnmlpaa.T
open Go Go.RowKit Go.Proofs.Ytjclehdhjnmlpaa.Given Go.Proofs.YtjclehdhjnmlpaaW.PrintWords Go.Proofs.YtjclehdhjnmlpaaW.PrintLast Go.Proofs.YtjclehdhjnmlpaaW.PrintMore
set_option linter.unusedVariables false
set_option linter.unusedSimpArgs false

theorem rmeet_f (k : Nat) (a b c d : Int) : manorboyref01_SpanMeet.f (k + 1) a b c d = some (if vspan a b = true ∧ vspan c d = true then (if mx a c > mn b d then (0, 0, 5) else (mx a c, mn b d, 0)) else (0, 0, 1)) := (rmeet_e k a b c d).trans (meet_e 0 a b c d)
theorem rscmp_f (k : Nat) (a b c d : Int) : manorboyref01_SpanCmp.f (k + 2) a b c d = some (if vspan a b = true ∧ vspan c d = true then (if a < d then -1 else if a > d then 1 else 0, if b < c then -1 else if b > c then 1 else 0, 0) else (0, 0, 1)) := (rscmp_e k a b c d).trans (cmp_e 0 a b c d)
theorem sets_pure (a b c d : Int) : manorboylaw01_IntegerSets.f 8 a b c d = some true := by
  have h1 : manorboylaw01_IntegerSets.j1 6 false a b c d = some true := by
    unfold manorboylaw01_IntegerSets.j1
    simp only [rjoin_e, join_e, wide_e, Option.bind_some]
    simp
  have h0 : manorboylaw01_IntegerSets.j0 8 false a b c d = some true := by
    unfold manorboylaw01_IntegerSets.j0
    simp only [rmeet_f, meet_e, Option.bind_some]
    simp
    unfold manorboylaw01_IntegerSets.j1
    simp only [rjoin_e, join_e, wide_e, Option.bind_some]
    simp
  unfold manorboylaw01_IntegerSets.f
  simp only [rscmp_f, cmp_e, Option.bind_some]
  simp [h0]
end Go.Proofs.Ytjclehdhjnmlpaa.T
