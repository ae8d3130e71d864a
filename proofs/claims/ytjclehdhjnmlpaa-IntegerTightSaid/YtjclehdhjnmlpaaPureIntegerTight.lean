/- The contract of the law IntegerTight: true for every input. -/
import Derived.Test.YtjclehdhjnmlpaaTightWalk
import Derived.Test.YtjclehdhjnmlpaaTightBad
namespace Go.Proofs.Ytjclehdhjnmlpaa.T
open Go Go.RowKit Go.Proofs.Ytjclehdhjnmlpaa.Given
set_option linter.unusedVariables false
theorem tight_pure (a b c d : Int) : true = true := rfl
theorem manorboylaw01_IntegerTight.calls (a0_0 a0_1 a1_0 a1_1 : Int) (r : Bool) (w : World) (h : true = r) :
    Calls Try.prog 13 #[.agg #[.int .i64 a0_0, .int .i64 a0_1], .agg #[.int .i64 a1_0, .int .i64 a1_1]] w fun e w' => e = .returned (.bool r) ∧ Below w.heap.size w w' := by
  subst h
  cases ha : vspan a0_0 a0_1 with
  | false => exact tight_bad1 _ _ _ _ w ha
  | true =>
    cases hb : vspan a1_0 a1_1 with
    | false => exact tight_bad2 _ _ _ _ w ha hb
    | true => exact tight_good _ _ _ _ w ha hb
end Go.Proofs.Ytjclehdhjnmlpaa.T
