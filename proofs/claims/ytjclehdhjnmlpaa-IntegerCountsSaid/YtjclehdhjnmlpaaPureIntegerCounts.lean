/- The pure statement of IntegerCounts: Sum of any list and Trips of any loop agree with the reference; for all integers. -/
import Derived.Test.YtjclehdhjnmlpaaPureRefSum
import Derived.Test.YtjclehdhjnmlpaaPx17
set_option linter.unusedSimpArgs false
set_option linter.unusedVariables false
namespace Go.Proofs.Ytjclehdhjnmlpaa.Pure
open Go.RowKit Go.Proofs.Ytjclehdhjnmlpaa.Given Go.Proofs.Ytjclehdhjnmlpaa.P Go.Proofs.YtjclehdhjnmlpaaW.PrintWords Go.Proofs.YtjclehdhjnmlpaaW.PrintLast


theorem IntegerCounts : manorboylaw01_IntegerCounts.Pure := by
  intro l a b c _ hl _ _ _ _
  refine ⟨l.length + 1 + 1 + 1, ?_⟩
  have h1 := sum_eq (l.length + 1 + 1 + 1) l (by omega) (by omega)
  have h2 := rsum_eq (l.length + 1 + 1 + 1) l (by omega) (by omega)
  simp [manorboylaw01_IntegerCounts.f, h1, h2, rtrips_eq, integer_Trips.f, awake_true]

end Go.Proofs.Ytjclehdhjnmlpaa.Pure
