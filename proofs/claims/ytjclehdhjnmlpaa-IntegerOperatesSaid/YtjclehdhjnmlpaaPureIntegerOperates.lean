/- The pure statement of IntegerOperates: validity, Neg, Abs, Sign, Add, Sub, Mul and Cmp agree with the reference; for all integers. -/
import Derived.Test.YtjclehdhjnmlpaaPureRef
import Derived.Test.YtjclehdhjnmlpaaPureValid
import Derived.Test.YtjclehdhjnmlpaaPx10
set_option linter.unusedSimpArgs false
namespace Go.Proofs.Ytjclehdhjnmlpaa.Pure
open Go.RowKit Go.Proofs.Ytjclehdhjnmlpaa.Given Go.Proofs.Ytjclehdhjnmlpaa.P Go.Proofs.YtjclehdhjnmlpaaW.PrintWords Go.Proofs.YtjclehdhjnmlpaaW.PrintLast


theorem IntegerOperates : manorboylaw01_IntegerOperates.Pure := by
  intro a b _ _
  refine ⟨20 + 1, ?_⟩
  simp [manorboylaw01_IntegerOperates.f, manorboylaw01_IntegerOperates.j0, manorboylaw01_IntegerOperates.j1, manorboylaw01_IntegerOperates.j2, manorboylaw01_IntegerOperates.j3, manorboylaw01_IntegerOperates.j4, manorboylaw01_IntegerOperates.j5, awake_true, valid_eq, rvalid_eq, rneg_eq, rabs_eq, rsign_eq, radd_eq, rsub_eq, rmul_eq, rcmp_eq, integer_Neg.f, integer_Abs.f, integer_Sign.f, integer_Add.f, integer_Sub.f, integer_Mul.f, integer_Cmp.f]

end Go.Proofs.Ytjclehdhjnmlpaa.Pure
