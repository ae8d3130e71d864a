/- The pure statement of IntegerDivides: Quo, Rem, Floor, Mod and Pow agree with the reference; for all integers. -/
import Derived.Test.YtjclehdhjnmlpaaPureRef2
import Derived.Test.YtjclehdhjnmlpaaPureRefPow
import Derived.Test.YtjclehdhjnmlpaaPx15
set_option linter.unusedSimpArgs false
set_option linter.unusedVariables false
namespace Go.Proofs.Ytjclehdhjnmlpaa.Pure
open Go.RowKit Go.Proofs.Ytjclehdhjnmlpaa.Given Go.Proofs.Ytjclehdhjnmlpaa.P Go.Proofs.YtjclehdhjnmlpaaW.PrintWords Go.Proofs.YtjclehdhjnmlpaaW.PrintLast


theorem IntegerDivides : manorboylaw01_IntegerDivides.Pure := by
  intro a b _ _
  refine ⟨b.toNat + 40 + 1, ?_⟩
  have h1 : ∀ j, 11 ≤ j → manorboyref01_Pow.f (b.toNat + j) a b = some (powS a b) := fun j hj => rpow_eq _ _ _ (by omega)
  have h2 : ∀ j, 11 ≤ j → integer_Pow.f (b.toNat + j) a b = some (powS a b) := fun j hj => pow_eq _ _ _ (by omega)
  have h3 : manorboyref01_Pow.f (b.toNat + 36) a b = some (powS a b) := h1 _ (by omega)
  have h4 : integer_Pow.f (b.toNat + 36) a b = some (powS a b) := h2 _ (by omega)
  have h5 := h1 37 (by omega)
  have h6 := h2 37 (by omega)
  clear h1 h2
  simp [manorboylaw01_IntegerDivides.f, manorboylaw01_IntegerDivides.j0, manorboylaw01_IntegerDivides.j1, manorboylaw01_IntegerDivides.j2, manorboylaw01_IntegerDivides.j3, awake_true, rquo_eq, rrem_eq, rfloor_eq, rmod_eq, integer_Quo.f, integer_Rem.f, integer_Floor.f, integer_Mod.f, h3, h4, h5, h6]

end Go.Proofs.Ytjclehdhjnmlpaa.Pure
