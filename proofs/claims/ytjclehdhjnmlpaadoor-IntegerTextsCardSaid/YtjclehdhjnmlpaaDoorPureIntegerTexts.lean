/- The pure statement of the law IntegerTexts: both Parse functions return the same for every text, both Print functions for every integer. -/
import Derived.Test.YtjclehdhjnmlpaaDoorPureParse
namespace Go.Proofs.YtjclehdhjnmlpaaDoor.Pure
open Go Go.RowKit Go.Proofs.YtjclehdhjnmlpaaDoor.Given Go.Proofs.YtjclehdhjnmlpaaDoor.D Go.Proofs.YtjclehdhjnmlpaaDoorW.PrintWords Go.Proofs.YtjclehdhjnmlpaaDoorW.PrintLast

theorem IntegerTexts : manorboylaw01_IntegerTexts.Pure := by
  intro a n ha _
  refine ⟨2 * a.size + 4 + 0, ?_⟩
  unfold manorboylaw01_IntegerTexts.f
  rw [parse_e a (by omega), rparse_e a (by omega) 0, show 2 * a.size + 4 + 0 = (2 * a.size + 3) + 1 by omega, awake_e]
  simp only [Option.bind_some, integer_Print.f, manorboyref01_Print.f, if_true, beq_self_eq_true]

end Go.Proofs.YtjclehdhjnmlpaaDoor.Pure
