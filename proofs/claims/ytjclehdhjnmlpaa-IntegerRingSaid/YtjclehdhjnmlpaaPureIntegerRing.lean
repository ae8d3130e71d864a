/- The pure statement of IntegerRing: sums and products commute, associate and distribute, errors included; for all integers. -/
import Derived.Test.YtjclehdhjnmlpaaPureBase
import Derived.Test.YtjclehdhjnmlpaaPx2
namespace Go.Proofs.Ytjclehdhjnmlpaa.Pure
open Go.RowKit Go.Proofs.Ytjclehdhjnmlpaa.Given Go.Proofs.Ytjclehdhjnmlpaa.P Go.Proofs.YtjclehdhjnmlpaaW.PrintWords Go.Proofs.YtjclehdhjnmlpaaW.PrintLast

theorem IntegerRing : manorboylaw01_IntegerRing.Pure := by
  intro a b c _ _ _
  refine ⟨5 + 1, ?_⟩
  simp only [manorboylaw01_IntegerRing.f, manorboylaw01_IntegerRing.j0, manorboylaw01_IntegerRing.j1, manorboylaw01_IntegerRing.j2, manorboylaw01_IntegerRing.j3, manorboylaw01_IntegerRing.j4, awake_true, integer_Add.f, integer_Mul.f, integer_Sub.f, Option.bind_some, Int.add_comm b a, Int.mul_comm b a]
  rcases bv (vld a) with ha | ha <;> rcases bv (vld b) with hb | hb <;> rcases bv (vld c) with hc | hc
  all_goals simp only [twoS_yes, twoS_l, twoS_r, ha, hb, hc]
  all_goals (try (simp; done))
  all_goals rcases bv (vld (a + b)) with h1 | h1 <;> rcases bv (vld (b + c)) with h2 | h2 <;> rcases bv (vld (a * b)) with h3 | h3 <;> rcases bv (vld (a * c)) with h4 | h4
  all_goals simp [rng, twoS, ha, hb, hc, h1, h2, h3, h4, Int.add_assoc, Int.mul_add]
end Go.Proofs.Ytjclehdhjnmlpaa.Pure
