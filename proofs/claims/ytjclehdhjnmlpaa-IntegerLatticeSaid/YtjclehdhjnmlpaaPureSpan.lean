/- What the span functions of package integer compute, in closed form. -/
import Derived.Test.YtjclehdhjnmlpaaSx4
namespace Go.Proofs.Ytjclehdhjnmlpaa.S
open Go.Proofs.Ytjclehdhjnmlpaa.Given Go.Proofs.YtjclehdhjnmlpaaW.PrintWords Go.Proofs.YtjclehdhjnmlpaaW.PrintLast Go.Proofs.YtjclehdhjnmlpaaW.PrintMore
set_option linter.unusedVariables false
set_option linter.unusedSimpArgs false

theorem valid_e (a b : Int) : integer_ValidSpan.f a b = some (vspan a b) := rfl
theorem join_e (a b c d : Int) : integer_SpanJoin.f a b c d = some (if vspan a b = true ∧ vspan c d = true then (mn a c, mx b d, 0) else (0, 0, 1)) := by
  unfold integer_SpanJoin.f
  simp only [valid_e, Option.bind_some]
  cases vspan a b <;> cases vspan c d <;> rfl
theorem meet_e (k : Nat) (a b c d : Int) : integer_SpanMeet.f (k + 1) a b c d = some (if vspan a b = true ∧ vspan c d = true then (if mx a c > mn b d then (0, 0, 5) else (mx a c, mn b d, 0)) else (0, 0, 1)) := by
  unfold integer_SpanMeet.f integer_SpanMeet.j0
  simp only [valid_e, Option.bind_some]
  cases vspan a b <;> cases vspan c d <;> simp <;> split <;> rfl
theorem in_e (n a b : Int) : manorboyref01_In.f n a b = some (decide (a ≤ n) && decide (n ≤ b)) := by
  unfold manorboyref01_In.f; split <;> simp [*]
theorem within_e (a b c d : Int) : manorboylaw01_within.f a b c d = some (decide (c ≤ a) && decide (b ≤ d)) := by
  unfold manorboylaw01_within.f; split <;> simp [*]
theorem wide_e (k : Nat) : manorboylaw01_wide.f (k + 1) = some true := by
  have h1 : integer_SpanMul.f (-3) 4 2 5 = some (-15, 20, false, 0) := by decide +kernel
  have h2 : integer_SpanAdd.f 0 2147483647 1 1 = some (1, 2147483647, true, 0) := by decide +kernel
  have h3 : integer_SpanJoin.f 1 2 7 8 = some (1, 8, 0) := by decide +kernel
  unfold manorboylaw01_wide.f
  rw [h1, h2, h3]
  rfl
theorem vspan_iff (a b : Int) : vspan a b = true ↔ ((-2147483647 ≤ a ∧ a ≤ 2147483647) ∧ (-2147483647 ≤ b ∧ b ≤ 2147483647)) ∧ a ≤ b := by
  unfold vspan vld; simp
end Go.Proofs.Ytjclehdhjnmlpaa.S
