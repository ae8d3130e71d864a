/- What SpanCmp computes, in closed form. -/
import Derived.Test.YtjclehdhjnmlpaaPureSpanT
import Derived.Test.YtjclehdhjnmlpaaTx6
import Derived.Test.YtjclehdhjnmlpaaTx7
namespace Go.Proofs.Ytjclehdhjnmlpaa.T
open Go Go.RowKit Go.Proofs.Ytjclehdhjnmlpaa.Given Go.Proofs.YtjclehdhjnmlpaaW.PrintWords Go.Proofs.YtjclehdhjnmlpaaW.PrintLast Go.Proofs.YtjclehdhjnmlpaaW.PrintMore
set_option linter.unusedVariables false
set_option linter.unusedSimpArgs false

theorem sign_e (a : Int) : integer_sign.f a = some (if a < 0 then -1 else if a > 0 then 1 else 0) := by
  unfold integer_sign.f; split <;> (try split) <;> rfl
theorem cmp_e (k : Nat) (a b c d : Int) : integer_SpanCmp.f (k + 1) a b c d = some (if vspan a b = true ∧ vspan c d = true then (if a < d then -1 else if a > d then 1 else 0, if b < c then -1 else if b > c then 1 else 0, 0) else (0, 0, 1)) := by
  unfold integer_SpanCmp.f integer_SpanCmp.j0
  simp only [valid_e, sign_e, Option.bind_some]
  cases h1 : vspan a b <;> cases h2 : vspan c d <;> simp
  have := (vspan_iff _ _).mp h1
  have := (vspan_iff _ _).mp h2
  rw [w64 (n := a - d) (by omega) (by omega), w64 (n := b - c) (by omega) (by omega)]
  constructor
  · split <;> split <;> (try split) <;> (try split) <;> omega
  · split <;> split <;> (try split) <;> (try split) <;> omega
end Go.Proofs.Ytjclehdhjnmlpaa.T
