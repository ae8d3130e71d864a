/- What ranged computes; for all integers. -/
import Derived.Test.YtjclehdhjnmlpaaPureValid
import Derived.Test.YtjclehdhjnmlpaaPx5
namespace Go.Proofs.Ytjclehdhjnmlpaa.Pure
open Go.RowKit Go.Proofs.Ytjclehdhjnmlpaa.Given Go.Proofs.Ytjclehdhjnmlpaa.P Go.Proofs.YtjclehdhjnmlpaaW.PrintWords Go.Proofs.YtjclehdhjnmlpaaW.PrintLast

theorem ranged_eq (n : Int) : integer_ranged.f n = some (rng n) := by
  unfold integer_ranged.f rng
  rw [valid_eq]
  rcases bv (vld n) with h | h <;> simp [h]
end Go.Proofs.Ytjclehdhjnmlpaa.Pure
