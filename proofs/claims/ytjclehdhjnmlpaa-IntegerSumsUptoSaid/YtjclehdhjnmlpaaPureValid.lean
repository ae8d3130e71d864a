/- What Valid computes; for all integers. -/
import Derived.Test.YtjclehdhjnmlpaaPureBase
import Derived.Test.YtjclehdhjnmlpaaPx3
namespace Go.Proofs.Ytjclehdhjnmlpaa.Pure
open Go.RowKit Go.Proofs.Ytjclehdhjnmlpaa.Given Go.Proofs.Ytjclehdhjnmlpaa.P Go.Proofs.YtjclehdhjnmlpaaW.PrintWords Go.Proofs.YtjclehdhjnmlpaaW.PrintLast

theorem valid_eq (n : Int) : integer_Valid.f n = some (vld n) := by
  unfold integer_Valid.f vld
  by_cases h : n ≥ -2147483647
  · rw [if_pos h]; congr 1; simp; omega
  · rw [if_neg h]; congr 1; simp; omega
end Go.Proofs.Ytjclehdhjnmlpaa.Pure
