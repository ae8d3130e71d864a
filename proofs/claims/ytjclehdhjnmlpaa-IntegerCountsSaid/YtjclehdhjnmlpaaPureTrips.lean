/- The number of a loop's trips: plain facts; for all integers. -/
import Derived.Test.YtjclehdhjnmlpaaPureBase
namespace Go.Proofs.Ytjclehdhjnmlpaa.Pure
open Go.RowKit Go.Proofs.Ytjclehdhjnmlpaa.Given Go.Proofs.Ytjclehdhjnmlpaa.P Go.Proofs.YtjclehdhjnmlpaaW.PrintWords Go.Proofs.YtjclehdhjnmlpaaW.PrintLast

theorem ediv_step {x s : Int} (h : 0 < s) : (x - s) / s = x / s - 1 := by
  have := Int.add_mul_ediv_right x (-1) (show s ≠ 0 by omega)
  rw [show x - s = x + -1 * s by omega]; omega
theorem trips_pos {f s l : Int} (hs : 0 < s) (h : f ≤ l) : tripsN f s l = (l - f) / s + 1 := by
  unfold tripsN; rw [if_pos (.inl ⟨hs, h⟩), Int.tdiv_eq_ediv_of_nonneg (by omega)]
theorem trips_neg {f s l : Int} (hs : s < 0) (h : l ≤ f) : tripsN f s l = (f - l) / (-s) + 1 := by
  unfold tripsN
  rw [if_pos (.inr ⟨hs, h⟩), show l - f = -(f - l) by omega, Int.neg_tdiv, ← Int.tdiv_neg, Int.tdiv_eq_ediv_of_nonneg (by omega)]
theorem trips_none {f s l : Int} (h : ¬ ((0 < s ∧ f ≤ l) ∨ (s < 0 ∧ l ≤ f))) : tripsN f s l = 0 := by
  unfold tripsN; rw [if_neg h]
theorem trips_some {f s l : Int} (h : (0 < s ∧ f ≤ l) ∨ (s < 0 ∧ l ≤ f)) : 1 ≤ tripsN f s l := by
  rcases h with ⟨h1, h2⟩ | ⟨h1, h2⟩
  · rw [trips_pos h1 h2]
    have := Int.ediv_nonneg (show 0 ≤ l - f by omega) (show 0 ≤ s by omega)
    omega
  · rw [trips_neg h1 h2]
    have := Int.ediv_nonneg (show 0 ≤ f - l by omega) (show 0 ≤ -s by omega)
    omega
theorem trips_nonneg (f s l : Int) : 0 ≤ tripsN f s l := by
  by_cases h : (0 < s ∧ f ≤ l) ∨ (s < 0 ∧ l ≤ f)
  · have := trips_some h; omega
  · rw [trips_none h]; omega
theorem trips_step {f s l : Int} (h : (0 < s ∧ f ≤ l) ∨ (s < 0 ∧ l ≤ f)) : tripsN (f + s) s l = tripsN f s l - 1 := by
  rcases h with ⟨h1, h2⟩ | ⟨h1, h2⟩
  · rw [trips_pos h1 h2]
    by_cases h3 : f + s ≤ l
    · rw [trips_pos h1 h3, show l - (f + s) = (l - f) - s by omega, ediv_step h1]; omega
    · rw [trips_none (by omega), Int.ediv_eq_zero_of_lt (by omega) (by omega)]; omega
  · rw [trips_neg h1 h2]
    by_cases h3 : l ≤ f + s
    · rw [trips_neg h1 h3, show f + s - l = (f - l) - (-s) by omega, ediv_step (by omega)]; omega
    · rw [trips_none (by omega), Int.ediv_eq_zero_of_lt (by omega) (by omega)]; omega
theorem trips_last {f s l : Int} (h : (0 < s ∧ f ≤ l) ∨ (s < 0 ∧ l ≤ f)) (h' : ¬ ((0 < s ∧ f + s ≤ l) ∨ (s < 0 ∧ l ≤ f + s))) : tripsN f s l = 1 := by
  have := trips_step h
  rw [trips_none h'] at this; omega
theorem trips_most {f s l : Int} (hf : -2147483647 ≤ f ∧ f ≤ 2147483647) (hl : -2147483647 ≤ l ∧ l ≤ 2147483647) : tripsN f s l ≤ 4294967295 := by
  by_cases h : (0 < s ∧ f ≤ l) ∨ (s < 0 ∧ l ≤ f)
  · rcases h with ⟨h1, h2⟩ | ⟨h1, h2⟩
    · rw [trips_pos h1 h2]
      have := Int.ediv_le_self s (show 0 ≤ l - f by omega)
      omega
    · rw [trips_neg h1 h2]
      have := Int.ediv_le_self (-s) (show 0 ≤ f - l by omega)
      omega
  · rw [trips_none h]; omega
end Go.Proofs.Ytjclehdhjnmlpaa.Pure
