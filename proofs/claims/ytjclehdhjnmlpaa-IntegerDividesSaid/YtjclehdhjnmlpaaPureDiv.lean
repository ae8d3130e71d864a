/- Quotients and remainders of integers: their sizes; for all integers. -/
import Derived.Test.YtjclehdhjnmlpaaPureBase
namespace Go.Proofs.Ytjclehdhjnmlpaa.Pure
open Go.RowKit Go.Proofs.Ytjclehdhjnmlpaa.Given Go.Proofs.Ytjclehdhjnmlpaa.P Go.Proofs.YtjclehdhjnmlpaaW.PrintWords Go.Proofs.YtjclehdhjnmlpaaW.PrintLast

theorem tmod_eq (a b : Int) : a - a.tdiv b * b = a.tmod b := by rw [Int.tmod_def, Int.mul_comm]
theorem qb_in {a b : Int} (h1 : -2147483647 ≤ a) (h2 : a ≤ 2147483647) : -2147483647 ≤ a.tdiv b * b ∧ a.tdiv b * b ≤ 2147483647 := by
  have h' : (a.tdiv b * b).natAbs ≤ a.natAbs := by rw [Int.natAbs_mul, Int.natAbs_tdiv]; exact Nat.div_mul_le_self _ _
  omega
theorem flr_ok {a b : Int} (ha : vld a = true) (hb : vld b = true) : vld (flr a b) = true := by
  have ⟨h1, h2⟩ := vld_yes ha
  have ⟨h3, h4⟩ := vld_yes hb
  have ⟨h5, h6⟩ := tdiv_in (b := b) h1 h2
  unfold flr
  split
  · rename_i h
    have ⟨h9, h10⟩ := qb_in (b := b) h1 h2
    have e := tmod_eq a b
    -- the quotient of a number by -1 or 1 leaves no rest; otherwise it is at most half as great
    refine vld_mk ?_ (by omega)
    by_cases hq : a.tdiv b = -2147483647
    · exfalso
      rw [hq] at e h9 h10
      have : b = 1 ∨ b = -1 ∨ b = 0 := by omega
      rcases this with rfl | rfl | rfl
      · simp at h
      · simp at h
      · simp at hq
    · omega
  · exact vld_mk h5 h6
theorem md_in {a b : Int} (ha : vld a = true) (hb : vld b = true) (h0 : b ≠ 0) : -2147483647 ≤ a - flr a b * b ∧ a - flr a b * b ≤ 2147483647 ∧ -4294967294 ≤ flr a b * b ∧ flr a b * b ≤ 4294967294 := by
  have ⟨h1, h2⟩ := vld_yes ha
  have ⟨h3, h4⟩ := vld_yes hb
  have ⟨h7, h8⟩ := qb_in (b := b) h1 h2
  have e := tmod_eq a b
  have hm : (a.tmod b).natAbs < b.natAbs := by rw [Int.natAbs_tmod]; exact Nat.mod_lt _ (by omega)
  unfold flr
  split
  · rename_i h
    rw [Int.sub_mul]
    have hs : 0 ≤ a → 0 ≤ a.tmod b := fun h => Int.tmod_nonneg _ h
    have hs2 : a ≤ 0 → a.tmod b ≤ 0 := fun h => by
      have := Int.tmod_nonneg b (show (0 : Int) ≤ -a by omega)
      rw [Int.neg_tmod] at this; omega
    have : (a < 0 ∧ ¬ b < 0) ∨ (¬ a < 0 ∧ b < 0) := by
      by_cases x : a < 0 <;> by_cases y : b < 0 <;> simp_all
    omega
  · omega
end Go.Proofs.Ytjclehdhjnmlpaa.Pure
