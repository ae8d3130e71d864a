/- The pure statement of Sum: sums of lists; for all integers. -/
import Derived.Test.YtjclehdhjnmlpaaPureRanged
set_option linter.unusedSimpArgs false
set_option linter.unusedVariables false
namespace Go.Proofs.Ytjclehdhjnmlpaa.Pure
open Go.RowKit Go.Proofs.Ytjclehdhjnmlpaa.Given Go.Proofs.Ytjclehdhjnmlpaa.P Go.Proofs.YtjclehdhjnmlpaaW.PrintWords Go.Proofs.YtjclehdhjnmlpaaW.PrintLast


/-- The sum of a list, as Go's int has it. -/
def wsum (s : Int) (l : List Int) : Int := l.foldl (fun s x => wrap64 (s + x)) s
theorem rd_drop {l : List Int} {i : Nat} (h : i < l.length) : l.drop i = rd l i :: l.drop (i + 1) := by
  rw [List.drop_eq_getElem_cons h]
  simp [rd, h]
theorem sum_loop (l : List Int) (hl : l.length ≤ 9223372036854775806) (d : Nat) : ∀ (k i : Nat) (s : Int), i ≤ l.length → l.length - i = d → d < k →
    integer_Sum.l0 k s l (l.length : Int) i = some (rng (wsum s (l.drop i))) := by
  induction d with
  | zero =>
    intro k i s hi hd hk
    obtain ⟨k, rfl⟩ : ∃ m, k = m + 1 := ⟨k - 1, by omega⟩
    obtain rfl : i = l.length := by omega
    simp only [integer_Sum.l0]
    rw [if_neg (by omega), ranged_eq, List.drop_length]
    rfl
  | succ d ih =>
    intro k i s hi hd hk
    obtain ⟨k, rfl⟩ : ∃ m, k = m + 1 := ⟨k - 1, by omega⟩
    simp only [integer_Sum.l0]
    rw [if_pos (by omega), if_pos (by omega), if_pos (by omega), w64 (n := (i : Int) + 1) (by omega) (by omega), rd_drop (i := i) (by omega)]
    exact ih k (i + 1) (wrap64 (s + rd l i)) (by omega) (by omega) (by omega)
def sumS (l : List Int) : Int × Int := if l.all vld then rng (wsum 0 l) else (0, 1)
theorem sum_eq (k : Nat) (l : List Int) (hl : l.length ≤ 9223372036854775806) (hk : l.length < k) : integer_Sum.f k l = some (sumS l) := by
  unfold integer_Sum.f integer_all.f sumS
  simp only [Option.bind_some]
  rcases bv (l.all vld) with h | h
  · rw [h, if_pos rfl, if_pos rfl]
    exact sum_loop l hl l.length k 0 0 (by omega) (by omega) hk
  · rw [h]; rfl

end Go.Proofs.Ytjclehdhjnmlpaa.Pure
