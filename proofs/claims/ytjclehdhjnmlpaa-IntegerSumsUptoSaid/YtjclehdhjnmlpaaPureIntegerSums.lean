/- The pure statement of IntegerSums: Sum of two lists, one behind the other, in any order; for lists of at most 1048576 numbers each; for all integers. -/
import Derived.Test.YtjclehdhjnmlpaaPureSum
import Derived.Test.YtjclehdhjnmlpaaPx6
set_option linter.unusedSimpArgs false
set_option linter.unusedVariables false
namespace Go.Proofs.Ytjclehdhjnmlpaa.Pure
open Go.RowKit Go.Proofs.Ytjclehdhjnmlpaa.Given Go.Proofs.Ytjclehdhjnmlpaa.P Go.Proofs.YtjclehdhjnmlpaaW.PrintWords Go.Proofs.YtjclehdhjnmlpaaW.PrintLast


theorem wrap_wrap (a b : Int) : wrap64 (wrap64 a + b) = wrap64 (a + b) := by unfold wrap64; omega
theorem wsum_eq (l : List Int) : ∀ s, wsum (wrap64 s) l = wrap64 (s + l.sum) := by
  induction l with
  | nil => intro s; simp [wsum]
  | cons x l ih =>
    intro s
    have : wsum (wrap64 s) (x :: l) = wsum (wrap64 (wrap64 s + x)) l := rfl
    rw [this, ih, List.sum_cons, Int.add_assoc, wrap_wrap]
theorem wsum0 (l : List Int) : wsum 0 l = wrap64 l.sum := by
  have := wsum_eq l 0
  rwa [w64 (n := 0) (by omega) (by omega), Int.zero_add] at this
theorem sum_rev (l : List Int) : l.reverse.sum = l.sum := by
  induction l with
  | nil => rfl
  | cons x l ih => rw [List.reverse_cons, List.sum_append, ih, List.sum_cons]; simp; omega
theorem sumS_rev (l : List Int) : sumS l.reverse = sumS l := by
  unfold sumS
  rw [List.all_reverse, wsum0, wsum0, sum_rev]
theorem sumS_ok {l : List Int} (h : (sumS l).2 = 0) : l.all vld = true ∧ vld (wsum 0 l) = true ∧ sumS l = (wsum 0 l, 0) := by
  unfold sumS at h ⊢
  rcases bv (l.all vld) with x | x
  · rw [x, if_pos rfl] at h ⊢
    rcases bv (vld (wsum 0 l)) with y | y
    · exact ⟨rfl, y, rng_yes y⟩
    · rw [rng_no y] at h; exact absurd h (by decide)
  · rw [x] at h; exact absurd h (by simp)
theorem sumS_append {l m : List Int} (h1 : (sumS l).2 = 0) (h2 : (sumS m).2 = 0) : sumS (l ++ m) = twoS (sumS l).1 (sumS m).1 ((sumS l).1 + (sumS m).1) := by
  obtain ⟨a1, v1, e1⟩ := sumS_ok h1
  obtain ⟨a2, v2, e2⟩ := sumS_ok h2
  have ⟨b1, b2⟩ := vld_yes v1
  have ⟨b3, b4⟩ := vld_yes v2
  rw [e1, e2, twoS_yes v1 v2]
  unfold sumS
  rw [List.all_append, a1, a2, Bool.true_and, if_pos rfl]
  have : wsum 0 (l ++ m) = wsum 0 l + wsum 0 m := by
    rw [wsum0, List.sum_append, ← wrap_wrap, ← wsum0, Int.add_comm, ← wrap_wrap, ← wsum0, Int.add_comm, w64 (by omega) (by omega)]
  rw [this]
theorem sums_end (k : Nat) (l m : List Int) (hl : l.length ≤ 1048576) (hm : m.length ≤ 1048576) (hk : l.length + m.length + 1 < k) :
    manorboylaw01_IntegerSums.l0 (k + 1) l m true (l ++ m) (l ++ m).reverse (-1) = some true := by
  have hlen : (l ++ m).length = l.length + m.length := List.length_append
  have h1 := sum_eq k l (by omega) (by omega)
  have h2 := sum_eq k m (by omega) (by omega)
  have h3 := sum_eq k (l ++ m) (by omega) (by omega)
  have h4 := sum_eq k (l ++ m).reverse (by rw [List.length_reverse]; omega) (by rw [List.length_reverse]; omega)
  rw [sumS_rev] at h4
  obtain ⟨k, rfl⟩ : ∃ j, k = j + 1 := ⟨k - 1, by omega⟩
  simp only [manorboylaw01_IntegerSums.l0, h1, h2, h3, h4, Option.bind_some]
  rw [if_neg (by omega)]
  simp only [manorboylaw01_IntegerSums.j1, bne_self_eq_false]
  simp only [if_true, if_false, Bool.false_eq_true]
  by_cases c1 : (sumS l).2 = 0
  · rw [if_pos c1]
    by_cases c2 : (sumS m).2 = 0
    · rw [if_pos c2, sumS_append c1 c2]
      simp [integer_Add.f]
    · rw [if_neg c2]
  · rw [if_neg c1]
theorem sums_loop (l m : List Int) (hl : l.length ≤ 1048576) (hm : m.length ≤ 1048576) (j : Nat) : ∀ (k : Nat) (back : List Int), j ≤ (l ++ m).length → back = ((l ++ m).drop j).reverse → l.length + m.length + 2 + j < k →
    manorboylaw01_IntegerSums.l0 k l m true (l ++ m) back ((j : Int) - 1) = some true := by
  have hlen : (l ++ m).length = l.length + m.length := List.length_append
  induction j with
  | zero =>
    intro k back hj hb hk
    obtain ⟨k, rfl⟩ : ∃ i, k = i + 1 := ⟨k - 1, by omega⟩
    subst hb
    exact sums_end k l m hl hm (by omega)
  | succ j ih =>
    intro k back hj hb hk
    obtain ⟨k, rfl⟩ : ∃ i, k = i + 1 := ⟨k - 1, by omega⟩
    have hbl : back.length ≤ 2097152 := by rw [hb, List.length_reverse, List.length_drop]; omega
    have e : ((j + 1 : Nat) : Int) - 1 = (j : Int) := by omega
    simp only [manorboylaw01_IntegerSums.l0]
    rw [e, if_pos (by omega), if_pos (by omega), if_pos (by omega), if_pos (by omega), w64 (n := (j : Int) - 1) (by omega) (by omega)]
    refine ih k _ (by omega) ?_ (by omega)
    rw [rd_drop (l := l ++ m) (i := j) (by omega), List.reverse_cons, hb]
theorem IntegerSums (l m : List Int) (hl : l.length ≤ 1048576) (hm : m.length ≤ 1048576) : ∃ k, manorboylaw01_IntegerSums.f k l m = some true := by
  have hlen : (l ++ m).length = l.length + m.length := List.length_append
  refine ⟨l.length + m.length + 3 + (l ++ m).length + 1, ?_⟩
  unfold manorboylaw01_IntegerSums.f
  rw [awake_true]
  simp only [Option.bind_some, List.nil_append, List.length_nil]
  rw [if_pos (by omega), if_pos (by omega), w64 (by omega) (by omega)]
  exact sums_loop l m hl hm _ _ _ (Nat.le_refl _) (by simp) (by omega)

end Go.Proofs.Ytjclehdhjnmlpaa.Pure
