/- The pure statement of IntegerOrder: Cmp is a total order that sums and products keep; for all integers. -/
import Derived.Test.YtjclehdhjnmlpaaPureValid
import Derived.Test.YtjclehdhjnmlpaaPx7
namespace Go.Proofs.Ytjclehdhjnmlpaa.Pure
open Go.RowKit Go.Proofs.Ytjclehdhjnmlpaa.Given Go.Proofs.Ytjclehdhjnmlpaa.P Go.Proofs.YtjclehdhjnmlpaaW.PrintWords Go.Proofs.YtjclehdhjnmlpaaW.PrintLast


theorem sgn_neg {n : Int} (h : n < 0) : sgn n = -1 := by simp [sgn, h]
theorem sgn_pos {n : Int} (h : 0 < n) : sgn n = 1 := by unfold sgn; rw [if_neg (by omega), if_pos h]
theorem sgn_zero : sgn 0 = 0 := rfl
theorem sgn_cases (n : Int) : (n < 0 ∧ sgn n = -1) ∨ (n = 0 ∧ sgn n = 0) ∨ (0 < n ∧ sgn n = 1) := by
  rcases Int.lt_trichotomy n 0 with h | h | h
  · exact .inl ⟨h, sgn_neg h⟩
  · exact .inr (.inl ⟨h, by rw [h]; rfl⟩)
  · exact .inr (.inr ⟨h, sgn_pos h⟩)
theorem sgn_vld (n : Int) : vld (sgn n) = true := by rcases sgn_cases n with ⟨_, h⟩ | ⟨_, h⟩ | ⟨_, h⟩ <;> rw [h] <;> decide
theorem sgn_same {m n : Int} (h1 : m < 0 → n < 0) (h2 : m = 0 → n = 0) (h3 : 0 < m → 0 < n) : sgn n = sgn m := by
  rcases sgn_cases m with ⟨a, h⟩ | ⟨a, h⟩ | ⟨a, h⟩
  · rw [h, sgn_neg (h1 a)]
  · rw [h, h2 a]; rfl
  · rw [h, sgn_pos (h3 a)]
theorem sgn_trans {a b c : Int} (h : sgn (a - b) = sgn (b - c)) : sgn (a - c) = sgn (a - b) := by
  apply sgn_same
  · intro h1; rw [sgn_neg h1] at h; rcases sgn_cases (b - c) with ⟨x, y⟩ | ⟨x, y⟩ | ⟨x, y⟩ <;> rw [y] at h <;> omega
  · intro h1; rw [h1] at h; rcases sgn_cases (b - c) with ⟨x, y⟩ | ⟨x, y⟩ | ⟨x, y⟩ <;> rw [y] at h <;> simp [sgn] at h; omega
  · intro h1; rw [sgn_pos h1] at h; rcases sgn_cases (b - c) with ⟨x, y⟩ | ⟨x, y⟩ | ⟨x, y⟩ <;> rw [y] at h <;> omega
theorem sgn_mul {a b c : Int} (h : 0 < c) : sgn (a * c - b * c) = sgn (a - b) := by
  rw [← Int.sub_mul]
  apply sgn_same
  · intro h1; exact Int.mul_neg_of_neg_of_pos h1 h
  · intro h1; rw [h1, Int.zero_mul]
  · intro h1; exact Int.mul_pos h1 h
theorem IntegerOrder : manorboylaw01_IntegerOrder.Pure := by
  intro a b c _ _ _
  refine ⟨20 + 1, ?_⟩
  simp only [manorboylaw01_IntegerOrder.f, manorboylaw01_IntegerOrder.j0, manorboylaw01_IntegerOrder.j1, manorboylaw01_IntegerOrder.j2, manorboylaw01_IntegerOrder.j3, manorboylaw01_IntegerOrder.j4, manorboylaw01_IntegerOrder.j5, manorboylaw01_IntegerOrder.j6, awake_true, valid_eq, integer_Cmp.f, integer_Sub.f, integer_Sign.f, integer_Add.f, integer_Mul.f, Option.bind_some]
  rcases bv (vld a) with ha | ha
  · rcases bv (vld b) with hb | hb
    · have e1 : sgn (b - a) = -sgn (a - b) := by
        rcases sgn_cases (a - b) with ⟨x, y⟩ | ⟨x, y⟩ | ⟨x, y⟩ <;> rw [y]
        · exact sgn_pos (by omega)
        · rw [show b - a = 0 by omega]; rfl
        · exact sgn_neg (by omega)
      have e2 : -1 ≤ sgn (a - b) ∧ sgn (a - b) ≤ 1 := by rcases sgn_cases (a - b) with ⟨x, y⟩ | ⟨x, y⟩ | ⟨x, y⟩ <;> rw [y] <;> omega
      have e3 : ((sgn (a - b) == 0) != (a == b)) = false := by
        rcases sgn_cases (a - b) with ⟨x, y⟩ | ⟨x, y⟩ | ⟨x, y⟩ <;> rw [y]
        · simp; omega
        · simp; omega
        · simp; omega
      have e4 : decide (sgn (a - b) > 1) = false := decide_eq_false (by omega)
      have e5 : ¬ (sgn (a - b) < -1) := by omega
      have e6 : wrap64 (-(-sgn (a - b))) = sgn (a - b) := by rw [Int.neg_neg, w64 (by omega) (by omega)]
      have hs := sgn_vld (a - b)
      have hs' : vld (-sgn (a - b)) = true := by rw [← e1]; exact sgn_vld _
      simp only [twoS_yes ha hb, twoS_yes hb ha, e1, rng_yes hs, rng_yes hs', e3, e4, e5, e6]
      clear e1 e3 e4 e5 e6 hs'
      rcases bv (vld c) with hc | hc
      · have hs2 := sgn_vld (b - c)
        have hs3 := sgn_vld (a - c)
        simp only [twoS_yes hb hc, twoS_yes ha hc, rng_yes hs2, rng_yes hs3]
        have key : ∀ x : Int, vld x = true → oneS x (sgn x) = (sgn x, 0) := fun x hx => by simp [oneS, hx, rng, sgn_vld]
        have f1 : sgn (a + c - (b + c)) = sgn (a - b) := by congr 1; omega
        have f2 : 0 < c → sgn (a * c - b * c) = sgn (a - b) := sgn_mul
        by_cases t : sgn (a - b) = sgn (b - c)
        · have t' := sgn_trans t
          rcases bv (vld (a - b)) with h1 | h1 <;> rcases bv (vld (a + c)) with h2 | h2 <;> rcases bv (vld (b + c)) with h3 | h3 <;> rcases bv (vld (a * c)) with h4 | h4 <;> rcases bv (vld (b * c)) with h5 | h5 <;> by_cases h6 : c > 0 <;>
            simp [rng, h1, h2, h3, h4, h5, h6, key, t', ← t, twoS, f1, f2, sgn_vld]
        · have t0 : (sgn (a - b) == sgn (b - c)) = false := by simpa using t
          rcases bv (vld (a - b)) with h1 | h1 <;> rcases bv (vld (a + c)) with h2 | h2 <;> rcases bv (vld (b + c)) with h3 | h3 <;> rcases bv (vld (a * c)) with h4 | h4 <;> rcases bv (vld (b * c)) with h5 | h5 <;> by_cases h6 : c > 0 <;>
            simp [rng, h1, h2, h3, h4, h5, h6, key, t0, twoS, f1, f2, sgn_vld]
      · have key : ∀ x : Int, vld x = true → oneS x (sgn x) = (sgn x, 0) := fun x hx => by simp [oneS, hx, rng, sgn_vld]
        rcases bv (vld (a - b)) with h1 | h1 <;> simp [twoS_r hc, rng, h1, key]
    · simp [twoS_r hb, twoS_l hb, ha, hb]
  · simp [twoS_r ha, twoS_l ha, ha]

end Go.Proofs.Ytjclehdhjnmlpaa.Pure
