/- What the reference's plain functions compute (validity, Neg, Abs, Sign, Add, Sub, Mul, Cmp), in words of the integers; for all integers. -/
import Derived.Test.YtjclehdhjnmlpaaPureBase
import Derived.Test.YtjclehdhjnmlpaaPx8
import Derived.Test.YtjclehdhjnmlpaaPx9
set_option linter.unusedSimpArgs false
namespace Go.Proofs.Ytjclehdhjnmlpaa.Pure
open Go.RowKit Go.Proofs.Ytjclehdhjnmlpaa.Given Go.Proofs.Ytjclehdhjnmlpaa.P Go.Proofs.YtjclehdhjnmlpaaW.PrintWords Go.Proofs.YtjclehdhjnmlpaaW.PrintLast

theorem rvalid_eq (n : Int) : manorboyref01_Valid.f n = some (vld n) := by
  unfold manorboyref01_Valid.f vld
  by_cases h : -2147483647 ≤ n
  · rw [if_pos h]; congr 1; simp; omega
  · rw [if_neg h]; congr 1; simp; omega
theorem rexact_eq (n : Int) : manorboyref01_exact.f n = some (rng n) := by
  unfold manorboyref01_exact.f rng
  rw [rvalid_eq]
  rcases bv (vld n) with h | h <;> simp [h]
theorem rneg_eq (a : Int) : manorboyref01_Neg.f a = some (oneS a (-a)) := by
  unfold manorboyref01_Neg.f oneS
  rw [rvalid_eq]
  rcases bv (vld a) with h | h
  · have ⟨h1, h2⟩ := vld_yes h
    have h3 : vld (-a) = true := vld_mk (by omega) (by omega)
    simp [h, rng, h3, w64 (n := -a) (by omega) (by omega)]
  · simp [h]
theorem rabs_eq (a : Int) : manorboyref01_Abs.f a = some (oneS a (absI a)) := by
  unfold manorboyref01_Abs.f oneS
  rw [rvalid_eq]
  rcases bv (vld a) with h | h
  · have ⟨h1, h2⟩ := vld_yes h
    have h3 : vld (absI a) = true := by unfold absI; split <;> exact vld_mk (by omega) (by omega)
    simp only [h, rng, h3, w64 (n := -a) (by omega) (by omega), if_true, Option.bind_some]
    rfl
  · simp [h]
theorem rcmp_eq (k : Nat) (a b : Int) : manorboyref01_Cmp.f (k + 1) a b = some (twoS a b (sgn (a - b))) := by
  unfold manorboyref01_Cmp.f twoS
  rw [rvalid_eq, rvalid_eq]
  rcases bv (vld a) with h | h <;> rcases bv (vld b) with h' | h' <;> simp [h, h', manorboyref01_Cmp.j0]
  by_cases c1 : a < b
  · have : sgn (a - b) = -1 := by unfold sgn; rw [if_pos (by omega)]
    simp [c1, this, rng, vld]
  · by_cases c2 : b < a
    · have : sgn (a - b) = 1 := by unfold sgn; rw [if_neg (by omega), if_pos (by omega)]
      simp [c1, c2, this, rng, vld]
    · have : sgn (a - b) = 0 := by unfold sgn; rw [if_neg (by omega), if_neg (by omega)]
      simp [c1, c2, this, rng, vld]
theorem rsign_eq (k : Nat) (a : Int) : manorboyref01_Sign.f (k + 1) a = some (oneS a (sgn a)) := by
  unfold manorboyref01_Sign.f
  rw [rcmp_eq]
  have h0 : vld 0 = true := by decide
  simp [twoS, oneS, h0]
theorem radd_eq (a b : Int) : manorboyref01_Add.f a b = some (twoS a b (a + b)) := by
  unfold manorboyref01_Add.f twoS
  rw [rvalid_eq, rvalid_eq]
  rcases bv (vld a) with h | h <;> rcases bv (vld b) with h' | h' <;> simp [h, h', rexact_eq]
  have ⟨h1, h2⟩ := vld_yes h
  have ⟨h3, h4⟩ := vld_yes h'
  rw [w64 (by omega) (by omega)]
theorem rsub_eq (a b : Int) : manorboyref01_Sub.f a b = some (twoS a b (a - b)) := by
  unfold manorboyref01_Sub.f twoS
  rw [rvalid_eq, rvalid_eq]
  rcases bv (vld a) with h | h <;> rcases bv (vld b) with h' | h' <;> simp [h, h', rexact_eq]
  have ⟨h1, h2⟩ := vld_yes h
  have ⟨h3, h4⟩ := vld_yes h'
  rw [w64 (by omega) (by omega)]
theorem rmul_eq (a b : Int) : manorboyref01_Mul.f a b = some (twoS a b (a * b)) := by
  unfold manorboyref01_Mul.f twoS
  rw [rvalid_eq, rvalid_eq]
  rcases bv (vld a) with h | h <;> rcases bv (vld b) with h' | h' <;> simp [h, h', rexact_eq]
  have ⟨h1, h2⟩ := vld_yes h
  have ⟨h3, h4⟩ := vld_yes h'
  have ⟨h5, h6⟩ := mul_in h1 h2 h3 h4
  rw [w64 (by omega) (by omega)]
end Go.Proofs.Ytjclehdhjnmlpaa.Pure
