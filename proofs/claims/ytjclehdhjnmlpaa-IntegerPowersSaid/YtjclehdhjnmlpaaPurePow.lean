/- The pure statement of Pow: powers of integers; for all integers. -/
import Derived.Test.YtjclehdhjnmlpaaPureValid
import Derived.Test.YtjclehdhjnmlpaaPx11
set_option linter.unusedSimpArgs false
set_option linter.unusedVariables false
namespace Go.Proofs.Ytjclehdhjnmlpaa.Pure
open Go.RowKit Go.Proofs.Ytjclehdhjnmlpaa.Given Go.Proofs.Ytjclehdhjnmlpaa.P Go.Proofs.YtjclehdhjnmlpaaW.PrintWords Go.Proofs.YtjclehdhjnmlpaaW.PrintLast


/-- What a power comes to. -/
def powS (a n : Int) : Int × Int := if (vld a && vld n) = false ∨ n < 0 then (0, 1) else if a = 0 ∧ n = 0 then (0, 5) else rng (a ^ n.toNat)
theorem pow_natAbs (a : Int) (n : Nat) : (a ^ n).natAbs = a.natAbs ^ n := Int.natAbs_pow a n
theorem pow_grows {a : Int} (h : 2 ≤ a.natAbs) {i n : Nat} (hi : i ≤ n) : (a ^ i).natAbs ≤ (a ^ n).natAbs := by
  rw [pow_natAbs, pow_natAbs]; exact Nat.pow_le_pow_right (by omega) hi
theorem vld_abs (n : Int) : vld n = decide (n.natAbs ≤ 2147483647) := by unfold vld; congr 1; apply propext; omega
theorem pow_gone {a : Int} (h : 2 ≤ a.natAbs) {i n : Nat} (hi : i ≤ n) (hv : vld (a ^ i) = false) : vld (a ^ n) = false := by
  have := pow_grows h hi
  rw [vld_abs] at hv ⊢
  have := of_decide_eq_false hv
  exact decide_eq_false (by omega)
theorem pow_loop (a : Int) (h2 : 2 ≤ a.natAbs) (ha : vld a = true) (n : Nat) (hn : n ≤ 2147483647) (d : Nat) : ∀ (k i : Nat), i ≤ n → n - i = d → d < k → vld (a ^ i) = true →
    integer_Pow.l0 k a (a ^ i) n i = some (rng (a ^ n)) := by
  induction d with
  | zero =>
    intro k i hi hd hk hv
    obtain ⟨k, rfl⟩ : ∃ m, k = m + 1 := ⟨k - 1, by omega⟩
    obtain rfl : i = n := by omega
    simp only [integer_Pow.l0]
    rw [if_neg (by omega), rng_yes hv]
  | succ d ih =>
    intro k i hi hd hk hv
    obtain ⟨k, rfl⟩ : ∃ m, k = m + 1 := ⟨k - 1, by omega⟩
    have ⟨a1, a2⟩ := vld_yes ha
    have ⟨p1, p2⟩ := vld_yes hv
    have ⟨m1, m2⟩ := mul_in p1 p2 a1 a2
    simp only [integer_Pow.l0]
    rw [if_pos (by omega), w64 (n := a ^ i * a) (by omega) (by omega), w64 (n := (i : Int) + 1) (by omega) (by omega), ← Int.pow_succ, valid_eq]
    simp only [Option.bind_some]
    rcases bv (vld (a ^ (i + 1))) with h | h
    · rw [h, if_pos rfl]
      exact ih k (i + 1) (by omega) (by omega) (by omega) h
    · rw [h, rng_no (pow_gone h2 (by omega) h)]
      rfl
theorem zero_pow' {n : Nat} (h : n ≠ 0) : (0 : Int) ^ n = 0 := by
  obtain ⟨m, rfl⟩ : ∃ m, n = m + 1 := ⟨n - 1, by omega⟩
  rw [Int.pow_succ, Int.mul_zero]
theorem neg_one_pow (n : Nat) : (-1 : Int) ^ n = 1 - 2 * ((n : Int) % 2) := by
  induction n with
  | zero => rfl
  | succ n ih => rw [Int.pow_succ, ih]; omega
theorem one_pow' (n : Nat) : (1 : Int) ^ n = 1 := Int.one_pow
theorem pow_eq (k : Nat) (a n : Int) (hk : n.toNat + 10 < k) : integer_Pow.f k a n = some (powS a n) := by
  unfold integer_Pow.f integer_all.f
  rw [all2]
  simp only [Option.bind_some]
  rcases bv (vld a && vld n) with hv | hv
  · have ⟨ha, hn⟩ : vld a = true ∧ vld n = true := by simpa using hv
    have ⟨n1, n2⟩ := vld_yes hn
    obtain ⟨k, rfl⟩ : ∃ m, k = m + 1 + 1 + 1 := ⟨k - 3, by omega⟩
    by_cases h0 : n < 0
    · have : powS a n = (0, 1) := by unfold powS; rw [if_pos (.inr h0)]
      simp [hv, h0, integer_Pow.j0, this]
    · have hp : powS a n = if a = 0 ∧ n = 0 then (0, 5) else rng (a ^ n.toNat) := by
        unfold powS; rw [if_neg (by simp [hv]; omega)]
      rw [hp, hv, if_pos rfl]
      have hd0 : decide (n < 0) = false := decide_eq_false h0
      simp only [integer_Pow.j0, hd0]
      by_cases a0 : a = 0
      · subst a0
        by_cases n0 : n = 0
        · simp [n0, integer_Pow.j1]
        · have : (n == 0) = false := by simpa using n0
          simp [n0, this, integer_Pow.j1, integer_Pow.j2, zero_pow' (n := n.toNat) (by omega), rng, show vld 0 = true by decide]
      · by_cases a1 : a = 1
        · subst a1
          by_cases n0 : n = 0
          · simp [n0, integer_Pow.j1, integer_Pow.j2, rng, show vld 1 = true by decide]
          · simp [n0, integer_Pow.j1, integer_Pow.j2, rng, show vld 1 = true by decide, Int.one_pow]
        · have b1 : (a == 1) = false := by simpa using a1
          by_cases a2 : a = -1
          · subst a2
            have e : Int.tmod n 2 = n % 2 := Int.tmod_eq_emod_of_nonneg (by omega)
            have e2 : ((n.toNat : Nat) : Int) = n := by omega
            have hv' : vld (1 - 2 * (n % 2)) = true := vld_mk (by omega) (by omega)
            have hw : wrap64 (1 - wrap64 (2 * (n % 2))) = 1 - 2 * (n % 2) := by rw [w64 (n := 2 * (n % 2)) (by omega) (by omega), w64 (by omega) (by omega)]
            simp [integer_Pow.j1, integer_Pow.j2, neg_one_pow, e, e2, rng, hv', hw]
          · have h2 : 2 ≤ a.natAbs := by omega
            have e2 : ((n.toNat : Nat) : Int) = n := by omega
            have := pow_loop a h2 ha n.toNat (by omega) n.toNat k 0 (by omega) (by omega) (by omega) (by simp; decide)
            simp only [e2, Int.pow_zero, Int.natCast_zero] at this
            simp [a0, b1, a2, integer_Pow.j1, integer_Pow.j2, this]
  · have : powS a n = (0, 1) := by unfold powS; rw [if_pos (.inl hv)]
    obtain ⟨k, rfl⟩ : ∃ m, k = m + 1 := ⟨k - 1, by omega⟩
    simp [hv, integer_Pow.j0, this]

end Go.Proofs.Ytjclehdhjnmlpaa.Pure
