/- The pure statement of RefPow: powers of the reference; for all integers. -/
import Derived.Test.YtjclehdhjnmlpaaPurePow
import Derived.Test.YtjclehdhjnmlpaaPureRef
import Derived.Test.YtjclehdhjnmlpaaPx14
set_option linter.unusedSimpArgs false
set_option linter.unusedVariables false
namespace Go.Proofs.Ytjclehdhjnmlpaa.Pure
open Go.RowKit Go.Proofs.Ytjclehdhjnmlpaa.Given Go.Proofs.Ytjclehdhjnmlpaa.P Go.Proofs.YtjclehdhjnmlpaaW.PrintWords Go.Proofs.YtjclehdhjnmlpaaW.PrintLast


theorem rpow_loop (a : Int) (h2 : 2 ≤ a.natAbs) (ha : vld a = true) (n : Nat) (hn : n ≤ 2147483647) (d : Nat) : ∀ (k i : Nat), i ≤ n → n - i = d → d < k → vld (a ^ i) = true →
    manorboyref01_Pow.l0 k a n (a ^ i) i = some (rng (a ^ n)) := by
  induction d with
  | zero =>
    intro k i hi hd hk hv
    obtain ⟨k, rfl⟩ : ∃ m, k = m + 1 := ⟨k - 1, by omega⟩
    obtain rfl : i = n := by omega
    simp only [manorboyref01_Pow.l0]
    rw [if_neg (by omega), rng_yes hv]
  | succ d ih =>
    intro k i hi hd hk hv
    obtain ⟨k, rfl⟩ : ∃ m, k = m + 1 := ⟨k - 1, by omega⟩
    have ⟨a1, a2⟩ := vld_yes ha
    have ⟨p1, p2⟩ := vld_yes hv
    have ⟨m1, m2⟩ := mul_in p1 p2 a1 a2
    simp only [manorboyref01_Pow.l0]
    rw [if_pos (by omega), w64 (n := a ^ i * a) (by omega) (by omega), w64 (n := (i : Int) + 1) (by omega) (by omega), ← Int.pow_succ, rvalid_eq]
    simp only [Option.bind_some]
    rcases bv (vld (a ^ (i + 1))) with h | h
    · rw [h, if_pos rfl]
      exact ih k (i + 1) (by omega) (by omega) (by omega) h
    · rw [h, rng_no (pow_gone h2 (by omega) h)]
      rfl
theorem rpow_eq (k : Nat) (a n : Int) (hk : n.toNat + 10 < k) : manorboyref01_Pow.f k a n = some (powS a n) := by
  unfold manorboyref01_Pow.f
  rw [rvalid_eq, rvalid_eq]
  simp only [Option.bind_some]
  obtain ⟨k, rfl⟩ : ∃ m, k = m + 1 + 1 + 1 := ⟨k - 3, by omega⟩
  rcases bv (vld a) with ha | ha
  · rcases bv (vld n) with hn | hn
    · have ⟨n1, n2⟩ := vld_yes hn
      have hv : (vld a && vld n) = true := by simp [ha, hn]
      by_cases h0 : n < 0
      · have : powS a n = (0, 1) := by unfold powS; rw [if_pos (.inr h0)]
        simp [ha, hn, h0, manorboyref01_Pow.j0, this]
      · have hp : powS a n = if a = 0 ∧ n = 0 then (0, 5) else rng (a ^ n.toNat) := by
          unfold powS; rw [if_neg (by simp [hv]; omega)]
        have hd0 : decide (n < 0) = false := decide_eq_false h0
        rw [hp, ha, hn, if_pos rfl, if_pos rfl]
        simp only [manorboyref01_Pow.j0, hd0]
        by_cases a0 : a = 0
        · subst a0
          by_cases n0 : n = 0
          · simp [n0, manorboyref01_Pow.j1]
          · have : (n == 0) = false := by simpa using n0
            simp [n0, this, manorboyref01_Pow.j1, manorboyref01_Pow.j2, zero_pow' (n := n.toNat) (by omega), rng, show vld 0 = true by decide]
        · by_cases a1 : a = 1
          · subst a1
            simp [manorboyref01_Pow.j1, manorboyref01_Pow.j2, rng, show vld 1 = true by decide, Int.one_pow]
          · by_cases a2 : a = -1
            · subst a2
              have e : Int.tmod n 2 = n % 2 := Int.tmod_eq_emod_of_nonneg (by omega)
              have e2 : ((n.toNat : Nat) : Int) = n := by omega
              have hv' : vld (1 - 2 * (n % 2)) = true := vld_mk (by omega) (by omega)
              by_cases n1 : n % 2 = 1
              · have : (n % 2 == 1) = true := by simpa using n1
                simp [manorboyref01_Pow.j1, manorboyref01_Pow.j2, neg_one_pow, e, e2, rng, n1, this, show vld (-1) = true by decide]
              · have z : n % 2 = 0 := by omega
                simp [manorboyref01_Pow.j1, manorboyref01_Pow.j2, neg_one_pow, e, e2, rng, z, show vld 1 = true by decide]
            · have h2 : 2 ≤ a.natAbs := by omega
              have e2 : ((n.toNat : Nat) : Int) = n := by omega
              have := rpow_loop a h2 ha n.toNat (by omega) n.toNat k 0 (by omega) (by omega) (by omega) (by simp; decide)
              simp only [e2, Int.pow_zero, Int.natCast_zero] at this
              simp [a0, a1, a2, manorboyref01_Pow.j1, manorboyref01_Pow.j2, this]
    · have : powS a n = (0, 1) := by unfold powS; rw [if_pos (.inl (by simp [hn]))]
      simp [ha, hn, manorboyref01_Pow.j0, this]
  · have : powS a n = (0, 1) := by unfold powS; rw [if_pos (.inl (by simp [ha]))]
    simp [ha, manorboyref01_Pow.j0, this]

end Go.Proofs.Ytjclehdhjnmlpaa.Pure
