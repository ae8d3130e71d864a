/- The pure statement of IntegerPowers: powers are multiplied by adding exponents; for all integers. -/
import Derived.Test.YtjclehdhjnmlpaaPurePow
import Derived.Test.YtjclehdhjnmlpaaPx12
set_option linter.unusedSimpArgs false
set_option linter.unusedVariables false
namespace Go.Proofs.Ytjclehdhjnmlpaa.Pure
open Go.RowKit Go.Proofs.Ytjclehdhjnmlpaa.Given Go.Proofs.Ytjclehdhjnmlpaa.P Go.Proofs.YtjclehdhjnmlpaaW.PrintWords Go.Proofs.YtjclehdhjnmlpaaW.PrintLast


theorem powS_ok {a n : Int} (h : (powS a n).2 = 0) : vld a = true ∧ vld n = true ∧ 0 ≤ n ∧ ¬ (a = 0 ∧ n = 0) ∧ vld (a ^ n.toNat) = true ∧ powS a n = (a ^ n.toNat, 0) := by
  unfold powS at h ⊢
  by_cases c1 : (vld a && vld n) = false ∨ n < 0
  · rw [if_pos c1] at h; exact absurd h (by simp)
  · rw [if_neg c1] at h ⊢
    by_cases c2 : a = 0 ∧ n = 0
    · rw [if_pos c2] at h; exact absurd h (by simp)
    · rw [if_neg c2] at h ⊢
      have c3 : vld a = true ∧ vld n = true ∧ 0 ≤ n := by
        refine ⟨?_, ?_, by omega⟩
        · rcases bv (vld a) with x | x
          · exact x
          · exact absurd (.inl (by simp [x])) c1
        · rcases bv (vld n) with x | x
          · exact x
          · exact absurd (.inl (by simp [x])) c1
      rcases bv (vld (a ^ n.toNat)) with x | x
      · exact ⟨c3.1, c3.2.1, c3.2.2, c2, x, rng_yes x⟩
      · rw [rng_no x] at h; exact absurd h (by simp)
theorem powS_mk {a n : Int} (ha : vld a = true) (hn : vld n = true) (h0 : 0 ≤ n) (h : ¬ (a = 0 ∧ n = 0)) : powS a n = rng (a ^ n.toNat) := by
  unfold powS; rw [if_neg (by simp [ha, hn]; omega), if_neg h]
theorem IntegerPowers : manorboylaw01_IntegerPowers.Pure := by
  intro a m n _ _ _
  obtain ⟨K, hK⟩ : ∃ K, K = m.toNat + n.toNat + (m + n).toNat + (m - 1).toNat + 20 := ⟨_, rfl⟩
  refine ⟨K + 1 + 1 + 1 + 1 + 1, ?_⟩
  have p : ∀ x k, x.toNat + 10 < k → integer_Pow.f k a x = some (powS a x) := fun x k h => pow_eq k a x h
  have p1 := p m (K + 1 + 1 + 1 + 1 + 1) (by omega)
  have p2 := p n (K + 1 + 1 + 1 + 1 + 1) (by omega)
  have p3 := p (m + n) (K + 1 + 1 + 1 + 1) (by omega)
  have p4 := p (m - 1) (K + 1 + 1) (by omega)
  have p5 := p 1 (K + 1) (by omega)
  clear p
  have v1 : vld 1 = true := by decide
  have hone : (if vld a = true then (if (powS a 1).2 = 0 then some ((powS a 1).1 == a) else some false) else some ((powS a 1).2 == 1)) = some true := by
    rcases bv (vld a) with ha | ha
    · have : powS a 1 = (a, 0) := by
        rw [powS_mk ha v1 (by omega) (by omega), show (1 : Int).toNat = 1 from rfl, Int.pow_succ, Int.pow_zero, Int.one_mul, rng_yes ha]
      simp [ha, this]
    · have : powS a 1 = (0, 1) := by unfold powS; rw [if_pos (.inl (by simp [ha]))]
      simp [ha, this]
  -- the power with an exponent one less
  have hless : (powS a m).2 = 0 → 0 < m → (a ≠ 0 ∨ 1 < m) → (powS a (wrap64 (m - 1))).2 = 0 ∧ wrap64 (m - 1) = m - 1 := by
    intro h h1 h2
    obtain ⟨ha, hm, h0, hz, hv, _⟩ := powS_ok h
    have ⟨m1, m2⟩ := vld_yes hm
    have hw : wrap64 (m - 1) = m - 1 := w64 (by omega) (by omega)
    rw [hw]
    refine ⟨?_, rfl⟩
    rw [powS_mk ha (vld_mk (by omega) (by omega)) (by omega) (by omega)]
    have : vld (a ^ (m - 1).toNat) = true := by
      by_cases a0 : a = 0
      · rw [a0, zero_pow' (by omega)]; decide
      · rw [vld_abs] at hv ⊢
        have h3 := of_decide_eq_true hv
        have h4 : (a ^ (m - 1).toNat).natAbs ≤ (a ^ m.toNat).natAbs := by
          rw [pow_natAbs, pow_natAbs]; exact Nat.pow_le_pow_right (by omega) (by omega)
        exact decide_eq_true (by omega)
    rw [rng_yes this]
  have hsum : (powS a m).2 = 0 → (powS a n).2 = 0 → vld (m + n) = true → powS a (m + n) = twoS (powS a m).1 (powS a n).1 ((powS a m).1 * (powS a n).1) := by
    intro h1 h2 h3
    obtain ⟨ha, hm, m0, mz, mv, em⟩ := powS_ok h1
    obtain ⟨_, hn, n0, nz, nv, en⟩ := powS_ok h2
    rw [em, en, twoS_yes mv nv, powS_mk ha h3 (by omega) (by omega), ← Int.pow_add, show (m + n).toNat = m.toNat + n.toNat by omega]
  have hadd : ∀ x : Bool, ((twoS m n (m + n)).2 == 0) = true → vld m = true ∧ vld n = true ∧ vld (m + n) = true ∧ (twoS m n (m + n)).1 = m + n := by
    intro _ h
    rcases bv (vld m) with hm | hm
    · rcases bv (vld n) with hn | hn
      · rcases bv (vld (m + n)) with hs | hs
        · exact ⟨hm, hn, hs, by rw [twoS_yes hm hn, rng_yes hs]⟩
        · rw [twoS_yes hm hn, rng_no hs] at h; exact absurd h (by decide)
      · rw [twoS_r hn] at h; exact absurd h (by decide)
    · rw [twoS_l hm] at h; exact absurd h (by decide)
  have s3 : manorboylaw01_IntegerPowers.j3 (K + 1 + 1) a true = some true := by
    simp only [manorboylaw01_IntegerPowers.j3, p5, valid_eq, Option.bind_some]
    rcases bv (vld a) with ha | ha
    · rw [ha] at hone ⊢; simpa using hone
    · rw [ha] at hone ⊢; simpa using hone
  have s2 : ∀ b : Bool, (b = true → (powS a m).2 = 0 ∧ 0 < m ∧ (a ≠ 0 ∨ 1 < m)) → manorboylaw01_IntegerPowers.j2 (K + 1 + 1 + 1) a m true b = some true := by
    intro b hb
    cases b with
    | false => simp [manorboylaw01_IntegerPowers.j2, s3]
    | true =>
      obtain ⟨h1, h2, h3⟩ := hb rfl
      obtain ⟨q, e⟩ := hless h1 h2 h3
      rw [e] at q
      simp [manorboylaw01_IntegerPowers.j2, s3, e, p4, q]
  have s1 : manorboylaw01_IntegerPowers.j1 (K + 1 + 1 + 1 + 1) a m true (powS a m).2 = some true := by
    simp only [manorboylaw01_IntegerPowers.j1]
    by_cases c1 : (powS a m).2 = 0
    · rw [if_pos c1]
      by_cases c2 : m > 0
      · rw [if_pos c2]
        by_cases c3 : a = 0
        · rw [if_pos c3]
          exact s2 _ (fun h => ⟨c1, c2, .inr (by simpa using h)⟩)
        · rw [if_neg c3]
          exact s2 _ (fun _ => ⟨c1, c2, .inl c3⟩)
      · rw [if_neg c2]
        exact s2 _ (fun h => by cases h)
    · rw [if_neg c1]
      exact s2 _ (fun h => by cases h)
  have s0 : ∀ b : Bool, (b = true → (powS a m).2 = 0 ∧ (powS a n).2 = 0 ∧ (twoS m n (m + n)).2 = 0) →
      manorboylaw01_IntegerPowers.j0 (K + 1 + 1 + 1 + 1 + 1) a m true (powS a m).1 (powS a m).2 (powS a n).1 (twoS m n (m + n)).1 b = some true := by
    intro b hb
    cases b with
    | false => simp [manorboylaw01_IntegerPowers.j0, s1]
    | true =>
      obtain ⟨h1, h2, h3⟩ := hb rfl
      obtain ⟨_, _, hs, e⟩ := hadd true (by simpa using h3)
      have hh := hsum h1 h2 hs
      simp only [manorboylaw01_IntegerPowers.j0, e, p3, hh, integer_Mul.f, Option.bind_some]
      simp [s1]
  simp only [manorboylaw01_IntegerPowers.f, awake_true, integer_Add.f, Option.bind_some, p1, p2]
  by_cases c1 : (powS a m).2 = 0
  · rw [if_pos c1]
    by_cases c2 : (powS a n).2 = 0
    · rw [if_pos c2]
      exact s0 _ (fun h => ⟨c1, c2, by simpa using h⟩)
    · rw [if_neg c2]
      exact s0 _ (fun h => by cases h)
  · rw [if_neg c1]
    exact s0 _ (fun h => by cases h)

end Go.Proofs.Ytjclehdhjnmlpaa.Pure
