/- The pure statement of RefSum: sums and trips of the reference; for all integers. -/
import Derived.Test.YtjclehdhjnmlpaaPureSum
import Derived.Test.YtjclehdhjnmlpaaPureTrips
import Derived.Test.YtjclehdhjnmlpaaPureRef
import Derived.Test.YtjclehdhjnmlpaaPx16
set_option linter.unusedSimpArgs false
set_option linter.unusedVariables false
namespace Go.Proofs.Ytjclehdhjnmlpaa.Pure
open Go.RowKit Go.Proofs.Ytjclehdhjnmlpaa.Given Go.Proofs.Ytjclehdhjnmlpaa.P Go.Proofs.YtjclehdhjnmlpaaW.PrintWords Go.Proofs.YtjclehdhjnmlpaaW.PrintLast


theorem rsum_loop (l : List Int) (hl : l.length ≤ 9223372036854775806) (d : Nat) : ∀ (k i : Nat) (s : Int), i ≤ l.length → l.length - i = d → d < k →
    manorboyref01_Sum.l0 k l s i = some (if (l.drop i).all vld then rng (wsum s (l.drop i)) else (0, 1)) := by
  induction d with
  | zero =>
    intro k i s hi hd hk
    obtain ⟨k, rfl⟩ : ∃ m, k = m + 1 := ⟨k - 1, by omega⟩
    obtain rfl : i = l.length := by omega
    simp only [manorboyref01_Sum.l0]
    rw [if_neg (by omega), rexact_eq, List.drop_length]
    rfl
  | succ d ih =>
    intro k i s hi hd hk
    obtain ⟨k, rfl⟩ : ∃ m, k = m + 1 := ⟨k - 1, by omega⟩
    simp only [manorboyref01_Sum.l0]
    rw [if_pos (by omega), if_pos (by omega), rvalid_eq, w64 (n := (i : Int) + 1) (by omega) (by omega), rd_drop (i := i) (by omega), List.all_cons]
    simp only [Option.bind_some]
    rcases bv (vld (rd l i)) with h | h
    · rw [h, if_pos rfl, Bool.true_and]
      exact ih k (i + 1) (wrap64 (s + rd l i)) (by omega) (by omega) (by omega)
    · rw [h]; rfl
theorem rsum_eq (k : Nat) (l : List Int) (hl : l.length ≤ 9223372036854775806) (hk : l.length < k) : manorboyref01_Sum.f k l = some (sumS l) := by
  unfold manorboyref01_Sum.f sumS
  exact rsum_loop l hl l.length k 0 0 (by omega) (by omega) hk
theorem prod_in {x s : Int} (hs : 0 < s) (hx : 0 ≤ x) (h : x ≤ 4294967294) (h' : s ≤ 2147483647) : 0 ≤ (x / s + 1) * s ∧ (x / s + 1) * s ≤ x + s ∧ 0 ≤ x / s ∧ x / s ≤ x := by
  have a := Int.mul_ediv_add_emod x s
  have b := Int.emod_nonneg x (show s ≠ 0 by omega)
  have c := Int.ediv_nonneg hx (show 0 ≤ s by omega)
  have d := Int.ediv_le_self s hx
  have e : (x / s + 1) * s = s * (x / s) + s := by rw [Int.add_mul, Int.mul_comm]; omega
  have f : 0 ≤ s * (x / s) := Int.mul_nonneg (by omega) c
  omega
theorem rtrips_eq (k : Nat) (f s l : Int) : manorboyref01_Trips.f (k + 1 + 1 + 1) f s l = some (tripsS f s l) := by
  unfold manorboyref01_Trips.f
  rw [rvalid_eq, rvalid_eq, rvalid_eq]
  simp only [Option.bind_some]
  rcases bv (vld f) with hf | hf
  · rcases bv (vld s) with hs | hs
    · rcases bv (vld l) with hl | hl
      · have ⟨f1, f2⟩ := vld_yes hf
        have ⟨s1, s2⟩ := vld_yes hs
        have ⟨l1, l2⟩ := vld_yes hl
        rw [hf, hs, hl, if_pos rfl, if_pos rfl]
        simp only [manorboyref01_Trips.j0, Bool.not_true]
        by_cases h0 : s = 0
        · subst h0
          simp [tripsS, hf, hs, hl]
        · have e0 : tripsS f s l = (tripsN f s l, !vld (f + tripsN f s l * s), 0) := by simp [tripsS, hf, hs, hl, h0]
          rw [e0, if_neg (by decide), if_neg h0]
          by_cases p : s > 0
          · rw [if_pos p]
            by_cases q : f ≤ l
            · have t := trips_pos (f := f) p q
              have ⟨p1, p2, p3, p4⟩ := prod_in (x := l - f) p (by omega) (by omega) s2
              have e1 : wrap64 (Int.tdiv (wrap64 (l - f)) s) = (l - f) / s := by
                rw [w64 (n := l - f) (by omega) (by omega), Int.tdiv_eq_ediv_of_nonneg (by omega), w64 (by omega) (by omega)]
              simp only [decide_eq_true q, manorboyref01_Trips.j1, manorboyref01_Trips.j2, if_pos, h0, e1, if_false]
              rw [if_neg (show ¬ s < 0 by omega), w64 (n := (l - f) / s + 1) (by omega) (by omega), w64 (n := ((l - f) / s + 1) * s) (by omega) (by omega), w64 (n := f + ((l - f) / s + 1) * s) (by omega) (by omega), rvalid_eq, t]
              rfl
            · have t : tripsN f s l = 0 := trips_none (by omega)
              simp only [decide_eq_false q, manorboyref01_Trips.j1, manorboyref01_Trips.j2]
              rw [if_neg (by decide), if_neg (show ¬ s < 0 by omega), w64 (n := 0 * s) (by omega) (by omega), w64 (n := f + 0 * s) (by omega) (by omega), rvalid_eq, t]
              rfl
          · rw [if_neg p]
            simp only [manorboyref01_Trips.j1, manorboyref01_Trips.j2]
            rw [if_neg (by decide), if_pos (show s < 0 by omega)]
            by_cases q : f ≥ l
            · have t := trips_neg (f := f) (show s < 0 by omega) q
              have ⟨p1, p2, p3, p4⟩ := prod_in (x := f - l) (s := -s) (by omega) (by omega) (by omega) (by omega)
              have e2 : wrap64 (-s) = -s := w64 (by omega) (by omega)
              have e1 : wrap64 (Int.tdiv (wrap64 (f - l)) (wrap64 (-s))) = (f - l) / (-s) := by
                rw [e2, w64 (n := f - l) (by omega) (by omega), Int.tdiv_eq_ediv_of_nonneg (by omega), w64 (by omega) (by omega)]
              have e3 : ((f - l) / (-s) + 1) * s = -(((f - l) / (-s) + 1) * -s) := by rw [Int.mul_neg, Int.neg_neg]
              rw [if_pos q, if_neg (show ¬ wrap64 (-s) = 0 by rw [e2]; omega), e1, w64 (n := (f - l) / (-s) + 1) (by omega) (by omega), w64 (n := ((f - l) / (-s) + 1) * s) (by omega) (by omega), w64 (n := f + ((f - l) / (-s) + 1) * s) (by omega) (by omega), rvalid_eq, t]
              rfl
            · have t : tripsN f s l = 0 := trips_none (by omega)
              rw [if_neg q, w64 (n := 0 * s) (by omega) (by omega), w64 (n := f + 0 * s) (by omega) (by omega), rvalid_eq, t]
              rfl
      · simp [hf, hs, hl, manorboyref01_Trips.j0, tripsS]
    · simp [hf, hs, manorboyref01_Trips.j0, tripsS]
  · simp [hf, manorboyref01_Trips.j0, tripsS]

end Go.Proofs.Ytjclehdhjnmlpaa.Pure
