/- The pure statement of IntegerTrips: a loop that begins one step later has one trip less; for all integers. -/
import Derived.Test.YtjclehdhjnmlpaaPureTrips
import Derived.Test.YtjclehdhjnmlpaaPureValid
import Derived.Test.YtjclehdhjnmlpaaPx18
set_option linter.unusedSimpArgs false
namespace Go.Proofs.Ytjclehdhjnmlpaa.Pure
open Go.RowKit Go.Proofs.Ytjclehdhjnmlpaa.Given Go.Proofs.Ytjclehdhjnmlpaa.P Go.Proofs.YtjclehdhjnmlpaaW.PrintWords Go.Proofs.YtjclehdhjnmlpaaW.PrintLast


theorem IntegerTrips : manorboylaw01_IntegerTrips.Pure := by
  intro f s l _ _ _
  refine ⟨20 + 1, ?_⟩
  simp only [manorboylaw01_IntegerTrips.f, manorboylaw01_IntegerTrips.j0, manorboylaw01_IntegerTrips.j1, manorboylaw01_IntegerTrips.j2, awake_true, valid_eq, integer_Cmp.f, integer_Sign.f, integer_Add.f, integer_Trips.f, Option.bind_some]
  rcases bv (vld f) with hf | hf
  · rcases bv (vld s) with hs | hs
    · rcases bv (vld l) with hl | hl
      · by_cases h0 : s = 0
        · subst h0
          simp [hf, hs, hl, tripsS]
        · have ⟨f1, f2⟩ := vld_yes hf
          have ⟨s1, s2⟩ := vld_yes hs
          have ⟨l1, l2⟩ := vld_yes hl
          have n0 := trips_nonneg f s l
          have n1 := trips_most (s := s) ⟨f1, f2⟩ ⟨l1, l2⟩
          have sv : ∀ n, vld (sgn n) = true := fun n => by unfold sgn; split <;> (try split) <;> decide
          have e0 : tripsS f s l = (tripsN f s l, !vld (f + tripsN f s l * s), 0) := by simp [tripsS, hf, hs, hl, h0]
          have e1 : decide (tripsN f s l < 0) = false := decide_eq_false (by omega)
          have e2 : twoS f l (sgn (f - l)) = (sgn (f - l), 0) := by rw [twoS_yes hf hl, rng_yes (sv _)]
          have e3 : oneS s (sgn s) = (sgn s, 0) := by unfold oneS; rw [hs, if_pos rfl, rng_yes (sv _)]
          by_cases h : (0 < s ∧ f ≤ l) ∨ (s < 0 ∧ l ≤ f)
          · have m0 := trips_some h
            have e4 : ((tripsN f s l == 0) != (sgn (f - l) == sgn s)) = false := by
              have x : (tripsN f s l == 0) = false := by simp; omega
              have y : (sgn (f - l) == sgn s) = false := by
                simp only [beq_eq_false_iff_ne, ne_eq]
                unfold sgn
                rcases h with ⟨p, q⟩ | ⟨p, q⟩
                · rw [if_neg (show ¬ s < 0 by omega), if_pos p]; split
                  · omega
                  · rw [if_neg (by omega)]; omega
                · rw [if_pos p, if_neg (show ¬ f - l < 0 by omega)]; split <;> omega
              rw [x, y]; rfl
            have e5 : ¬ tripsN f s l = 0 := by omega
            simp only [hf, hs, hl, h0, e0, e1, e2, e3, e4, e5]
            rcases bv (vld (f + s)) with hn | hn
            · have t1 := trips_step h
              have e6 : tripsS (f + s) s l = (tripsN f s l - 1, !vld (f + tripsN f s l * s), 0) := by
                simp only [tripsS, hn, hs, hl, h0, t1]
                have : f + s + (tripsN f s l - 1) * s = f + tripsN f s l * s := by rw [Int.sub_mul]; omega
                simp [this]
              have e7 : wrap64 (tripsN f s l - 1) = tripsN f s l - 1 := w64 (by omega) (by omega)
              simp [twoS_yes hf hs, rng_yes hn, e6, e7]
            · have t1 := trips_last h (by have := vld_no hn; omega)
              have e6 : twoS f s (f + s) = (0, 3) := by rw [twoS_yes hf hs, rng_no hn]
              simp [e6, t1, hn]
          · have t0 := trips_none h
            have e4 : sgn (f - l) = sgn s := by
              unfold sgn
              by_cases p : s < 0
              · rw [if_pos p, if_pos (by omega)]
              · rw [if_neg p, if_neg (by omega), if_pos (by omega), if_pos (by omega)]
            simp only [e0, e2, e3, t0]
            simp [hf, hs, hl, h0, e4]
      · simp [hf, hs, hl, tripsS]
    · simp [hf, hs, tripsS]
  · simp [hf, tripsS]

end Go.Proofs.Ytjclehdhjnmlpaa.Pure
