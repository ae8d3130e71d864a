/- The contract of integer.Trips, over the seat's program; for every input. -/
import Derived.Test.YtjclehdhjnmlpaaGiven2
namespace Go.Proofs.Ytjclehdhjnmlpaa.Given
open Go.RowKit Go.Proofs.YtjclehdhjnmlpaaW.PrintWords Go.Proofs.YtjclehdhjnmlpaaW.PrintLast Go.Proofs.YtjclehdhjnmlpaaW.PrintMore
attribute [local go_sem] max2_int min2_int max_two min_two max_three min_three max_four min_four
set_option linter.unusedVariables false
set_option linter.unusedSimpArgs false

/-- How often a loop goes round. -/
def tripsN (f s l : Int) : Int := if (0 < s ∧ f ≤ l) ∨ (s < 0 ∧ l ≤ f) then (l - f).tdiv s + 1 else 0
def tripsS (f s l : Int) : Int × Bool × Int := if vld f && (vld s && vld l) then (if s = 0 then (0, false, 5) else (tripsN f s l, !vld (f + tripsN f s l * s), 0)) else (0, false, 1)

theorem ret_trips {a c e a' c' e' : Int} {b b' : Bool} (h1 : a = a') (h2 : b = b') (h3 : c = c') : Ending.returned (.tuple #[.int .i64 a, .bool b, .int .i64 c]) = .returned (.tuple #[.int .i64 a', .bool b', .int .i64 c']) := by rw [h1, h2, h3]

theorem quot_in {x y : Int} (h1 : -4294967294 ≤ x) (h2 : x ≤ 4294967294) : -4294967294 ≤ x.tdiv y ∧ x.tdiv y ≤ 4294967294 ∧ -4294967294 ≤ x.tdiv y * y ∧ x.tdiv y * y ≤ 4294967294 := by
  have h : (x.tdiv y).natAbs ≤ x.natAbs := by rw [Int.natAbs_tdiv]; exact Nat.div_le_self _ _
  have h' : (x.tdiv y * y).natAbs ≤ x.natAbs := by rw [Int.natAbs_mul, Int.natAbs_tdiv]; exact Nat.div_mul_le_self _ _
  omega

set_option maxRecDepth 100000 in
set_option maxHeartbeats 1000000 in
theorem trips_c (f s l : Int) (w : World) : Calls Try.prog 48 #[.int .i64 f, .int .i64 s, .int .i64 l] w fun e w' => e = .returned (.tuple #[.int .i64 (tripsS f s l).1, .bool (tripsS f s l).2.1, .int .i64 (tripsS f s l).2.2]) ∧ Below w.heap.size w w' := by
  have HA := Lib.hid (lit_C w [f, s, l] 3 (by simp))
  cases hv : (vld f && (vld s && vld l)) with
  | true =>
    have HV := Lib.hid ((all3 f s l).trans hv)
    have hv2 : vld f = true ∧ vld s = true ∧ vld l = true := by simpa using hv
    have ⟨f1, f2⟩ := vld_yes hv2.1
    have ⟨s1, s2⟩ := vld_yes hv2.2.1
    have ⟨l1, l2⟩ := vld_yes hv2.2.2
    by_cases hs : s = 0
    · have e : tripsS f s l = (0, false, 5) := by unfold tripsS; rw [hv, if_pos rfl, if_pos hs]
      rw [e]; clear e hv hv2
      have hs' : (s == 0) = true := by simp [hs]
      clear hs
      go_enter Try.func48, Try.ntmps48
      go_wp2_with fail
      refine (all_c _ _ _ _ HA.out).mono ?_
      rintro e w' ⟨rfl, rfl⟩
      rw [HV.out]
      go_wp2
      go_ret3
      exact ⟨rfl, by go_grown⟩
    · have e : tripsS f s l = (tripsN f s l, !vld (f + tripsN f s l * s), 0) := by unfold tripsS; rw [hv, if_pos rfl, if_neg hs]
      rw [e]; clear e hv hv2
      have hs' : (s == 0) = false := by simp [hs]
      have ⟨q1, q2, q3, q4⟩ := quot_in (x := l - f) (y := s) (by omega) (by omega)
      have HQ := Lib.hid (show ((l - f).tdiv s + 1) * s = (l - f).tdiv s * s + s by rw [Int.add_mul, Int.one_mul])
      have HW1 := Lib.hid (wrap_small (n := (l - f).tdiv s) (by omega) (by omega))
      have HW2 := Lib.hid (wrap_small (n := (l - f).tdiv s + 1) (by omega) (by omega))
      have HW3 := Lib.hid (wrap_small (n := ((l - f).tdiv s + 1) * s) (by rw [HQ.out]; omega) (by rw [HQ.out]; omega))
      have HW4 := Lib.hid (wrap_small (n := f + ((l - f).tdiv s + 1) * s) (by rw [HQ.out]; omega) (by rw [HQ.out]; omega))
      have HW0 := Lib.hid (wrap_small (n := f + 0 * s) (by omega) (by omega))
      clear q1 q2 q3 q4
      rcases Int.lt_trichotomy s 0 with h | h | h
      · have HS := Lib.hid (show sgn s = -1 by simp [sgn, h])
        by_cases hf : l ≤ f
        · have HT := Lib.hid (show tripsN f s l = (l - f).tdiv s + 1 by unfold tripsN; rw [if_pos (Or.inr ⟨h, hf⟩)])
          go_enter Try.func48, Try.ntmps48
          go_wp2_with fail
          refine (all_c _ _ _ _ HA.out).mono ?_
          rintro e w' ⟨rfl, rfl⟩
          rw [HV.out]
          go_wp2_with fail
          refine (sign_c _ _).mono ?_
          rintro e w' ⟨rfl, rfl⟩
          rw [HS.out]
          go_wp2_with fail
          refine (sign_c _ _).mono ?_
          rintro e w' ⟨rfl, rfl⟩
          rw [HS.out]
          go_wp2_with fail
          refine (valid_c _ _).mono ?_
          rintro e w' ⟨rfl, rfl⟩
          go_wp2
          go_ret3
          exact ⟨by rw [HT.out]; refine ret_trips (e := 0) (e' := 0) ?_ ?_ rfl <;> first | rfl | simp [HW1.out, HW2.out, HW3.out, HW4.out], by go_grown⟩
        · have HT := Lib.hid (show tripsN f s l = 0 by unfold tripsN; rw [if_neg (by omega)])
          go_enter Try.func48, Try.ntmps48
          go_wp2_with fail
          refine (all_c _ _ _ _ HA.out).mono ?_
          rintro e w' ⟨rfl, rfl⟩
          rw [HV.out]
          go_wp2_with fail
          refine (sign_c _ _).mono ?_
          rintro e w' ⟨rfl, rfl⟩
          rw [HS.out]
          go_wp2_with fail
          refine (valid_c _ _).mono ?_
          rintro e w' ⟨rfl, rfl⟩
          go_wp2
          go_ret3
          exact ⟨by rw [HT.out]; refine ret_trips (e := 0) (e' := 0) ?_ ?_ rfl <;> first | rfl | simp [HW0.out], by go_grown⟩
      · exact absurd h hs
      · have HS := Lib.hid (show sgn s = 1 by simp [sgn, h]; omega)
        by_cases hf : f ≤ l
        · have HT := Lib.hid (show tripsN f s l = (l - f).tdiv s + 1 by unfold tripsN; rw [if_pos (Or.inl ⟨h, hf⟩)])
          have HD := Lib.hid (show (l - f) / s = (l - f).tdiv s from (Int.tdiv_eq_ediv_of_nonneg (by omega)).symm)
          go_enter Try.func48, Try.ntmps48
          go_wp2_with fail
          refine (all_c _ _ _ _ HA.out).mono ?_
          rintro e w' ⟨rfl, rfl⟩
          rw [HV.out]
          go_wp2_with fail
          refine (sign_c _ _).mono ?_
          rintro e w' ⟨rfl, rfl⟩
          rw [HS.out]
          go_wp2_with fail
          refine (sign_c _ _).mono ?_
          rintro e w' ⟨rfl, rfl⟩
          rw [HS.out]
          go_wp2_with fail
          refine (valid_c _ _).mono ?_
          rintro e w' ⟨rfl, rfl⟩
          go_wp2
          go_ret3
          exact ⟨by rw [HT.out]; refine ret_trips (e := 0) (e' := 0) ?_ ?_ rfl <;> first | rfl | simp [HD.out, HW1.out, HW2.out, HW3.out, HW4.out], by go_grown⟩
        · have HT := Lib.hid (show tripsN f s l = 0 by unfold tripsN; rw [if_neg (by omega)])
          go_enter Try.func48, Try.ntmps48
          go_wp2_with fail
          refine (all_c _ _ _ _ HA.out).mono ?_
          rintro e w' ⟨rfl, rfl⟩
          rw [HV.out]
          go_wp2_with fail
          refine (sign_c _ _).mono ?_
          rintro e w' ⟨rfl, rfl⟩
          rw [HS.out]
          go_wp2_with fail
          refine (valid_c _ _).mono ?_
          rintro e w' ⟨rfl, rfl⟩
          go_wp2
          go_ret3
          exact ⟨by rw [HT.out]; refine ret_trips (e := 0) (e' := 0) ?_ ?_ rfl <;> first | rfl | simp [HW0.out], by go_grown⟩
  | false =>
    have e : tripsS f s l = (0, false, 1) := by unfold tripsS; rw [hv]; rfl
    rw [e]; clear e
    have HV := Lib.hid ((all3 f s l).trans hv)
    clear hv
    go_enter Try.func48, Try.ntmps48
    go_wp2_with fail
    refine (all_c _ _ _ _ HA.out).mono ?_
    rintro e w' ⟨rfl, rfl⟩
    rw [HV.out]
    go_wp2
    go_ret3
    exact ⟨rfl, by go_grown⟩

def integer_Trips.f (a b c : Int) : Option (Int × Bool × Int) := some (tripsS a b c)
theorem integer_Trips.calls (a0 a1 a2 r1 : Int) (r2 : Bool) (r3 : Int) (w : World) (h : integer_Trips.f a0 a1 a2 = some (r1, r2, r3)) :
    Calls Try.prog 48 #[.int .i64 a0, .int .i64 a1, .int .i64 a2] w fun e w' => e = .returned (.tuple #[.int .i64 r1, .bool r2, .int .i64 r3]) ∧ Below w.heap.size w w' := by
  obtain ⟨rfl, rfl, rfl⟩ : (tripsS a0 a1 a2).1 = r1 ∧ (tripsS a0 a1 a2).2.1 = r2 ∧ (tripsS a0 a1 a2).2.2 = r3 := by rw [Option.some.inj h]; exact ⟨rfl, rfl, rfl⟩
  exact trips_c a0 a1 a2 w

end Go.Proofs.Ytjclehdhjnmlpaa.Given
