/- The contracts of package integer's exported arithmetic (Neg, Abs, Sign, Add, Sub, Mul, Cmp, Quo, Rem, Floor, Mod), over the seat's program; for every input. -/
import Derived.Test.YtjclehdhjnmlpaaGiven
import Derived.IntWalk
namespace Go.Proofs.Ytjclehdhjnmlpaa.Given
open Go.RowKit Go.Proofs.YtjclehdhjnmlpaaW.PrintWords Go.Proofs.YtjclehdhjnmlpaaW.PrintLast Go.Proofs.YtjclehdhjnmlpaaW.PrintMore
attribute [local go_sem] max2_int min2_int max_two min_two max_three min_three max_four min_four
set_option linter.unusedVariables false
set_option linter.unusedSimpArgs false

/-! ### the operations -/
theorem wrap_small {n : Int} (h1 : -9223372036854775808 ≤ n) (h2 : n ≤ 9223372036854775807) : wrap64 n = n := by unfold wrap64; omega
theorem ret_int {k : IntKind} {a b : Int} (h : a = b) : Ending.returned (.int k a) = .returned (.int k b) := by rw [h]

def sgn (n : Int) : Int := if n < 0 then -1 else if n > 0 then 1 else 0
theorem sign_c (n : Int) (w : World) : Calls Try.prog 87 #[.int .i64 n] w fun e w' => e = .returned (.int .i64 (sgn n)) ∧ w = w' := by
  by_cases h1 : n < 0
  · have e : sgn n = -1 := by simp [sgn, h1]
    rw [e]; clear e
    go_enter Try.func87, Try.ntmps87
    go_wp2
    go_ret
    exact ⟨rfl, rfl⟩
  · by_cases h2 : 0 < n
    · have e : sgn n = 1 := by simp [sgn, h1, h2]
      rw [e]; clear e
      go_enter Try.func87, Try.ntmps87
      go_wp2
      go_ret
      exact ⟨rfl, rfl⟩
    · have e : sgn n = 0 := by simp [sgn, h1, h2]
      rw [e]; clear e
      go_enter Try.func87, Try.ntmps87
      go_wp2
      go_ret
      exact ⟨rfl, rfl⟩

theorem add_c (a b : Int) (w : World) (ha : vld a = true) (hb : vld b = true) : Calls Try.prog 76 #[.int .i64 a, .int .i64 b] w fun e w' => e = .returned (.int .i64 (a + b)) ∧ w = w' := by
  have ⟨h1, h2⟩ := vld_yes ha
  have ⟨h3, h4⟩ := vld_yes hb
  clear ha hb
  go_enter Try.func76, Try.ntmps76
  go_wp2
  go_ret
  exact ⟨rfl, rfl⟩
theorem sub_c (a b : Int) (w : World) (ha : vld a = true) (hb : vld b = true) : Calls Try.prog 78 #[.int .i64 a, .int .i64 b] w fun e w' => e = .returned (.int .i64 (a - b)) ∧ w = w' := by
  have ⟨h1, h2⟩ := vld_yes ha
  have ⟨h3, h4⟩ := vld_yes hb
  clear ha hb
  go_enter Try.func78, Try.ntmps78
  go_wp2
  go_ret
  exact ⟨rfl, rfl⟩
theorem mul_in {a b : Int} (h1 : -2147483647 ≤ a) (h2 : a ≤ 2147483647) (h3 : -2147483647 ≤ b) (h4 : b ≤ 2147483647) : -4611686014132420609 ≤ a * b ∧ a * b ≤ 4611686014132420609 := by
  have h : a.natAbs * b.natAbs ≤ 2147483647 * 2147483647 := Nat.mul_le_mul (by omega) (by omega)
  have e := Int.natAbs_mul a b
  omega
theorem mul_c (a b : Int) (w : World) (ha : vld a = true) (hb : vld b = true) : Calls Try.prog 77 #[.int .i64 a, .int .i64 b] w fun e w' => e = .returned (.int .i64 (a * b)) ∧ w = w' := by
  have ⟨h1, h2⟩ := vld_yes ha
  have ⟨h3, h4⟩ := vld_yes hb
  have ⟨h5, h6⟩ := mul_in h1 h2 h3 h4
  have HW := Lib.hid (wrap_small (n := a * b) (by omega) (by omega))
  clear ha hb h1 h2 h3 h4 h5 h6
  go_enter Try.func77, Try.ntmps77
  go_wp2
  go_ret
  exact ⟨by rw [← HW.out]; simp [HW.out], rfl⟩
theorem tdiv_in {a b : Int} (h1 : -2147483647 ≤ a) (h2 : a ≤ 2147483647) : -2147483647 ≤ a.tdiv b ∧ a.tdiv b ≤ 2147483647 := by
  have h : (a.tdiv b).natAbs ≤ a.natAbs := by rw [Int.natAbs_tdiv]; exact Nat.div_le_self _ _
  omega
theorem tmod_in {a b : Int} (h1 : -2147483647 ≤ a) (h2 : a ≤ 2147483647) : -2147483647 ≤ a.tmod b ∧ a.tmod b ≤ 2147483647 := by
  have h : (a.tmod b).natAbs ≤ a.natAbs := by rw [Int.natAbs_tmod]; exact Nat.mod_le _ _
  omega
theorem quo_c (a b : Int) (w : World) (ha : vld a = true) (hb : b ≠ 0) : Calls Try.prog 80 #[.int .i64 a, .int .i64 b] w fun e w' => e = .returned (.int .i64 (a.tdiv b)) ∧ w = w' := by
  have ⟨h1, h2⟩ := vld_yes ha
  have ⟨h5, h6⟩ := tdiv_in (b := b) h1 h2
  have HW := Lib.hid (wrap_small (n := a.tdiv b) (by omega) (by omega))
  have hb' : (b == 0) = false := by simp [hb]
  clear ha h5 h6 h1 h2
  go_enter Try.func80, Try.ntmps80
  go_wp2
  go_ret
  exact ⟨by first | rfl | (rw [← HW.out]; simp [HW.out]), rfl⟩
theorem squo_c (a b : Int) (w : World) (ha : vld a = true) (hb : b ≠ 0) : Calls Try.prog 95 #[.int .i64 a, .int .i64 b] w fun e w' => e = .returned (.int .i64 (a.tdiv b)) ∧ w = w' := by
  have ⟨h1, h2⟩ := vld_yes ha
  have ⟨h5, h6⟩ := tdiv_in (b := b) h1 h2
  have HW := Lib.hid (wrap_small (n := a.tdiv b) (by omega) (by omega))
  have hb' : (b == 0) = false := by simp [hb]
  clear ha h5 h6 h1 h2
  go_enter Try.func95, Try.ntmps95
  go_wp2
  go_ret
  exact ⟨by first | rfl | (rw [← HW.out]; simp [HW.out]), rfl⟩
theorem rem_c (a b : Int) (w : World) (ha : vld a = true) (hb : b ≠ 0) : Calls Try.prog 81 #[.int .i64 a, .int .i64 b] w fun e w' => e = .returned (.int .i64 (a.tmod b)) ∧ w = w' := by
  have hb' : (b == 0) = false := by simp [hb]
  clear ha
  go_enter Try.func81, Try.ntmps81
  go_wp2
  go_ret
  exact ⟨rfl, rfl⟩

def flr (a b : Int) : Int := if a.tmod b ≠ 0 ∧ (decide (a < 0) != decide (b < 0)) = true then a.tdiv b - 1 else a.tdiv b
theorem flr_in {a b : Int} (h1 : -2147483647 ≤ a) (h2 : a ≤ 2147483647) : -2147483648 ≤ flr a b ∧ flr a b ≤ 2147483647 := by
  have := tdiv_in (b := b) h1 h2
  unfold flr; split <;> omega
theorem floor_c (a b : Int) (w : World) (ha : vld a = true) (hb : b ≠ 0) : Calls Try.prog 82 #[.int .i64 a, .int .i64 b] w fun e w' => e = .returned (.int .i64 (flr a b)) ∧ w = w' := by
  have ⟨h1, h2⟩ := vld_yes ha
  have ⟨h5, h6⟩ := tdiv_in (b := b) h1 h2
  have HW := Lib.hid (wrap_small (n := a.tdiv b) (by omega) (by omega))
  have HW2 := Lib.hid (wrap_small (n := a.tdiv b - 1) (by omega) (by omega))
  have hb' : (b == 0) = false := by simp [hb]
  clear ha h5 h6 h1 h2
  by_cases c4 : a.tmod b = 0
  · have HE := Lib.hid (show flr a b = a.tdiv b by unfold flr; rw [if_neg (by simp [c4])])
    have c4b0 : (a.tmod b == 0) = true := beq_iff_eq.mpr c4
    have c4b1 : (a.tmod b != 0) = false := bne_eq_false_iff_eq.mpr c4
    clear c4
    go_enter Try.func82, Try.ntmps82
    go_wp2
    go_ret
    exact ⟨by rw [HE.out]; first | rfl | (refine ret_int ?_; simp [HW.out]), rfl⟩
  · have c4b0 : (a.tmod b == 0) = false := beq_eq_false_iff_ne.mpr c4
    have c4b1 : (a.tmod b != 0) = true := bne_iff_ne.mpr c4
    by_cases c5 : (decide (a < 0) != decide (b < 0)) = true
    · have HE := Lib.hid (show flr a b = a.tdiv b - 1 by unfold flr; rw [if_pos ⟨c4, c5⟩])
      have c5b1 : decide (decide (a < 0) = decide (b < 0)) = false := by simpa using c5
      have c5b2 : (decide (a < 0) == decide (b < 0)) = false := by simpa using c5
      have c5b3 : ¬ (decide (a < 0) = decide (b < 0)) := by simpa using c5
      clear c4
      go_enter Try.func82, Try.ntmps82
      go_wp2
      go_ret
      exact ⟨by rw [HE.out]; refine ret_int ?_; rw [← HW2.out]; simp [HW.out, HW2.out], rfl⟩
    · have HE := Lib.hid (show flr a b = a.tdiv b by unfold flr; rw [if_neg (by simp [c5])])
      have c5b0 : (decide (a < 0) != decide (b < 0)) = false := by simpa using c5
      have c5b1 : decide (decide (a < 0) = decide (b < 0)) = true := by simpa using c5
      have c5b2 : (decide (a < 0) == decide (b < 0)) = true := by simpa using c5
      clear c4 c5
      go_enter Try.func82, Try.ntmps82
      go_wp2
      go_ret
      exact ⟨by rw [HE.out]; first | rfl | (refine ret_int ?_; simp [HW.out]), rfl⟩

theorem natAbs_mul_le (q b : Int) (c : Nat) (h : q.natAbs * b.natAbs ≤ c) : -(c : Int) ≤ q * b ∧ q * b ≤ c := by
  have e := Int.natAbs_mul q b
  omega
theorem mod_c (a b : Int) (w : World) (ha : vld a = true) (hv : vld b = true) (hb : b ≠ 0) : Calls Try.prog 83 #[.int .i64 a, .int .i64 b] w fun e w' => e = .returned (.int .i64 (a - flr a b * b)) ∧ w = w' := by
  have ⟨h1, h2⟩ := vld_yes ha
  have ⟨h3, h4⟩ := vld_yes hv
  have ⟨h5, h6⟩ := flr_in (b := b) h1 h2
  have ⟨h7, h8⟩ := natAbs_mul_le (flr a b) b (2147483648 * 2147483647) (Nat.mul_le_mul (by omega) (by omega))
  have HW1 := Lib.hid (wrap_small (n := flr a b * b) (by omega) (by omega))
  have HW2 := Lib.hid (wrap_small (n := a - flr a b * b) (by omega) (by omega))
  clear hv h1 h2 h3 h4 h5 h6 h7 h8
  have HA := Lib.hid ha
  clear ha
  go_enter Try.func83, Try.ntmps83
  go_wp2_with (go_at_call 82; refine (floor_c _ _ _ HA.out hb).mono ?_; rintro e w' ⟨rfl, rfl⟩)
  go_ret
  exact ⟨by refine ret_int ?_; rw [HW1.out, HW2.out], rfl⟩
theorem cmp_c (a b : Int) (w : World) (ha : vld a = true) (hb : vld b = true) : Calls Try.prog 86 #[.int .i64 a, .int .i64 b] w fun e w' => e = .returned (.int .i64 (sgn (a - b))) ∧ w = w' := by
  have ⟨h1, h2⟩ := vld_yes ha
  have ⟨h3, h4⟩ := vld_yes hb
  clear ha hb
  go_enter Try.func86, Try.ntmps86
  go_wp2_with (go_at_call 87; refine (sign_c _ _).mono ?_; rintro e w' ⟨rfl, rfl⟩)
  go_ret
  exact ⟨rfl, rfl⟩
theorem neg_c (a : Int) (w : World) (ha : vld a = true) : Calls Try.prog 89 #[.int .i64 a] w fun e w' => e = .returned (.int .i64 (-a)) ∧ w = w' := by
  have ⟨h1, h2⟩ := vld_yes ha
  clear ha
  go_enter Try.func89, Try.ntmps89
  go_wp2
  go_ret
  exact ⟨rfl, rfl⟩
def absI (a : Int) : Int := if a < -a then -a else a
theorem abs_c (a : Int) (w : World) (ha : vld a = true) : Calls Try.prog 90 #[.int .i64 a] w fun e w' => e = .returned (.int .i64 (absI a)) ∧ w = w' := by
  have ⟨h1, h2⟩ := vld_yes ha
  clear ha
  by_cases h : a < -a
  · rw [show absI a = -a from if_pos h]
    go_enter Try.func90, Try.ntmps90
    go_wp2
    go_ret
    exact ⟨rfl, rfl⟩
  · rw [show absI a = a from if_neg h]
    go_enter Try.func90, Try.ntmps90
    go_wp2
    go_ret
    exact ⟨rfl, rfl⟩

/-! ### the exported functions -/
def integer_Neg.f (a : Int) : Option (Int × Int) := some (oneS a (-a))
theorem integer_Neg.calls (a0 r1 r2 : Int) (w : World) (h : integer_Neg.f a0 = some (r1, r2)) :
    Calls Try.prog 31 #[.int .i64 a0] w fun e w' => e = .returned (.tuple #[.int .i64 r1, .int .i64 r2]) ∧ Drawn0 w w' := by
  obtain ⟨rfl, rfl⟩ : (oneS a0 (-a0)).1 = r1 ∧ (oneS a0 (-a0)).2 = r2 := by rw [Option.some.inj h]; exact ⟨rfl, rfl⟩
  clear h
  have he : Enters 89 := enters_of Try.func89 (by kernel_rfl) (by kernel_rfl)
  go_enter Try.func31, Try.ntmps31
  go_wp2_with (go_at_call 88; refine (one_c 89 _ (-a0) _ he (fun ha w => neg_c _ _ ha)).mono ?_; rintro e w' ⟨rfl, rfl⟩)
  go_ret2
  exact ⟨rfl, Drawn0.refl _⟩
def integer_Abs.f (a : Int) : Option (Int × Int) := some (oneS a (absI a))
theorem integer_Abs.calls (a0 r1 r2 : Int) (w : World) (h : integer_Abs.f a0 = some (r1, r2)) :
    Calls Try.prog 34 #[.int .i64 a0] w fun e w' => e = .returned (.tuple #[.int .i64 r1, .int .i64 r2]) ∧ Drawn0 w w' := by
  obtain ⟨rfl, rfl⟩ : (oneS a0 (absI a0)).1 = r1 ∧ (oneS a0 (absI a0)).2 = r2 := by rw [Option.some.inj h]; exact ⟨rfl, rfl⟩
  clear h
  have he : Enters 90 := enters_of Try.func90 (by kernel_rfl) (by kernel_rfl)
  go_enter Try.func34, Try.ntmps34
  go_wp2_with (go_at_call 88; refine (one_c 90 _ (absI a0) _ he (fun ha w => abs_c _ _ ha)).mono ?_; rintro e w' ⟨rfl, rfl⟩)
  go_ret2
  exact ⟨rfl, Drawn0.refl _⟩
def integer_Sign.f (a : Int) : Option (Int × Int) := some (oneS a (sgn a))
theorem integer_Sign.calls (a0 r1 r2 : Int) (w : World) (h : integer_Sign.f a0 = some (r1, r2)) :
    Calls Try.prog 30 #[.int .i64 a0] w fun e w' => e = .returned (.tuple #[.int .i64 r1, .int .i64 r2]) ∧ Drawn0 w w' := by
  obtain ⟨rfl, rfl⟩ : (oneS a0 (sgn a0)).1 = r1 ∧ (oneS a0 (sgn a0)).2 = r2 := by rw [Option.some.inj h]; exact ⟨rfl, rfl⟩
  clear h
  have he : Enters 87 := enters_of Try.func87 (by kernel_rfl) (by kernel_rfl)
  go_enter Try.func30, Try.ntmps30
  go_wp2_with (go_at_call 88; refine (one_c 87 _ (sgn a0) _ he (fun ha w => sign_c _ _)).mono ?_; rintro e w' ⟨rfl, rfl⟩)
  go_ret2
  exact ⟨rfl, Drawn0.refl _⟩
def integer_Add.f (a b : Int) : Option (Int × Int) := some (twoS a b (a + b))
theorem integer_Add.calls (a0 a1 r1 r2 : Int) (w : World) (h : integer_Add.f a0 a1 = some (r1, r2)) :
    Calls Try.prog 19 #[.int .i64 a0, .int .i64 a1] w fun e w' => e = .returned (.tuple #[.int .i64 r1, .int .i64 r2]) ∧ Below w.heap.size w w' := by
  obtain ⟨rfl, rfl⟩ : (twoS a0 a1 (a0 + a1)).1 = r1 ∧ (twoS a0 a1 (a0 + a1)).2 = r2 := by rw [Option.some.inj h]; exact ⟨rfl, rfl⟩
  clear h
  have he : Enters 76 := enters_of Try.func76 (by kernel_rfl) (by kernel_rfl)
  go_enter Try.func19, Try.ntmps19
  go_wp2_with (go_at_call 75; refine (two_c 76 _ _ (a0 + a1) _ he (fun ha hb w => add_c _ _ _ ha hb)).mono ?_; rintro e w' ⟨rfl, hB⟩)
  go_ret2
  exact ⟨rfl, hB⟩
def integer_Sub.f (a b : Int) : Option (Int × Int) := some (twoS a b (a - b))
theorem integer_Sub.calls (a0 a1 r1 r2 : Int) (w : World) (h : integer_Sub.f a0 a1 = some (r1, r2)) :
    Calls Try.prog 21 #[.int .i64 a0, .int .i64 a1] w fun e w' => e = .returned (.tuple #[.int .i64 r1, .int .i64 r2]) ∧ Below w.heap.size w w' := by
  obtain ⟨rfl, rfl⟩ : (twoS a0 a1 (a0 - a1)).1 = r1 ∧ (twoS a0 a1 (a0 - a1)).2 = r2 := by rw [Option.some.inj h]; exact ⟨rfl, rfl⟩
  clear h
  have he : Enters 78 := enters_of Try.func78 (by kernel_rfl) (by kernel_rfl)
  go_enter Try.func21, Try.ntmps21
  go_wp2_with (go_at_call 75; refine (two_c 78 _ _ (a0 - a1) _ he (fun ha hb w => sub_c _ _ _ ha hb)).mono ?_; rintro e w' ⟨rfl, hB⟩)
  go_ret2
  exact ⟨rfl, hB⟩
def integer_Mul.f (a b : Int) : Option (Int × Int) := some (twoS a b (a * b))
theorem integer_Mul.calls (a0 a1 r1 r2 : Int) (w : World) (h : integer_Mul.f a0 a1 = some (r1, r2)) :
    Calls Try.prog 20 #[.int .i64 a0, .int .i64 a1] w fun e w' => e = .returned (.tuple #[.int .i64 r1, .int .i64 r2]) ∧ Below w.heap.size w w' := by
  obtain ⟨rfl, rfl⟩ : (twoS a0 a1 (a0 * a1)).1 = r1 ∧ (twoS a0 a1 (a0 * a1)).2 = r2 := by rw [Option.some.inj h]; exact ⟨rfl, rfl⟩
  clear h
  have he : Enters 77 := enters_of Try.func77 (by kernel_rfl) (by kernel_rfl)
  go_enter Try.func20, Try.ntmps20
  go_wp2_with (go_at_call 75; refine (two_c 77 _ _ (a0 * a1) _ he (fun ha hb w => mul_c _ _ _ ha hb)).mono ?_; rintro e w' ⟨rfl, hB⟩)
  go_ret2
  exact ⟨rfl, hB⟩
def integer_Cmp.f (a b : Int) : Option (Int × Int) := some (twoS a b (sgn (a - b)))
theorem integer_Cmp.calls (a0 a1 r1 r2 : Int) (w : World) (h : integer_Cmp.f a0 a1 = some (r1, r2)) :
    Calls Try.prog 29 #[.int .i64 a0, .int .i64 a1] w fun e w' => e = .returned (.tuple #[.int .i64 r1, .int .i64 r2]) ∧ Below w.heap.size w w' := by
  obtain ⟨rfl, rfl⟩ : (twoS a0 a1 (sgn (a0 - a1))).1 = r1 ∧ (twoS a0 a1 (sgn (a0 - a1))).2 = r2 := by rw [Option.some.inj h]; exact ⟨rfl, rfl⟩
  clear h
  have he : Enters 86 := enters_of Try.func86 (by kernel_rfl) (by kernel_rfl)
  go_enter Try.func29, Try.ntmps29
  go_wp2_with (go_at_call 75; refine (two_c 86 _ _ (sgn (a0 - a1)) _ he (fun ha hb w => cmp_c _ _ _ ha hb)).mono ?_; rintro e w' ⟨rfl, hB⟩)
  go_ret2
  exact ⟨rfl, hB⟩
def integer_Quo.f (a b : Int) : Option (Int × Int) := some (divS a b (a.tdiv b))
theorem integer_Quo.calls (a0 a1 r1 r2 : Int) (w : World) (h : integer_Quo.f a0 a1 = some (r1, r2)) :
    Calls Try.prog 22 #[.int .i64 a0, .int .i64 a1] w fun e w' => e = .returned (.tuple #[.int .i64 r1, .int .i64 r2]) ∧ Below w.heap.size w w' := by
  obtain ⟨rfl, rfl⟩ : (divS a0 a1 (a0.tdiv a1)).1 = r1 ∧ (divS a0 a1 (a0.tdiv a1)).2 = r2 := by rw [Option.some.inj h]; exact ⟨rfl, rfl⟩
  clear h
  have he : Enters 80 := enters_of Try.func80 (by kernel_rfl) (by kernel_rfl)
  go_enter Try.func22, Try.ntmps22
  go_wp2_with (go_at_call 79; refine (divided_c 80 _ _ (a0.tdiv a1) _ he (fun ha hv hb w => quo_c _ _ _ ha hb)).mono ?_; rintro e w' ⟨rfl, hB⟩)
  go_ret2
  exact ⟨rfl, hB⟩
def integer_Rem.f (a b : Int) : Option (Int × Int) := some (divS a b (a.tmod b))
theorem integer_Rem.calls (a0 a1 r1 r2 : Int) (w : World) (h : integer_Rem.f a0 a1 = some (r1, r2)) :
    Calls Try.prog 23 #[.int .i64 a0, .int .i64 a1] w fun e w' => e = .returned (.tuple #[.int .i64 r1, .int .i64 r2]) ∧ Below w.heap.size w w' := by
  obtain ⟨rfl, rfl⟩ : (divS a0 a1 (a0.tmod a1)).1 = r1 ∧ (divS a0 a1 (a0.tmod a1)).2 = r2 := by rw [Option.some.inj h]; exact ⟨rfl, rfl⟩
  clear h
  have he : Enters 81 := enters_of Try.func81 (by kernel_rfl) (by kernel_rfl)
  go_enter Try.func23, Try.ntmps23
  go_wp2_with (go_at_call 79; refine (divided_c 81 _ _ (a0.tmod a1) _ he (fun ha hv hb w => rem_c _ _ _ ha hb)).mono ?_; rintro e w' ⟨rfl, hB⟩)
  go_ret2
  exact ⟨rfl, hB⟩
def integer_Floor.f (a b : Int) : Option (Int × Int) := some (divS a b (flr a b))
theorem integer_Floor.calls (a0 a1 r1 r2 : Int) (w : World) (h : integer_Floor.f a0 a1 = some (r1, r2)) :
    Calls Try.prog 24 #[.int .i64 a0, .int .i64 a1] w fun e w' => e = .returned (.tuple #[.int .i64 r1, .int .i64 r2]) ∧ Below w.heap.size w w' := by
  obtain ⟨rfl, rfl⟩ : (divS a0 a1 (flr a0 a1)).1 = r1 ∧ (divS a0 a1 (flr a0 a1)).2 = r2 := by rw [Option.some.inj h]; exact ⟨rfl, rfl⟩
  clear h
  have he : Enters 82 := enters_of Try.func82 (by kernel_rfl) (by kernel_rfl)
  go_enter Try.func24, Try.ntmps24
  go_wp2_with (go_at_call 79; refine (divided_c 82 _ _ (flr a0 a1) _ he (fun ha hv hb w => floor_c _ _ _ ha hb)).mono ?_; rintro e w' ⟨rfl, hB⟩)
  go_ret2
  exact ⟨rfl, hB⟩
def integer_Mod.f (a b : Int) : Option (Int × Int) := some (divS a b (a - flr a b * b))
theorem integer_Mod.calls (a0 a1 r1 r2 : Int) (w : World) (h : integer_Mod.f a0 a1 = some (r1, r2)) :
    Calls Try.prog 25 #[.int .i64 a0, .int .i64 a1] w fun e w' => e = .returned (.tuple #[.int .i64 r1, .int .i64 r2]) ∧ Below w.heap.size w w' := by
  obtain ⟨rfl, rfl⟩ : (divS a0 a1 (a0 - flr a0 a1 * a1)).1 = r1 ∧ (divS a0 a1 (a0 - flr a0 a1 * a1)).2 = r2 := by rw [Option.some.inj h]; exact ⟨rfl, rfl⟩
  clear h
  have he : Enters 83 := enters_of Try.func83 (by kernel_rfl) (by kernel_rfl)
  go_enter Try.func25, Try.ntmps25
  go_wp2_with (go_at_call 79; refine (divided_c 83 _ _ (a0 - flr a0 a1 * a1) _ he (fun ha hv hb w => mod_c _ _ _ ha hv hb)).mono ?_; rintro e w' ⟨rfl, hB⟩)
  go_ret2
  exact ⟨rfl, hB⟩

end Go.Proofs.Ytjclehdhjnmlpaa.Given
