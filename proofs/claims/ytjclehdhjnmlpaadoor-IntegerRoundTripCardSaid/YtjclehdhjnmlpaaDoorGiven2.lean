/- The contracts of package integer's exported arithmetic (Neg, Abs, Sign, Add, Sub, Mul, Cmp, Quo, Rem, Floor, Mod), over the seat's program; for every input. -/
import Derived.Test.YtjclehdhjnmlpaaDoorGiven
import Derived.IntWalk
namespace Go.Proofs.YtjclehdhjnmlpaaDoor.Given
open Go.RowKit Go.Proofs.YtjclehdhjnmlpaaDoorW.PrintWords Go.Proofs.YtjclehdhjnmlpaaDoorW.PrintLast Go.Proofs.YtjclehdhjnmlpaaDoorW.PrintMore
attribute [local go_sem] max2_int min2_int max_two min_two max_three min_three max_four min_four
set_option linter.unusedVariables false
set_option linter.unusedSimpArgs false

/-! ### the operations -/
theorem wrap_small {n : Int} (h1 : -9223372036854775808 ≤ n) (h2 : n ≤ 9223372036854775807) : wrap64 n = n := by unfold wrap64; omega
theorem ret_int {k : IntKind} {a b : Int} (h : a = b) : Ending.returned (.int k a) = .returned (.int k b) := by rw [h]

def sgn (n : Int) : Int := if n < 0 then -1 else if n > 0 then 1 else 0
theorem add_c (a b : Int) (w : World) (ha : vld a = true) (hb : vld b = true) : Calls Tryd.prog 22 #[.int .i64 a, .int .i64 b] w fun e w' => e = .returned (.int .i64 (a + b)) ∧ w = w' := by
  have ⟨h1, h2⟩ := vld_yes ha
  have ⟨h3, h4⟩ := vld_yes hb
  clear ha hb
  go_enter Tryd.func22, Tryd.ntmps22
  go_wp2
  go_ret
  exact ⟨rfl, rfl⟩
theorem mul_in {a b : Int} (h1 : -2147483647 ≤ a) (h2 : a ≤ 2147483647) (h3 : -2147483647 ≤ b) (h4 : b ≤ 2147483647) : -4611686014132420609 ≤ a * b ∧ a * b ≤ 4611686014132420609 := by
  have h : a.natAbs * b.natAbs ≤ 2147483647 * 2147483647 := Nat.mul_le_mul (by omega) (by omega)
  have e := Int.natAbs_mul a b
  omega
theorem mul_c (a b : Int) (w : World) (ha : vld a = true) (hb : vld b = true) : Calls Tryd.prog 20 #[.int .i64 a, .int .i64 b] w fun e w' => e = .returned (.int .i64 (a * b)) ∧ w = w' := by
  have ⟨h1, h2⟩ := vld_yes ha
  have ⟨h3, h4⟩ := vld_yes hb
  have ⟨h5, h6⟩ := mul_in h1 h2 h3 h4
  have HW := Lib.hid (wrap_small (n := a * b) (by omega) (by omega))
  clear ha hb h1 h2 h3 h4 h5 h6
  go_enter Tryd.func20, Tryd.ntmps20
  go_wp2
  go_ret
  exact ⟨by rw [← HW.out]; simp [HW.out], rfl⟩
theorem tdiv_in {a b : Int} (h1 : -2147483647 ≤ a) (h2 : a ≤ 2147483647) : -2147483647 ≤ a.tdiv b ∧ a.tdiv b ≤ 2147483647 := by
  have h : (a.tdiv b).natAbs ≤ a.natAbs := by rw [Int.natAbs_tdiv]; exact Nat.div_le_self _ _
  omega
theorem tmod_in {a b : Int} (h1 : -2147483647 ≤ a) (h2 : a ≤ 2147483647) : -2147483647 ≤ a.tmod b ∧ a.tmod b ≤ 2147483647 := by
  have h : (a.tmod b).natAbs ≤ a.natAbs := by rw [Int.natAbs_tmod]; exact Nat.mod_le _ _
  omega
theorem quo_c (a b : Int) (w : World) (ha : vld a = true) (hb : b ≠ 0) : Calls Tryd.prog 24 #[.int .i64 a, .int .i64 b] w fun e w' => e = .returned (.int .i64 (a.tdiv b)) ∧ w = w' := by
  have ⟨h1, h2⟩ := vld_yes ha
  have ⟨h5, h6⟩ := tdiv_in (b := b) h1 h2
  have HW := Lib.hid (wrap_small (n := a.tdiv b) (by omega) (by omega))
  have hb' : (b == 0) = false := by simp [hb]
  clear ha h5 h6 h1 h2
  go_enter Tryd.func24, Tryd.ntmps24
  go_wp2
  go_ret
  exact ⟨by first | rfl | (rw [← HW.out]; simp [HW.out]), rfl⟩
def flr (a b : Int) : Int := if a.tmod b ≠ 0 ∧ (decide (a < 0) != decide (b < 0)) = true then a.tdiv b - 1 else a.tdiv b
theorem flr_in {a b : Int} (h1 : -2147483647 ≤ a) (h2 : a ≤ 2147483647) : -2147483648 ≤ flr a b ∧ flr a b ≤ 2147483647 := by
  have := tdiv_in (b := b) h1 h2
  unfold flr; split <;> omega
theorem floor_c (a b : Int) (w : World) (ha : vld a = true) (hb : b ≠ 0) : Calls Tryd.prog 25 #[.int .i64 a, .int .i64 b] w fun e w' => e = .returned (.int .i64 (flr a b)) ∧ w = w' := by
  have ⟨h1, h2⟩ := vld_yes ha
  have ⟨h5, h6⟩ := tdiv_in (b := b) h1 h2
  have HW := Lib.hid (wrap_small (n := a.tdiv b) (by omega) (by omega))
  have HW2 := Lib.hid (wrap_small (n := a.tdiv b - 1) (by omega) (by omega))
  have hb' : (b == 0) = false := by simp [hb]
  clear ha h5 h6 h1 h2
  by_cases c4 : a.tmod b = 0
  · have HE := Lib.hid (show flr a b = a.tdiv b by unfold flr; rw [if_neg (by simp [c4])])
    have c4b0 : (a.tmod b == 0) = true := beq_iff_eq.mpr c4
    have c4b1 : (a.tmod b != 0) = false := bne_eq_false_iff_eq.mpr c4
    clear c4
    go_enter Tryd.func25, Tryd.ntmps25
    go_wp2
    go_ret
    exact ⟨by rw [HE.out]; first | rfl | (refine ret_int ?_; simp [HW.out]), rfl⟩
  · have c4b0 : (a.tmod b == 0) = false := beq_eq_false_iff_ne.mpr c4
    have c4b1 : (a.tmod b != 0) = true := bne_iff_ne.mpr c4
    by_cases c5 : (decide (a < 0) != decide (b < 0)) = true
    · have HE := Lib.hid (show flr a b = a.tdiv b - 1 by unfold flr; rw [if_pos ⟨c4, c5⟩])
      have c5b1 : decide (decide (a < 0) = decide (b < 0)) = false := by simpa using c5
      have c5b2 : (decide (a < 0) == decide (b < 0)) = false := by simpa using c5
      have c5b3 : ¬ (decide (a < 0) = decide (b < 0)) := by simpa using c5
      clear c4
      go_enter Tryd.func25, Tryd.ntmps25
      go_wp2
      go_ret
      exact ⟨by rw [HE.out]; refine ret_int ?_; rw [← HW2.out]; simp [HW.out, HW2.out], rfl⟩
    · have HE := Lib.hid (show flr a b = a.tdiv b by unfold flr; rw [if_neg (by simp [c5])])
      have c5b0 : (decide (a < 0) != decide (b < 0)) = false := by simpa using c5
      have c5b1 : decide (decide (a < 0) = decide (b < 0)) = true := by simpa using c5
      have c5b2 : (decide (a < 0) == decide (b < 0)) = true := by simpa using c5
      clear c4 c5
      go_enter Tryd.func25, Tryd.ntmps25
      go_wp2
      go_ret
      exact ⟨by rw [HE.out]; first | rfl | (refine ret_int ?_; simp [HW.out]), rfl⟩

theorem natAbs_mul_le (q b : Int) (c : Nat) (h : q.natAbs * b.natAbs ≤ c) : -(c : Int) ≤ q * b ∧ q * b ≤ c := by
  have e := Int.natAbs_mul q b
  omega
def absI (a : Int) : Int := if a < -a then -a else a
/-! ### the exported functions -/
def integer_Neg.f (a : Int) : Option (Int × Int) := some (oneS a (-a))
def integer_Abs.f (a : Int) : Option (Int × Int) := some (oneS a (absI a))
def integer_Sign.f (a : Int) : Option (Int × Int) := some (oneS a (sgn a))
def integer_Add.f (a b : Int) : Option (Int × Int) := some (twoS a b (a + b))
theorem integer_Add.calls (a0 a1 r1 r2 : Int) (w : World) (h : integer_Add.f a0 a1 = some (r1, r2)) :
    Calls Tryd.prog 16 #[.int .i64 a0, .int .i64 a1] w fun e w' => e = .returned (.tuple #[.int .i64 r1, .int .i64 r2]) ∧ Below w.heap.size w w' := by
  obtain ⟨rfl, rfl⟩ : (twoS a0 a1 (a0 + a1)).1 = r1 ∧ (twoS a0 a1 (a0 + a1)).2 = r2 := by rw [Option.some.inj h]; exact ⟨rfl, rfl⟩
  clear h
  have he : Enters 22 := enters_of Tryd.func22 (by kernel_rfl) (by kernel_rfl)
  go_enter Tryd.func16, Tryd.ntmps16
  go_wp2_with (go_at_call 19; refine (two_c 22 _ _ (a0 + a1) _ he (fun ha hb w => add_c _ _ _ ha hb)).mono ?_; rintro e w' ⟨rfl, hB⟩)
  go_ret2
  exact ⟨rfl, hB⟩
def integer_Sub.f (a b : Int) : Option (Int × Int) := some (twoS a b (a - b))
def integer_Mul.f (a b : Int) : Option (Int × Int) := some (twoS a b (a * b))
theorem integer_Mul.calls (a0 a1 r1 r2 : Int) (w : World) (h : integer_Mul.f a0 a1 = some (r1, r2)) :
    Calls Tryd.prog 11 #[.int .i64 a0, .int .i64 a1] w fun e w' => e = .returned (.tuple #[.int .i64 r1, .int .i64 r2]) ∧ Below w.heap.size w w' := by
  obtain ⟨rfl, rfl⟩ : (twoS a0 a1 (a0 * a1)).1 = r1 ∧ (twoS a0 a1 (a0 * a1)).2 = r2 := by rw [Option.some.inj h]; exact ⟨rfl, rfl⟩
  clear h
  have he : Enters 20 := enters_of Tryd.func20 (by kernel_rfl) (by kernel_rfl)
  go_enter Tryd.func11, Tryd.ntmps11
  go_wp2_with (go_at_call 19; refine (two_c 20 _ _ (a0 * a1) _ he (fun ha hb w => mul_c _ _ _ ha hb)).mono ?_; rintro e w' ⟨rfl, hB⟩)
  go_ret2
  exact ⟨rfl, hB⟩
def integer_Cmp.f (a b : Int) : Option (Int × Int) := some (twoS a b (sgn (a - b)))
def integer_Quo.f (a b : Int) : Option (Int × Int) := some (divS a b (a.tdiv b))
theorem integer_Quo.calls (a0 a1 r1 r2 : Int) (w : World) (h : integer_Quo.f a0 a1 = some (r1, r2)) :
    Calls Tryd.prog 17 #[.int .i64 a0, .int .i64 a1] w fun e w' => e = .returned (.tuple #[.int .i64 r1, .int .i64 r2]) ∧ Below w.heap.size w w' := by
  obtain ⟨rfl, rfl⟩ : (divS a0 a1 (a0.tdiv a1)).1 = r1 ∧ (divS a0 a1 (a0.tdiv a1)).2 = r2 := by rw [Option.some.inj h]; exact ⟨rfl, rfl⟩
  clear h
  have he : Enters 24 := enters_of Tryd.func24 (by kernel_rfl) (by kernel_rfl)
  go_enter Tryd.func17, Tryd.ntmps17
  go_wp2_with (go_at_call 23; refine (divided_c 24 _ _ (a0.tdiv a1) _ he (fun ha hv hb w => quo_c _ _ _ ha hb)).mono ?_; rintro e w' ⟨rfl, hB⟩)
  go_ret2
  exact ⟨rfl, hB⟩
def integer_Rem.f (a b : Int) : Option (Int × Int) := some (divS a b (a.tmod b))
def integer_Floor.f (a b : Int) : Option (Int × Int) := some (divS a b (flr a b))
theorem integer_Floor.calls (a0 a1 r1 r2 : Int) (w : World) (h : integer_Floor.f a0 a1 = some (r1, r2)) :
    Calls Tryd.prog 18 #[.int .i64 a0, .int .i64 a1] w fun e w' => e = .returned (.tuple #[.int .i64 r1, .int .i64 r2]) ∧ Below w.heap.size w w' := by
  obtain ⟨rfl, rfl⟩ : (divS a0 a1 (flr a0 a1)).1 = r1 ∧ (divS a0 a1 (flr a0 a1)).2 = r2 := by rw [Option.some.inj h]; exact ⟨rfl, rfl⟩
  clear h
  have he : Enters 25 := enters_of Tryd.func25 (by kernel_rfl) (by kernel_rfl)
  go_enter Tryd.func18, Tryd.ntmps18
  go_wp2_with (go_at_call 23; refine (divided_c 25 _ _ (flr a0 a1) _ he (fun ha hv hb w => floor_c _ _ _ ha hb)).mono ?_; rintro e w' ⟨rfl, hB⟩)
  go_ret2
  exact ⟨rfl, hB⟩
def integer_Mod.f (a b : Int) : Option (Int × Int) := some (divS a b (a - flr a b * b))
end Go.Proofs.YtjclehdhjnmlpaaDoor.Given
