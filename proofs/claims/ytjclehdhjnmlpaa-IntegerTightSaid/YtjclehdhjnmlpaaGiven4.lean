/- The contracts of slices.Min and slices.Max at ints, and of the iterator 'ends' of package integer, over the seat's program; the slices are not empty. -/
import Derived.Test.YtjclehdhjnmlpaaGiven3
import Derived.RangeFuncFrom
import Derived.RangeFuncNested
import Derived.RangeFuncBound
import Derived.RangeFuncCalls
import Derived.RangeFuncLeaves
import Derived.Shelf.Abstract
import Derived.Shelf.RegionOpen
import Derived.OwnWalkIn
import Derived.TacticsInMore
import Derived.LoopNIn
import Derived.LoopIn
namespace Go.Proofs.Ytjclehdhjnmlpaa.Given
open Go.RowKit Go.Shelf Go.Proofs.YtjclehdhjnmlpaaW.PrintWords Go.Proofs.YtjclehdhjnmlpaaW.PrintLast Go.Proofs.YtjclehdhjnmlpaaW.PrintMore
attribute [local go_sem] max2_int min2_int max_two min_two max_three min_three max_four min_four
set_option linter.unusedVariables false
set_option linter.unusedSimpArgs false

/-! ### the least and the greatest of some numbers -/
def lmin (l : List Int) : Int := match l with | [] => 0 | x :: r => r.foldl (fun a b => if b < a then b else a) x
def lmax (l : List Int) : Int := match l with | [] => 0 | x :: r => r.foldl (fun a b => if a < b then b else a) x
theorem lmin_take {l : List Int} {k : Nat} (h1 : 1 ≤ k) (hk : k < l.length) : lmin (l.take (k + 1)) = if l.getD k 0 < lmin (l.take k) then l.getD k 0 else lmin (l.take k) := by
  cases l with
  | nil => simp at hk
  | cons x r =>
    obtain ⟨j, rfl⟩ : ∃ j, k = j + 1 := ⟨k - 1, by omega⟩
    have hj : j < r.length := by simpa using hk
    simp only [List.take_succ_cons, lmin]
    rw [List.take_succ_eq_append_getElem hj, List.foldl_append]
    simp [hj]
theorem lmax_take {l : List Int} {k : Nat} (h1 : 1 ≤ k) (hk : k < l.length) : lmax (l.take (k + 1)) = if lmax (l.take k) < l.getD k 0 then l.getD k 0 else lmax (l.take k) := by
  cases l with
  | nil => simp at hk
  | cons x r =>
    obtain ⟨j, rfl⟩ : ∃ j, k = j + 1 := ⟨k - 1, by omega⟩
    have hj : j < r.length := by simpa using hk
    simp only [List.take_succ_cons, lmax]
    rw [List.take_succ_eq_append_getElem hj, List.foldl_append]
    simp [hj]

set_option maxHeartbeats 1000000 in
set_option maxRecDepth 100000 in
theorem min_c (A0 : Option Addr) (c0 : Nat) (l0 : List Int) (w : World) (h1 : 1 ≤ l0.length) (hr0 : Kd.C (Kd.int .i64) w A0 l0.length l0) :
    Calls Try.prog 99 #[.slice A0 l0.length c0] w fun e w' => e = .returned (.int .i64 (lmin l0)) ∧ w = w' := by
  have hm := Kd.C_max hr0
  obtain ⟨ad, e, hx0⟩ := Kd.at_int hr0 0 (by omega) (by omega)
  subst e
  have HR := Lib.hid hr0
  obtain ⟨z0, hz0⟩ : ∃ z, rd l0 0 = z := ⟨_, rfl⟩
  rw [hz0] at hx0
  have HS : Hid (lmin (l0.take 1) = z0) := by
    show lmin (l0.take 1) = z0
    rw [← hz0]
    cases l0 with
    | nil => simp at h1
    | cons x r => simp [lmin, rd]
  have e0 : ad.add 0 = ad := by unfold Addr.add; rfl
  have hx1 : w.cell? ad = some (.int .i64 z0) := by rw [← e0]; exact hx0
  have hlen : decide (l0.length < 1) = false := decide_eq_false (by omega)
  have h0l : 0 < l0.length := by omega
  clear hr0 hz0 hx0 e0
  go_enter Try.func99, Try.ntmps99
  go_wp2
  go_loop [3, 4] (fun m i => ∃ k : Nat, 1 ≤ k ∧ k ≤ l0.length ∧ i = .int .i64 k ∧ m = .int .i64 (lmin (l0.take k))) (fun _ i => l0.length - (intOf i).toNat)
  case atStart => exact ⟨1, Nat.le_refl _, h1, rfl, by rw [HS.out]⟩
  case round =>
    obtain ⟨k, hk1, hk, rfl, rfl⟩ := hrel
    clear hx1 hlen
    by_cases hlt : k < l0.length
    · obtain ⟨ad', e, hx⟩ := Kd.at_int HR.out (k : Int) (by omega) (by omega)
      obtain rfl : ad = ad' := Option.some.inj e
      clear e
      obtain ⟨z, hz⟩ : ∃ z, l0.getD k 0 = z := ⟨_, rfl⟩
      have er : rd l0 (k : Int) = z := by rw [← hz]; simp [rd]
      rw [er, Int.toNat_natCast] at hx
      obtain ⟨m, hm'⟩ : ∃ m, lmin (l0.take k) = m := ⟨_, rfl⟩
      have HT := Lib.hid (lmin_take hk1 hlt)
      have HT2 : Hid (lmin (l0.take (k + 1)) = if z < m then z else m) := by
        show lmin (l0.take (k + 1)) = _
        rw [HT.out, hz, hm']
      rw [hm']
      clear er hz hm' HT
      by_cases hc : z < m
      · have HT3 : Hid (lmin (l0.take (k + 1)) = z) := by
          show _ = _
          rw [HT2.out, if_pos hc]
        go_wp2
        go_round
        case rel => exact ⟨k + 1, by omega, by omega, by go_num, by rw [HT3.out]⟩
        case measure => simp [intOf]; omega
      · have HT3 : Hid (lmin (l0.take (k + 1)) = m) := by
          show _ = _
          rw [HT2.out, if_neg hc]
        go_wp2
        go_round
        case rel => exact ⟨k + 1, by omega, by omega, by go_num, by rw [HT3.out]⟩
        case measure => simp [intOf]; omega
    · obtain rfl : k = l0.length := by omega
      go_wp2
      go_ret
      exact ⟨rfl, rfl⟩
set_option maxHeartbeats 1000000 in
set_option maxRecDepth 100000 in
theorem max_c (A0 : Option Addr) (c0 : Nat) (l0 : List Int) (w : World) (h1 : 1 ≤ l0.length) (hr0 : Kd.C (Kd.int .i64) w A0 l0.length l0) :
    Calls Try.prog 100 #[.slice A0 l0.length c0] w fun e w' => e = .returned (.int .i64 (lmax l0)) ∧ w = w' := by
  have hm := Kd.C_max hr0
  obtain ⟨ad, e, hx0⟩ := Kd.at_int hr0 0 (by omega) (by omega)
  subst e
  have HR := Lib.hid hr0
  obtain ⟨z0, hz0⟩ : ∃ z, rd l0 0 = z := ⟨_, rfl⟩
  rw [hz0] at hx0
  have HS : Hid (lmax (l0.take 1) = z0) := by
    show lmax (l0.take 1) = z0
    rw [← hz0]
    cases l0 with
    | nil => simp at h1
    | cons x r => simp [lmax, rd]
  have e0 : ad.add 0 = ad := by unfold Addr.add; rfl
  have hx1 : w.cell? ad = some (.int .i64 z0) := by rw [← e0]; exact hx0
  have hlen : decide (l0.length < 1) = false := decide_eq_false (by omega)
  have h0l : 0 < l0.length := by omega
  clear hr0 hz0 hx0 e0
  go_enter Try.func100, Try.ntmps100
  go_wp2
  go_loop [3, 4] (fun m i => ∃ k : Nat, 1 ≤ k ∧ k ≤ l0.length ∧ i = .int .i64 k ∧ m = .int .i64 (lmax (l0.take k))) (fun _ i => l0.length - (intOf i).toNat)
  case atStart => exact ⟨1, Nat.le_refl _, h1, rfl, by rw [HS.out]⟩
  case round =>
    obtain ⟨k, hk1, hk, rfl, rfl⟩ := hrel
    clear hx1 hlen
    by_cases hlt : k < l0.length
    · obtain ⟨ad', e, hx⟩ := Kd.at_int HR.out (k : Int) (by omega) (by omega)
      obtain rfl : ad = ad' := Option.some.inj e
      clear e
      obtain ⟨z, hz⟩ : ∃ z, l0.getD k 0 = z := ⟨_, rfl⟩
      have er : rd l0 (k : Int) = z := by rw [← hz]; simp [rd]
      rw [er, Int.toNat_natCast] at hx
      obtain ⟨m, hm'⟩ : ∃ m, lmax (l0.take k) = m := ⟨_, rfl⟩
      have HT := Lib.hid (lmax_take hk1 hlt)
      have HT2 : Hid (lmax (l0.take (k + 1)) = if m < z then z else m) := by
        show lmax (l0.take (k + 1)) = _
        rw [HT.out, hz, hm']
      rw [hm']
      clear er hz hm' HT
      by_cases hc : m < z
      · have HT3 : Hid (lmax (l0.take (k + 1)) = z) := by
          show _ = _
          rw [HT2.out, if_pos hc]
        go_wp2
        go_round
        case rel => exact ⟨k + 1, by omega, by omega, by go_num, by rw [HT3.out]⟩
        case measure => simp [intOf]; omega
      · have HT3 : Hid (lmax (l0.take (k + 1)) = m) := by
          show _ = _
          rw [HT2.out, if_neg hc]
        go_wp2
        go_round
        case rel => exact ⟨k + 1, by omega, by omega, by go_num, by rw [HT3.out]⟩
        case measure => simp [intOf]; omega
    · obtain rfl : k = l0.length := by omega
      go_wp2
      go_ret
      exact ⟨rfl, rfl⟩

end Go.Proofs.Ytjclehdhjnmlpaa.Given
