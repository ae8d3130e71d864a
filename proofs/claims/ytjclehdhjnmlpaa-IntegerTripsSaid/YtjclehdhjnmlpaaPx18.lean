/- Contracts of functions that the laws reach, written by program (printx.py): each call returns what its plain Lean function computes, where that has a value; no other condition. -/
import Derived.Test.YtjclehdhjnmlpaaPx0
import Derived.Test.YtjclehdhjnmlpaaPx1
import Derived.Test.YtjclehdhjnmlpaaPx3
namespace Go.Proofs.Ytjclehdhjnmlpaa.P
open Go.RowKit Go.Proofs.Ytjclehdhjnmlpaa.Given Go.Proofs.YtjclehdhjnmlpaaW.PrintWords Go.Proofs.YtjclehdhjnmlpaaW.PrintLast Go.Proofs.YtjclehdhjnmlpaaW.PrintMore
attribute [local go_sem] max2_int min2_int max_two min_two max_three min_three max_four min_four   -- for this text's walks alone
set_option linter.unusedVariables false
set_option linter.unusedSimpArgs false

/-! ### manorboylaw01_IntegerTrips: function 11 -/
mutual
def manorboylaw01_IntegerTrips.j0 : Nat → Int → Int → Int → Bool → Int → Bool → Int → Bool → Option (Bool)
  | 0, _, _, _, _, _, _, _, _ => none
  | k + 1, x0, x1, x2, x7, x8, x9, x10, x41 => if x41 = true then (if x7 = true then (some (x10 == 1)) else (some false)) else (if x1 = 0 then (if x7 = true then (some (x10 == 5)) else (some false)) else (if x10 = 0 then (manorboylaw01_IntegerTrips.j1 k x0 x1 x2 x7 x8 x9 (decide (x8 < 0))) else (manorboylaw01_IntegerTrips.j1 k x0 x1 x2 x7 x8 x9 true)))
def manorboylaw01_IntegerTrips.j1 : Nat → Int → Int → Int → Bool → Int → Bool → Bool → Option (Bool)
  | 0, _, _, _, _, _, _, _ => none
  | k + 1, x0, x1, x2, x7, x8, x9, x59 => if x59 = true then (some false) else ((integer_Cmp.f x0 x2).bind fun bt334 => ((integer_Sign.f x1).bind fun bt336 => (if bt334.2 = 0 then (if bt336.2 = 0 then (manorboylaw01_IntegerTrips.j2 k x0 x1 x2 x7 x8 x9 ((x8 == 0) != (bt334.1 == bt336.1))) else (manorboylaw01_IntegerTrips.j2 k x0 x1 x2 x7 x8 x9 true)) else (manorboylaw01_IntegerTrips.j2 k x0 x1 x2 x7 x8 x9 true))))
def manorboylaw01_IntegerTrips.j2 : Nat → Int → Int → Int → Bool → Int → Bool → Bool → Option (Bool)
  | 0, _, _, _, _, _, _, _ => none
  | k + 1, x0, x1, x2, x7, x8, x9, x84 => if x84 = true then (some false) else (if x8 = 0 then (if x7 = true then (some (!x9)) else (some false)) else ((integer_Add.f x0 x1).bind fun bt338 => (if bt338.2 = 0 then ((integer_Trips.f bt338.1 x1 x2).bind fun bt340 => (if x7 = true then (if bt340.2.2 = 0 then (if bt340.1 = (wrap64 (x8 - 1)) then (some (bt340.2.1 == x9)) else (some false)) else (some false)) else (some false))) else (if x7 = true then (if x8 = 1 then (some x9) else (some false)) else (some false)))))
end
def manorboylaw01_IntegerTrips.f (k : Nat) (a0 : Int) (a1 : Int) (a2 : Int) : Option (Bool) := (manorboylaw01_awake.f k).bind fun t327 => ((integer_Trips.f a0 a1 a2).bind fun bt328 => ((integer_Valid.f a0).bind fun t331 => (if t331 = true then ((integer_Valid.f a1).bind fun t332 => (if t332 = true then ((integer_Valid.f a2).bind fun t333 => (manorboylaw01_IntegerTrips.j0 k a0 a1 a2 t327 bt328.1 bt328.2.1 bt328.2.2 (!t333))) else (manorboylaw01_IntegerTrips.j0 k a0 a1 a2 t327 bt328.1 bt328.2.1 bt328.2.2 true))) else (manorboylaw01_IntegerTrips.j0 k a0 a1 a2 t327 bt328.1 bt328.2.1 bt328.2.2 true))))
theorem manorboylaw01_IntegerTrips.mono_l : ∀ k, (∀ y0 y1 y2 y3 y4 y5 y6 y7, LeO (manorboylaw01_IntegerTrips.j0 k y0 y1 y2 y3 y4 y5 y6 y7) (manorboylaw01_IntegerTrips.j0 (k + 1) y0 y1 y2 y3 y4 y5 y6 y7)) ∧ (∀ y0 y1 y2 y3 y4 y5 y6, LeO (manorboylaw01_IntegerTrips.j1 k y0 y1 y2 y3 y4 y5 y6) (manorboylaw01_IntegerTrips.j1 (k + 1) y0 y1 y2 y3 y4 y5 y6)) ∧ (∀ y0 y1 y2 y3 y4 y5 y6, LeO (manorboylaw01_IntegerTrips.j2 k y0 y1 y2 y3 y4 y5 y6) (manorboylaw01_IntegerTrips.j2 (k + 1) y0 y1 y2 y3 y4 y5 y6))
  | 0 => ⟨fun _ _ _ _ _ _ _ _ r h => by simp [manorboylaw01_IntegerTrips.j0] at h, fun _ _ _ _ _ _ _ r h => by simp [manorboylaw01_IntegerTrips.j1] at h, fun _ _ _ _ _ _ _ r h => by simp [manorboylaw01_IntegerTrips.j2] at h⟩
  | k + 1 => by
    obtain ⟨ih0, ih1, ih2⟩ := manorboylaw01_IntegerTrips.mono_l k
    refine ⟨?_, ?_, ?_⟩
    · intro y0 y1 y2 y3 y4 y5 y6 y7
      unfold manorboylaw01_IntegerTrips.j0
      repeat' first
      | (with_reducible exact ih0 _ _ _ _ _ _ _ _)
      | (with_reducible exact ih1 _ _ _ _ _ _ _)
      | (with_reducible exact ih2 _ _ _ _ _ _ _)
      | (with_reducible exact manorboylaw01_awake.mono _)
      | (with_reducible exact LeO.refl _)
      | (with_reducible exact LeO.none _)
      | (with_reducible refine LeO.ite ?_ ?_)
      | (with_reducible refine LeO.bind ?_ (fun _ => ?_))
      | exact ih0 _ _ _ _ _ _ _ _
      | exact ih1 _ _ _ _ _ _ _
      | exact ih2 _ _ _ _ _ _ _
      | exact manorboylaw01_awake.mono _
      | exact LeO.none _
      | refine LeO.ite ?_ ?_
      | refine LeO.bind ?_ (fun _ => ?_)
    · intro y0 y1 y2 y3 y4 y5 y6
      unfold manorboylaw01_IntegerTrips.j1
      repeat' first
      | (with_reducible exact ih0 _ _ _ _ _ _ _ _)
      | (with_reducible exact ih1 _ _ _ _ _ _ _)
      | (with_reducible exact ih2 _ _ _ _ _ _ _)
      | (with_reducible exact manorboylaw01_awake.mono _)
      | (with_reducible exact LeO.refl _)
      | (with_reducible exact LeO.none _)
      | (with_reducible refine LeO.ite ?_ ?_)
      | (with_reducible refine LeO.bind ?_ (fun _ => ?_))
      | exact ih0 _ _ _ _ _ _ _ _
      | exact ih1 _ _ _ _ _ _ _
      | exact ih2 _ _ _ _ _ _ _
      | exact manorboylaw01_awake.mono _
      | exact LeO.none _
      | refine LeO.ite ?_ ?_
      | refine LeO.bind ?_ (fun _ => ?_)
    · intro y0 y1 y2 y3 y4 y5 y6
      unfold manorboylaw01_IntegerTrips.j2
      repeat' first
      | (with_reducible exact ih0 _ _ _ _ _ _ _ _)
      | (with_reducible exact ih1 _ _ _ _ _ _ _)
      | (with_reducible exact ih2 _ _ _ _ _ _ _)
      | (with_reducible exact manorboylaw01_awake.mono _)
      | (with_reducible exact LeO.refl _)
      | (with_reducible exact LeO.none _)
      | (with_reducible refine LeO.ite ?_ ?_)
      | (with_reducible refine LeO.bind ?_ (fun _ => ?_))
      | exact ih0 _ _ _ _ _ _ _ _
      | exact ih1 _ _ _ _ _ _ _
      | exact ih2 _ _ _ _ _ _ _
      | exact manorboylaw01_awake.mono _
      | exact LeO.none _
      | refine LeO.ite ?_ ?_
      | refine LeO.bind ?_ (fun _ => ?_)
theorem manorboylaw01_IntegerTrips.mono : ∀ a0 a1 a2 k, LeO (manorboylaw01_IntegerTrips.f k a0 a1 a2) (manorboylaw01_IntegerTrips.f (k + 1) a0 a1 a2) := by
  intro a0 a1 a2 k
  obtain ⟨ih0, ih1, ih2⟩ := manorboylaw01_IntegerTrips.mono_l k
  unfold manorboylaw01_IntegerTrips.f
  repeat' first
      | (with_reducible exact ih0 _ _ _ _ _ _ _ _)
      | (with_reducible exact ih1 _ _ _ _ _ _ _)
      | (with_reducible exact ih2 _ _ _ _ _ _ _)
      | (with_reducible exact manorboylaw01_awake.mono _)
      | (with_reducible exact LeO.refl _)
      | (with_reducible exact LeO.none _)
      | (with_reducible refine LeO.ite ?_ ?_)
      | (with_reducible refine LeO.bind ?_ (fun _ => ?_))
      | exact ih0 _ _ _ _ _ _ _ _
      | exact ih1 _ _ _ _ _ _ _
      | exact ih2 _ _ _ _ _ _ _
      | exact manorboylaw01_awake.mono _
      | exact LeO.none _
      | refine LeO.ite ?_ ?_
      | refine LeO.bind ?_ (fun _ => ?_)
set_option maxHeartbeats 8000000 in
set_option maxRecDepth 100000 in
theorem manorboylaw01_IntegerTrips.calls (k : Nat) (a0 : Int) (a1 : Int) (a2 : Int) (r : Bool) (w : World) (h : manorboylaw01_IntegerTrips.f k a0 a1 a2 = some r) :
    Calls Try.prog 11 #[.int .i64 a0, .int .i64 a1, .int .i64 a2] w fun e w' => e = .returned (.bool r) ∧ Below w.heap.size w w' := by
  have HB := Aside0.mk (Below.refl w.heap.size w)
  have H : ((manorboylaw01_awake.f k).bind fun t327 => ((integer_Trips.f a0 a1 a2).bind fun bt328 => ((integer_Valid.f a0).bind fun t331 => (if t331 = true then ((integer_Valid.f a1).bind fun t332 => (if t332 = true then ((integer_Valid.f a2).bind fun t333 => (manorboylaw01_IntegerTrips.j0 k a0 a1 a2 t327 bt328.1 bt328.2.1 bt328.2.2 (!t333))) else (manorboylaw01_IntegerTrips.j0 k a0 a1 a2 t327 bt328.1 bt328.2.1 bt328.2.2 true))) else (manorboylaw01_IntegerTrips.j0 k a0 a1 a2 t327 bt328.1 bt328.2.1 bt328.2.2 true))))) = some r := h
  clear h
  replace H := Option.bind_eq_some_iff.mp H
  obtain ⟨t327, A40, H⟩ := H
  replace H : ((integer_Trips.f a0 a1 a2).bind fun bt328 => ((integer_Valid.f a0).bind fun t331 => (if t331 = true then ((integer_Valid.f a1).bind fun t332 => (if t332 = true then ((integer_Valid.f a2).bind fun t333 => (manorboylaw01_IntegerTrips.j0 k a0 a1 a2 t327 bt328.1 bt328.2.1 bt328.2.2 (!t333))) else (manorboylaw01_IntegerTrips.j0 k a0 a1 a2 t327 bt328.1 bt328.2.1 bt328.2.2 true))) else (manorboylaw01_IntegerTrips.j0 k a0 a1 a2 t327 bt328.1 bt328.2.1 bt328.2.2 true)))) = some r := H
  have A4 := Aside0.mk A40
  clear A40
  replace H := Option.bind_eq_some_iff.mp H
  obtain ⟨⟨t328, t329, t330⟩, A50, H⟩ := H
  replace H : ((integer_Valid.f a0).bind fun t331 => (if t331 = true then ((integer_Valid.f a1).bind fun t332 => (if t332 = true then ((integer_Valid.f a2).bind fun t333 => (manorboylaw01_IntegerTrips.j0 k a0 a1 a2 t327 t328 t329 t330 (!t333))) else (manorboylaw01_IntegerTrips.j0 k a0 a1 a2 t327 t328 t329 t330 true))) else (manorboylaw01_IntegerTrips.j0 k a0 a1 a2 t327 t328 t329 t330 true))) = some r := H
  have A5 := Aside0.mk A50
  clear A50
  have HC6 := Aside0.mk H
  clear H
  go_enter Try.func11, Try.ntmps11
  go_upto_region 3 with (first | ((with_reducible refine gate_callee (f := 18) rfl ?_); refine goesL_ (some 20) rfl rfl Try.func18 (by kernel_rfl) rfl #[] rfl (by (try simp only [List.map_toArray, List.map_cons, List.map_nil]); first | done | rfl | (simp only [List.length_drop, List.length_take]; rfl)) ?_; (with_reducible refine (manorboylaw01_awake.calls k  t327 _ A4.out).mono ?_); rintro e w7 ⟨rfl, hb⟩; refine ⟨_, rfl, ?_⟩; have n0_ := Aside0.mk (below_step (by repeat (first | (with_reducible first | exact HB.out | apply below_alloc | apply pw_below_drewN | apply below_drew1) | exact HB.out)) hb); clear HB; have HB := n0_; clear n0_; (try clear hb); (try clear hb2); (try clear hk); (try clear hi)) | ((with_reducible refine gate_callee (f := 48) rfl ?_); refine goesL_ (some 25) rfl rfl Try.func48 (by kernel_rfl) rfl #[.int .i64 a0, .int .i64 a1, .int .i64 a2] rfl (by (try simp only [List.map_toArray, List.map_cons, List.map_nil]); first | done | rfl | (simp only [List.length_drop, List.length_take]; rfl)) ?_; (with_reducible refine (integer_Trips.calls a0 a1 a2 t328 t329 t330 _ A5.out).mono ?_); rintro e w8 ⟨rfl, hb⟩; refine ⟨_, rfl, ?_⟩; have n0_ := Aside0.mk (below_step (by repeat (first | (with_reducible first | exact HB.out | apply below_alloc | apply pw_below_drewN | apply below_drew1) | exact HB.out)) hb); clear HB; have HB := n0_; clear n0_; (try clear hb); (try clear hb2); (try clear hk); (try clear hi)))
  (try simp only [Act.put, List.setIfInBounds_toArray, List.set_cons_zero, List.set_cons_succ])
  go_cut [41] (fun v41 wc => ∃ (kq : Nat) (x41_5 : Bool), v41 = .bool x41_5 ∧ Aside0 (manorboylaw01_IntegerTrips.j0 kq a0 a1 a2 t327 t328 t329 t330 x41_5 = some r) ∧ Aside0 (kq ≤ k) ∧ Aside0 (Below w.heap.size w wc))
  case first => as_aux_lemma =>
    have H := HC6.out
    clear HC6
    replace H := Option.bind_eq_some_iff.mp H
    obtain ⟨t331, A90, H⟩ := H
    replace H : (if t331 = true then ((integer_Valid.f a1).bind fun t332 => (if t332 = true then ((integer_Valid.f a2).bind fun t333 => (manorboylaw01_IntegerTrips.j0 k a0 a1 a2 t327 t328 t329 t330 (!t333))) else (manorboylaw01_IntegerTrips.j0 k a0 a1 a2 t327 t328 t329 t330 true))) else (manorboylaw01_IntegerTrips.j0 k a0 a1 a2 t327 t328 t329 t330 true)) = some r := H
    have A9 := Aside0.mk A90
    clear A90
    by_cases c10 : t331 = true
    · subst c10
      have H1 : ((integer_Valid.f a1).bind fun t332 => (if t332 = true then ((integer_Valid.f a2).bind fun t333 => (manorboylaw01_IntegerTrips.j0 k a0 a1 a2 t327 t328 t329 t330 (!t333))) else (manorboylaw01_IntegerTrips.j0 k a0 a1 a2 t327 t328 t329 t330 true))) = some r := by rw [if_pos rfl] at H; exact H
      clear H
      have H := H1
      clear H1
      replace H := Option.bind_eq_some_iff.mp H
      obtain ⟨t332, A110, H⟩ := H
      replace H : (if t332 = true then ((integer_Valid.f a2).bind fun t333 => (manorboylaw01_IntegerTrips.j0 k a0 a1 a2 t327 t328 t329 t330 (!t333))) else (manorboylaw01_IntegerTrips.j0 k a0 a1 a2 t327 t328 t329 t330 true)) = some r := H
      have A11 := Aside0.mk A110
      clear A110
      by_cases c12 : t332 = true
      · subst c12
        have H1 : ((integer_Valid.f a2).bind fun t333 => (manorboylaw01_IntegerTrips.j0 k a0 a1 a2 t327 t328 t329 t330 (!t333))) = some r := by rw [if_pos rfl] at H; exact H
        clear H
        have H := H1
        clear H1
        replace H := Option.bind_eq_some_iff.mp H
        obtain ⟨t333, A130, H⟩ := H
        replace H : (manorboylaw01_IntegerTrips.j0 k a0 a1 a2 t327 t328 t329 t330 (!t333)) = some r := H
        have A13 := Aside0.mk A130
        clear A130
        have H' := Aside0.mk H
        clear H
        go_wp2_with (first | ((with_reducible refine gate_callee (f := 26) rfl ?_); refine goesL_ (some 30) rfl rfl Try.func26 (by kernel_rfl) rfl #[.int .i64 a0] rfl (by (try simp only [List.map_toArray, List.map_cons, List.map_nil]); first | done | rfl | (simp only [List.length_drop, List.length_take]; rfl)) ?_; (with_reducible refine (integer_Valid.calls a0 true _ A9.out).mono ?_); rintro e w' ⟨rfl, ⟨nd, rfl⟩⟩; refine ⟨_, rfl, ?_⟩) | (go_at_call 26; (with_reducible refine (integer_Valid.calls a1 true _ A11.out).mono ?_); rintro e w' ⟨rfl, ⟨nd, rfl⟩⟩) | (go_at_call 26; (with_reducible refine (integer_Valid.calls a2 t333 _ A13.out).mono ?_); rintro e w' ⟨rfl, ⟨nd, rfl⟩⟩))
        go_meet
        case rel => exact ⟨_, (!t333), (by first | rfl | (simp; done) | (simp [*]; done)), H', ⟨by first | omega | exact Nat.le_refl _⟩, ⟨by repeat (first | (with_reducible first | exact HB.out | apply below_alloc | apply pw_below_drewN | apply below_drew1) | exact HB.out)⟩⟩
      · replace c12 := Bool.eq_false_iff.mpr c12
        subst c12
        have H1 : (manorboylaw01_IntegerTrips.j0 k a0 a1 a2 t327 t328 t329 t330 true) = some r := by rw [if_neg (show ¬ (false = true) by decide)] at H; exact H
        clear H
        have H := H1
        clear H1
        have H' := Aside0.mk H
        clear H
        go_wp2_with (first | ((with_reducible refine gate_callee (f := 26) rfl ?_); refine goesL_ (some 30) rfl rfl Try.func26 (by kernel_rfl) rfl #[.int .i64 a0] rfl (by (try simp only [List.map_toArray, List.map_cons, List.map_nil]); first | done | rfl | (simp only [List.length_drop, List.length_take]; rfl)) ?_; (with_reducible refine (integer_Valid.calls a0 true _ A9.out).mono ?_); rintro e w' ⟨rfl, ⟨nd, rfl⟩⟩; refine ⟨_, rfl, ?_⟩) | (go_at_call 26; (with_reducible refine (integer_Valid.calls a1 false _ A11.out).mono ?_); rintro e w' ⟨rfl, ⟨nd, rfl⟩⟩))
        go_meet
        case rel => exact ⟨_, (true), (by first | rfl | (simp; done) | (simp [*]; done)), H', ⟨by first | omega | exact Nat.le_refl _⟩, ⟨by repeat (first | (with_reducible first | exact HB.out | apply below_alloc | apply pw_below_drewN | apply below_drew1) | exact HB.out)⟩⟩
    · replace c10 := Bool.eq_false_iff.mpr c10
      subst c10
      have H1 : (manorboylaw01_IntegerTrips.j0 k a0 a1 a2 t327 t328 t329 t330 true) = some r := by rw [if_neg (show ¬ (false = true) by decide)] at H; exact H
      clear H
      have H := H1
      clear H1
      have H' := Aside0.mk H
      clear H
      go_wp2_with (first | ((with_reducible refine gate_callee (f := 26) rfl ?_); refine goesL_ (some 30) rfl rfl Try.func26 (by kernel_rfl) rfl #[.int .i64 a0] rfl (by (try simp only [List.map_toArray, List.map_cons, List.map_nil]); first | done | rfl | (simp only [List.length_drop, List.length_take]; rfl)) ?_; (with_reducible refine (integer_Valid.calls a0 false _ A9.out).mono ?_); rintro e w' ⟨rfl, ⟨nd, rfl⟩⟩; refine ⟨_, rfl, ?_⟩))
      go_meet
      case rel => exact ⟨_, (true), (by first | rfl | (simp; done) | (simp [*]; done)), H', ⟨by first | omega | exact Nat.le_refl _⟩, ⟨by repeat (first | (with_reducible first | exact HB.out | apply below_alloc | apply pw_below_drewN | apply below_drew1) | exact HB.out)⟩⟩
  case rest => as_aux_lemma =>
    clear HC6
    try clear c1
    try clear c2
    try clear p2
    try clear c4
    try clear c10
    try clear c11
    try clear c12
    obtain ⟨kq, x41_5, rfl, HA, HJ5, HB⟩ := hcut
    cases kq with
    | zero => exact absurd HA.out (by simp [manorboylaw01_IntegerTrips.j0])
    | succ kj5 =>
      have H := HA.out
      clear HA
      simp only [manorboylaw01_IntegerTrips.j0] at H
      by_cases c14 : x41_5 = true
      · subst c14
        have H1 : (if t327 = true then (some (t330 == 1)) else (some false)) = some r := by rw [if_pos rfl] at H; exact H
        clear H
        have H := H1
        clear H1
        by_cases c15 : t327 = true
        · subst c15
          have H1 : (some (t330 == 1)) = some r := by rw [if_pos rfl] at H; exact H
          clear H
          have H := H1
          clear H1
          obtain rfl := Option.some.inj H
          go_wp2
          go_ret
          exact ⟨by first | rfl | (simp [errW_none, errW_some] <;> rfl) | (simp [*, errW_none, errW_some] <;> rfl), by repeat (first | (with_reducible first | exact HB.out | apply below_alloc | apply pw_below_drewN | apply below_drew1) | exact HB.out)⟩
        · replace c15 := Bool.eq_false_iff.mpr c15
          subst c15
          have H1 : (some false) = some r := by rw [if_neg (show ¬ (false = true) by decide)] at H; exact H
          clear H
          have H := H1
          clear H1
          obtain rfl := Option.some.inj H
          go_wp2
          go_ret
          exact ⟨by first | rfl | (simp [errW_none, errW_some] <;> rfl) | (simp [*, errW_none, errW_some] <;> rfl), by repeat (first | (with_reducible first | exact HB.out | apply below_alloc | apply pw_below_drewN | apply below_drew1) | exact HB.out)⟩
      · replace c14 := Bool.eq_false_iff.mpr c14
        subst c14
        have H1 : (if a1 = 0 then (if t327 = true then (some (t330 == 5)) else (some false)) else (if t330 = 0 then (manorboylaw01_IntegerTrips.j1 kj5 a0 a1 a2 t327 t328 t329 (decide (t328 < 0))) else (manorboylaw01_IntegerTrips.j1 kj5 a0 a1 a2 t327 t328 t329 true))) = some r := by rw [if_neg (show ¬ (false = true) by decide)] at H; exact H
        clear H
        have H := H1
        clear H1
        by_cases c16 : a1 = 0
        · rw [if_pos c16] at H
          have c16b0 : (a1 == 0) = true := beq_iff_eq.mpr c16
          have c16b1 : (a1 != 0) = false := bne_eq_false_iff_eq.mpr c16
          clear c16
          by_cases c17 : t327 = true
          · subst c17
            have H1 : (some (t330 == 5)) = some r := by rw [if_pos rfl] at H; exact H
            clear H
            have H := H1
            clear H1
            obtain rfl := Option.some.inj H
            go_wp2
            go_ret
            exact ⟨by first | rfl | (simp [errW_none, errW_some] <;> rfl) | (simp [*, errW_none, errW_some] <;> rfl), by repeat (first | (with_reducible first | exact HB.out | apply below_alloc | apply pw_below_drewN | apply below_drew1) | exact HB.out)⟩
          · replace c17 := Bool.eq_false_iff.mpr c17
            subst c17
            have H1 : (some false) = some r := by rw [if_neg (show ¬ (false = true) by decide)] at H; exact H
            clear H
            have H := H1
            clear H1
            obtain rfl := Option.some.inj H
            go_wp2
            go_ret
            exact ⟨by first | rfl | (simp [errW_none, errW_some] <;> rfl) | (simp [*, errW_none, errW_some] <;> rfl), by repeat (first | (with_reducible first | exact HB.out | apply below_alloc | apply pw_below_drewN | apply below_drew1) | exact HB.out)⟩
        · rw [if_neg c16] at H
          have c16b0 : (a1 == 0) = false := beq_eq_false_iff_ne.mpr c16
          have c16b1 : (a1 != 0) = true := bne_iff_ne.mpr c16
          have HC18 := Aside0.mk H
          clear H
          go_upto_region 7 with (fail)
          go_cut [59] (fun v59 wc => ∃ (kq : Nat) (x59_17 : Bool), v59 = .bool x59_17 ∧ Aside0 (manorboylaw01_IntegerTrips.j1 kq a0 a1 a2 t327 t328 t329 x59_17 = some r) ∧ Aside0 (kq ≤ kj5) ∧ Aside0 (Below w.heap.size w wc))
          case first => as_aux_lemma =>
            have H := HC18.out
            clear HC18
            by_cases c19 : t330 = 0
            · rw [if_pos c19] at H
              have c19b0 : (t330 == 0) = true := beq_iff_eq.mpr c19
              have c19b1 : (t330 != 0) = false := bne_eq_false_iff_eq.mpr c19
              clear c19
              (first | rw [c19b0] | (simp only [i64_w, i32_w]; rw [c19b0]) | skip)
              have H' := Aside0.mk H
              clear H
              go_wp2
              go_meet
              case rel => exact ⟨_, (decide (t328 < 0)), (by first | rfl | (simp; done) | (simp [*]; done)), H', ⟨by have := HJ5.out; first | omega | exact Nat.le_refl _⟩, ⟨by repeat (first | (with_reducible first | exact HB.out | apply below_alloc | apply pw_below_drewN | apply below_drew1) | exact HB.out)⟩⟩
            · rw [if_neg c19] at H
              have c19b0 : (t330 == 0) = false := beq_eq_false_iff_ne.mpr c19
              have c19b1 : (t330 != 0) = true := bne_iff_ne.mpr c19
              (first | rw [c19b0] | (simp only [i64_w, i32_w]; rw [c19b0]) | skip)
              have H' := Aside0.mk H
              clear H
              go_wp2
              go_meet
              case rel => exact ⟨_, (true), (by first | rfl | (simp; done) | (simp [*]; done)), H', ⟨by have := HJ5.out; first | omega | exact Nat.le_refl _⟩, ⟨by repeat (first | (with_reducible first | exact HB.out | apply below_alloc | apply pw_below_drewN | apply below_drew1) | exact HB.out)⟩⟩
          case rest => as_aux_lemma =>
            clear HC18
            try clear c1
            try clear c2
            try clear p2
            try clear c4
            try clear c10
            try clear c11
            try clear c12
            try clear c14
            try clear c15
            try clear c16
            try clear c16b0
            try clear c16b1
            try clear c17
            try clear c18
            try clear c19
            try clear c19b0
            try clear c19b1
            try clear p2
            obtain ⟨kq, x59_17, rfl, HA, HJ17, HB⟩ := hcut
            cases kq with
            | zero => exact absurd HA.out (by simp [manorboylaw01_IntegerTrips.j1])
            | succ kj17 =>
              have H := HA.out
              clear HA
              simp only [manorboylaw01_IntegerTrips.j1] at H
              by_cases c20 : x59_17 = true
              · subst c20
                have H1 : (some false) = some r := by rw [if_pos rfl] at H; exact H
                clear H
                have H := H1
                clear H1
                obtain rfl := Option.some.inj H
                go_wp2
                go_ret
                exact ⟨by first | rfl | (simp [errW_none, errW_some] <;> rfl) | (simp [*, errW_none, errW_some] <;> rfl), by repeat (first | (with_reducible first | exact HB.out | apply below_alloc | apply pw_below_drewN | apply below_drew1) | exact HB.out)⟩
              · replace c20 := Bool.eq_false_iff.mpr c20
                subst c20
                have H1 : ((integer_Cmp.f a0 a2).bind fun bt334 => ((integer_Sign.f a1).bind fun bt336 => (if bt334.2 = 0 then (if bt336.2 = 0 then (manorboylaw01_IntegerTrips.j2 kj17 a0 a1 a2 t327 t328 t329 ((t328 == 0) != (bt334.1 == bt336.1))) else (manorboylaw01_IntegerTrips.j2 kj17 a0 a1 a2 t327 t328 t329 true)) else (manorboylaw01_IntegerTrips.j2 kj17 a0 a1 a2 t327 t328 t329 true)))) = some r := by rw [if_neg (show ¬ (false = true) by decide)] at H; exact H
                clear H
                have H := H1
                clear H1
                replace H := Option.bind_eq_some_iff.mp H
                obtain ⟨⟨t334, t335⟩, A210, H⟩ := H
                replace H : ((integer_Sign.f a1).bind fun bt336 => (if t335 = 0 then (if bt336.2 = 0 then (manorboylaw01_IntegerTrips.j2 kj17 a0 a1 a2 t327 t328 t329 ((t328 == 0) != (t334 == bt336.1))) else (manorboylaw01_IntegerTrips.j2 kj17 a0 a1 a2 t327 t328 t329 true)) else (manorboylaw01_IntegerTrips.j2 kj17 a0 a1 a2 t327 t328 t329 true))) = some r := H
                have A21 := Aside0.mk A210
                clear A210
                replace H := Option.bind_eq_some_iff.mp H
                obtain ⟨⟨t336, t337⟩, A220, H⟩ := H
                replace H : (if t335 = 0 then (if t337 = 0 then (manorboylaw01_IntegerTrips.j2 kj17 a0 a1 a2 t327 t328 t329 ((t328 == 0) != (t334 == t336))) else (manorboylaw01_IntegerTrips.j2 kj17 a0 a1 a2 t327 t328 t329 true)) else (manorboylaw01_IntegerTrips.j2 kj17 a0 a1 a2 t327 t328 t329 true)) = some r := H
                have A22 := Aside0.mk A220
                clear A220
                have HC23 := Aside0.mk H
                clear H
                go_upto_region 11 with (first | ((with_reducible refine gate_callee (f := 29) rfl ?_); refine goesL_ (some 63) rfl rfl Try.func29 (by kernel_rfl) rfl #[.int .i64 a0, .int .i64 a2] rfl (by (try simp only [List.map_toArray, List.map_cons, List.map_nil]); first | done | rfl | (simp only [List.length_drop, List.length_take]; rfl)) ?_; (with_reducible refine (integer_Cmp.calls a0 a2 t334 t335 _ A21.out).mono ?_); rintro e w24 ⟨rfl, hb⟩; refine ⟨_, rfl, ?_⟩; have n0_ := Aside0.mk (below_step (by repeat (first | (with_reducible first | exact HB.out | apply below_alloc | apply pw_below_drewN | apply below_drew1) | exact HB.out)) hb); clear HB; have HB := n0_; clear n0_; (try clear hb); (try clear hb2); (try clear hk); (try clear hi)) | ((with_reducible refine gate_callee (f := 30) rfl ?_); refine goesL_ (some 68) rfl rfl Try.func30 (by kernel_rfl) rfl #[.int .i64 a1] rfl (by (try simp only [List.map_toArray, List.map_cons, List.map_nil]); first | done | rfl | (simp only [List.length_drop, List.length_take]; rfl)) ?_; (with_reducible refine (integer_Sign.calls a1 t336 t337 _ A22.out).mono ?_); rintro e w' ⟨rfl, ⟨nd, rfl⟩⟩; refine ⟨_, rfl, ?_⟩))
                (try simp only [Act.put, List.setIfInBounds_toArray, List.set_cons_zero, List.set_cons_succ])
                go_cut [84] (fun v84 wc => ∃ (kq : Nat) (x84_22 : Bool), v84 = .bool x84_22 ∧ Aside0 (manorboylaw01_IntegerTrips.j2 kq a0 a1 a2 t327 t328 t329 x84_22 = some r) ∧ Aside0 (kq ≤ kj17) ∧ Aside0 (Below w.heap.size w wc))
                case first => as_aux_lemma =>
                  have H := HC23.out
                  clear HC23
                  by_cases c25 : t335 = 0
                  · rw [if_pos c25] at H
                    have c25b0 : (t335 == 0) = true := beq_iff_eq.mpr c25
                    have c25b1 : (t335 != 0) = false := bne_eq_false_iff_eq.mpr c25
                    clear c25
                    (first | rw [c25b0] | (simp only [i64_w, i32_w]; rw [c25b0]) | skip)
                    by_cases c26 : t337 = 0
                    · rw [if_pos c26] at H
                      have c26b0 : (t337 == 0) = true := beq_iff_eq.mpr c26
                      have c26b1 : (t337 != 0) = false := bne_eq_false_iff_eq.mpr c26
                      clear c26
                      have H' := Aside0.mk H
                      clear H
                      go_wp2
                      go_meet
                      case rel => exact ⟨_, (((t328 == 0) != (t334 == t336))), (by first | rfl | (simp; done) | (simp [*]; done)), H', ⟨by have := HJ5.out; have := HJ17.out; first | omega | exact Nat.le_refl _⟩, ⟨by repeat (first | (with_reducible first | exact HB.out | apply below_alloc | apply pw_below_drewN | apply below_drew1) | exact HB.out)⟩⟩
                    · rw [if_neg c26] at H
                      have c26b0 : (t337 == 0) = false := beq_eq_false_iff_ne.mpr c26
                      have c26b1 : (t337 != 0) = true := bne_iff_ne.mpr c26
                      have H' := Aside0.mk H
                      clear H
                      go_wp2
                      go_meet
                      case rel => exact ⟨_, (true), (by first | rfl | (simp; done) | (simp [*]; done)), H', ⟨by have := HJ5.out; have := HJ17.out; first | omega | exact Nat.le_refl _⟩, ⟨by repeat (first | (with_reducible first | exact HB.out | apply below_alloc | apply pw_below_drewN | apply below_drew1) | exact HB.out)⟩⟩
                  · rw [if_neg c25] at H
                    have c25b0 : (t335 == 0) = false := beq_eq_false_iff_ne.mpr c25
                    have c25b1 : (t335 != 0) = true := bne_iff_ne.mpr c25
                    (first | rw [c25b0] | (simp only [i64_w, i32_w]; rw [c25b0]) | skip)
                    have H' := Aside0.mk H
                    clear H
                    go_wp2
                    go_meet
                    case rel => exact ⟨_, (true), (by first | rfl | (simp; done) | (simp [*]; done)), H', ⟨by have := HJ5.out; have := HJ17.out; first | omega | exact Nat.le_refl _⟩, ⟨by repeat (first | (with_reducible first | exact HB.out | apply below_alloc | apply pw_below_drewN | apply below_drew1) | exact HB.out)⟩⟩
                case rest => as_aux_lemma =>
                  clear HC23
                  try clear c1
                  try clear c2
                  try clear p2
                  try clear c3
                  try clear c4
                  try clear c10
                  try clear c11
                  try clear c12
                  try clear c14
                  try clear c15
                  try clear c16
                  try clear c16b0
                  try clear c16b1
                  try clear c17
                  try clear c18
                  try clear c19
                  try clear c19b0
                  try clear c19b1
                  try clear c20
                  try clear c25
                  try clear c25b0
                  try clear c25b1
                  try clear c26
                  try clear c26b0
                  try clear c26b1
                  try clear p2
                  obtain ⟨kq, x84_22, rfl, HA, HJ22, HB⟩ := hcut
                  cases kq with
                  | zero => exact absurd HA.out (by simp [manorboylaw01_IntegerTrips.j2])
                  | succ kj22 =>
                    have H := HA.out
                    clear HA
                    simp only [manorboylaw01_IntegerTrips.j2] at H
                    by_cases c27 : x84_22 = true
                    · subst c27
                      have H1 : (some false) = some r := by rw [if_pos rfl] at H; exact H
                      clear H
                      have H := H1
                      clear H1
                      obtain rfl := Option.some.inj H
                      go_wp2
                      go_ret
                      exact ⟨by first | rfl | (simp [errW_none, errW_some] <;> rfl) | (simp [*, errW_none, errW_some] <;> rfl), by repeat (first | (with_reducible first | exact HB.out | apply below_alloc | apply pw_below_drewN | apply below_drew1) | exact HB.out)⟩
                    · replace c27 := Bool.eq_false_iff.mpr c27
                      subst c27
                      have H1 : (if t328 = 0 then (if t327 = true then (some (!t329)) else (some false)) else ((integer_Add.f a0 a1).bind fun bt338 => (if bt338.2 = 0 then ((integer_Trips.f bt338.1 a1 a2).bind fun bt340 => (if t327 = true then (if bt340.2.2 = 0 then (if bt340.1 = (wrap64 (t328 - 1)) then (some (bt340.2.1 == t329)) else (some false)) else (some false)) else (some false))) else (if t327 = true then (if t328 = 1 then (some t329) else (some false)) else (some false))))) = some r := by rw [if_neg (show ¬ (false = true) by decide)] at H; exact H
                      clear H
                      have H := H1
                      clear H1
                      by_cases c28 : t328 = 0
                      · rw [if_pos c28] at H
                        have c28b0 : (t328 == 0) = true := beq_iff_eq.mpr c28
                        have c28b1 : (t328 != 0) = false := bne_eq_false_iff_eq.mpr c28
                        clear c28
                        by_cases c29 : t327 = true
                        · subst c29
                          have H1 : (some (!t329)) = some r := by rw [if_pos rfl] at H; exact H
                          clear H
                          have H := H1
                          clear H1
                          obtain rfl := Option.some.inj H
                          go_wp2
                          go_ret
                          exact ⟨by first | rfl | (simp [errW_none, errW_some] <;> rfl) | (simp [*, errW_none, errW_some] <;> rfl), by repeat (first | (with_reducible first | exact HB.out | apply below_alloc | apply pw_below_drewN | apply below_drew1) | exact HB.out)⟩
                        · replace c29 := Bool.eq_false_iff.mpr c29
                          subst c29
                          have H1 : (some false) = some r := by rw [if_neg (show ¬ (false = true) by decide)] at H; exact H
                          clear H
                          have H := H1
                          clear H1
                          obtain rfl := Option.some.inj H
                          go_wp2
                          go_ret
                          exact ⟨by first | rfl | (simp [errW_none, errW_some] <;> rfl) | (simp [*, errW_none, errW_some] <;> rfl), by repeat (first | (with_reducible first | exact HB.out | apply below_alloc | apply pw_below_drewN | apply below_drew1) | exact HB.out)⟩
                      · rw [if_neg c28] at H
                        have c28b0 : (t328 == 0) = false := beq_eq_false_iff_ne.mpr c28
                        have c28b1 : (t328 != 0) = true := bne_iff_ne.mpr c28
                        replace H := Option.bind_eq_some_iff.mp H
                        obtain ⟨⟨t338, t339⟩, A300, H⟩ := H
                        replace H : (if t339 = 0 then ((integer_Trips.f t338 a1 a2).bind fun bt340 => (if t327 = true then (if bt340.2.2 = 0 then (if bt340.1 = (wrap64 (t328 - 1)) then (some (bt340.2.1 == t329)) else (some false)) else (some false)) else (some false))) else (if t327 = true then (if t328 = 1 then (some t329) else (some false)) else (some false))) = some r := H
                        have A30 := Aside0.mk A300
                        clear A300
                        by_cases c31 : t339 = 0
                        · rw [if_pos c31] at H
                          have c31b0 : (t339 == 0) = true := beq_iff_eq.mpr c31
                          have c31b1 : (t339 != 0) = false := bne_eq_false_iff_eq.mpr c31
                          clear c31
                          replace H := Option.bind_eq_some_iff.mp H
                          obtain ⟨⟨t340, t341, t342⟩, A320, H⟩ := H
                          replace H : (if t327 = true then (if t342 = 0 then (if t340 = (wrap64 (t328 - 1)) then (some (t341 == t329)) else (some false)) else (some false)) else (some false)) = some r := H
                          have A32 := Aside0.mk A320
                          clear A320
                          by_cases c33 : t327 = true
                          · subst c33
                            have H1 : (if t342 = 0 then (if t340 = (wrap64 (t328 - 1)) then (some (t341 == t329)) else (some false)) else (some false)) = some r := by rw [if_pos rfl] at H; exact H
                            clear H
                            have H := H1
                            clear H1
                            by_cases c34 : t342 = 0
                            · rw [if_pos c34] at H
                              have c34b0 : (t342 == 0) = true := beq_iff_eq.mpr c34
                              have c34b1 : (t342 != 0) = false := bne_eq_false_iff_eq.mpr c34
                              clear c34
                              by_cases c35 : t340 = (wrap64 (t328 - 1))
                              · rw [if_pos c35] at H
                                have c35b0 : (t340 == (wrap64 (t328 - 1))) = true := beq_iff_eq.mpr c35
                                have c35b1 : (t340 != (wrap64 (t328 - 1))) = false := bne_eq_false_iff_eq.mpr c35
                                clear c35
                                obtain rfl := Option.some.inj H
                                go_wp2_with (first | ((with_reducible refine gate_callee (f := 19) rfl ?_); refine goesL_ (some 95) rfl rfl Try.func19 (by kernel_rfl) rfl #[.int .i64 a0, .int .i64 a1] rfl (by (try simp only [List.map_toArray, List.map_cons, List.map_nil]); first | done | rfl | (simp only [List.length_drop, List.length_take]; rfl)) ?_; (with_reducible refine (integer_Add.calls a0 a1 t338 t339 _ A30.out).mono ?_); rintro e w36 ⟨rfl, hb⟩; refine ⟨_, rfl, ?_⟩; have n0_ := Aside0.mk (below_step (by repeat (first | (with_reducible first | exact HB.out | apply below_alloc | apply pw_below_drewN | apply below_drew1) | exact HB.out)) hb); clear HB; have HB := n0_; clear n0_; (try clear hb); (try clear hb2); (try clear hk); (try clear hi)) | ((with_reducible refine gate_callee (f := 48) rfl ?_); refine goesL_ (some 112) rfl rfl Try.func48 (by kernel_rfl) rfl #[.int .i64 t338, .int .i64 a1, .int .i64 a2] rfl (by (try simp only [List.map_toArray, List.map_cons, List.map_nil]); first | done | rfl | (simp only [List.length_drop, List.length_take]; rfl)) ?_; (with_reducible refine (integer_Trips.calls t338 a1 a2 t340 t341 t342 _ A32.out).mono ?_); rintro e w37 ⟨rfl, hb⟩; refine ⟨_, rfl, ?_⟩; have n0_ := Aside0.mk (below_step (by repeat (first | (with_reducible first | exact HB.out | apply below_alloc | apply pw_below_drewN | apply below_drew1) | exact HB.out)) hb); clear HB; have HB := n0_; clear n0_; (try clear hb); (try clear hb2); (try clear hk); (try clear hi)))
                                go_ret
                                exact ⟨by first | rfl | (simp [errW_none, errW_some] <;> rfl) | (simp [*, errW_none, errW_some] <;> rfl), by repeat (first | (with_reducible first | exact HB.out | apply below_alloc | apply pw_below_drewN | apply below_drew1) | exact HB.out)⟩
                              · rw [if_neg c35] at H
                                have c35b0 : (t340 == (wrap64 (t328 - 1))) = false := beq_eq_false_iff_ne.mpr c35
                                have c35b1 : (t340 != (wrap64 (t328 - 1))) = true := bne_iff_ne.mpr c35
                                obtain rfl := Option.some.inj H
                                go_wp2_with (first | ((with_reducible refine gate_callee (f := 19) rfl ?_); refine goesL_ (some 95) rfl rfl Try.func19 (by kernel_rfl) rfl #[.int .i64 a0, .int .i64 a1] rfl (by (try simp only [List.map_toArray, List.map_cons, List.map_nil]); first | done | rfl | (simp only [List.length_drop, List.length_take]; rfl)) ?_; (with_reducible refine (integer_Add.calls a0 a1 t338 t339 _ A30.out).mono ?_); rintro e w38 ⟨rfl, hb⟩; refine ⟨_, rfl, ?_⟩; have n0_ := Aside0.mk (below_step (by repeat (first | (with_reducible first | exact HB.out | apply below_alloc | apply pw_below_drewN | apply below_drew1) | exact HB.out)) hb); clear HB; have HB := n0_; clear n0_; (try clear hb); (try clear hb2); (try clear hk); (try clear hi)) | ((with_reducible refine gate_callee (f := 48) rfl ?_); refine goesL_ (some 112) rfl rfl Try.func48 (by kernel_rfl) rfl #[.int .i64 t338, .int .i64 a1, .int .i64 a2] rfl (by (try simp only [List.map_toArray, List.map_cons, List.map_nil]); first | done | rfl | (simp only [List.length_drop, List.length_take]; rfl)) ?_; (with_reducible refine (integer_Trips.calls t338 a1 a2 t340 t341 t342 _ A32.out).mono ?_); rintro e w39 ⟨rfl, hb⟩; refine ⟨_, rfl, ?_⟩; have n0_ := Aside0.mk (below_step (by repeat (first | (with_reducible first | exact HB.out | apply below_alloc | apply pw_below_drewN | apply below_drew1) | exact HB.out)) hb); clear HB; have HB := n0_; clear n0_; (try clear hb); (try clear hb2); (try clear hk); (try clear hi)))
                                go_ret
                                exact ⟨by first | rfl | (simp [errW_none, errW_some] <;> rfl) | (simp [*, errW_none, errW_some] <;> rfl), by repeat (first | (with_reducible first | exact HB.out | apply below_alloc | apply pw_below_drewN | apply below_drew1) | exact HB.out)⟩
                            · rw [if_neg c34] at H
                              have c34b0 : (t342 == 0) = false := beq_eq_false_iff_ne.mpr c34
                              have c34b1 : (t342 != 0) = true := bne_iff_ne.mpr c34
                              obtain rfl := Option.some.inj H
                              go_wp2_with (first | ((with_reducible refine gate_callee (f := 19) rfl ?_); refine goesL_ (some 95) rfl rfl Try.func19 (by kernel_rfl) rfl #[.int .i64 a0, .int .i64 a1] rfl (by (try simp only [List.map_toArray, List.map_cons, List.map_nil]); first | done | rfl | (simp only [List.length_drop, List.length_take]; rfl)) ?_; (with_reducible refine (integer_Add.calls a0 a1 t338 t339 _ A30.out).mono ?_); rintro e w40 ⟨rfl, hb⟩; refine ⟨_, rfl, ?_⟩; have n0_ := Aside0.mk (below_step (by repeat (first | (with_reducible first | exact HB.out | apply below_alloc | apply pw_below_drewN | apply below_drew1) | exact HB.out)) hb); clear HB; have HB := n0_; clear n0_; (try clear hb); (try clear hb2); (try clear hk); (try clear hi)) | ((with_reducible refine gate_callee (f := 48) rfl ?_); refine goesL_ (some 112) rfl rfl Try.func48 (by kernel_rfl) rfl #[.int .i64 t338, .int .i64 a1, .int .i64 a2] rfl (by (try simp only [List.map_toArray, List.map_cons, List.map_nil]); first | done | rfl | (simp only [List.length_drop, List.length_take]; rfl)) ?_; (with_reducible refine (integer_Trips.calls t338 a1 a2 t340 t341 t342 _ A32.out).mono ?_); rintro e w41 ⟨rfl, hb⟩; refine ⟨_, rfl, ?_⟩; have n0_ := Aside0.mk (below_step (by repeat (first | (with_reducible first | exact HB.out | apply below_alloc | apply pw_below_drewN | apply below_drew1) | exact HB.out)) hb); clear HB; have HB := n0_; clear n0_; (try clear hb); (try clear hb2); (try clear hk); (try clear hi)))
                              go_ret
                              exact ⟨by first | rfl | (simp [errW_none, errW_some] <;> rfl) | (simp [*, errW_none, errW_some] <;> rfl), by repeat (first | (with_reducible first | exact HB.out | apply below_alloc | apply pw_below_drewN | apply below_drew1) | exact HB.out)⟩
                          · replace c33 := Bool.eq_false_iff.mpr c33
                            subst c33
                            have H1 : (some false) = some r := by rw [if_neg (show ¬ (false = true) by decide)] at H; exact H
                            clear H
                            have H := H1
                            clear H1
                            obtain rfl := Option.some.inj H
                            go_wp2_with (first | ((with_reducible refine gate_callee (f := 19) rfl ?_); refine goesL_ (some 95) rfl rfl Try.func19 (by kernel_rfl) rfl #[.int .i64 a0, .int .i64 a1] rfl (by (try simp only [List.map_toArray, List.map_cons, List.map_nil]); first | done | rfl | (simp only [List.length_drop, List.length_take]; rfl)) ?_; (with_reducible refine (integer_Add.calls a0 a1 t338 t339 _ A30.out).mono ?_); rintro e w42 ⟨rfl, hb⟩; refine ⟨_, rfl, ?_⟩; have n0_ := Aside0.mk (below_step (by repeat (first | (with_reducible first | exact HB.out | apply below_alloc | apply pw_below_drewN | apply below_drew1) | exact HB.out)) hb); clear HB; have HB := n0_; clear n0_; (try clear hb); (try clear hb2); (try clear hk); (try clear hi)) | ((with_reducible refine gate_callee (f := 48) rfl ?_); refine goesL_ (some 112) rfl rfl Try.func48 (by kernel_rfl) rfl #[.int .i64 t338, .int .i64 a1, .int .i64 a2] rfl (by (try simp only [List.map_toArray, List.map_cons, List.map_nil]); first | done | rfl | (simp only [List.length_drop, List.length_take]; rfl)) ?_; (with_reducible refine (integer_Trips.calls t338 a1 a2 t340 t341 t342 _ A32.out).mono ?_); rintro e w43 ⟨rfl, hb⟩; refine ⟨_, rfl, ?_⟩; have n0_ := Aside0.mk (below_step (by repeat (first | (with_reducible first | exact HB.out | apply below_alloc | apply pw_below_drewN | apply below_drew1) | exact HB.out)) hb); clear HB; have HB := n0_; clear n0_; (try clear hb); (try clear hb2); (try clear hk); (try clear hi)))
                            go_ret
                            exact ⟨by first | rfl | (simp [errW_none, errW_some] <;> rfl) | (simp [*, errW_none, errW_some] <;> rfl), by repeat (first | (with_reducible first | exact HB.out | apply below_alloc | apply pw_below_drewN | apply below_drew1) | exact HB.out)⟩
                        · rw [if_neg c31] at H
                          have c31b0 : (t339 == 0) = false := beq_eq_false_iff_ne.mpr c31
                          have c31b1 : (t339 != 0) = true := bne_iff_ne.mpr c31
                          by_cases c44 : t327 = true
                          · subst c44
                            have H1 : (if t328 = 1 then (some t329) else (some false)) = some r := by rw [if_pos rfl] at H; exact H
                            clear H
                            have H := H1
                            clear H1
                            by_cases c45 : t328 = 1
                            · rw [if_pos c45] at H
                              have c45b0 : (t328 == 1) = true := beq_iff_eq.mpr c45
                              have c45b1 : (t328 != 1) = false := bne_eq_false_iff_eq.mpr c45
                              clear c45
                              obtain rfl := Option.some.inj H
                              go_wp2_with (first | ((with_reducible refine gate_callee (f := 19) rfl ?_); refine goesL_ (some 95) rfl rfl Try.func19 (by kernel_rfl) rfl #[.int .i64 a0, .int .i64 a1] rfl (by (try simp only [List.map_toArray, List.map_cons, List.map_nil]); first | done | rfl | (simp only [List.length_drop, List.length_take]; rfl)) ?_; (with_reducible refine (integer_Add.calls a0 a1 t338 t339 _ A30.out).mono ?_); rintro e w46 ⟨rfl, hb⟩; refine ⟨_, rfl, ?_⟩; have n0_ := Aside0.mk (below_step (by repeat (first | (with_reducible first | exact HB.out | apply below_alloc | apply pw_below_drewN | apply below_drew1) | exact HB.out)) hb); clear HB; have HB := n0_; clear n0_; (try clear hb); (try clear hb2); (try clear hk); (try clear hi)))
                              go_ret
                              exact ⟨by first | rfl | (simp [errW_none, errW_some] <;> rfl) | (simp [*, errW_none, errW_some] <;> rfl), by repeat (first | (with_reducible first | exact HB.out | apply below_alloc | apply pw_below_drewN | apply below_drew1) | exact HB.out)⟩
                            · rw [if_neg c45] at H
                              have c45b0 : (t328 == 1) = false := beq_eq_false_iff_ne.mpr c45
                              have c45b1 : (t328 != 1) = true := bne_iff_ne.mpr c45
                              obtain rfl := Option.some.inj H
                              go_wp2_with (first | ((with_reducible refine gate_callee (f := 19) rfl ?_); refine goesL_ (some 95) rfl rfl Try.func19 (by kernel_rfl) rfl #[.int .i64 a0, .int .i64 a1] rfl (by (try simp only [List.map_toArray, List.map_cons, List.map_nil]); first | done | rfl | (simp only [List.length_drop, List.length_take]; rfl)) ?_; (with_reducible refine (integer_Add.calls a0 a1 t338 t339 _ A30.out).mono ?_); rintro e w47 ⟨rfl, hb⟩; refine ⟨_, rfl, ?_⟩; have n0_ := Aside0.mk (below_step (by repeat (first | (with_reducible first | exact HB.out | apply below_alloc | apply pw_below_drewN | apply below_drew1) | exact HB.out)) hb); clear HB; have HB := n0_; clear n0_; (try clear hb); (try clear hb2); (try clear hk); (try clear hi)))
                              go_ret
                              exact ⟨by first | rfl | (simp [errW_none, errW_some] <;> rfl) | (simp [*, errW_none, errW_some] <;> rfl), by repeat (first | (with_reducible first | exact HB.out | apply below_alloc | apply pw_below_drewN | apply below_drew1) | exact HB.out)⟩
                          · replace c44 := Bool.eq_false_iff.mpr c44
                            subst c44
                            have H1 : (some false) = some r := by rw [if_neg (show ¬ (false = true) by decide)] at H; exact H
                            clear H
                            have H := H1
                            clear H1
                            obtain rfl := Option.some.inj H
                            go_wp2_with (first | ((with_reducible refine gate_callee (f := 19) rfl ?_); refine goesL_ (some 95) rfl rfl Try.func19 (by kernel_rfl) rfl #[.int .i64 a0, .int .i64 a1] rfl (by (try simp only [List.map_toArray, List.map_cons, List.map_nil]); first | done | rfl | (simp only [List.length_drop, List.length_take]; rfl)) ?_; (with_reducible refine (integer_Add.calls a0 a1 t338 t339 _ A30.out).mono ?_); rintro e w48 ⟨rfl, hb⟩; refine ⟨_, rfl, ?_⟩; have n0_ := Aside0.mk (below_step (by repeat (first | (with_reducible first | exact HB.out | apply below_alloc | apply pw_below_drewN | apply below_drew1) | exact HB.out)) hb); clear HB; have HB := n0_; clear n0_; (try clear hb); (try clear hb2); (try clear hk); (try clear hi)))
                            go_ret
                            exact ⟨by first | rfl | (simp [errW_none, errW_some] <;> rfl) | (simp [*, errW_none, errW_some] <;> rfl), by repeat (first | (with_reducible first | exact HB.out | apply below_alloc | apply pw_below_drewN | apply below_drew1) | exact HB.out)⟩

/-- THE ONE PURE STATEMENT of manorboylaw01_IntegerTrips: yours. -/
def manorboylaw01_IntegerTrips.Pure : Prop := ∀ (a0 : Int) (a1 : Int) (a2 : Int), (Lit.int .i64 a0).wf = true → (Lit.int .i64 a1).wf = true → (Lit.int .i64 a2).wf = true → ∃ k, manorboylaw01_IntegerTrips.f k a0 a1 a2 = some true
theorem manorboylaw01_IntegerTrips.walk (P : manorboylaw01_IntegerTrips.Pure) (a0 : Int) (a1 : Int) (a2 : Int) (w : World) (w0 : (Lit.int .i64 a0).wf = true) (w1 : (Lit.int .i64 a1).wf = true) (w2 : (Lit.int .i64 a2).wf = true) :
    Calls Try.prog 11 #[.int .i64 a0, .int .i64 a1, .int .i64 a2] w fun e w' => e = .returned (.bool true) ∧ Below w.heap.size w w' := by
  obtain ⟨k, h⟩ := P a0 a1 a2 w0 w1 w2
  refine (manorboylaw01_IntegerTrips.calls k a0 a1 a2 true w h).mono ?_
  rintro e w' ⟨rfl, hd⟩
  exact ⟨rfl, hd⟩

end Go.Proofs.Ytjclehdhjnmlpaa.P
