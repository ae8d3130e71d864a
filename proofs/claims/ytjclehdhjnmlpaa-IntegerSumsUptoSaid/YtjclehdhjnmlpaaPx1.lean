/- Contracts of functions that the laws reach, written by program (printx.py): each call returns what its plain Lean function computes, where that has a value; no other condition. -/
import Derived.Test.YtjclehdhjnmlpaaPx0
namespace Go.Proofs.Ytjclehdhjnmlpaa.P
open Go.RowKit Go.Proofs.Ytjclehdhjnmlpaa.Given Go.Proofs.YtjclehdhjnmlpaaW.PrintWords Go.Proofs.YtjclehdhjnmlpaaW.PrintLast Go.Proofs.YtjclehdhjnmlpaaW.PrintMore
attribute [local go_sem] max2_int min2_int max_two min_two max_three min_three max_four min_four   -- for this text's walks alone
set_option linter.unusedVariables false
set_option linter.unusedSimpArgs false

-- given: function 19 (integer_Add)

-- given: function 20 (integer_Mul)

-- given: function 22 (integer_Quo)

-- given: function 24 (integer_Floor)

/-! ### manorboylaw01_awake: function 18 -/
def manorboylaw01_awake.j0 : Nat → Int → Int → Int → Bool → Option (Bool)
  | 0, _, _, _, _ => none
  | k + 1, x1, x5, x7, x38 => if x38 = true then (some false) else (if x1 = 2147483647 then (if x5 = (-3) then (some (x7 == (-4))) else (some false)) else (some false))
def manorboylaw01_awake.f (k : Nat)  : Option (Bool) := (integer_Add.f 2147483646 1).bind fun bt101 => ((integer_Mul.f 46341 46341).bind fun bt103 => ((integer_Quo.f (-7) 2).bind fun bt105 => ((integer_Floor.f (-7) 2).bind fun bt107 => (if bt101.2 = 0 then (if bt103.2 = 3 then (if bt105.2 = 0 then (manorboylaw01_awake.j0 k bt101.1 bt105.1 bt107.1 (bt107.2 != 0)) else (manorboylaw01_awake.j0 k bt101.1 bt105.1 bt107.1 true)) else (manorboylaw01_awake.j0 k bt101.1 bt105.1 bt107.1 true)) else (manorboylaw01_awake.j0 k bt101.1 bt105.1 bt107.1 true)))))
theorem manorboylaw01_awake.mono_l : ∀ k, (∀ y0 y1 y2 y3, LeO (manorboylaw01_awake.j0 k y0 y1 y2 y3) (manorboylaw01_awake.j0 (k + 1) y0 y1 y2 y3))
  | 0 => fun _ _ _ _ r h => by simp [manorboylaw01_awake.j0] at h
  | k + 1 => by
    have ih0 := manorboylaw01_awake.mono_l k
    · intro y0 y1 y2 y3
      unfold manorboylaw01_awake.j0
      repeat' first
      | (with_reducible exact ih0 _ _ _ _)
      | (with_reducible exact LeO.refl _)
      | (with_reducible exact LeO.none _)
      | (with_reducible refine LeO.ite ?_ ?_)
      | (with_reducible refine LeO.bind ?_ (fun _ => ?_))
      | exact ih0 _ _ _ _
      | exact LeO.none _
      | refine LeO.ite ?_ ?_
      | refine LeO.bind ?_ (fun _ => ?_)
theorem manorboylaw01_awake.mono : ∀ k, LeO (manorboylaw01_awake.f k ) (manorboylaw01_awake.f (k + 1) ) := by
  intro  k
  have ih0 := manorboylaw01_awake.mono_l k
  unfold manorboylaw01_awake.f
  repeat' first
      | (with_reducible exact ih0 _ _ _ _)
      | (with_reducible exact LeO.refl _)
      | (with_reducible exact LeO.none _)
      | (with_reducible refine LeO.ite ?_ ?_)
      | (with_reducible refine LeO.bind ?_ (fun _ => ?_))
      | exact ih0 _ _ _ _
      | exact LeO.none _
      | refine LeO.ite ?_ ?_
      | refine LeO.bind ?_ (fun _ => ?_)
set_option maxHeartbeats 8000000 in
set_option maxRecDepth 100000 in
theorem manorboylaw01_awake.calls (k : Nat)  (r : Bool) (w : World) (h : manorboylaw01_awake.f k  = some r) :
    Calls Try.prog 18 #[] w fun e w' => e = .returned (.bool r) ∧ Below w.heap.size w w' := by
  have HB := Aside0.mk (Below.refl w.heap.size w)
  have H : ((integer_Add.f 2147483646 1).bind fun bt101 => ((integer_Mul.f 46341 46341).bind fun bt103 => ((integer_Quo.f (-7) 2).bind fun bt105 => ((integer_Floor.f (-7) 2).bind fun bt107 => (if bt101.2 = 0 then (if bt103.2 = 3 then (if bt105.2 = 0 then (manorboylaw01_awake.j0 k bt101.1 bt105.1 bt107.1 (bt107.2 != 0)) else (manorboylaw01_awake.j0 k bt101.1 bt105.1 bt107.1 true)) else (manorboylaw01_awake.j0 k bt101.1 bt105.1 bt107.1 true)) else (manorboylaw01_awake.j0 k bt101.1 bt105.1 bt107.1 true)))))) = some r := h
  clear h
  replace H := Option.bind_eq_some_iff.mp H
  obtain ⟨⟨t101, t102⟩, A10, H⟩ := H
  replace H : ((integer_Mul.f 46341 46341).bind fun bt103 => ((integer_Quo.f (-7) 2).bind fun bt105 => ((integer_Floor.f (-7) 2).bind fun bt107 => (if t102 = 0 then (if bt103.2 = 3 then (if bt105.2 = 0 then (manorboylaw01_awake.j0 k t101 bt105.1 bt107.1 (bt107.2 != 0)) else (manorboylaw01_awake.j0 k t101 bt105.1 bt107.1 true)) else (manorboylaw01_awake.j0 k t101 bt105.1 bt107.1 true)) else (manorboylaw01_awake.j0 k t101 bt105.1 bt107.1 true))))) = some r := H
  have A1 := Aside0.mk A10
  clear A10
  replace H := Option.bind_eq_some_iff.mp H
  obtain ⟨⟨t103, t104⟩, A20, H⟩ := H
  replace H : ((integer_Quo.f (-7) 2).bind fun bt105 => ((integer_Floor.f (-7) 2).bind fun bt107 => (if t102 = 0 then (if t104 = 3 then (if bt105.2 = 0 then (manorboylaw01_awake.j0 k t101 bt105.1 bt107.1 (bt107.2 != 0)) else (manorboylaw01_awake.j0 k t101 bt105.1 bt107.1 true)) else (manorboylaw01_awake.j0 k t101 bt105.1 bt107.1 true)) else (manorboylaw01_awake.j0 k t101 bt105.1 bt107.1 true)))) = some r := H
  have A2 := Aside0.mk A20
  clear A20
  replace H := Option.bind_eq_some_iff.mp H
  obtain ⟨⟨t105, t106⟩, A30, H⟩ := H
  replace H : ((integer_Floor.f (-7) 2).bind fun bt107 => (if t102 = 0 then (if t104 = 3 then (if t106 = 0 then (manorboylaw01_awake.j0 k t101 t105 bt107.1 (bt107.2 != 0)) else (manorboylaw01_awake.j0 k t101 t105 bt107.1 true)) else (manorboylaw01_awake.j0 k t101 t105 bt107.1 true)) else (manorboylaw01_awake.j0 k t101 t105 bt107.1 true))) = some r := H
  have A3 := Aside0.mk A30
  clear A30
  replace H := Option.bind_eq_some_iff.mp H
  obtain ⟨⟨t107, t108⟩, A40, H⟩ := H
  replace H : (if t102 = 0 then (if t104 = 3 then (if t106 = 0 then (manorboylaw01_awake.j0 k t101 t105 t107 (t108 != 0)) else (manorboylaw01_awake.j0 k t101 t105 t107 true)) else (manorboylaw01_awake.j0 k t101 t105 t107 true)) else (manorboylaw01_awake.j0 k t101 t105 t107 true)) = some r := H
  have A4 := Aside0.mk A40
  clear A40
  have HC5 := Aside0.mk H
  clear H
  go_enter Try.func18, Try.ntmps18
  go_upto_region 5 with (first | ((with_reducible refine gate_callee (f := 19) rfl ?_); refine goesL_ (some 10) rfl rfl Try.func19 (by kernel_rfl) rfl #[.int .i64 2147483646, .int .i64 1] rfl (by (try simp only [List.map_toArray, List.map_cons, List.map_nil]); first | done | rfl | (simp only [List.length_drop, List.length_take]; rfl)) ?_; (with_reducible refine (integer_Add.calls 2147483646 1 t101 t102 _ A1.out).mono ?_); rintro e w6 ⟨rfl, hb⟩; refine ⟨_, rfl, ?_⟩; have n0_ := Aside0.mk (below_step (by repeat (first | (with_reducible first | exact HB.out | apply below_alloc | apply pw_below_drewN | apply below_drew1) | exact HB.out)) hb); clear HB; have HB := n0_; clear n0_; (try clear hb); (try clear hb2); (try clear hk); (try clear hi)) | ((with_reducible refine gate_callee (f := 20) rfl ?_); refine goesL_ (some 14) rfl rfl Try.func20 (by kernel_rfl) rfl #[.int .i64 46341, .int .i64 46341] rfl (by (try simp only [List.map_toArray, List.map_cons, List.map_nil]); first | done | rfl | (simp only [List.length_drop, List.length_take]; rfl)) ?_; (with_reducible refine (integer_Mul.calls 46341 46341 t103 t104 _ A2.out).mono ?_); rintro e w7 ⟨rfl, hb⟩; refine ⟨_, rfl, ?_⟩; have n0_ := Aside0.mk (below_step (by repeat (first | (with_reducible first | exact HB.out | apply below_alloc | apply pw_below_drewN | apply below_drew1) | exact HB.out)) hb); clear HB; have HB := n0_; clear n0_; (try clear hb); (try clear hb2); (try clear hk); (try clear hi)) | ((with_reducible refine gate_callee (f := 22) rfl ?_); refine goesL_ (some 18) rfl rfl Try.func22 (by kernel_rfl) rfl #[.int .i64 (-7), .int .i64 2] rfl (by (try simp only [List.map_toArray, List.map_cons, List.map_nil]); first | done | rfl | (simp only [List.length_drop, List.length_take]; rfl)) ?_; (with_reducible refine (integer_Quo.calls (-7) 2 t105 t106 _ A3.out).mono ?_); rintro e w8 ⟨rfl, hb⟩; refine ⟨_, rfl, ?_⟩; have n0_ := Aside0.mk (below_step (by repeat (first | (with_reducible first | exact HB.out | apply below_alloc | apply pw_below_drewN | apply below_drew1) | exact HB.out)) hb); clear HB; have HB := n0_; clear n0_; (try clear hb); (try clear hb2); (try clear hk); (try clear hi)) | ((with_reducible refine gate_callee (f := 24) rfl ?_); refine goesL_ (some 22) rfl rfl Try.func24 (by kernel_rfl) rfl #[.int .i64 (-7), .int .i64 2] rfl (by (try simp only [List.map_toArray, List.map_cons, List.map_nil]); first | done | rfl | (simp only [List.length_drop, List.length_take]; rfl)) ?_; (with_reducible refine (integer_Floor.calls (-7) 2 t107 t108 _ A4.out).mono ?_); rintro e w9 ⟨rfl, hb⟩; refine ⟨_, rfl, ?_⟩; have n0_ := Aside0.mk (below_step (by repeat (first | (with_reducible first | exact HB.out | apply below_alloc | apply pw_below_drewN | apply below_drew1) | exact HB.out)) hb); clear HB; have HB := n0_; clear n0_; (try clear hb); (try clear hb2); (try clear hk); (try clear hi)))
  (try simp only [Act.put, List.setIfInBounds_toArray, List.set_cons_zero, List.set_cons_succ])
  go_cut [38] (fun v38 wc => ∃ (kq : Nat) (x38_4 : Bool), v38 = .bool x38_4 ∧ Aside0 (manorboylaw01_awake.j0 kq t101 t105 t107 x38_4 = some r) ∧ Aside0 (kq ≤ k) ∧ Aside0 (Below w.heap.size w wc))
  case first => as_aux_lemma =>
    have H := HC5.out
    clear HC5
    by_cases c10 : t102 = 0
    · rw [if_pos c10] at H
      have c10b0 : (t102 == 0) = true := beq_iff_eq.mpr c10
      have c10b1 : (t102 != 0) = false := bne_eq_false_iff_eq.mpr c10
      clear c10
      (first | rw [c10b0] | (simp only [i64_w, i32_w]; rw [c10b0]) | skip)
      by_cases c11 : t104 = 3
      · rw [if_pos c11] at H
        have c11b0 : (t104 == 3) = true := beq_iff_eq.mpr c11
        have c11b1 : (t104 != 3) = false := bne_eq_false_iff_eq.mpr c11
        clear c11
        by_cases c12 : t106 = 0
        · rw [if_pos c12] at H
          have c12b0 : (t106 == 0) = true := beq_iff_eq.mpr c12
          have c12b1 : (t106 != 0) = false := bne_eq_false_iff_eq.mpr c12
          clear c12
          have H' := Aside0.mk H
          clear H
          go_wp2
          go_meet
          case rel => exact ⟨_, ((t108 != 0)), (by first | rfl | (simp; done) | (simp [*]; done)), H', ⟨by first | omega | exact Nat.le_refl _⟩, ⟨by repeat (first | (with_reducible first | exact HB.out | apply below_alloc | apply pw_below_drewN | apply below_drew1) | exact HB.out)⟩⟩
        · rw [if_neg c12] at H
          have c12b0 : (t106 == 0) = false := beq_eq_false_iff_ne.mpr c12
          have c12b1 : (t106 != 0) = true := bne_iff_ne.mpr c12
          have H' := Aside0.mk H
          clear H
          go_wp2
          go_meet
          case rel => exact ⟨_, (true), (by first | rfl | (simp; done) | (simp [*]; done)), H', ⟨by first | omega | exact Nat.le_refl _⟩, ⟨by repeat (first | (with_reducible first | exact HB.out | apply below_alloc | apply pw_below_drewN | apply below_drew1) | exact HB.out)⟩⟩
      · rw [if_neg c11] at H
        have c11b0 : (t104 == 3) = false := beq_eq_false_iff_ne.mpr c11
        have c11b1 : (t104 != 3) = true := bne_iff_ne.mpr c11
        have H' := Aside0.mk H
        clear H
        go_wp2
        go_meet
        case rel => exact ⟨_, (true), (by first | rfl | (simp; done) | (simp [*]; done)), H', ⟨by first | omega | exact Nat.le_refl _⟩, ⟨by repeat (first | (with_reducible first | exact HB.out | apply below_alloc | apply pw_below_drewN | apply below_drew1) | exact HB.out)⟩⟩
    · rw [if_neg c10] at H
      have c10b0 : (t102 == 0) = false := beq_eq_false_iff_ne.mpr c10
      have c10b1 : (t102 != 0) = true := bne_iff_ne.mpr c10
      (first | rw [c10b0] | (simp only [i64_w, i32_w]; rw [c10b0]) | skip)
      have H' := Aside0.mk H
      clear H
      go_wp2
      go_meet
      case rel => exact ⟨_, (true), (by first | rfl | (simp; done) | (simp [*]; done)), H', ⟨by first | omega | exact Nat.le_refl _⟩, ⟨by repeat (first | (with_reducible first | exact HB.out | apply below_alloc | apply pw_below_drewN | apply below_drew1) | exact HB.out)⟩⟩
  case rest => as_aux_lemma =>
    clear HC5
    try clear c1
    try clear c2
    try clear p2
    try clear c10
    try clear c10b0
    try clear c10b1
    try clear c11
    try clear c11b0
    try clear c11b1
    try clear c12
    try clear c12b0
    try clear c12b1
    obtain ⟨kq, x38_4, rfl, HA, HJ4, HB⟩ := hcut
    cases kq with
    | zero => exact absurd HA.out (by simp [manorboylaw01_awake.j0])
    | succ kj4 =>
      have H := HA.out
      clear HA
      simp only [manorboylaw01_awake.j0] at H
      by_cases c13 : x38_4 = true
      · subst c13
        have H1 : (some false) = some r := by rw [if_pos rfl] at H; exact H
        clear H
        have H := H1
        clear H1
        obtain rfl := Option.some.inj H
        go_wp2
        go_ret
        exact ⟨by first | rfl | (simp [errW_none, errW_some] <;> rfl) | (simp [*, errW_none, errW_some] <;> rfl), by repeat (first | (with_reducible first | exact HB.out | apply below_alloc | apply pw_below_drewN | apply below_drew1) | exact HB.out)⟩
      · replace c13 := Bool.eq_false_iff.mpr c13
        subst c13
        have H1 : (if t101 = 2147483647 then (if t105 = (-3) then (some (t107 == (-4))) else (some false)) else (some false)) = some r := by rw [if_neg (show ¬ (false = true) by decide)] at H; exact H
        clear H
        have H := H1
        clear H1
        by_cases c14 : t101 = 2147483647
        · rw [if_pos c14] at H
          have c14b0 : (t101 == 2147483647) = true := beq_iff_eq.mpr c14
          have c14b1 : (t101 != 2147483647) = false := bne_eq_false_iff_eq.mpr c14
          clear c14
          by_cases c15 : t105 = (-3)
          · rw [if_pos c15] at H
            have c15b0 : (t105 == (-3)) = true := beq_iff_eq.mpr c15
            have c15b1 : (t105 != (-3)) = false := bne_eq_false_iff_eq.mpr c15
            clear c15
            obtain rfl := Option.some.inj H
            go_wp2
            go_ret
            exact ⟨by first | rfl | (simp [errW_none, errW_some] <;> rfl) | (simp [*, errW_none, errW_some] <;> rfl), by repeat (first | (with_reducible first | exact HB.out | apply below_alloc | apply pw_below_drewN | apply below_drew1) | exact HB.out)⟩
          · rw [if_neg c15] at H
            have c15b0 : (t105 == (-3)) = false := beq_eq_false_iff_ne.mpr c15
            have c15b1 : (t105 != (-3)) = true := bne_iff_ne.mpr c15
            obtain rfl := Option.some.inj H
            go_wp2
            go_ret
            exact ⟨by first | rfl | (simp [errW_none, errW_some] <;> rfl) | (simp [*, errW_none, errW_some] <;> rfl), by repeat (first | (with_reducible first | exact HB.out | apply below_alloc | apply pw_below_drewN | apply below_drew1) | exact HB.out)⟩
        · rw [if_neg c14] at H
          have c14b0 : (t101 == 2147483647) = false := beq_eq_false_iff_ne.mpr c14
          have c14b1 : (t101 != 2147483647) = true := bne_iff_ne.mpr c14
          obtain rfl := Option.some.inj H
          go_wp2
          go_ret
          exact ⟨by first | rfl | (simp [errW_none, errW_some] <;> rfl) | (simp [*, errW_none, errW_some] <;> rfl), by repeat (first | (with_reducible first | exact HB.out | apply below_alloc | apply pw_below_drewN | apply below_drew1) | exact HB.out)⟩

-- given: function 21 (integer_Sub)

end Go.Proofs.Ytjclehdhjnmlpaa.P
