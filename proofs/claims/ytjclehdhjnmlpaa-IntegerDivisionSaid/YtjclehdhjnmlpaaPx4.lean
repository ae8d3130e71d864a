/- Contracts of functions that the laws reach, written by program (printx.py): each call returns what its plain Lean function computes, where that has a value; no other condition. -/
import Derived.Test.YtjclehdhjnmlpaaPx0
import Derived.Test.YtjclehdhjnmlpaaPx1
import Derived.Test.YtjclehdhjnmlpaaPx3
namespace Go.Proofs.Ytjclehdhjnmlpaa.P
open Go.RowKit Go.Proofs.Ytjclehdhjnmlpaa.Given Go.Proofs.YtjclehdhjnmlpaaW.PrintWords Go.Proofs.YtjclehdhjnmlpaaW.PrintLast Go.Proofs.YtjclehdhjnmlpaaW.PrintMore
attribute [local go_sem] max2_int min2_int max_two min_two max_three min_three max_four min_four   -- for this text's walks alone
set_option linter.unusedVariables false
set_option linter.unusedSimpArgs false

/-! ### manorboylaw01_IntegerDivision: function 4 -/
mutual
def manorboylaw01_IntegerDivision.j0 : Nat → Int → Int → Bool → Int → Int → Int → Int → Int → Int → Bool → Option (Bool)
  | 0, _, _, _, _, _, _, _, _, _, _ => none
  | k + 1, x0, x1, x5, x6, x7, x8, x9, x10, x12, x55 => if x55 = true then (some false) else ((integer_Valid.f x0).bind fun t143 => (if t143 = true then ((integer_Valid.f x1).bind fun t144 => (manorboylaw01_IntegerDivision.j1 k x0 x1 x5 x6 x7 x8 x9 x10 x12 (!t144))) else (manorboylaw01_IntegerDivision.j1 k x0 x1 x5 x6 x7 x8 x9 x10 x12 true)))
def manorboylaw01_IntegerDivision.j1 : Nat → Int → Int → Bool → Int → Int → Int → Int → Int → Int → Bool → Option (Bool)
  | 0, _, _, _, _, _, _, _, _, _, _ => none
  | k + 1, x0, x1, x5, x6, x7, x8, x9, x10, x12, x63 => if x63 = true then (if x5 = true then (some (x7 == 1)) else (some false)) else (if x1 = 0 then (if x5 = true then (some (x7 == 5)) else (some false)) else ((integer_Mul.f x6 x1).bind fun bt145 => ((manorboylaw01_plus.f bt145.1 bt145.2 x8 x9).bind fun bt147 => (if x7 = 0 then (if bt147.2 = 0 then (if bt147.1 = x0 then (manorboylaw01_IntegerDivision.j2 k x0 x1 x5 x6 x8 x10 x12 (decide ((mx x8 (wrap64 (-x8))) ≥ (mx x1 (wrap64 (-x1)))))) else (manorboylaw01_IntegerDivision.j2 k x0 x1 x5 x6 x8 x10 x12 true)) else (manorboylaw01_IntegerDivision.j2 k x0 x1 x5 x6 x8 x10 x12 true)) else (manorboylaw01_IntegerDivision.j2 k x0 x1 x5 x6 x8 x10 x12 true)))))
def manorboylaw01_IntegerDivision.j2 : Nat → Int → Int → Bool → Int → Int → Int → Int → Bool → Option (Bool)
  | 0, _, _, _, _, _, _, _, _ => none
  | k + 1, x0, x1, x5, x6, x8, x10, x12, x111 => if x111 = true then (some false) else (if x8 = 0 then (manorboylaw01_IntegerDivision.j3 k x1 x5 x6 x8 x10 x12 false) else (manorboylaw01_IntegerDivision.j3 k x1 x5 x6 x8 x10 x12 ((decide (x8 < 0)) != (decide (x0 < 0)))))
def manorboylaw01_IntegerDivision.j3 : Nat → Int → Bool → Int → Int → Int → Int → Bool → Option (Bool)
  | 0, _, _, _, _, _, _, _ => none
  | k + 1, x1, x5, x6, x8, x10, x12, x120 => if x120 = true then (some false) else (if x8 = 0 then (if x5 = true then (if x10 = x6 then (some (x12 == x8)) else (some false)) else (some false)) else (if ((decide (x8 < 0)) != (decide (x1 < 0))) = true then (if x5 = true then (if x10 = (wrap64 (x6 - 1)) then (some (x12 == (wrap64 (x8 + x1)))) else (some false)) else (some false)) else (if x5 = true then (if x10 = x6 then (some (x12 == x8)) else (some false)) else (some false))))
end
def manorboylaw01_IntegerDivision.f (k : Nat) (a0 : Int) (a1 : Int) : Option (Bool) := (manorboylaw01_awake.f k).bind fun t134 => ((integer_Quo.f a0 a1).bind fun bt135 => ((integer_Rem.f a0 a1).bind fun bt137 => ((integer_Floor.f a0 a1).bind fun bt139 => ((integer_Mod.f a0 a1).bind fun bt141 => (if bt135.2 = bt137.2 then (if bt135.2 = bt139.2 then (manorboylaw01_IntegerDivision.j0 k a0 a1 t134 bt135.1 bt135.2 bt137.1 bt137.2 bt139.1 bt141.1 (bt135.2 != bt141.2)) else (manorboylaw01_IntegerDivision.j0 k a0 a1 t134 bt135.1 bt135.2 bt137.1 bt137.2 bt139.1 bt141.1 true)) else (manorboylaw01_IntegerDivision.j0 k a0 a1 t134 bt135.1 bt135.2 bt137.1 bt137.2 bt139.1 bt141.1 true))))))
theorem manorboylaw01_IntegerDivision.mono_l : ∀ k, (∀ y0 y1 y2 y3 y4 y5 y6 y7 y8 y9, LeO (manorboylaw01_IntegerDivision.j0 k y0 y1 y2 y3 y4 y5 y6 y7 y8 y9) (manorboylaw01_IntegerDivision.j0 (k + 1) y0 y1 y2 y3 y4 y5 y6 y7 y8 y9)) ∧ (∀ y0 y1 y2 y3 y4 y5 y6 y7 y8 y9, LeO (manorboylaw01_IntegerDivision.j1 k y0 y1 y2 y3 y4 y5 y6 y7 y8 y9) (manorboylaw01_IntegerDivision.j1 (k + 1) y0 y1 y2 y3 y4 y5 y6 y7 y8 y9)) ∧ (∀ y0 y1 y2 y3 y4 y5 y6 y7, LeO (manorboylaw01_IntegerDivision.j2 k y0 y1 y2 y3 y4 y5 y6 y7) (manorboylaw01_IntegerDivision.j2 (k + 1) y0 y1 y2 y3 y4 y5 y6 y7)) ∧ (∀ y0 y1 y2 y3 y4 y5 y6, LeO (manorboylaw01_IntegerDivision.j3 k y0 y1 y2 y3 y4 y5 y6) (manorboylaw01_IntegerDivision.j3 (k + 1) y0 y1 y2 y3 y4 y5 y6))
  | 0 => ⟨fun _ _ _ _ _ _ _ _ _ _ r h => by simp [manorboylaw01_IntegerDivision.j0] at h, fun _ _ _ _ _ _ _ _ _ _ r h => by simp [manorboylaw01_IntegerDivision.j1] at h, fun _ _ _ _ _ _ _ _ r h => by simp [manorboylaw01_IntegerDivision.j2] at h, fun _ _ _ _ _ _ _ r h => by simp [manorboylaw01_IntegerDivision.j3] at h⟩
  | k + 1 => by
    obtain ⟨ih0, ih1, ih2, ih3⟩ := manorboylaw01_IntegerDivision.mono_l k
    refine ⟨?_, ?_, ?_, ?_⟩
    · intro y0 y1 y2 y3 y4 y5 y6 y7 y8 y9
      unfold manorboylaw01_IntegerDivision.j0
      repeat' first
      | (with_reducible exact ih0 _ _ _ _ _ _ _ _ _ _)
      | (with_reducible exact ih1 _ _ _ _ _ _ _ _ _ _)
      | (with_reducible exact ih2 _ _ _ _ _ _ _ _)
      | (with_reducible exact ih3 _ _ _ _ _ _ _)
      | (with_reducible exact manorboylaw01_awake.mono _)
      | (with_reducible exact LeO.refl _)
      | (with_reducible exact LeO.none _)
      | (with_reducible refine LeO.ite ?_ ?_)
      | (with_reducible refine LeO.bind ?_ (fun _ => ?_))
      | exact ih0 _ _ _ _ _ _ _ _ _ _
      | exact ih1 _ _ _ _ _ _ _ _ _ _
      | exact ih2 _ _ _ _ _ _ _ _
      | exact ih3 _ _ _ _ _ _ _
      | exact manorboylaw01_awake.mono _
      | exact LeO.none _
      | refine LeO.ite ?_ ?_
      | refine LeO.bind ?_ (fun _ => ?_)
    · intro y0 y1 y2 y3 y4 y5 y6 y7 y8 y9
      unfold manorboylaw01_IntegerDivision.j1
      repeat' first
      | (with_reducible exact ih0 _ _ _ _ _ _ _ _ _ _)
      | (with_reducible exact ih1 _ _ _ _ _ _ _ _ _ _)
      | (with_reducible exact ih2 _ _ _ _ _ _ _ _)
      | (with_reducible exact ih3 _ _ _ _ _ _ _)
      | (with_reducible exact manorboylaw01_awake.mono _)
      | (with_reducible exact LeO.refl _)
      | (with_reducible exact LeO.none _)
      | (with_reducible refine LeO.ite ?_ ?_)
      | (with_reducible refine LeO.bind ?_ (fun _ => ?_))
      | exact ih0 _ _ _ _ _ _ _ _ _ _
      | exact ih1 _ _ _ _ _ _ _ _ _ _
      | exact ih2 _ _ _ _ _ _ _ _
      | exact ih3 _ _ _ _ _ _ _
      | exact manorboylaw01_awake.mono _
      | exact LeO.none _
      | refine LeO.ite ?_ ?_
      | refine LeO.bind ?_ (fun _ => ?_)
    · intro y0 y1 y2 y3 y4 y5 y6 y7
      unfold manorboylaw01_IntegerDivision.j2
      repeat' first
      | (with_reducible exact ih0 _ _ _ _ _ _ _ _ _ _)
      | (with_reducible exact ih1 _ _ _ _ _ _ _ _ _ _)
      | (with_reducible exact ih2 _ _ _ _ _ _ _ _)
      | (with_reducible exact ih3 _ _ _ _ _ _ _)
      | (with_reducible exact manorboylaw01_awake.mono _)
      | (with_reducible exact LeO.refl _)
      | (with_reducible exact LeO.none _)
      | (with_reducible refine LeO.ite ?_ ?_)
      | (with_reducible refine LeO.bind ?_ (fun _ => ?_))
      | exact ih0 _ _ _ _ _ _ _ _ _ _
      | exact ih1 _ _ _ _ _ _ _ _ _ _
      | exact ih2 _ _ _ _ _ _ _ _
      | exact ih3 _ _ _ _ _ _ _
      | exact manorboylaw01_awake.mono _
      | exact LeO.none _
      | refine LeO.ite ?_ ?_
      | refine LeO.bind ?_ (fun _ => ?_)
    · intro y0 y1 y2 y3 y4 y5 y6
      unfold manorboylaw01_IntegerDivision.j3
      repeat' first
      | (with_reducible exact ih0 _ _ _ _ _ _ _ _ _ _)
      | (with_reducible exact ih1 _ _ _ _ _ _ _ _ _ _)
      | (with_reducible exact ih2 _ _ _ _ _ _ _ _)
      | (with_reducible exact ih3 _ _ _ _ _ _ _)
      | (with_reducible exact manorboylaw01_awake.mono _)
      | (with_reducible exact LeO.refl _)
      | (with_reducible exact LeO.none _)
      | (with_reducible refine LeO.ite ?_ ?_)
      | (with_reducible refine LeO.bind ?_ (fun _ => ?_))
      | exact ih0 _ _ _ _ _ _ _ _ _ _
      | exact ih1 _ _ _ _ _ _ _ _ _ _
      | exact ih2 _ _ _ _ _ _ _ _
      | exact ih3 _ _ _ _ _ _ _
      | exact manorboylaw01_awake.mono _
      | exact LeO.none _
      | refine LeO.ite ?_ ?_
      | refine LeO.bind ?_ (fun _ => ?_)
theorem manorboylaw01_IntegerDivision.mono : ∀ a0 a1 k, LeO (manorboylaw01_IntegerDivision.f k a0 a1) (manorboylaw01_IntegerDivision.f (k + 1) a0 a1) := by
  intro a0 a1 k
  obtain ⟨ih0, ih1, ih2, ih3⟩ := manorboylaw01_IntegerDivision.mono_l k
  unfold manorboylaw01_IntegerDivision.f
  repeat' first
      | (with_reducible exact ih0 _ _ _ _ _ _ _ _ _ _)
      | (with_reducible exact ih1 _ _ _ _ _ _ _ _ _ _)
      | (with_reducible exact ih2 _ _ _ _ _ _ _ _)
      | (with_reducible exact ih3 _ _ _ _ _ _ _)
      | (with_reducible exact manorboylaw01_awake.mono _)
      | (with_reducible exact LeO.refl _)
      | (with_reducible exact LeO.none _)
      | (with_reducible refine LeO.ite ?_ ?_)
      | (with_reducible refine LeO.bind ?_ (fun _ => ?_))
      | exact ih0 _ _ _ _ _ _ _ _ _ _
      | exact ih1 _ _ _ _ _ _ _ _ _ _
      | exact ih2 _ _ _ _ _ _ _ _
      | exact ih3 _ _ _ _ _ _ _
      | exact manorboylaw01_awake.mono _
      | exact LeO.none _
      | refine LeO.ite ?_ ?_
      | refine LeO.bind ?_ (fun _ => ?_)
set_option maxHeartbeats 8000000 in
set_option maxRecDepth 100000 in
theorem manorboylaw01_IntegerDivision.calls (k : Nat) (a0 : Int) (a1 : Int) (r : Bool) (w : World) (h : manorboylaw01_IntegerDivision.f k a0 a1 = some r) :
    Calls Try.prog 4 #[.int .i64 a0, .int .i64 a1] w fun e w' => e = .returned (.bool r) ∧ Below w.heap.size w w' := by
  have HB := Aside0.mk (Below.refl w.heap.size w)
  have H : ((manorboylaw01_awake.f k).bind fun t134 => ((integer_Quo.f a0 a1).bind fun bt135 => ((integer_Rem.f a0 a1).bind fun bt137 => ((integer_Floor.f a0 a1).bind fun bt139 => ((integer_Mod.f a0 a1).bind fun bt141 => (if bt135.2 = bt137.2 then (if bt135.2 = bt139.2 then (manorboylaw01_IntegerDivision.j0 k a0 a1 t134 bt135.1 bt135.2 bt137.1 bt137.2 bt139.1 bt141.1 (bt135.2 != bt141.2)) else (manorboylaw01_IntegerDivision.j0 k a0 a1 t134 bt135.1 bt135.2 bt137.1 bt137.2 bt139.1 bt141.1 true)) else (manorboylaw01_IntegerDivision.j0 k a0 a1 t134 bt135.1 bt135.2 bt137.1 bt137.2 bt139.1 bt141.1 true))))))) = some r := h
  clear h
  replace H := Option.bind_eq_some_iff.mp H
  obtain ⟨t134, A30, H⟩ := H
  replace H : ((integer_Quo.f a0 a1).bind fun bt135 => ((integer_Rem.f a0 a1).bind fun bt137 => ((integer_Floor.f a0 a1).bind fun bt139 => ((integer_Mod.f a0 a1).bind fun bt141 => (if bt135.2 = bt137.2 then (if bt135.2 = bt139.2 then (manorboylaw01_IntegerDivision.j0 k a0 a1 t134 bt135.1 bt135.2 bt137.1 bt137.2 bt139.1 bt141.1 (bt135.2 != bt141.2)) else (manorboylaw01_IntegerDivision.j0 k a0 a1 t134 bt135.1 bt135.2 bt137.1 bt137.2 bt139.1 bt141.1 true)) else (manorboylaw01_IntegerDivision.j0 k a0 a1 t134 bt135.1 bt135.2 bt137.1 bt137.2 bt139.1 bt141.1 true)))))) = some r := H
  have A3 := Aside0.mk A30
  clear A30
  replace H := Option.bind_eq_some_iff.mp H
  obtain ⟨⟨t135, t136⟩, A40, H⟩ := H
  replace H : ((integer_Rem.f a0 a1).bind fun bt137 => ((integer_Floor.f a0 a1).bind fun bt139 => ((integer_Mod.f a0 a1).bind fun bt141 => (if t136 = bt137.2 then (if t136 = bt139.2 then (manorboylaw01_IntegerDivision.j0 k a0 a1 t134 t135 t136 bt137.1 bt137.2 bt139.1 bt141.1 (t136 != bt141.2)) else (manorboylaw01_IntegerDivision.j0 k a0 a1 t134 t135 t136 bt137.1 bt137.2 bt139.1 bt141.1 true)) else (manorboylaw01_IntegerDivision.j0 k a0 a1 t134 t135 t136 bt137.1 bt137.2 bt139.1 bt141.1 true))))) = some r := H
  have A4 := Aside0.mk A40
  clear A40
  replace H := Option.bind_eq_some_iff.mp H
  obtain ⟨⟨t137, t138⟩, A50, H⟩ := H
  replace H : ((integer_Floor.f a0 a1).bind fun bt139 => ((integer_Mod.f a0 a1).bind fun bt141 => (if t136 = t138 then (if t136 = bt139.2 then (manorboylaw01_IntegerDivision.j0 k a0 a1 t134 t135 t136 t137 t138 bt139.1 bt141.1 (t136 != bt141.2)) else (manorboylaw01_IntegerDivision.j0 k a0 a1 t134 t135 t136 t137 t138 bt139.1 bt141.1 true)) else (manorboylaw01_IntegerDivision.j0 k a0 a1 t134 t135 t136 t137 t138 bt139.1 bt141.1 true)))) = some r := H
  have A5 := Aside0.mk A50
  clear A50
  replace H := Option.bind_eq_some_iff.mp H
  obtain ⟨⟨t139, t140⟩, A60, H⟩ := H
  replace H : ((integer_Mod.f a0 a1).bind fun bt141 => (if t136 = t138 then (if t136 = t140 then (manorboylaw01_IntegerDivision.j0 k a0 a1 t134 t135 t136 t137 t138 t139 bt141.1 (t136 != bt141.2)) else (manorboylaw01_IntegerDivision.j0 k a0 a1 t134 t135 t136 t137 t138 t139 bt141.1 true)) else (manorboylaw01_IntegerDivision.j0 k a0 a1 t134 t135 t136 t137 t138 t139 bt141.1 true))) = some r := H
  have A6 := Aside0.mk A60
  clear A60
  replace H := Option.bind_eq_some_iff.mp H
  obtain ⟨⟨t141, t142⟩, A70, H⟩ := H
  replace H : (if t136 = t138 then (if t136 = t140 then (manorboylaw01_IntegerDivision.j0 k a0 a1 t134 t135 t136 t137 t138 t139 t141 (t136 != t142)) else (manorboylaw01_IntegerDivision.j0 k a0 a1 t134 t135 t136 t137 t138 t139 t141 true)) else (manorboylaw01_IntegerDivision.j0 k a0 a1 t134 t135 t136 t137 t138 t139 t141 true)) = some r := H
  have A7 := Aside0.mk A70
  clear A70
  have HC8 := Aside0.mk H
  clear H
  go_enter Try.func4, Try.ntmps4
  go_upto_region 6 with (first | ((with_reducible refine gate_callee (f := 18) rfl ?_); refine goesL_ (some 18) rfl rfl Try.func18 (by kernel_rfl) rfl #[] rfl (by (try simp only [List.map_toArray, List.map_cons, List.map_nil]); first | done | rfl | (simp only [List.length_drop, List.length_take]; rfl)) ?_; (with_reducible refine (manorboylaw01_awake.calls k  t134 _ A3.out).mono ?_); rintro e w9 ⟨rfl, hb⟩; refine ⟨_, rfl, ?_⟩; have n0_ := Aside0.mk (below_step (by repeat (first | (with_reducible first | exact HB.out | apply below_alloc | apply pw_below_drewN | apply below_drew1) | exact HB.out)) hb); clear HB; have HB := n0_; clear n0_; (try clear hb); (try clear hb2); (try clear hk); (try clear hi)) | ((with_reducible refine gate_callee (f := 22) rfl ?_); refine goesL_ (some 22) rfl rfl Try.func22 (by kernel_rfl) rfl #[.int .i64 a0, .int .i64 a1] rfl (by (try simp only [List.map_toArray, List.map_cons, List.map_nil]); first | done | rfl | (simp only [List.length_drop, List.length_take]; rfl)) ?_; (with_reducible refine (integer_Quo.calls a0 a1 t135 t136 _ A4.out).mono ?_); rintro e w10 ⟨rfl, hb⟩; refine ⟨_, rfl, ?_⟩; have n0_ := Aside0.mk (below_step (by repeat (first | (with_reducible first | exact HB.out | apply below_alloc | apply pw_below_drewN | apply below_drew1) | exact HB.out)) hb); clear HB; have HB := n0_; clear n0_; (try clear hb); (try clear hb2); (try clear hk); (try clear hi)) | ((with_reducible refine gate_callee (f := 23) rfl ?_); refine goesL_ (some 28) rfl rfl Try.func23 (by kernel_rfl) rfl #[.int .i64 a0, .int .i64 a1] rfl (by (try simp only [List.map_toArray, List.map_cons, List.map_nil]); first | done | rfl | (simp only [List.length_drop, List.length_take]; rfl)) ?_; (with_reducible refine (integer_Rem.calls a0 a1 t137 t138 _ A5.out).mono ?_); rintro e w11 ⟨rfl, hb⟩; refine ⟨_, rfl, ?_⟩; have n0_ := Aside0.mk (below_step (by repeat (first | (with_reducible first | exact HB.out | apply below_alloc | apply pw_below_drewN | apply below_drew1) | exact HB.out)) hb); clear HB; have HB := n0_; clear n0_; (try clear hb); (try clear hb2); (try clear hk); (try clear hi)) | ((with_reducible refine gate_callee (f := 24) rfl ?_); refine goesL_ (some 34) rfl rfl Try.func24 (by kernel_rfl) rfl #[.int .i64 a0, .int .i64 a1] rfl (by (try simp only [List.map_toArray, List.map_cons, List.map_nil]); first | done | rfl | (simp only [List.length_drop, List.length_take]; rfl)) ?_; (with_reducible refine (integer_Floor.calls a0 a1 t139 t140 _ A6.out).mono ?_); rintro e w12 ⟨rfl, hb⟩; refine ⟨_, rfl, ?_⟩; have n0_ := Aside0.mk (below_step (by repeat (first | (with_reducible first | exact HB.out | apply below_alloc | apply pw_below_drewN | apply below_drew1) | exact HB.out)) hb); clear HB; have HB := n0_; clear n0_; (try clear hb); (try clear hb2); (try clear hk); (try clear hi)) | ((with_reducible refine gate_callee (f := 25) rfl ?_); refine goesL_ (some 40) rfl rfl Try.func25 (by kernel_rfl) rfl #[.int .i64 a0, .int .i64 a1] rfl (by (try simp only [List.map_toArray, List.map_cons, List.map_nil]); first | done | rfl | (simp only [List.length_drop, List.length_take]; rfl)) ?_; (with_reducible refine (integer_Mod.calls a0 a1 t141 t142 _ A7.out).mono ?_); rintro e w13 ⟨rfl, hb⟩; refine ⟨_, rfl, ?_⟩; have n0_ := Aside0.mk (below_step (by repeat (first | (with_reducible first | exact HB.out | apply below_alloc | apply pw_below_drewN | apply below_drew1) | exact HB.out)) hb); clear HB; have HB := n0_; clear n0_; (try clear hb); (try clear hb2); (try clear hk); (try clear hi)))
  (try simp only [Act.put, List.setIfInBounds_toArray, List.set_cons_zero, List.set_cons_succ])
  go_cut [55] (fun v55 wc => ∃ (kq : Nat) (x55_7 : Bool), v55 = .bool x55_7 ∧ Aside0 (manorboylaw01_IntegerDivision.j0 kq a0 a1 t134 t135 t136 t137 t138 t139 t141 x55_7 = some r) ∧ Aside0 (kq ≤ k) ∧ Aside0 (Below w.heap.size w wc))
  case first => as_aux_lemma =>
    have H := HC8.out
    clear HC8
    by_cases c14 : t136 = t138
    · rw [if_pos c14] at H
      have c14b0 : (t136 == t138) = true := beq_iff_eq.mpr c14
      have c14b1 : (t136 != t138) = false := bne_eq_false_iff_eq.mpr c14
      clear c14
      (first | rw [c14b0] | (simp only [i64_w, i32_w]; rw [c14b0]) | skip)
      by_cases c15 : t136 = t140
      · rw [if_pos c15] at H
        have c15b0 : (t136 == t140) = true := beq_iff_eq.mpr c15
        have c15b1 : (t136 != t140) = false := bne_eq_false_iff_eq.mpr c15
        clear c15
        have H' := Aside0.mk H
        clear H
        go_wp2
        go_meet
        case rel => exact ⟨_, ((t136 != t142)), (by first | rfl | (simp; done) | (simp [*]; done)), H', ⟨by first | omega | exact Nat.le_refl _⟩, ⟨by repeat (first | (with_reducible first | exact HB.out | apply below_alloc | apply pw_below_drewN | apply below_drew1) | exact HB.out)⟩⟩
      · rw [if_neg c15] at H
        have c15b0 : (t136 == t140) = false := beq_eq_false_iff_ne.mpr c15
        have c15b1 : (t136 != t140) = true := bne_iff_ne.mpr c15
        have H' := Aside0.mk H
        clear H
        go_wp2
        go_meet
        case rel => exact ⟨_, (true), (by first | rfl | (simp; done) | (simp [*]; done)), H', ⟨by first | omega | exact Nat.le_refl _⟩, ⟨by repeat (first | (with_reducible first | exact HB.out | apply below_alloc | apply pw_below_drewN | apply below_drew1) | exact HB.out)⟩⟩
    · rw [if_neg c14] at H
      have c14b0 : (t136 == t138) = false := beq_eq_false_iff_ne.mpr c14
      have c14b1 : (t136 != t138) = true := bne_iff_ne.mpr c14
      (first | rw [c14b0] | (simp only [i64_w, i32_w]; rw [c14b0]) | skip)
      have H' := Aside0.mk H
      clear H
      go_wp2
      go_meet
      case rel => exact ⟨_, (true), (by first | rfl | (simp; done) | (simp [*]; done)), H', ⟨by first | omega | exact Nat.le_refl _⟩, ⟨by repeat (first | (with_reducible first | exact HB.out | apply below_alloc | apply pw_below_drewN | apply below_drew1) | exact HB.out)⟩⟩
  case rest => as_aux_lemma =>
    clear HC8
    try clear c1
    try clear c2
    try clear p2
    try clear c4
    try clear c14
    try clear c14b0
    try clear c14b1
    try clear c15
    try clear c15b0
    try clear c15b1
    obtain ⟨kq, x55_7, rfl, HA, HJ7, HB⟩ := hcut
    cases kq with
    | zero => exact absurd HA.out (by simp [manorboylaw01_IntegerDivision.j0])
    | succ kj7 =>
      have H := HA.out
      clear HA
      simp only [manorboylaw01_IntegerDivision.j0] at H
      by_cases c16 : x55_7 = true
      · subst c16
        have H1 : (some false) = some r := by rw [if_pos rfl] at H; exact H
        clear H
        have H := H1
        clear H1
        obtain rfl := Option.some.inj H
        go_wp2
        go_ret
        exact ⟨by first | rfl | (simp [errW_none, errW_some] <;> rfl) | (simp [*, errW_none, errW_some] <;> rfl), by repeat (first | (with_reducible first | exact HB.out | apply below_alloc | apply pw_below_drewN | apply below_drew1) | exact HB.out)⟩
      · replace c16 := Bool.eq_false_iff.mpr c16
        subst c16
        have H1 : ((integer_Valid.f a0).bind fun t143 => (if t143 = true then ((integer_Valid.f a1).bind fun t144 => (manorboylaw01_IntegerDivision.j1 kj7 a0 a1 t134 t135 t136 t137 t138 t139 t141 (!t144))) else (manorboylaw01_IntegerDivision.j1 kj7 a0 a1 t134 t135 t136 t137 t138 t139 t141 true))) = some r := by rw [if_neg (show ¬ (false = true) by decide)] at H; exact H
        clear H
        have H := H1
        clear H1
        have HC17 := Aside0.mk H
        clear H
        go_upto_region 8 with (fail)
        go_cut [63] (fun v63 wc => ∃ (kq : Nat) (x63_16 : Bool), v63 = .bool x63_16 ∧ Aside0 (manorboylaw01_IntegerDivision.j1 kq a0 a1 t134 t135 t136 t137 t138 t139 t141 x63_16 = some r) ∧ Aside0 (kq ≤ kj7) ∧ Aside0 (Below w.heap.size w wc))
        case first => as_aux_lemma =>
          have H := HC17.out
          clear HC17
          replace H := Option.bind_eq_some_iff.mp H
          obtain ⟨t143, A180, H⟩ := H
          replace H : (if t143 = true then ((integer_Valid.f a1).bind fun t144 => (manorboylaw01_IntegerDivision.j1 kj7 a0 a1 t134 t135 t136 t137 t138 t139 t141 (!t144))) else (manorboylaw01_IntegerDivision.j1 kj7 a0 a1 t134 t135 t136 t137 t138 t139 t141 true)) = some r := H
          have A18 := Aside0.mk A180
          clear A180
          by_cases c19 : t143 = true
          · subst c19
            have H1 : ((integer_Valid.f a1).bind fun t144 => (manorboylaw01_IntegerDivision.j1 kj7 a0 a1 t134 t135 t136 t137 t138 t139 t141 (!t144))) = some r := by rw [if_pos rfl] at H; exact H
            clear H
            have H := H1
            clear H1
            replace H := Option.bind_eq_some_iff.mp H
            obtain ⟨t144, A200, H⟩ := H
            replace H : (manorboylaw01_IntegerDivision.j1 kj7 a0 a1 t134 t135 t136 t137 t138 t139 t141 (!t144)) = some r := H
            have A20 := Aside0.mk A200
            clear A200
            have H' := Aside0.mk H
            clear H
            go_wp2_with (first | ((with_reducible refine gate_callee (f := 26) rfl ?_); refine goesL_ (some 57) rfl rfl Try.func26 (by kernel_rfl) rfl #[.int .i64 a0] rfl (by (try simp only [List.map_toArray, List.map_cons, List.map_nil]); first | done | rfl | (simp only [List.length_drop, List.length_take]; rfl)) ?_; (with_reducible refine (integer_Valid.calls a0 true _ A18.out).mono ?_); rintro e w' ⟨rfl, ⟨nd, rfl⟩⟩; refine ⟨_, rfl, ?_⟩) | (go_at_call 26; (with_reducible refine (integer_Valid.calls a1 t144 _ A20.out).mono ?_); rintro e w' ⟨rfl, ⟨nd, rfl⟩⟩))
            go_meet
            case rel => exact ⟨_, (!t144), (by first | rfl | (simp; done) | (simp [*]; done)), H', ⟨by have := HJ7.out; first | omega | exact Nat.le_refl _⟩, ⟨by repeat (first | (with_reducible first | exact HB.out | apply below_alloc | apply pw_below_drewN | apply below_drew1) | exact HB.out)⟩⟩
          · replace c19 := Bool.eq_false_iff.mpr c19
            subst c19
            have H1 : (manorboylaw01_IntegerDivision.j1 kj7 a0 a1 t134 t135 t136 t137 t138 t139 t141 true) = some r := by rw [if_neg (show ¬ (false = true) by decide)] at H; exact H
            clear H
            have H := H1
            clear H1
            have H' := Aside0.mk H
            clear H
            go_wp2_with (first | ((with_reducible refine gate_callee (f := 26) rfl ?_); refine goesL_ (some 57) rfl rfl Try.func26 (by kernel_rfl) rfl #[.int .i64 a0] rfl (by (try simp only [List.map_toArray, List.map_cons, List.map_nil]); first | done | rfl | (simp only [List.length_drop, List.length_take]; rfl)) ?_; (with_reducible refine (integer_Valid.calls a0 false _ A18.out).mono ?_); rintro e w' ⟨rfl, ⟨nd, rfl⟩⟩; refine ⟨_, rfl, ?_⟩))
            go_meet
            case rel => exact ⟨_, (true), (by first | rfl | (simp; done) | (simp [*]; done)), H', ⟨by have := HJ7.out; first | omega | exact Nat.le_refl _⟩, ⟨by repeat (first | (with_reducible first | exact HB.out | apply below_alloc | apply pw_below_drewN | apply below_drew1) | exact HB.out)⟩⟩
        case rest => as_aux_lemma =>
          clear HC17
          try clear c1
          try clear c2
          try clear p2
          try clear c4
          try clear c14
          try clear c14b0
          try clear c14b1
          try clear c15
          try clear c15b0
          try clear c15b1
          try clear c16
          try clear c18
          try clear c19
          try clear p2
          obtain ⟨kq, x63_16, rfl, HA, HJ16, HB⟩ := hcut
          cases kq with
          | zero => exact absurd HA.out (by simp [manorboylaw01_IntegerDivision.j1])
          | succ kj16 =>
            have H := HA.out
            clear HA
            simp only [manorboylaw01_IntegerDivision.j1] at H
            by_cases c21 : x63_16 = true
            · subst c21
              have H1 : (if t134 = true then (some (t136 == 1)) else (some false)) = some r := by rw [if_pos rfl] at H; exact H
              clear H
              have H := H1
              clear H1
              by_cases c22 : t134 = true
              · subst c22
                have H1 : (some (t136 == 1)) = some r := by rw [if_pos rfl] at H; exact H
                clear H
                have H := H1
                clear H1
                obtain rfl := Option.some.inj H
                go_wp2
                go_ret
                exact ⟨by first | rfl | (simp [errW_none, errW_some] <;> rfl) | (simp [*, errW_none, errW_some] <;> rfl), by repeat (first | (with_reducible first | exact HB.out | apply below_alloc | apply pw_below_drewN | apply below_drew1) | exact HB.out)⟩
              · replace c22 := Bool.eq_false_iff.mpr c22
                subst c22
                have H1 : (some false) = some r := by rw [if_neg (show ¬ (false = true) by decide)] at H; exact H
                clear H
                have H := H1
                clear H1
                obtain rfl := Option.some.inj H
                go_wp2
                go_ret
                exact ⟨by first | rfl | (simp [errW_none, errW_some] <;> rfl) | (simp [*, errW_none, errW_some] <;> rfl), by repeat (first | (with_reducible first | exact HB.out | apply below_alloc | apply pw_below_drewN | apply below_drew1) | exact HB.out)⟩
            · replace c21 := Bool.eq_false_iff.mpr c21
              subst c21
              have H1 : (if a1 = 0 then (if t134 = true then (some (t136 == 5)) else (some false)) else ((integer_Mul.f t135 a1).bind fun bt145 => ((manorboylaw01_plus.f bt145.1 bt145.2 t137 t138).bind fun bt147 => (if t136 = 0 then (if bt147.2 = 0 then (if bt147.1 = a0 then (manorboylaw01_IntegerDivision.j2 kj16 a0 a1 t134 t135 t137 t139 t141 (decide ((mx t137 (wrap64 (-t137))) ≥ (mx a1 (wrap64 (-a1)))))) else (manorboylaw01_IntegerDivision.j2 kj16 a0 a1 t134 t135 t137 t139 t141 true)) else (manorboylaw01_IntegerDivision.j2 kj16 a0 a1 t134 t135 t137 t139 t141 true)) else (manorboylaw01_IntegerDivision.j2 kj16 a0 a1 t134 t135 t137 t139 t141 true))))) = some r := by rw [if_neg (show ¬ (false = true) by decide)] at H; exact H
              clear H
              have H := H1
              clear H1
              by_cases c23 : a1 = 0
              · rw [if_pos c23] at H
                have c23b0 : (a1 == 0) = true := beq_iff_eq.mpr c23
                have c23b1 : (a1 != 0) = false := bne_eq_false_iff_eq.mpr c23
                clear c23
                by_cases c24 : t134 = true
                · subst c24
                  have H1 : (some (t136 == 5)) = some r := by rw [if_pos rfl] at H; exact H
                  clear H
                  have H := H1
                  clear H1
                  obtain rfl := Option.some.inj H
                  go_wp2
                  go_ret
                  exact ⟨by first | rfl | (simp [errW_none, errW_some] <;> rfl) | (simp [*, errW_none, errW_some] <;> rfl), by repeat (first | (with_reducible first | exact HB.out | apply below_alloc | apply pw_below_drewN | apply below_drew1) | exact HB.out)⟩
                · replace c24 := Bool.eq_false_iff.mpr c24
                  subst c24
                  have H1 : (some false) = some r := by rw [if_neg (show ¬ (false = true) by decide)] at H; exact H
                  clear H
                  have H := H1
                  clear H1
                  obtain rfl := Option.some.inj H
                  go_wp2
                  go_ret
                  exact ⟨by first | rfl | (simp [errW_none, errW_some] <;> rfl) | (simp [*, errW_none, errW_some] <;> rfl), by repeat (first | (with_reducible first | exact HB.out | apply below_alloc | apply pw_below_drewN | apply below_drew1) | exact HB.out)⟩
              · rw [if_neg c23] at H
                have c23b0 : (a1 == 0) = false := beq_eq_false_iff_ne.mpr c23
                have c23b1 : (a1 != 0) = true := bne_iff_ne.mpr c23
                replace H := Option.bind_eq_some_iff.mp H
                obtain ⟨⟨t145, t146⟩, A250, H⟩ := H
                replace H : ((manorboylaw01_plus.f t145 t146 t137 t138).bind fun bt147 => (if t136 = 0 then (if bt147.2 = 0 then (if bt147.1 = a0 then (manorboylaw01_IntegerDivision.j2 kj16 a0 a1 t134 t135 t137 t139 t141 (decide ((mx t137 (wrap64 (-t137))) ≥ (mx a1 (wrap64 (-a1)))))) else (manorboylaw01_IntegerDivision.j2 kj16 a0 a1 t134 t135 t137 t139 t141 true)) else (manorboylaw01_IntegerDivision.j2 kj16 a0 a1 t134 t135 t137 t139 t141 true)) else (manorboylaw01_IntegerDivision.j2 kj16 a0 a1 t134 t135 t137 t139 t141 true))) = some r := H
                have A25 := Aside0.mk A250
                clear A250
                replace H := Option.bind_eq_some_iff.mp H
                obtain ⟨⟨t147, t148⟩, A260, H⟩ := H
                replace H : (if t136 = 0 then (if t148 = 0 then (if t147 = a0 then (manorboylaw01_IntegerDivision.j2 kj16 a0 a1 t134 t135 t137 t139 t141 (decide ((mx t137 (wrap64 (-t137))) ≥ (mx a1 (wrap64 (-a1)))))) else (manorboylaw01_IntegerDivision.j2 kj16 a0 a1 t134 t135 t137 t139 t141 true)) else (manorboylaw01_IntegerDivision.j2 kj16 a0 a1 t134 t135 t137 t139 t141 true)) else (manorboylaw01_IntegerDivision.j2 kj16 a0 a1 t134 t135 t137 t139 t141 true)) = some r := H
                have A26 := Aside0.mk A260
                clear A260
                have HC27 := Aside0.mk H
                clear H
                go_upto_region 14 with (first | ((with_reducible refine gate_callee (f := 20) rfl ?_); refine goesL_ (some 79) rfl rfl Try.func20 (by kernel_rfl) rfl #[.int .i64 t135, .int .i64 a1] rfl (by (try simp only [List.map_toArray, List.map_cons, List.map_nil]); first | done | rfl | (simp only [List.length_drop, List.length_take]; rfl)) ?_; (with_reducible refine (integer_Mul.calls t135 a1 t145 t146 _ A25.out).mono ?_); rintro e w28 ⟨rfl, hb⟩; refine ⟨_, rfl, ?_⟩; have n0_ := Aside0.mk (below_step (by repeat (first | (with_reducible first | exact HB.out | apply below_alloc | apply pw_below_drewN | apply below_drew1) | exact HB.out)) hb); clear HB; have HB := n0_; clear n0_; (try clear hb); (try clear hb2); (try clear hk); (try clear hi)) | ((with_reducible refine gate_callee (f := 27) rfl ?_); refine goesL_ (some 87) rfl rfl Try.func27 (by kernel_rfl) rfl #[.int .i64 t145, .int .i64 t146, .int .i64 t137, .int .i64 t138] rfl (by (try simp only [List.map_toArray, List.map_cons, List.map_nil]); first | done | rfl | (simp only [List.length_drop, List.length_take]; rfl)) ?_; (with_reducible refine (manorboylaw01_plus.calls t145 t146 t137 t138 t147 t148 _ A26.out).mono ?_); rintro e w29 ⟨rfl, hb⟩; refine ⟨_, rfl, ?_⟩; have n0_ := Aside0.mk (below_step (by repeat (first | (with_reducible first | exact HB.out | apply below_alloc | apply pw_below_drewN | apply below_drew1) | exact HB.out)) hb); clear HB; have HB := n0_; clear n0_; (try clear hb); (try clear hb2); (try clear hk); (try clear hi)))
                (try simp only [Act.put, List.setIfInBounds_toArray, List.set_cons_zero, List.set_cons_succ])
                go_cut [111] (fun v111 wc => ∃ (kq : Nat) (x111_26 : Bool), v111 = .bool x111_26 ∧ Aside0 (manorboylaw01_IntegerDivision.j2 kq a0 a1 t134 t135 t137 t139 t141 x111_26 = some r) ∧ Aside0 (kq ≤ kj16) ∧ Aside0 (Below w.heap.size w wc))
                case first => as_aux_lemma =>
                  have H := HC27.out
                  clear HC27
                  by_cases c30 : t136 = 0
                  · rw [if_pos c30] at H
                    have c30b0 : (t136 == 0) = true := beq_iff_eq.mpr c30
                    have c30b1 : (t136 != 0) = false := bne_eq_false_iff_eq.mpr c30
                    clear c30
                    (first | rw [c30b0] | (simp only [i64_w, i32_w]; rw [c30b0]) | skip)
                    by_cases c31 : t148 = 0
                    · rw [if_pos c31] at H
                      have c31b0 : (t148 == 0) = true := beq_iff_eq.mpr c31
                      have c31b1 : (t148 != 0) = false := bne_eq_false_iff_eq.mpr c31
                      clear c31
                      by_cases c32 : t147 = a0
                      · rw [if_pos c32] at H
                        have c32b0 : (t147 == a0) = true := beq_iff_eq.mpr c32
                        have c32b1 : (t147 != a0) = false := bne_eq_false_iff_eq.mpr c32
                        clear c32
                        obtain ⟨ji33, hji33⟩ : ∃ j_ : Int, (mx t137 (wrap64 (-t137))) = j_ := ⟨_, rfl⟩
                        replace H : (manorboylaw01_IntegerDivision.j2 kj16 a0 a1 t134 t135 t137 t139 t141 (decide ((ji33) ≥ (mx a1 (wrap64 (-a1)))))) = some r := by first | (rw [hji33] at H; exact H) | (simp only [hji33] at H ⊢; exact H)
                        have hji33_ : (if t137 < (wrap64 (-t137)) then (wrap64 (-t137)) else t137) = ji33 := hji33
                        obtain ⟨ji34, hji34⟩ : ∃ j_ : Int, (mx a1 (wrap64 (-a1))) = j_ := ⟨_, rfl⟩
                        replace H : (manorboylaw01_IntegerDivision.j2 kj16 a0 a1 t134 t135 t137 t139 t141 (decide ((ji33) ≥ (ji34)))) = some r := by first | (rw [hji34] at H; exact H) | (simp only [hji34] at H ⊢; exact H)
                        have hji34_ : (if a1 < (wrap64 (-a1)) then (wrap64 (-a1)) else a1) = ji34 := hji34
                        have H' := Aside0.mk H
                        clear H
                        go_wp2
                        go_meet
                        case rel => exact ⟨_, (decide ((ji33) ≥ (ji34))), (by first | rfl | (simp; done) | (simp only [← hji33, ← hji34] <;> (first | rfl | simp)) | (simp [*]; done)), H', ⟨by have := HJ7.out; have := HJ16.out; first | omega | exact Nat.le_refl _⟩, ⟨by repeat (first | (with_reducible first | exact HB.out | apply below_alloc | apply pw_below_drewN | apply below_drew1) | exact HB.out)⟩⟩
                      · rw [if_neg c32] at H
                        have c32b0 : (t147 == a0) = false := beq_eq_false_iff_ne.mpr c32
                        have c32b1 : (t147 != a0) = true := bne_iff_ne.mpr c32
                        have H' := Aside0.mk H
                        clear H
                        go_wp2
                        go_meet
                        case rel => exact ⟨_, (true), (by first | rfl | (simp; done) | (simp [*]; done)), H', ⟨by have := HJ7.out; have := HJ16.out; first | omega | exact Nat.le_refl _⟩, ⟨by repeat (first | (with_reducible first | exact HB.out | apply below_alloc | apply pw_below_drewN | apply below_drew1) | exact HB.out)⟩⟩
                    · rw [if_neg c31] at H
                      have c31b0 : (t148 == 0) = false := beq_eq_false_iff_ne.mpr c31
                      have c31b1 : (t148 != 0) = true := bne_iff_ne.mpr c31
                      have H' := Aside0.mk H
                      clear H
                      go_wp2
                      go_meet
                      case rel => exact ⟨_, (true), (by first | rfl | (simp; done) | (simp [*]; done)), H', ⟨by have := HJ7.out; have := HJ16.out; first | omega | exact Nat.le_refl _⟩, ⟨by repeat (first | (with_reducible first | exact HB.out | apply below_alloc | apply pw_below_drewN | apply below_drew1) | exact HB.out)⟩⟩
                  · rw [if_neg c30] at H
                    have c30b0 : (t136 == 0) = false := beq_eq_false_iff_ne.mpr c30
                    have c30b1 : (t136 != 0) = true := bne_iff_ne.mpr c30
                    (first | rw [c30b0] | (simp only [i64_w, i32_w]; rw [c30b0]) | skip)
                    have H' := Aside0.mk H
                    clear H
                    go_wp2
                    go_meet
                    case rel => exact ⟨_, (true), (by first | rfl | (simp; done) | (simp [*]; done)), H', ⟨by have := HJ7.out; have := HJ16.out; first | omega | exact Nat.le_refl _⟩, ⟨by repeat (first | (with_reducible first | exact HB.out | apply below_alloc | apply pw_below_drewN | apply below_drew1) | exact HB.out)⟩⟩
                case rest => as_aux_lemma =>
                  clear HC27
                  try clear c1
                  try clear c2
                  try clear p2
                  try clear c3
                  try clear c4
                  try clear p6
                  try clear c14
                  try clear c14b0
                  try clear c14b1
                  try clear c15
                  try clear c15b0
                  try clear c15b1
                  try clear c16
                  try clear c18
                  try clear c19
                  try clear c20
                  try clear c21
                  try clear c22
                  try clear c23
                  try clear c23b0
                  try clear c23b1
                  try clear c24
                  try clear c25
                  try clear c26
                  try clear c27
                  try clear c30
                  try clear c30b0
                  try clear c30b1
                  try clear c31
                  try clear c31b0
                  try clear c31b1
                  try clear c32
                  try clear c32b0
                  try clear c32b1
                  try clear p2
                  obtain ⟨kq, x111_26, rfl, HA, HJ26, HB⟩ := hcut
                  cases kq with
                  | zero => exact absurd HA.out (by simp [manorboylaw01_IntegerDivision.j2])
                  | succ kj26 =>
                    have H := HA.out
                    clear HA
                    simp only [manorboylaw01_IntegerDivision.j2] at H
                    by_cases c35 : x111_26 = true
                    · subst c35
                      have H1 : (some false) = some r := by rw [if_pos rfl] at H; exact H
                      clear H
                      have H := H1
                      clear H1
                      obtain rfl := Option.some.inj H
                      go_wp2
                      go_ret
                      exact ⟨by first | rfl | (simp [errW_none, errW_some] <;> rfl) | (simp [*, errW_none, errW_some] <;> rfl), by repeat (first | (with_reducible first | exact HB.out | apply below_alloc | apply pw_below_drewN | apply below_drew1) | exact HB.out)⟩
                    · replace c35 := Bool.eq_false_iff.mpr c35
                      subst c35
                      have H1 : (if t137 = 0 then (manorboylaw01_IntegerDivision.j3 kj26 a1 t134 t135 t137 t139 t141 false) else (manorboylaw01_IntegerDivision.j3 kj26 a1 t134 t135 t137 t139 t141 ((decide (t137 < 0)) != (decide (a0 < 0))))) = some r := by rw [if_neg (show ¬ (false = true) by decide)] at H; exact H
                      clear H
                      have H := H1
                      clear H1
                      have HC36 := Aside0.mk H
                      clear H
                      go_upto_region 16 with (fail)
                      go_cut [120] (fun v120 wc => ∃ (kq : Nat) (x120_35 : Bool), v120 = .bool x120_35 ∧ Aside0 (manorboylaw01_IntegerDivision.j3 kq a1 t134 t135 t137 t139 t141 x120_35 = some r) ∧ Aside0 (kq ≤ kj26) ∧ Aside0 (Below w.heap.size w wc))
                      case first => as_aux_lemma =>
                        have H := HC36.out
                        clear HC36
                        by_cases c37 : t137 = 0
                        · rw [if_pos c37] at H
                          have c37b0 : (t137 == 0) = true := beq_iff_eq.mpr c37
                          have c37b1 : (t137 != 0) = false := bne_eq_false_iff_eq.mpr c37
                          clear c37
                          (first | rw [c37b0] | (simp only [i64_w, i32_w]; rw [c37b0]) | skip)
                          have H' := Aside0.mk H
                          clear H
                          go_wp2
                          go_meet
                          case rel => exact ⟨_, (false), (by first | rfl | (simp; done) | (simp [*]; done)), H', ⟨by have := HJ7.out; have := HJ16.out; have := HJ26.out; first | omega | exact Nat.le_refl _⟩, ⟨by repeat (first | (with_reducible first | exact HB.out | apply below_alloc | apply pw_below_drewN | apply below_drew1) | exact HB.out)⟩⟩
                        · rw [if_neg c37] at H
                          have c37b0 : (t137 == 0) = false := beq_eq_false_iff_ne.mpr c37
                          have c37b1 : (t137 != 0) = true := bne_iff_ne.mpr c37
                          (first | rw [c37b0] | (simp only [i64_w, i32_w]; rw [c37b0]) | skip)
                          have H' := Aside0.mk H
                          clear H
                          go_wp2
                          go_meet
                          case rel => exact ⟨_, (((decide (t137 < 0)) != (decide (a0 < 0)))), (by first | rfl | (simp; done) | (simp [*]; done)), H', ⟨by have := HJ7.out; have := HJ16.out; have := HJ26.out; first | omega | exact Nat.le_refl _⟩, ⟨by repeat (first | (with_reducible first | exact HB.out | apply below_alloc | apply pw_below_drewN | apply below_drew1) | exact HB.out)⟩⟩
                      case rest => as_aux_lemma =>
                        clear HC36
                        try clear c1
                        try clear c2
                        try clear p2
                        try clear c3
                        try clear c4
                        try clear p6
                        try clear c14
                        try clear c14b0
                        try clear c14b1
                        try clear c15
                        try clear c15b0
                        try clear c15b1
                        try clear c16
                        try clear c18
                        try clear c19
                        try clear c20
                        try clear c21
                        try clear c22
                        try clear c23
                        try clear c23b0
                        try clear c23b1
                        try clear c24
                        try clear c25
                        try clear c26
                        try clear c27
                        try clear c30
                        try clear c30b0
                        try clear c30b1
                        try clear c31
                        try clear c31b0
                        try clear c31b1
                        try clear c32
                        try clear c32b0
                        try clear c32b1
                        try clear c35
                        try clear c37
                        try clear c37b0
                        try clear c37b1
                        try clear p2
                        try clear p6
                        obtain ⟨kq, x120_35, rfl, HA, HJ35, HB⟩ := hcut
                        cases kq with
                        | zero => exact absurd HA.out (by simp [manorboylaw01_IntegerDivision.j3])
                        | succ kj35 =>
                          have H := HA.out
                          clear HA
                          simp only [manorboylaw01_IntegerDivision.j3] at H
                          by_cases c38 : x120_35 = true
                          · subst c38
                            have H1 : (some false) = some r := by rw [if_pos rfl] at H; exact H
                            clear H
                            have H := H1
                            clear H1
                            obtain rfl := Option.some.inj H
                            go_wp2
                            go_ret
                            exact ⟨by first | rfl | (simp [errW_none, errW_some] <;> rfl) | (simp [*, errW_none, errW_some] <;> rfl), by repeat (first | (with_reducible first | exact HB.out | apply below_alloc | apply pw_below_drewN | apply below_drew1) | exact HB.out)⟩
                          · replace c38 := Bool.eq_false_iff.mpr c38
                            subst c38
                            have H1 : (if t137 = 0 then (if t134 = true then (if t139 = t135 then (some (t141 == t137)) else (some false)) else (some false)) else (if ((decide (t137 < 0)) != (decide (a1 < 0))) = true then (if t134 = true then (if t139 = (wrap64 (t135 - 1)) then (some (t141 == (wrap64 (t137 + a1)))) else (some false)) else (some false)) else (if t134 = true then (if t139 = t135 then (some (t141 == t137)) else (some false)) else (some false)))) = some r := by rw [if_neg (show ¬ (false = true) by decide)] at H; exact H
                            clear H
                            have H := H1
                            clear H1
                            by_cases c39 : t137 = 0
                            · rw [if_pos c39] at H
                              have c39b0 : (t137 == 0) = true := beq_iff_eq.mpr c39
                              have c39b1 : (t137 != 0) = false := bne_eq_false_iff_eq.mpr c39
                              clear c39
                              by_cases c40 : t134 = true
                              · subst c40
                                have H1 : (if t139 = t135 then (some (t141 == t137)) else (some false)) = some r := by rw [if_pos rfl] at H; exact H
                                clear H
                                have H := H1
                                clear H1
                                by_cases c41 : t139 = t135
                                · rw [if_pos c41] at H
                                  have c41b0 : (t139 == t135) = true := beq_iff_eq.mpr c41
                                  have c41b1 : (t139 != t135) = false := bne_eq_false_iff_eq.mpr c41
                                  clear c41
                                  obtain rfl := Option.some.inj H
                                  go_wp2
                                  go_ret
                                  exact ⟨by first | rfl | (simp [errW_none, errW_some] <;> rfl) | (simp [*, errW_none, errW_some] <;> rfl), by repeat (first | (with_reducible first | exact HB.out | apply below_alloc | apply pw_below_drewN | apply below_drew1) | exact HB.out)⟩
                                · rw [if_neg c41] at H
                                  have c41b0 : (t139 == t135) = false := beq_eq_false_iff_ne.mpr c41
                                  have c41b1 : (t139 != t135) = true := bne_iff_ne.mpr c41
                                  obtain rfl := Option.some.inj H
                                  go_wp2
                                  go_ret
                                  exact ⟨by first | rfl | (simp [errW_none, errW_some] <;> rfl) | (simp [*, errW_none, errW_some] <;> rfl), by repeat (first | (with_reducible first | exact HB.out | apply below_alloc | apply pw_below_drewN | apply below_drew1) | exact HB.out)⟩
                              · replace c40 := Bool.eq_false_iff.mpr c40
                                subst c40
                                have H1 : (some false) = some r := by rw [if_neg (show ¬ (false = true) by decide)] at H; exact H
                                clear H
                                have H := H1
                                clear H1
                                obtain rfl := Option.some.inj H
                                go_wp2
                                go_ret
                                exact ⟨by first | rfl | (simp [errW_none, errW_some] <;> rfl) | (simp [*, errW_none, errW_some] <;> rfl), by repeat (first | (with_reducible first | exact HB.out | apply below_alloc | apply pw_below_drewN | apply below_drew1) | exact HB.out)⟩
                            · rw [if_neg c39] at H
                              have c39b0 : (t137 == 0) = false := beq_eq_false_iff_ne.mpr c39
                              have c39b1 : (t137 != 0) = true := bne_iff_ne.mpr c39
                              by_cases c42 : ((decide (t137 < 0)) != (decide (a1 < 0))) = true
                              · rw [if_pos c42] at H
                                have c42b0 : ((decide (t137 < 0)) != (decide (a1 < 0))) = true := c42
                                (try (have c42b1 : decide ((decide (t137 < 0)) = (decide (a1 < 0))) = false := by simpa using c42))
                                (try (have c42b2 : ((decide (t137 < 0)) == (decide (a1 < 0))) = false := by simpa using c42))
                                (try (have c42b3 : ¬ ((decide (t137 < 0)) = (decide (a1 < 0))) := by simpa using c42))
                                clear c42
                                by_cases c43 : t134 = true
                                · subst c43
                                  have H1 : (if t139 = (wrap64 (t135 - 1)) then (some (t141 == (wrap64 (t137 + a1)))) else (some false)) = some r := by rw [if_pos rfl] at H; exact H
                                  clear H
                                  have H := H1
                                  clear H1
                                  by_cases c44 : t139 = (wrap64 (t135 - 1))
                                  · rw [if_pos c44] at H
                                    have c44b0 : (t139 == (wrap64 (t135 - 1))) = true := beq_iff_eq.mpr c44
                                    have c44b1 : (t139 != (wrap64 (t135 - 1))) = false := bne_eq_false_iff_eq.mpr c44
                                    clear c44
                                    obtain rfl := Option.some.inj H
                                    go_wp2
                                    go_ret
                                    exact ⟨by first | rfl | (simp [errW_none, errW_some] <;> rfl) | (simp [*, errW_none, errW_some] <;> rfl), by repeat (first | (with_reducible first | exact HB.out | apply below_alloc | apply pw_below_drewN | apply below_drew1) | exact HB.out)⟩
                                  · rw [if_neg c44] at H
                                    have c44b0 : (t139 == (wrap64 (t135 - 1))) = false := beq_eq_false_iff_ne.mpr c44
                                    have c44b1 : (t139 != (wrap64 (t135 - 1))) = true := bne_iff_ne.mpr c44
                                    obtain rfl := Option.some.inj H
                                    go_wp2
                                    go_ret
                                    exact ⟨by first | rfl | (simp [errW_none, errW_some] <;> rfl) | (simp [*, errW_none, errW_some] <;> rfl), by repeat (first | (with_reducible first | exact HB.out | apply below_alloc | apply pw_below_drewN | apply below_drew1) | exact HB.out)⟩
                                · replace c43 := Bool.eq_false_iff.mpr c43
                                  subst c43
                                  have H1 : (some false) = some r := by rw [if_neg (show ¬ (false = true) by decide)] at H; exact H
                                  clear H
                                  have H := H1
                                  clear H1
                                  obtain rfl := Option.some.inj H
                                  go_wp2
                                  go_ret
                                  exact ⟨by first | rfl | (simp [errW_none, errW_some] <;> rfl) | (simp [*, errW_none, errW_some] <;> rfl), by repeat (first | (with_reducible first | exact HB.out | apply below_alloc | apply pw_below_drewN | apply below_drew1) | exact HB.out)⟩
                              · rw [if_neg c42] at H
                                have c42b0 : ((decide (t137 < 0)) != (decide (a1 < 0))) = false := by simpa using c42
                                (try (have c42b1 : decide ((decide (t137 < 0)) = (decide (a1 < 0))) = true := by simpa using c42))
                                (try (have c42b2 : ((decide (t137 < 0)) == (decide (a1 < 0))) = true := by simpa using c42))
                                clear c42
                                by_cases c45 : t134 = true
                                · subst c45
                                  have H1 : (if t139 = t135 then (some (t141 == t137)) else (some false)) = some r := by rw [if_pos rfl] at H; exact H
                                  clear H
                                  have H := H1
                                  clear H1
                                  by_cases c46 : t139 = t135
                                  · rw [if_pos c46] at H
                                    have c46b0 : (t139 == t135) = true := beq_iff_eq.mpr c46
                                    have c46b1 : (t139 != t135) = false := bne_eq_false_iff_eq.mpr c46
                                    clear c46
                                    obtain rfl := Option.some.inj H
                                    go_wp2
                                    go_ret
                                    exact ⟨by first | rfl | (simp [errW_none, errW_some] <;> rfl) | (simp [*, errW_none, errW_some] <;> rfl), by repeat (first | (with_reducible first | exact HB.out | apply below_alloc | apply pw_below_drewN | apply below_drew1) | exact HB.out)⟩
                                  · rw [if_neg c46] at H
                                    have c46b0 : (t139 == t135) = false := beq_eq_false_iff_ne.mpr c46
                                    have c46b1 : (t139 != t135) = true := bne_iff_ne.mpr c46
                                    obtain rfl := Option.some.inj H
                                    go_wp2
                                    go_ret
                                    exact ⟨by first | rfl | (simp [errW_none, errW_some] <;> rfl) | (simp [*, errW_none, errW_some] <;> rfl), by repeat (first | (with_reducible first | exact HB.out | apply below_alloc | apply pw_below_drewN | apply below_drew1) | exact HB.out)⟩
                                · replace c45 := Bool.eq_false_iff.mpr c45
                                  subst c45
                                  have H1 : (some false) = some r := by rw [if_neg (show ¬ (false = true) by decide)] at H; exact H
                                  clear H
                                  have H := H1
                                  clear H1
                                  obtain rfl := Option.some.inj H
                                  go_wp2
                                  go_ret
                                  exact ⟨by first | rfl | (simp [errW_none, errW_some] <;> rfl) | (simp [*, errW_none, errW_some] <;> rfl), by repeat (first | (with_reducible first | exact HB.out | apply below_alloc | apply pw_below_drewN | apply below_drew1) | exact HB.out)⟩

/-- THE ONE PURE STATEMENT of manorboylaw01_IntegerDivision: yours. -/
def manorboylaw01_IntegerDivision.Pure : Prop := ∀ (a0 : Int) (a1 : Int), (Lit.int .i64 a0).wf = true → (Lit.int .i64 a1).wf = true → ∃ k, manorboylaw01_IntegerDivision.f k a0 a1 = some true
theorem manorboylaw01_IntegerDivision.walk (P : manorboylaw01_IntegerDivision.Pure) (a0 : Int) (a1 : Int) (w : World) (w0 : (Lit.int .i64 a0).wf = true) (w1 : (Lit.int .i64 a1).wf = true) :
    Calls Try.prog 4 #[.int .i64 a0, .int .i64 a1] w fun e w' => e = .returned (.bool true) ∧ Below w.heap.size w w' := by
  obtain ⟨k, h⟩ := P a0 a1 w0 w1
  refine (manorboylaw01_IntegerDivision.calls k a0 a1 true w h).mono ?_
  rintro e w' ⟨rfl, hd⟩
  exact ⟨rfl, hd⟩

end Go.Proofs.Ytjclehdhjnmlpaa.P
