/- Contracts of functions that the laws reach, written by program (printx.py): each call returns what its plain Lean function computes, where that has a value; no other condition. -/
import Derived.Test.YtjclehdhjnmlpaaPx0
import Derived.Test.YtjclehdhjnmlpaaPx1
import Derived.Test.YtjclehdhjnmlpaaPx3
namespace Go.Proofs.Ytjclehdhjnmlpaa.P
open Go.RowKit Go.Proofs.Ytjclehdhjnmlpaa.Given Go.Proofs.YtjclehdhjnmlpaaW.PrintWords Go.Proofs.YtjclehdhjnmlpaaW.PrintLast Go.Proofs.YtjclehdhjnmlpaaW.PrintMore
attribute [local go_sem] max2_int min2_int max_two min_two max_three min_three max_four min_four   -- for this text's walks alone
set_option linter.unusedVariables false
set_option linter.unusedSimpArgs false

/-! ### manorboylaw01_IntegerOrder: function 6 -/
mutual
def manorboylaw01_IntegerOrder.j0 : Nat → Int → Int → Int → Bool → Int → Int → Bool → Option (Bool)
  | 0, _, _, _, _, _, _, _ => none
  | k + 1, x0, x1, x2, x7, x8, x9, x66 => if x66 = true then (some false) else (if x9 = 0 then ((integer_Cmp.f x1 x2).bind fun bt182 => (if bt182.2 = 0 then (manorboylaw01_IntegerOrder.j1 k x0 x1 x2 x7 x8 (x8 == bt182.1)) else (manorboylaw01_IntegerOrder.j1 k x0 x1 x2 x7 x8 false))) else (if x7 = true then ((integer_Valid.f x0).bind fun t180 => (if t180 = true then ((integer_Valid.f x1).bind fun t181 => (some (!t181))) else (some true))) else (some false)))
def manorboylaw01_IntegerOrder.j1 : Nat → Int → Int → Int → Bool → Int → Bool → Option (Bool)
  | 0, _, _, _, _, _, _ => none
  | k + 1, x0, x1, x2, x7, x8, x92 => if x92 = true then ((integer_Cmp.f x0 x2).bind fun bt184 => (if bt184.2 = 0 then (if bt184.1 = x8 then (manorboylaw01_IntegerOrder.j2 k x0 x1 x2 x7 x8) else (some false)) else (some false))) else (manorboylaw01_IntegerOrder.j2 k x0 x1 x2 x7 x8)
def manorboylaw01_IntegerOrder.j2 : Nat → Int → Int → Int → Bool → Int → Option (Bool)
  | 0, _, _, _, _, _ => none
  | k + 1, x0, x1, x2, x7, x8 => (integer_Sub.f x0 x1).bind fun bt186 => (if bt186.2 = 0 then ((integer_Sign.f bt186.1).bind fun bt188 => (if bt188.2 = 0 then (if bt188.1 = x8 then (manorboylaw01_IntegerOrder.j3 k x0 x1 x2 x7 x8) else (some false)) else (some false))) else (manorboylaw01_IntegerOrder.j3 k x0 x1 x2 x7 x8))
def manorboylaw01_IntegerOrder.j3 : Nat → Int → Int → Int → Bool → Int → Option (Bool)
  | 0, _, _, _, _, _ => none
  | k + 1, x0, x1, x2, x7, x8 => (integer_Add.f x0 x2).bind fun bt190 => ((integer_Add.f x1 x2).bind fun bt192 => (if bt190.2 = 0 then (manorboylaw01_IntegerOrder.j4 k x0 x1 x2 x7 x8 bt190.1 bt192.1 (bt192.2 == 0)) else (manorboylaw01_IntegerOrder.j4 k x0 x1 x2 x7 x8 bt190.1 bt192.1 false)))
def manorboylaw01_IntegerOrder.j4 : Nat → Int → Int → Int → Bool → Int → Int → Int → Bool → Option (Bool)
  | 0, _, _, _, _, _, _, _, _ => none
  | k + 1, x0, x1, x2, x7, x8, x18, x19, x143 => if x143 = true then ((integer_Cmp.f x18 x19).bind fun bt194 => (if bt194.2 = 0 then (if bt194.1 = x8 then (manorboylaw01_IntegerOrder.j5 k x0 x1 x2 x7 x8) else (some false)) else (some false))) else (manorboylaw01_IntegerOrder.j5 k x0 x1 x2 x7 x8)
def manorboylaw01_IntegerOrder.j5 : Nat → Int → Int → Int → Bool → Int → Option (Bool)
  | 0, _, _, _, _, _ => none
  | k + 1, x0, x1, x2, x7, x8 => (integer_Mul.f x0 x2).bind fun bt196 => ((integer_Mul.f x1 x2).bind fun bt198 => (if x2 > 0 then (if bt196.2 = 0 then (manorboylaw01_IntegerOrder.j6 k x7 x8 bt196.1 bt198.1 (bt198.2 == 0)) else (manorboylaw01_IntegerOrder.j6 k x7 x8 bt196.1 bt198.1 false)) else (manorboylaw01_IntegerOrder.j6 k x7 x8 bt196.1 bt198.1 false)))
def manorboylaw01_IntegerOrder.j6 : Nat → Bool → Int → Int → Int → Bool → Option (Bool)
  | 0, _, _, _, _, _ => none
  | k + 1, x7, x8, x18, x19, x178 => if x178 = true then ((integer_Cmp.f x18 x19).bind fun bt200 => (if x7 = true then (if bt200.2 = 0 then (some (bt200.1 == x8)) else (some false)) else (some false))) else (some x7)
end
def manorboylaw01_IntegerOrder.f (k : Nat) (a0 : Int) (a1 : Int) (a2 : Int) : Option (Bool) := (manorboylaw01_awake.f k).bind fun t175 => ((integer_Cmp.f a0 a1).bind fun bt176 => ((integer_Cmp.f a1 a0).bind fun bt178 => (if bt176.2 = bt178.2 then (if bt176.2 = 0 then (if bt176.1 = (wrap64 (-bt178.1)) then (if ((bt176.1 == 0) != (a0 == a1)) = true then (manorboylaw01_IntegerOrder.j0 k a0 a1 a2 t175 bt176.1 bt176.2 true) else (if bt176.1 < (-1) then (manorboylaw01_IntegerOrder.j0 k a0 a1 a2 t175 bt176.1 bt176.2 true) else (manorboylaw01_IntegerOrder.j0 k a0 a1 a2 t175 bt176.1 bt176.2 (decide (bt176.1 > 1))))) else (manorboylaw01_IntegerOrder.j0 k a0 a1 a2 t175 bt176.1 bt176.2 true)) else (manorboylaw01_IntegerOrder.j0 k a0 a1 a2 t175 bt176.1 bt176.2 false)) else (manorboylaw01_IntegerOrder.j0 k a0 a1 a2 t175 bt176.1 bt176.2 true))))
theorem manorboylaw01_IntegerOrder.mono_l : ∀ k, (∀ y0 y1 y2 y3 y4 y5 y6, LeO (manorboylaw01_IntegerOrder.j0 k y0 y1 y2 y3 y4 y5 y6) (manorboylaw01_IntegerOrder.j0 (k + 1) y0 y1 y2 y3 y4 y5 y6)) ∧ (∀ y0 y1 y2 y3 y4 y5, LeO (manorboylaw01_IntegerOrder.j1 k y0 y1 y2 y3 y4 y5) (manorboylaw01_IntegerOrder.j1 (k + 1) y0 y1 y2 y3 y4 y5)) ∧ (∀ y0 y1 y2 y3 y4, LeO (manorboylaw01_IntegerOrder.j2 k y0 y1 y2 y3 y4) (manorboylaw01_IntegerOrder.j2 (k + 1) y0 y1 y2 y3 y4)) ∧ (∀ y0 y1 y2 y3 y4, LeO (manorboylaw01_IntegerOrder.j3 k y0 y1 y2 y3 y4) (manorboylaw01_IntegerOrder.j3 (k + 1) y0 y1 y2 y3 y4)) ∧ (∀ y0 y1 y2 y3 y4 y5 y6 y7, LeO (manorboylaw01_IntegerOrder.j4 k y0 y1 y2 y3 y4 y5 y6 y7) (manorboylaw01_IntegerOrder.j4 (k + 1) y0 y1 y2 y3 y4 y5 y6 y7)) ∧ (∀ y0 y1 y2 y3 y4, LeO (manorboylaw01_IntegerOrder.j5 k y0 y1 y2 y3 y4) (manorboylaw01_IntegerOrder.j5 (k + 1) y0 y1 y2 y3 y4)) ∧ (∀ y0 y1 y2 y3 y4, LeO (manorboylaw01_IntegerOrder.j6 k y0 y1 y2 y3 y4) (manorboylaw01_IntegerOrder.j6 (k + 1) y0 y1 y2 y3 y4))
  | 0 => ⟨fun _ _ _ _ _ _ _ r h => by simp [manorboylaw01_IntegerOrder.j0] at h, fun _ _ _ _ _ _ r h => by simp [manorboylaw01_IntegerOrder.j1] at h, fun _ _ _ _ _ r h => by simp [manorboylaw01_IntegerOrder.j2] at h, fun _ _ _ _ _ r h => by simp [manorboylaw01_IntegerOrder.j3] at h, fun _ _ _ _ _ _ _ _ r h => by simp [manorboylaw01_IntegerOrder.j4] at h, fun _ _ _ _ _ r h => by simp [manorboylaw01_IntegerOrder.j5] at h, fun _ _ _ _ _ r h => by simp [manorboylaw01_IntegerOrder.j6] at h⟩
  | k + 1 => by
    obtain ⟨ih0, ih1, ih2, ih3, ih4, ih5, ih6⟩ := manorboylaw01_IntegerOrder.mono_l k
    refine ⟨?_, ?_, ?_, ?_, ?_, ?_, ?_⟩
    · intro y0 y1 y2 y3 y4 y5 y6
      unfold manorboylaw01_IntegerOrder.j0
      repeat' first
      | (with_reducible exact ih0 _ _ _ _ _ _ _)
      | (with_reducible exact ih1 _ _ _ _ _ _)
      | (with_reducible exact ih2 _ _ _ _ _)
      | (with_reducible exact ih3 _ _ _ _ _)
      | (with_reducible exact ih4 _ _ _ _ _ _ _ _)
      | (with_reducible exact ih5 _ _ _ _ _)
      | (with_reducible exact ih6 _ _ _ _ _)
      | (with_reducible exact manorboylaw01_awake.mono _)
      | (with_reducible exact LeO.refl _)
      | (with_reducible exact LeO.none _)
      | (with_reducible refine LeO.ite ?_ ?_)
      | (with_reducible refine LeO.bind ?_ (fun _ => ?_))
      | exact ih0 _ _ _ _ _ _ _
      | exact ih1 _ _ _ _ _ _
      | exact ih2 _ _ _ _ _
      | exact ih3 _ _ _ _ _
      | exact ih4 _ _ _ _ _ _ _ _
      | exact ih5 _ _ _ _ _
      | exact ih6 _ _ _ _ _
      | exact manorboylaw01_awake.mono _
      | exact LeO.none _
      | refine LeO.ite ?_ ?_
      | refine LeO.bind ?_ (fun _ => ?_)
    · intro y0 y1 y2 y3 y4 y5
      unfold manorboylaw01_IntegerOrder.j1
      repeat' first
      | (with_reducible exact ih0 _ _ _ _ _ _ _)
      | (with_reducible exact ih1 _ _ _ _ _ _)
      | (with_reducible exact ih2 _ _ _ _ _)
      | (with_reducible exact ih3 _ _ _ _ _)
      | (with_reducible exact ih4 _ _ _ _ _ _ _ _)
      | (with_reducible exact ih5 _ _ _ _ _)
      | (with_reducible exact ih6 _ _ _ _ _)
      | (with_reducible exact manorboylaw01_awake.mono _)
      | (with_reducible exact LeO.refl _)
      | (with_reducible exact LeO.none _)
      | (with_reducible refine LeO.ite ?_ ?_)
      | (with_reducible refine LeO.bind ?_ (fun _ => ?_))
      | exact ih0 _ _ _ _ _ _ _
      | exact ih1 _ _ _ _ _ _
      | exact ih2 _ _ _ _ _
      | exact ih3 _ _ _ _ _
      | exact ih4 _ _ _ _ _ _ _ _
      | exact ih5 _ _ _ _ _
      | exact ih6 _ _ _ _ _
      | exact manorboylaw01_awake.mono _
      | exact LeO.none _
      | refine LeO.ite ?_ ?_
      | refine LeO.bind ?_ (fun _ => ?_)
    · intro y0 y1 y2 y3 y4
      unfold manorboylaw01_IntegerOrder.j2
      repeat' first
      | (with_reducible exact ih0 _ _ _ _ _ _ _)
      | (with_reducible exact ih1 _ _ _ _ _ _)
      | (with_reducible exact ih2 _ _ _ _ _)
      | (with_reducible exact ih3 _ _ _ _ _)
      | (with_reducible exact ih4 _ _ _ _ _ _ _ _)
      | (with_reducible exact ih5 _ _ _ _ _)
      | (with_reducible exact ih6 _ _ _ _ _)
      | (with_reducible exact manorboylaw01_awake.mono _)
      | (with_reducible exact LeO.refl _)
      | (with_reducible exact LeO.none _)
      | (with_reducible refine LeO.ite ?_ ?_)
      | (with_reducible refine LeO.bind ?_ (fun _ => ?_))
      | exact ih0 _ _ _ _ _ _ _
      | exact ih1 _ _ _ _ _ _
      | exact ih2 _ _ _ _ _
      | exact ih3 _ _ _ _ _
      | exact ih4 _ _ _ _ _ _ _ _
      | exact ih5 _ _ _ _ _
      | exact ih6 _ _ _ _ _
      | exact manorboylaw01_awake.mono _
      | exact LeO.none _
      | refine LeO.ite ?_ ?_
      | refine LeO.bind ?_ (fun _ => ?_)
    · intro y0 y1 y2 y3 y4
      unfold manorboylaw01_IntegerOrder.j3
      repeat' first
      | (with_reducible exact ih0 _ _ _ _ _ _ _)
      | (with_reducible exact ih1 _ _ _ _ _ _)
      | (with_reducible exact ih2 _ _ _ _ _)
      | (with_reducible exact ih3 _ _ _ _ _)
      | (with_reducible exact ih4 _ _ _ _ _ _ _ _)
      | (with_reducible exact ih5 _ _ _ _ _)
      | (with_reducible exact ih6 _ _ _ _ _)
      | (with_reducible exact manorboylaw01_awake.mono _)
      | (with_reducible exact LeO.refl _)
      | (with_reducible exact LeO.none _)
      | (with_reducible refine LeO.ite ?_ ?_)
      | (with_reducible refine LeO.bind ?_ (fun _ => ?_))
      | exact ih0 _ _ _ _ _ _ _
      | exact ih1 _ _ _ _ _ _
      | exact ih2 _ _ _ _ _
      | exact ih3 _ _ _ _ _
      | exact ih4 _ _ _ _ _ _ _ _
      | exact ih5 _ _ _ _ _
      | exact ih6 _ _ _ _ _
      | exact manorboylaw01_awake.mono _
      | exact LeO.none _
      | refine LeO.ite ?_ ?_
      | refine LeO.bind ?_ (fun _ => ?_)
    · intro y0 y1 y2 y3 y4 y5 y6 y7
      unfold manorboylaw01_IntegerOrder.j4
      repeat' first
      | (with_reducible exact ih0 _ _ _ _ _ _ _)
      | (with_reducible exact ih1 _ _ _ _ _ _)
      | (with_reducible exact ih2 _ _ _ _ _)
      | (with_reducible exact ih3 _ _ _ _ _)
      | (with_reducible exact ih4 _ _ _ _ _ _ _ _)
      | (with_reducible exact ih5 _ _ _ _ _)
      | (with_reducible exact ih6 _ _ _ _ _)
      | (with_reducible exact manorboylaw01_awake.mono _)
      | (with_reducible exact LeO.refl _)
      | (with_reducible exact LeO.none _)
      | (with_reducible refine LeO.ite ?_ ?_)
      | (with_reducible refine LeO.bind ?_ (fun _ => ?_))
      | exact ih0 _ _ _ _ _ _ _
      | exact ih1 _ _ _ _ _ _
      | exact ih2 _ _ _ _ _
      | exact ih3 _ _ _ _ _
      | exact ih4 _ _ _ _ _ _ _ _
      | exact ih5 _ _ _ _ _
      | exact ih6 _ _ _ _ _
      | exact manorboylaw01_awake.mono _
      | exact LeO.none _
      | refine LeO.ite ?_ ?_
      | refine LeO.bind ?_ (fun _ => ?_)
    · intro y0 y1 y2 y3 y4
      unfold manorboylaw01_IntegerOrder.j5
      repeat' first
      | (with_reducible exact ih0 _ _ _ _ _ _ _)
      | (with_reducible exact ih1 _ _ _ _ _ _)
      | (with_reducible exact ih2 _ _ _ _ _)
      | (with_reducible exact ih3 _ _ _ _ _)
      | (with_reducible exact ih4 _ _ _ _ _ _ _ _)
      | (with_reducible exact ih5 _ _ _ _ _)
      | (with_reducible exact ih6 _ _ _ _ _)
      | (with_reducible exact manorboylaw01_awake.mono _)
      | (with_reducible exact LeO.refl _)
      | (with_reducible exact LeO.none _)
      | (with_reducible refine LeO.ite ?_ ?_)
      | (with_reducible refine LeO.bind ?_ (fun _ => ?_))
      | exact ih0 _ _ _ _ _ _ _
      | exact ih1 _ _ _ _ _ _
      | exact ih2 _ _ _ _ _
      | exact ih3 _ _ _ _ _
      | exact ih4 _ _ _ _ _ _ _ _
      | exact ih5 _ _ _ _ _
      | exact ih6 _ _ _ _ _
      | exact manorboylaw01_awake.mono _
      | exact LeO.none _
      | refine LeO.ite ?_ ?_
      | refine LeO.bind ?_ (fun _ => ?_)
    · intro y0 y1 y2 y3 y4
      unfold manorboylaw01_IntegerOrder.j6
      repeat' first
      | (with_reducible exact ih0 _ _ _ _ _ _ _)
      | (with_reducible exact ih1 _ _ _ _ _ _)
      | (with_reducible exact ih2 _ _ _ _ _)
      | (with_reducible exact ih3 _ _ _ _ _)
      | (with_reducible exact ih4 _ _ _ _ _ _ _ _)
      | (with_reducible exact ih5 _ _ _ _ _)
      | (with_reducible exact ih6 _ _ _ _ _)
      | (with_reducible exact manorboylaw01_awake.mono _)
      | (with_reducible exact LeO.refl _)
      | (with_reducible exact LeO.none _)
      | (with_reducible refine LeO.ite ?_ ?_)
      | (with_reducible refine LeO.bind ?_ (fun _ => ?_))
      | exact ih0 _ _ _ _ _ _ _
      | exact ih1 _ _ _ _ _ _
      | exact ih2 _ _ _ _ _
      | exact ih3 _ _ _ _ _
      | exact ih4 _ _ _ _ _ _ _ _
      | exact ih5 _ _ _ _ _
      | exact ih6 _ _ _ _ _
      | exact manorboylaw01_awake.mono _
      | exact LeO.none _
      | refine LeO.ite ?_ ?_
      | refine LeO.bind ?_ (fun _ => ?_)
theorem manorboylaw01_IntegerOrder.mono : ∀ a0 a1 a2 k, LeO (manorboylaw01_IntegerOrder.f k a0 a1 a2) (manorboylaw01_IntegerOrder.f (k + 1) a0 a1 a2) := by
  intro a0 a1 a2 k
  obtain ⟨ih0, ih1, ih2, ih3, ih4, ih5, ih6⟩ := manorboylaw01_IntegerOrder.mono_l k
  unfold manorboylaw01_IntegerOrder.f
  repeat' first
      | (with_reducible exact ih0 _ _ _ _ _ _ _)
      | (with_reducible exact ih1 _ _ _ _ _ _)
      | (with_reducible exact ih2 _ _ _ _ _)
      | (with_reducible exact ih3 _ _ _ _ _)
      | (with_reducible exact ih4 _ _ _ _ _ _ _ _)
      | (with_reducible exact ih5 _ _ _ _ _)
      | (with_reducible exact ih6 _ _ _ _ _)
      | (with_reducible exact manorboylaw01_awake.mono _)
      | (with_reducible exact LeO.refl _)
      | (with_reducible exact LeO.none _)
      | (with_reducible refine LeO.ite ?_ ?_)
      | (with_reducible refine LeO.bind ?_ (fun _ => ?_))
      | exact ih0 _ _ _ _ _ _ _
      | exact ih1 _ _ _ _ _ _
      | exact ih2 _ _ _ _ _
      | exact ih3 _ _ _ _ _
      | exact ih4 _ _ _ _ _ _ _ _
      | exact ih5 _ _ _ _ _
      | exact ih6 _ _ _ _ _
      | exact manorboylaw01_awake.mono _
      | exact LeO.none _
      | refine LeO.ite ?_ ?_
      | refine LeO.bind ?_ (fun _ => ?_)
set_option maxHeartbeats 8000000 in
set_option maxRecDepth 100000 in
theorem manorboylaw01_IntegerOrder.calls (k : Nat) (a0 : Int) (a1 : Int) (a2 : Int) (r : Bool) (w : World) (h : manorboylaw01_IntegerOrder.f k a0 a1 a2 = some r) :
    Calls Try.prog 6 #[.int .i64 a0, .int .i64 a1, .int .i64 a2] w fun e w' => e = .returned (.bool r) ∧ Below w.heap.size w w' := by
  have HB := Aside0.mk (Below.refl w.heap.size w)
  have H : ((manorboylaw01_awake.f k).bind fun t175 => ((integer_Cmp.f a0 a1).bind fun bt176 => ((integer_Cmp.f a1 a0).bind fun bt178 => (if bt176.2 = bt178.2 then (if bt176.2 = 0 then (if bt176.1 = (wrap64 (-bt178.1)) then (if ((bt176.1 == 0) != (a0 == a1)) = true then (manorboylaw01_IntegerOrder.j0 k a0 a1 a2 t175 bt176.1 bt176.2 true) else (if bt176.1 < (-1) then (manorboylaw01_IntegerOrder.j0 k a0 a1 a2 t175 bt176.1 bt176.2 true) else (manorboylaw01_IntegerOrder.j0 k a0 a1 a2 t175 bt176.1 bt176.2 (decide (bt176.1 > 1))))) else (manorboylaw01_IntegerOrder.j0 k a0 a1 a2 t175 bt176.1 bt176.2 true)) else (manorboylaw01_IntegerOrder.j0 k a0 a1 a2 t175 bt176.1 bt176.2 false)) else (manorboylaw01_IntegerOrder.j0 k a0 a1 a2 t175 bt176.1 bt176.2 true))))) = some r := h
  clear h
  replace H := Option.bind_eq_some_iff.mp H
  obtain ⟨t175, A40, H⟩ := H
  replace H : ((integer_Cmp.f a0 a1).bind fun bt176 => ((integer_Cmp.f a1 a0).bind fun bt178 => (if bt176.2 = bt178.2 then (if bt176.2 = 0 then (if bt176.1 = (wrap64 (-bt178.1)) then (if ((bt176.1 == 0) != (a0 == a1)) = true then (manorboylaw01_IntegerOrder.j0 k a0 a1 a2 t175 bt176.1 bt176.2 true) else (if bt176.1 < (-1) then (manorboylaw01_IntegerOrder.j0 k a0 a1 a2 t175 bt176.1 bt176.2 true) else (manorboylaw01_IntegerOrder.j0 k a0 a1 a2 t175 bt176.1 bt176.2 (decide (bt176.1 > 1))))) else (manorboylaw01_IntegerOrder.j0 k a0 a1 a2 t175 bt176.1 bt176.2 true)) else (manorboylaw01_IntegerOrder.j0 k a0 a1 a2 t175 bt176.1 bt176.2 false)) else (manorboylaw01_IntegerOrder.j0 k a0 a1 a2 t175 bt176.1 bt176.2 true)))) = some r := H
  have A4 := Aside0.mk A40
  clear A40
  replace H := Option.bind_eq_some_iff.mp H
  obtain ⟨⟨t176, t177⟩, A50, H⟩ := H
  replace H : ((integer_Cmp.f a1 a0).bind fun bt178 => (if t177 = bt178.2 then (if t177 = 0 then (if t176 = (wrap64 (-bt178.1)) then (if ((t176 == 0) != (a0 == a1)) = true then (manorboylaw01_IntegerOrder.j0 k a0 a1 a2 t175 t176 t177 true) else (if t176 < (-1) then (manorboylaw01_IntegerOrder.j0 k a0 a1 a2 t175 t176 t177 true) else (manorboylaw01_IntegerOrder.j0 k a0 a1 a2 t175 t176 t177 (decide (t176 > 1))))) else (manorboylaw01_IntegerOrder.j0 k a0 a1 a2 t175 t176 t177 true)) else (manorboylaw01_IntegerOrder.j0 k a0 a1 a2 t175 t176 t177 false)) else (manorboylaw01_IntegerOrder.j0 k a0 a1 a2 t175 t176 t177 true))) = some r := H
  have A5 := Aside0.mk A50
  clear A50
  replace H := Option.bind_eq_some_iff.mp H
  obtain ⟨⟨t178, t179⟩, A60, H⟩ := H
  replace H : (if t177 = t179 then (if t177 = 0 then (if t176 = (wrap64 (-t178)) then (if ((t176 == 0) != (a0 == a1)) = true then (manorboylaw01_IntegerOrder.j0 k a0 a1 a2 t175 t176 t177 true) else (if t176 < (-1) then (manorboylaw01_IntegerOrder.j0 k a0 a1 a2 t175 t176 t177 true) else (manorboylaw01_IntegerOrder.j0 k a0 a1 a2 t175 t176 t177 (decide (t176 > 1))))) else (manorboylaw01_IntegerOrder.j0 k a0 a1 a2 t175 t176 t177 true)) else (manorboylaw01_IntegerOrder.j0 k a0 a1 a2 t175 t176 t177 false)) else (manorboylaw01_IntegerOrder.j0 k a0 a1 a2 t175 t176 t177 true)) = some r := H
  have A6 := Aside0.mk A60
  clear A60
  have HC7 := Aside0.mk H
  clear H
  go_enter Try.func6, Try.ntmps6
  go_upto_region 4 with (first | ((with_reducible refine gate_callee (f := 18) rfl ?_); refine goesL_ (some 25) rfl rfl Try.func18 (by kernel_rfl) rfl #[] rfl (by (try simp only [List.map_toArray, List.map_cons, List.map_nil]); first | done | rfl | (simp only [List.length_drop, List.length_take]; rfl)) ?_; (with_reducible refine (manorboylaw01_awake.calls k  t175 _ A4.out).mono ?_); rintro e w8 ⟨rfl, hb⟩; refine ⟨_, rfl, ?_⟩; have n0_ := Aside0.mk (below_step (by repeat (first | (with_reducible first | exact HB.out | apply below_alloc | apply pw_below_drewN | apply below_drew1) | exact HB.out)) hb); clear HB; have HB := n0_; clear n0_; (try clear hb); (try clear hb2); (try clear hk); (try clear hi)) | ((with_reducible refine gate_callee (f := 29) rfl ?_); refine goesL_ (some 29) rfl rfl Try.func29 (by kernel_rfl) rfl #[.int .i64 a0, .int .i64 a1] rfl (by (try simp only [List.map_toArray, List.map_cons, List.map_nil]); first | done | rfl | (simp only [List.length_drop, List.length_take]; rfl)) ?_; (with_reducible refine (integer_Cmp.calls a0 a1 t176 t177 _ A5.out).mono ?_); rintro e w9 ⟨rfl, hb⟩; refine ⟨_, rfl, ?_⟩; have n0_ := Aside0.mk (below_step (by repeat (first | (with_reducible first | exact HB.out | apply below_alloc | apply pw_below_drewN | apply below_drew1) | exact HB.out)) hb); clear HB; have HB := n0_; clear n0_; (try clear hb); (try clear hb2); (try clear hk); (try clear hi)) | ((with_reducible refine gate_callee (f := 29) rfl ?_); refine goesL_ (some 35) rfl rfl Try.func29 (by kernel_rfl) rfl #[.int .i64 a1, .int .i64 a0] rfl (by (try simp only [List.map_toArray, List.map_cons, List.map_nil]); first | done | rfl | (simp only [List.length_drop, List.length_take]; rfl)) ?_; (with_reducible refine (integer_Cmp.calls a1 a0 t178 t179 _ A6.out).mono ?_); rintro e w10 ⟨rfl, hb⟩; refine ⟨_, rfl, ?_⟩; have n0_ := Aside0.mk (below_step (by repeat (first | (with_reducible first | exact HB.out | apply below_alloc | apply pw_below_drewN | apply below_drew1) | exact HB.out)) hb); clear HB; have HB := n0_; clear n0_; (try clear hb); (try clear hb2); (try clear hk); (try clear hi)))
  (try simp only [Act.put, List.setIfInBounds_toArray, List.set_cons_zero, List.set_cons_succ])
  go_cut [66] (fun v66 wc => ∃ (kq : Nat) (x66_6 : Bool), v66 = .bool x66_6 ∧ Aside0 (manorboylaw01_IntegerOrder.j0 kq a0 a1 a2 t175 t176 t177 x66_6 = some r) ∧ Aside0 (kq ≤ k) ∧ Aside0 (Below w.heap.size w wc))
  case first => as_aux_lemma =>
    have H := HC7.out
    clear HC7
    by_cases c11 : t177 = t179
    · rw [if_pos c11] at H
      have c11b0 : (t177 == t179) = true := beq_iff_eq.mpr c11
      have c11b1 : (t177 != t179) = false := bne_eq_false_iff_eq.mpr c11
      clear c11
      (first | rw [c11b0] | (simp only [i64_w, i32_w]; rw [c11b0]) | skip)
      by_cases c12 : t177 = 0
      · rw [if_pos c12] at H
        have c12b0 : (t177 == 0) = true := beq_iff_eq.mpr c12
        have c12b1 : (t177 != 0) = false := bne_eq_false_iff_eq.mpr c12
        clear c12
        by_cases c13 : t176 = (wrap64 (-t178))
        · rw [if_pos c13] at H
          have c13b0 : (t176 == (wrap64 (-t178))) = true := beq_iff_eq.mpr c13
          have c13b1 : (t176 != (wrap64 (-t178))) = false := bne_eq_false_iff_eq.mpr c13
          clear c13
          by_cases c14 : ((t176 == 0) != (a0 == a1)) = true
          · rw [if_pos c14] at H
            have c14b0 : ((t176 == 0) != (a0 == a1)) = true := c14
            (try (have c14b1 : decide ((t176 == 0) = (a0 == a1)) = false := by simpa using c14))
            (try (have c14b2 : ((t176 == 0) == (a0 == a1)) = false := by simpa using c14))
            (try (have c14b3 : ¬ ((t176 == 0) = (a0 == a1)) := by simpa using c14))
            clear c14
            have H' := Aside0.mk H
            clear H
            go_wp2
            go_meet
            case rel => exact ⟨_, (true), (by first | rfl | (simp; done) | (simp [*]; done)), H', ⟨by first | omega | exact Nat.le_refl _⟩, ⟨by repeat (first | (with_reducible first | exact HB.out | apply below_alloc | apply pw_below_drewN | apply below_drew1) | exact HB.out)⟩⟩
          · rw [if_neg c14] at H
            have c14b0 : ((t176 == 0) != (a0 == a1)) = false := by simpa using c14
            (try (have c14b1 : decide ((t176 == 0) = (a0 == a1)) = true := by simpa using c14))
            (try (have c14b2 : ((t176 == 0) == (a0 == a1)) = true := by simpa using c14))
            clear c14
            by_cases c15 : t176 < (-1)
            · rw [if_pos c15] at H
              have c15b0 : decide (t176 < (-1)) = true := decide_eq_true c15
              clear c15
              have H' := Aside0.mk H
              clear H
              go_wp2
              go_meet
              case rel => exact ⟨_, (true), (by first | rfl | (simp; done) | (simp [*]; done)), H', ⟨by first | omega | exact Nat.le_refl _⟩, ⟨by repeat (first | (with_reducible first | exact HB.out | apply below_alloc | apply pw_below_drewN | apply below_drew1) | exact HB.out)⟩⟩
            · rw [if_neg c15] at H
              have c15b0 : decide (t176 < (-1)) = false := decide_eq_false c15
              clear c15
              have H' := Aside0.mk H
              clear H
              go_wp2
              go_meet
              case rel => exact ⟨_, (decide (t176 > 1)), (by first | rfl | (simp; done) | (simp [*]; done)), H', ⟨by first | omega | exact Nat.le_refl _⟩, ⟨by repeat (first | (with_reducible first | exact HB.out | apply below_alloc | apply pw_below_drewN | apply below_drew1) | exact HB.out)⟩⟩
        · rw [if_neg c13] at H
          have c13b0 : (t176 == (wrap64 (-t178))) = false := beq_eq_false_iff_ne.mpr c13
          have c13b1 : (t176 != (wrap64 (-t178))) = true := bne_iff_ne.mpr c13
          have H' := Aside0.mk H
          clear H
          go_wp2
          go_meet
          case rel => exact ⟨_, (true), (by first | rfl | (simp; done) | (simp [*]; done)), H', ⟨by first | omega | exact Nat.le_refl _⟩, ⟨by repeat (first | (with_reducible first | exact HB.out | apply below_alloc | apply pw_below_drewN | apply below_drew1) | exact HB.out)⟩⟩
      · rw [if_neg c12] at H
        have c12b0 : (t177 == 0) = false := beq_eq_false_iff_ne.mpr c12
        have c12b1 : (t177 != 0) = true := bne_iff_ne.mpr c12
        have H' := Aside0.mk H
        clear H
        go_wp2
        go_meet
        case rel => exact ⟨_, (false), (by first | rfl | (simp; done) | (simp [*]; done)), H', ⟨by first | omega | exact Nat.le_refl _⟩, ⟨by repeat (first | (with_reducible first | exact HB.out | apply below_alloc | apply pw_below_drewN | apply below_drew1) | exact HB.out)⟩⟩
    · rw [if_neg c11] at H
      have c11b0 : (t177 == t179) = false := beq_eq_false_iff_ne.mpr c11
      have c11b1 : (t177 != t179) = true := bne_iff_ne.mpr c11
      (first | rw [c11b0] | (simp only [i64_w, i32_w]; rw [c11b0]) | skip)
      have H' := Aside0.mk H
      clear H
      go_wp2
      go_meet
      case rel => exact ⟨_, (true), (by first | rfl | (simp; done) | (simp [*]; done)), H', ⟨by first | omega | exact Nat.le_refl _⟩, ⟨by repeat (first | (with_reducible first | exact HB.out | apply below_alloc | apply pw_below_drewN | apply below_drew1) | exact HB.out)⟩⟩
  case rest => as_aux_lemma =>
    clear HC7
    try clear c1
    try clear c2
    try clear p2
    try clear c6
    try clear p6
    try clear c11
    try clear c11b0
    try clear c11b1
    try clear c12
    try clear c12b0
    try clear c12b1
    try clear c13
    try clear c13b0
    try clear c13b1
    try clear c14
    try clear c14b0
    try clear c14b1
    try clear c14b2
    try clear c15
    try clear c15b0
    obtain ⟨kq, x66_6, rfl, HA, HJ6, HB⟩ := hcut
    cases kq with
    | zero => exact absurd HA.out (by simp [manorboylaw01_IntegerOrder.j0])
    | succ kj6 =>
      have H := HA.out
      clear HA
      simp only [manorboylaw01_IntegerOrder.j0] at H
      by_cases c16 : x66_6 = true
      · subst c16
        have H1 : (some false) = some r := by rw [if_pos rfl] at H; exact H
        clear H
        have H := H1
        clear H1
        obtain rfl := Option.some.inj H
        go_wp2
        go_ret
        exact ⟨by first | rfl | (simp [errW_none, errW_some] <;> rfl) | (simp [*, errW_none, errW_some] <;> rfl), by repeat (first | (with_reducible first | exact HB.out | apply below_alloc | apply pw_below_drewN | apply below_drew1) | exact HB.out)⟩
      · replace c16 := Bool.eq_false_iff.mpr c16
        subst c16
        have H1 : (if t177 = 0 then ((integer_Cmp.f a1 a2).bind fun bt182 => (if bt182.2 = 0 then (manorboylaw01_IntegerOrder.j1 kj6 a0 a1 a2 t175 t176 (t176 == bt182.1)) else (manorboylaw01_IntegerOrder.j1 kj6 a0 a1 a2 t175 t176 false))) else (if t175 = true then ((integer_Valid.f a0).bind fun t180 => (if t180 = true then ((integer_Valid.f a1).bind fun t181 => (some (!t181))) else (some true))) else (some false))) = some r := by rw [if_neg (show ¬ (false = true) by decide)] at H; exact H
        clear H
        have H := H1
        clear H1
        by_cases c17 : t177 = 0
        · rw [if_pos c17] at H
          have c17b0 : (t177 == 0) = true := beq_iff_eq.mpr c17
          have c17b1 : (t177 != 0) = false := bne_eq_false_iff_eq.mpr c17
          clear c17
          replace H := Option.bind_eq_some_iff.mp H
          obtain ⟨⟨t182, t183⟩, A180, H⟩ := H
          replace H : (if t183 = 0 then (manorboylaw01_IntegerOrder.j1 kj6 a0 a1 a2 t175 t176 (t176 == t182)) else (manorboylaw01_IntegerOrder.j1 kj6 a0 a1 a2 t175 t176 false)) = some r := H
          have A18 := Aside0.mk A180
          clear A180
          have HC19 := Aside0.mk H
          clear H
          go_upto_region 9 with (first | ((with_reducible refine gate_callee (f := 29) rfl ?_); refine goesL_ (some 83) rfl rfl Try.func29 (by kernel_rfl) rfl #[.int .i64 a1, .int .i64 a2] rfl (by (try simp only [List.map_toArray, List.map_cons, List.map_nil]); first | done | rfl | (simp only [List.length_drop, List.length_take]; rfl)) ?_; (with_reducible refine (integer_Cmp.calls a1 a2 t182 t183 _ A18.out).mono ?_); rintro e w20 ⟨rfl, hb⟩; refine ⟨_, rfl, ?_⟩; have n0_ := Aside0.mk (below_step (by repeat (first | (with_reducible first | exact HB.out | apply below_alloc | apply pw_below_drewN | apply below_drew1) | exact HB.out)) hb); clear HB; have HB := n0_; clear n0_; (try clear hb); (try clear hb2); (try clear hk); (try clear hi)))
          (try simp only [Act.put, List.setIfInBounds_toArray, List.set_cons_zero, List.set_cons_succ])
          go_cut [92] (fun v92 wc => ∃ (kq : Nat) (x92_18 : Bool), v92 = .bool x92_18 ∧ Aside0 (manorboylaw01_IntegerOrder.j1 kq a0 a1 a2 t175 t176 x92_18 = some r) ∧ Aside0 (kq ≤ kj6) ∧ Aside0 (Below w.heap.size w wc))
          case first => as_aux_lemma =>
            have H := HC19.out
            clear HC19
            by_cases c21 : t183 = 0
            · rw [if_pos c21] at H
              have c21b0 : (t183 == 0) = true := beq_iff_eq.mpr c21
              have c21b1 : (t183 != 0) = false := bne_eq_false_iff_eq.mpr c21
              clear c21
              (first | rw [c21b0] | (simp only [i64_w, i32_w]; rw [c21b0]) | skip)
              have H' := Aside0.mk H
              clear H
              go_wp2
              go_meet
              case rel => exact ⟨_, ((t176 == t182)), (by first | rfl | (simp; done) | (simp [*]; done)), H', ⟨by have := HJ6.out; first | omega | exact Nat.le_refl _⟩, ⟨by repeat (first | (with_reducible first | exact HB.out | apply below_alloc | apply pw_below_drewN | apply below_drew1) | exact HB.out)⟩⟩
            · rw [if_neg c21] at H
              have c21b0 : (t183 == 0) = false := beq_eq_false_iff_ne.mpr c21
              have c21b1 : (t183 != 0) = true := bne_iff_ne.mpr c21
              (first | rw [c21b0] | (simp only [i64_w, i32_w]; rw [c21b0]) | skip)
              have H' := Aside0.mk H
              clear H
              go_wp2
              go_meet
              case rel => exact ⟨_, (false), (by first | rfl | (simp; done) | (simp [*]; done)), H', ⟨by have := HJ6.out; first | omega | exact Nat.le_refl _⟩, ⟨by repeat (first | (with_reducible first | exact HB.out | apply below_alloc | apply pw_below_drewN | apply below_drew1) | exact HB.out)⟩⟩
          case rest => as_aux_lemma =>
            clear HC19
            try clear c1
            try clear c2
            try clear p2
            try clear c6
            try clear p6
            try clear c11
            try clear c11b0
            try clear c11b1
            try clear c12
            try clear c12b0
            try clear c12b1
            try clear c13
            try clear c13b0
            try clear c13b1
            try clear c14
            try clear c14b0
            try clear c14b1
            try clear c14b2
            try clear c15
            try clear c15b0
            try clear c16
            try clear c17
            try clear c17b0
            try clear c17b1
            try clear c18
            try clear c21
            try clear c21b0
            try clear c21b1
            try clear p2
            try clear p6
            obtain ⟨kq, x92_18, rfl, HA, HJ18, HB⟩ := hcut
            cases kq with
            | zero => exact absurd HA.out (by simp [manorboylaw01_IntegerOrder.j1])
            | succ kj18 =>
              have H := HA.out
              clear HA
              simp only [manorboylaw01_IntegerOrder.j1] at H
              have HC22 := Aside0.mk H
              clear H
              go_upto_if 92 with (fail)
              go_cut [] (fun wc => ∃ (kq : Nat), Aside0 (manorboylaw01_IntegerOrder.j2 kq a0 a1 a2 t175 t176 = some r) ∧ Aside0 (kq ≤ kj18) ∧ Aside0 (Below w.heap.size w wc))
              case first => as_aux_lemma =>
                have H := HC22.out
                clear HC22
                by_cases c23 : x92_18 = true
                · subst c23
                  have H1 : ((integer_Cmp.f a0 a2).bind fun bt184 => (if bt184.2 = 0 then (if bt184.1 = t176 then (manorboylaw01_IntegerOrder.j2 kj18 a0 a1 a2 t175 t176) else (some false)) else (some false))) = some r := by rw [if_pos rfl] at H; exact H
                  clear H
                  have H := H1
                  clear H1
                  replace H := Option.bind_eq_some_iff.mp H
                  obtain ⟨⟨t184, t185⟩, A240, H⟩ := H
                  replace H : (if t185 = 0 then (if t184 = t176 then (manorboylaw01_IntegerOrder.j2 kj18 a0 a1 a2 t175 t176) else (some false)) else (some false)) = some r := H
                  have A24 := Aside0.mk A240
                  clear A240
                  by_cases c25 : t185 = 0
                  · rw [if_pos c25] at H
                    have c25b0 : (t185 == 0) = true := beq_iff_eq.mpr c25
                    have c25b1 : (t185 != 0) = false := bne_eq_false_iff_eq.mpr c25
                    clear c25
                    (first | rw [c25b0] | (simp only [i64_w, i32_w]; rw [c25b0]) | skip)
                    by_cases c26 : t184 = t176
                    · rw [if_pos c26] at H
                      have c26b0 : (t184 == t176) = true := beq_iff_eq.mpr c26
                      have c26b1 : (t184 != t176) = false := bne_eq_false_iff_eq.mpr c26
                      clear c26
                      have H' := Aside0.mk H
                      clear H
                      go_wp2_with (first | ((with_reducible refine gate_callee (f := 29) rfl ?_); refine goesL_ (some 96) rfl rfl Try.func29 (by kernel_rfl) rfl #[.int .i64 a0, .int .i64 a2] rfl (by (try simp only [List.map_toArray, List.map_cons, List.map_nil]); first | done | rfl | (simp only [List.length_drop, List.length_take]; rfl)) ?_; (with_reducible refine (integer_Cmp.calls a0 a2 t184 t185 _ A24.out).mono ?_); rintro e w27 ⟨rfl, hb⟩; refine ⟨_, rfl, ?_⟩; have n0_ := Aside0.mk (below_step (by repeat (first | (with_reducible first | exact HB.out | apply below_alloc | apply pw_below_drewN | apply below_drew1) | exact HB.out)) hb); clear HB; have HB := n0_; clear n0_; (try clear hb); (try clear hb2); (try clear hk); (try clear hi)))
                      go_meet
                      case rel => exact ⟨_, H', ⟨by have := HJ6.out; have := HJ18.out; first | omega | exact Nat.le_refl _⟩, ⟨by repeat (first | (with_reducible first | exact HB.out | apply below_alloc | apply pw_below_drewN | apply below_drew1) | exact HB.out)⟩⟩
                    · rw [if_neg c26] at H
                      have c26b0 : (t184 == t176) = false := beq_eq_false_iff_ne.mpr c26
                      have c26b1 : (t184 != t176) = true := bne_iff_ne.mpr c26
                      obtain rfl := Option.some.inj H
                      go_wp2_with (first | ((with_reducible refine gate_callee (f := 29) rfl ?_); refine goesL_ (some 96) rfl rfl Try.func29 (by kernel_rfl) rfl #[.int .i64 a0, .int .i64 a2] rfl (by (try simp only [List.map_toArray, List.map_cons, List.map_nil]); first | done | rfl | (simp only [List.length_drop, List.length_take]; rfl)) ?_; (with_reducible refine (integer_Cmp.calls a0 a2 t184 t185 _ A24.out).mono ?_); rintro e w28 ⟨rfl, hb⟩; refine ⟨_, rfl, ?_⟩; have n0_ := Aside0.mk (below_step (by repeat (first | (with_reducible first | exact HB.out | apply below_alloc | apply pw_below_drewN | apply below_drew1) | exact HB.out)) hb); clear HB; have HB := n0_; clear n0_; (try clear hb); (try clear hb2); (try clear hk); (try clear hi)))
                      go_ret
                      exact ⟨by first | rfl | (simp [errW_none, errW_some] <;> rfl) | (simp [*, errW_none, errW_some] <;> rfl), by repeat (first | (with_reducible first | exact HB.out | apply below_alloc | apply pw_below_drewN | apply below_drew1) | exact HB.out)⟩
                  · rw [if_neg c25] at H
                    have c25b0 : (t185 == 0) = false := beq_eq_false_iff_ne.mpr c25
                    have c25b1 : (t185 != 0) = true := bne_iff_ne.mpr c25
                    (first | rw [c25b0] | (simp only [i64_w, i32_w]; rw [c25b0]) | skip)
                    obtain rfl := Option.some.inj H
                    go_wp2_with (first | ((with_reducible refine gate_callee (f := 29) rfl ?_); refine goesL_ (some 96) rfl rfl Try.func29 (by kernel_rfl) rfl #[.int .i64 a0, .int .i64 a2] rfl (by (try simp only [List.map_toArray, List.map_cons, List.map_nil]); first | done | rfl | (simp only [List.length_drop, List.length_take]; rfl)) ?_; (with_reducible refine (integer_Cmp.calls a0 a2 t184 t185 _ A24.out).mono ?_); rintro e w29 ⟨rfl, hb⟩; refine ⟨_, rfl, ?_⟩; have n0_ := Aside0.mk (below_step (by repeat (first | (with_reducible first | exact HB.out | apply below_alloc | apply pw_below_drewN | apply below_drew1) | exact HB.out)) hb); clear HB; have HB := n0_; clear n0_; (try clear hb); (try clear hb2); (try clear hk); (try clear hi)))
                    go_ret
                    exact ⟨by first | rfl | (simp [errW_none, errW_some] <;> rfl) | (simp [*, errW_none, errW_some] <;> rfl), by repeat (first | (with_reducible first | exact HB.out | apply below_alloc | apply pw_below_drewN | apply below_drew1) | exact HB.out)⟩
                · replace c23 := Bool.eq_false_iff.mpr c23
                  subst c23
                  have H1 : (manorboylaw01_IntegerOrder.j2 kj18 a0 a1 a2 t175 t176) = some r := by rw [if_neg (show ¬ (false = true) by decide)] at H; exact H
                  clear H
                  have H := H1
                  clear H1
                  have H' := Aside0.mk H
                  clear H
                  go_wp2
                  go_meet
                  case rel => exact ⟨_, H', ⟨by have := HJ6.out; have := HJ18.out; first | omega | exact Nat.le_refl _⟩, ⟨by repeat (first | (with_reducible first | exact HB.out | apply below_alloc | apply pw_below_drewN | apply below_drew1) | exact HB.out)⟩⟩
              case rest => as_aux_lemma =>
                clear HC22
                try clear c1
                try clear c2
                try clear p2
                try clear c6
                try clear p6
                try clear c11
                try clear c11b0
                try clear c11b1
                try clear c12
                try clear c12b0
                try clear c12b1
                try clear c13
                try clear c13b0
                try clear c13b1
                try clear c14
                try clear c14b0
                try clear c14b1
                try clear c14b2
                try clear c15
                try clear c15b0
                try clear c16
                try clear c17
                try clear c17b0
                try clear c17b1
                try clear c18
                try clear c21
                try clear c21b0
                try clear c21b1
                try clear c23
                try clear c25
                try clear c25b0
                try clear c25b1
                try clear c26
                try clear c26b0
                try clear c26b1
                try clear c29
                try clear p2
                try clear p6
                obtain ⟨kq, HA, HJ21, HB⟩ := hcut
                cases kq with
                | zero => exact absurd HA.out (by simp [manorboylaw01_IntegerOrder.j2])
                | succ kj21 =>
                  have H := HA.out
                  clear HA
                  simp only [manorboylaw01_IntegerOrder.j2] at H
                  replace H := Option.bind_eq_some_iff.mp H
                  obtain ⟨⟨t186, t187⟩, A300, H⟩ := H
                  replace H : (if t187 = 0 then ((integer_Sign.f t186).bind fun bt188 => (if bt188.2 = 0 then (if bt188.1 = t176 then (manorboylaw01_IntegerOrder.j3 kj21 a0 a1 a2 t175 t176) else (some false)) else (some false))) else (manorboylaw01_IntegerOrder.j3 kj21 a0 a1 a2 t175 t176)) = some r := H
                  have A30 := Aside0.mk A300
                  clear A300
                  have HC31 := Aside0.mk H
                  clear H
                  go_upto_if 113 with (first | ((with_reducible refine gate_callee (f := 21) rfl ?_); refine goesL_ (some 109) rfl rfl Try.func21 (by kernel_rfl) rfl #[.int .i64 a0, .int .i64 a1] rfl (by (try simp only [List.map_toArray, List.map_cons, List.map_nil]); first | done | rfl | (simp only [List.length_drop, List.length_take]; rfl)) ?_; (with_reducible refine (integer_Sub.calls a0 a1 t186 t187 _ A30.out).mono ?_); rintro e w32 ⟨rfl, hb⟩; refine ⟨_, rfl, ?_⟩; have n0_ := Aside0.mk (below_step (by repeat (first | (with_reducible first | exact HB.out | apply below_alloc | apply pw_below_drewN | apply below_drew1) | exact HB.out)) hb); clear HB; have HB := n0_; clear n0_; (try clear hb); (try clear hb2); (try clear hk); (try clear hi)))
                  (try simp only [Act.put, List.setIfInBounds_toArray, List.set_cons_zero, List.set_cons_succ])
                  go_cut [] (fun wc => ∃ (kq : Nat), Aside0 (manorboylaw01_IntegerOrder.j3 kq a0 a1 a2 t175 t176 = some r) ∧ Aside0 (kq ≤ kj21) ∧ Aside0 (Below w.heap.size w wc))
                  case first => as_aux_lemma =>
                    have H := HC31.out
                    clear HC31
                    by_cases c33 : t187 = 0
                    · rw [if_pos c33] at H
                      have c33b0 : (t187 == 0) = true := beq_iff_eq.mpr c33
                      have c33b1 : (t187 != 0) = false := bne_eq_false_iff_eq.mpr c33
                      clear c33
                      (first | rw [c33b0] | (simp only [i64_w, i32_w]; rw [c33b0]) | skip)
                      replace H := Option.bind_eq_some_iff.mp H
                      obtain ⟨⟨t188, t189⟩, A340, H⟩ := H
                      replace H : (if t189 = 0 then (if t188 = t176 then (manorboylaw01_IntegerOrder.j3 kj21 a0 a1 a2 t175 t176) else (some false)) else (some false)) = some r := H
                      have A34 := Aside0.mk A340
                      clear A340
                      by_cases c35 : t189 = 0
                      · rw [if_pos c35] at H
                        have c35b0 : (t189 == 0) = true := beq_iff_eq.mpr c35
                        have c35b1 : (t189 != 0) = false := bne_eq_false_iff_eq.mpr c35
                        clear c35
                        by_cases c36 : t188 = t176
                        · rw [if_pos c36] at H
                          have c36b0 : (t188 == t176) = true := beq_iff_eq.mpr c36
                          have c36b1 : (t188 != t176) = false := bne_eq_false_iff_eq.mpr c36
                          clear c36
                          have H' := Aside0.mk H
                          clear H
                          go_wp2_with (first | ((with_reducible refine gate_callee (f := 30) rfl ?_); refine goesL_ (some 116) rfl rfl Try.func30 (by kernel_rfl) rfl #[.int .i64 t186] rfl (by (try simp only [List.map_toArray, List.map_cons, List.map_nil]); first | done | rfl | (simp only [List.length_drop, List.length_take]; rfl)) ?_; (with_reducible refine (integer_Sign.calls t186 t188 t189 _ A34.out).mono ?_); rintro e w' ⟨rfl, ⟨nd, rfl⟩⟩; refine ⟨_, rfl, ?_⟩))
                          go_meet
                          case rel => exact ⟨_, H', ⟨by have := HJ6.out; have := HJ18.out; have := HJ21.out; first | omega | exact Nat.le_refl _⟩, ⟨by repeat (first | (with_reducible first | exact HB.out | apply below_alloc | apply pw_below_drewN | apply below_drew1) | exact HB.out)⟩⟩
                        · rw [if_neg c36] at H
                          have c36b0 : (t188 == t176) = false := beq_eq_false_iff_ne.mpr c36
                          have c36b1 : (t188 != t176) = true := bne_iff_ne.mpr c36
                          obtain rfl := Option.some.inj H
                          go_wp2_with (first | ((with_reducible refine gate_callee (f := 30) rfl ?_); refine goesL_ (some 116) rfl rfl Try.func30 (by kernel_rfl) rfl #[.int .i64 t186] rfl (by (try simp only [List.map_toArray, List.map_cons, List.map_nil]); first | done | rfl | (simp only [List.length_drop, List.length_take]; rfl)) ?_; (with_reducible refine (integer_Sign.calls t186 t188 t189 _ A34.out).mono ?_); rintro e w' ⟨rfl, ⟨nd, rfl⟩⟩; refine ⟨_, rfl, ?_⟩))
                          go_ret
                          exact ⟨by first | rfl | (simp [errW_none, errW_some] <;> rfl) | (simp [*, errW_none, errW_some] <;> rfl), by repeat (first | (with_reducible first | exact HB.out | apply below_alloc | apply pw_below_drewN | apply below_drew1) | exact HB.out)⟩
                      · rw [if_neg c35] at H
                        have c35b0 : (t189 == 0) = false := beq_eq_false_iff_ne.mpr c35
                        have c35b1 : (t189 != 0) = true := bne_iff_ne.mpr c35
                        obtain rfl := Option.some.inj H
                        go_wp2_with (first | ((with_reducible refine gate_callee (f := 30) rfl ?_); refine goesL_ (some 116) rfl rfl Try.func30 (by kernel_rfl) rfl #[.int .i64 t186] rfl (by (try simp only [List.map_toArray, List.map_cons, List.map_nil]); first | done | rfl | (simp only [List.length_drop, List.length_take]; rfl)) ?_; (with_reducible refine (integer_Sign.calls t186 t188 t189 _ A34.out).mono ?_); rintro e w' ⟨rfl, ⟨nd, rfl⟩⟩; refine ⟨_, rfl, ?_⟩))
                        go_ret
                        exact ⟨by first | rfl | (simp [errW_none, errW_some] <;> rfl) | (simp [*, errW_none, errW_some] <;> rfl), by repeat (first | (with_reducible first | exact HB.out | apply below_alloc | apply pw_below_drewN | apply below_drew1) | exact HB.out)⟩
                    · rw [if_neg c33] at H
                      have c33b0 : (t187 == 0) = false := beq_eq_false_iff_ne.mpr c33
                      have c33b1 : (t187 != 0) = true := bne_iff_ne.mpr c33
                      (first | rw [c33b0] | (simp only [i64_w, i32_w]; rw [c33b0]) | skip)
                      have H' := Aside0.mk H
                      clear H
                      go_wp2
                      go_meet
                      case rel => exact ⟨_, H', ⟨by have := HJ6.out; have := HJ18.out; have := HJ21.out; first | omega | exact Nat.le_refl _⟩, ⟨by repeat (first | (with_reducible first | exact HB.out | apply below_alloc | apply pw_below_drewN | apply below_drew1) | exact HB.out)⟩⟩
                  case rest => as_aux_lemma =>
                    clear HC31
                    try clear c1
                    try clear c2
                    try clear p2
                    try clear c3
                    try clear c6
                    try clear p6
                    try clear c11
                    try clear c11b0
                    try clear c11b1
                    try clear c12
                    try clear c12b0
                    try clear c12b1
                    try clear c13
                    try clear c13b0
                    try clear c13b1
                    try clear c14
                    try clear c14b0
                    try clear c14b1
                    try clear c14b2
                    try clear c15
                    try clear c15b0
                    try clear c16
                    try clear c17
                    try clear c17b0
                    try clear c17b1
                    try clear c18
                    try clear c21
                    try clear c21b0
                    try clear c21b1
                    try clear c23
                    try clear c25
                    try clear c25b0
                    try clear c25b1
                    try clear c26
                    try clear c26b0
                    try clear c26b1
                    try clear c29
                    try clear c30
                    try clear c33
                    try clear c33b0
                    try clear c33b1
                    try clear c35
                    try clear c35b0
                    try clear c35b1
                    try clear c36
                    try clear c36b0
                    try clear c36b1
                    try clear p2
                    try clear p6
                    obtain ⟨kq, HA, HJ30, HB⟩ := hcut
                    cases kq with
                    | zero => exact absurd HA.out (by simp [manorboylaw01_IntegerOrder.j3])
                    | succ kj30 =>
                      have H := HA.out
                      clear HA
                      simp only [manorboylaw01_IntegerOrder.j3] at H
                      replace H := Option.bind_eq_some_iff.mp H
                      obtain ⟨⟨t190, t191⟩, A370, H⟩ := H
                      replace H : ((integer_Add.f a1 a2).bind fun bt192 => (if t191 = 0 then (manorboylaw01_IntegerOrder.j4 kj30 a0 a1 a2 t175 t176 t190 bt192.1 (bt192.2 == 0)) else (manorboylaw01_IntegerOrder.j4 kj30 a0 a1 a2 t175 t176 t190 bt192.1 false))) = some r := H
                      have A37 := Aside0.mk A370
                      clear A370
                      replace H := Option.bind_eq_some_iff.mp H
                      obtain ⟨⟨t192, t193⟩, A380, H⟩ := H
                      replace H : (if t191 = 0 then (manorboylaw01_IntegerOrder.j4 kj30 a0 a1 a2 t175 t176 t190 t192 (t193 == 0)) else (manorboylaw01_IntegerOrder.j4 kj30 a0 a1 a2 t175 t176 t190 t192 false)) = some r := H
                      have A38 := Aside0.mk A380
                      clear A380
                      have HC39 := Aside0.mk H
                      clear H
                      go_upto_region 20 with (first | ((with_reducible refine gate_callee (f := 19) rfl ?_); refine goesL_ (some 129) rfl rfl Try.func19 (by kernel_rfl) rfl #[.int .i64 a0, .int .i64 a2] rfl (by (try simp only [List.map_toArray, List.map_cons, List.map_nil]); first | done | rfl | (simp only [List.length_drop, List.length_take]; rfl)) ?_; (with_reducible refine (integer_Add.calls a0 a2 t190 t191 _ A37.out).mono ?_); rintro e w40 ⟨rfl, hb⟩; refine ⟨_, rfl, ?_⟩; have n0_ := Aside0.mk (below_step (by repeat (first | (with_reducible first | exact HB.out | apply below_alloc | apply pw_below_drewN | apply below_drew1) | exact HB.out)) hb); clear HB; have HB := n0_; clear n0_; (try clear hb); (try clear hb2); (try clear hk); (try clear hi)) | ((with_reducible refine gate_callee (f := 19) rfl ?_); refine goesL_ (some 135) rfl rfl Try.func19 (by kernel_rfl) rfl #[.int .i64 a1, .int .i64 a2] rfl (by (try simp only [List.map_toArray, List.map_cons, List.map_nil]); first | done | rfl | (simp only [List.length_drop, List.length_take]; rfl)) ?_; (with_reducible refine (integer_Add.calls a1 a2 t192 t193 _ A38.out).mono ?_); rintro e w41 ⟨rfl, hb⟩; refine ⟨_, rfl, ?_⟩; have n0_ := Aside0.mk (below_step (by repeat (first | (with_reducible first | exact HB.out | apply below_alloc | apply pw_below_drewN | apply below_drew1) | exact HB.out)) hb); clear HB; have HB := n0_; clear n0_; (try clear hb); (try clear hb2); (try clear hk); (try clear hi)))
                      (try simp only [Act.put, List.setIfInBounds_toArray, List.set_cons_zero, List.set_cons_succ])
                      go_cut [143] (fun v143 wc => ∃ (kq : Nat) (x143_38 : Bool), v143 = .bool x143_38 ∧ Aside0 (manorboylaw01_IntegerOrder.j4 kq a0 a1 a2 t175 t176 t190 t192 x143_38 = some r) ∧ Aside0 (kq ≤ kj30) ∧ Aside0 (Below w.heap.size w wc))
                      case first => as_aux_lemma =>
                        have H := HC39.out
                        clear HC39
                        by_cases c42 : t191 = 0
                        · rw [if_pos c42] at H
                          have c42b0 : (t191 == 0) = true := beq_iff_eq.mpr c42
                          have c42b1 : (t191 != 0) = false := bne_eq_false_iff_eq.mpr c42
                          clear c42
                          (first | rw [c42b0] | (simp only [i64_w, i32_w]; rw [c42b0]) | skip)
                          have H' := Aside0.mk H
                          clear H
                          go_wp2
                          go_meet
                          case rel => exact ⟨_, ((t193 == 0)), (by first | rfl | (simp; done) | (simp [*]; done)), H', ⟨by have := HJ6.out; have := HJ18.out; have := HJ21.out; have := HJ30.out; first | omega | exact Nat.le_refl _⟩, ⟨by repeat (first | (with_reducible first | exact HB.out | apply below_alloc | apply pw_below_drewN | apply below_drew1) | exact HB.out)⟩⟩
                        · rw [if_neg c42] at H
                          have c42b0 : (t191 == 0) = false := beq_eq_false_iff_ne.mpr c42
                          have c42b1 : (t191 != 0) = true := bne_iff_ne.mpr c42
                          (first | rw [c42b0] | (simp only [i64_w, i32_w]; rw [c42b0]) | skip)
                          have H' := Aside0.mk H
                          clear H
                          go_wp2
                          go_meet
                          case rel => exact ⟨_, (false), (by first | rfl | (simp; done) | (simp [*]; done)), H', ⟨by have := HJ6.out; have := HJ18.out; have := HJ21.out; have := HJ30.out; first | omega | exact Nat.le_refl _⟩, ⟨by repeat (first | (with_reducible first | exact HB.out | apply below_alloc | apply pw_below_drewN | apply below_drew1) | exact HB.out)⟩⟩
                      case rest => as_aux_lemma =>
                        clear HC39
                        try clear c1
                        try clear c2
                        try clear p2
                        try clear c3
                        try clear c4
                        try clear c6
                        try clear p6
                        try clear c11
                        try clear c11b0
                        try clear c11b1
                        try clear c12
                        try clear c12b0
                        try clear c12b1
                        try clear c13
                        try clear c13b0
                        try clear c13b1
                        try clear c14
                        try clear c14b0
                        try clear c14b1
                        try clear c14b2
                        try clear c15
                        try clear c15b0
                        try clear c16
                        try clear c17
                        try clear c17b0
                        try clear c17b1
                        try clear c18
                        try clear c19
                        try clear c21
                        try clear c21b0
                        try clear c21b1
                        try clear c23
                        try clear c25
                        try clear c25b0
                        try clear c25b1
                        try clear c26
                        try clear c26b0
                        try clear c26b1
                        try clear c29
                        try clear c30
                        try clear c33
                        try clear c33b0
                        try clear c33b1
                        try clear c35
                        try clear c35b0
                        try clear c35b1
                        try clear c36
                        try clear c36b0
                        try clear c36b1
                        try clear c42
                        try clear c42b0
                        try clear c42b1
                        try clear p2
                        try clear p6
                        obtain ⟨kq, x143_38, rfl, HA, HJ38, HB⟩ := hcut
                        cases kq with
                        | zero => exact absurd HA.out (by simp [manorboylaw01_IntegerOrder.j4])
                        | succ kj38 =>
                          have H := HA.out
                          clear HA
                          simp only [manorboylaw01_IntegerOrder.j4] at H
                          have HC43 := Aside0.mk H
                          clear H
                          go_upto_if 143 with (fail)
                          go_cut [] (fun wc => ∃ (kq : Nat), Aside0 (manorboylaw01_IntegerOrder.j5 kq a0 a1 a2 t175 t176 = some r) ∧ Aside0 (kq ≤ kj38) ∧ Aside0 (Below w.heap.size w wc))
                          case first => as_aux_lemma =>
                            have H := HC43.out
                            clear HC43
                            by_cases c44 : x143_38 = true
                            · subst c44
                              have H1 : ((integer_Cmp.f t190 t192).bind fun bt194 => (if bt194.2 = 0 then (if bt194.1 = t176 then (manorboylaw01_IntegerOrder.j5 kj38 a0 a1 a2 t175 t176) else (some false)) else (some false))) = some r := by rw [if_pos rfl] at H; exact H
                              clear H
                              have H := H1
                              clear H1
                              replace H := Option.bind_eq_some_iff.mp H
                              obtain ⟨⟨t194, t195⟩, A450, H⟩ := H
                              replace H : (if t195 = 0 then (if t194 = t176 then (manorboylaw01_IntegerOrder.j5 kj38 a0 a1 a2 t175 t176) else (some false)) else (some false)) = some r := H
                              have A45 := Aside0.mk A450
                              clear A450
                              by_cases c46 : t195 = 0
                              · rw [if_pos c46] at H
                                have c46b0 : (t195 == 0) = true := beq_iff_eq.mpr c46
                                have c46b1 : (t195 != 0) = false := bne_eq_false_iff_eq.mpr c46
                                clear c46
                                (first | rw [c46b0] | (simp only [i64_w, i32_w]; rw [c46b0]) | skip)
                                by_cases c47 : t194 = t176
                                · rw [if_pos c47] at H
                                  have c47b0 : (t194 == t176) = true := beq_iff_eq.mpr c47
                                  have c47b1 : (t194 != t176) = false := bne_eq_false_iff_eq.mpr c47
                                  clear c47
                                  have H' := Aside0.mk H
                                  clear H
                                  go_wp2_with (first | ((with_reducible refine gate_callee (f := 29) rfl ?_); refine goesL_ (some 147) rfl rfl Try.func29 (by kernel_rfl) rfl #[.int .i64 t190, .int .i64 t192] rfl (by (try simp only [List.map_toArray, List.map_cons, List.map_nil]); first | done | rfl | (simp only [List.length_drop, List.length_take]; rfl)) ?_; (with_reducible refine (integer_Cmp.calls t190 t192 t194 t195 _ A45.out).mono ?_); rintro e w48 ⟨rfl, hb⟩; refine ⟨_, rfl, ?_⟩; have n0_ := Aside0.mk (below_step (by repeat (first | (with_reducible first | exact HB.out | apply below_alloc | apply pw_below_drewN | apply below_drew1) | exact HB.out)) hb); clear HB; have HB := n0_; clear n0_; (try clear hb); (try clear hb2); (try clear hk); (try clear hi)))
                                  go_meet
                                  case rel => exact ⟨_, H', ⟨by have := HJ6.out; have := HJ18.out; have := HJ21.out; have := HJ30.out; have := HJ38.out; first | omega | exact Nat.le_refl _⟩, ⟨by repeat (first | (with_reducible first | exact HB.out | apply below_alloc | apply pw_below_drewN | apply below_drew1) | exact HB.out)⟩⟩
                                · rw [if_neg c47] at H
                                  have c47b0 : (t194 == t176) = false := beq_eq_false_iff_ne.mpr c47
                                  have c47b1 : (t194 != t176) = true := bne_iff_ne.mpr c47
                                  obtain rfl := Option.some.inj H
                                  go_wp2_with (first | ((with_reducible refine gate_callee (f := 29) rfl ?_); refine goesL_ (some 147) rfl rfl Try.func29 (by kernel_rfl) rfl #[.int .i64 t190, .int .i64 t192] rfl (by (try simp only [List.map_toArray, List.map_cons, List.map_nil]); first | done | rfl | (simp only [List.length_drop, List.length_take]; rfl)) ?_; (with_reducible refine (integer_Cmp.calls t190 t192 t194 t195 _ A45.out).mono ?_); rintro e w49 ⟨rfl, hb⟩; refine ⟨_, rfl, ?_⟩; have n0_ := Aside0.mk (below_step (by repeat (first | (with_reducible first | exact HB.out | apply below_alloc | apply pw_below_drewN | apply below_drew1) | exact HB.out)) hb); clear HB; have HB := n0_; clear n0_; (try clear hb); (try clear hb2); (try clear hk); (try clear hi)))
                                  go_ret
                                  exact ⟨by first | rfl | (simp [errW_none, errW_some] <;> rfl) | (simp [*, errW_none, errW_some] <;> rfl), by repeat (first | (with_reducible first | exact HB.out | apply below_alloc | apply pw_below_drewN | apply below_drew1) | exact HB.out)⟩
                              · rw [if_neg c46] at H
                                have c46b0 : (t195 == 0) = false := beq_eq_false_iff_ne.mpr c46
                                have c46b1 : (t195 != 0) = true := bne_iff_ne.mpr c46
                                (first | rw [c46b0] | (simp only [i64_w, i32_w]; rw [c46b0]) | skip)
                                obtain rfl := Option.some.inj H
                                go_wp2_with (first | ((with_reducible refine gate_callee (f := 29) rfl ?_); refine goesL_ (some 147) rfl rfl Try.func29 (by kernel_rfl) rfl #[.int .i64 t190, .int .i64 t192] rfl (by (try simp only [List.map_toArray, List.map_cons, List.map_nil]); first | done | rfl | (simp only [List.length_drop, List.length_take]; rfl)) ?_; (with_reducible refine (integer_Cmp.calls t190 t192 t194 t195 _ A45.out).mono ?_); rintro e w50 ⟨rfl, hb⟩; refine ⟨_, rfl, ?_⟩; have n0_ := Aside0.mk (below_step (by repeat (first | (with_reducible first | exact HB.out | apply below_alloc | apply pw_below_drewN | apply below_drew1) | exact HB.out)) hb); clear HB; have HB := n0_; clear n0_; (try clear hb); (try clear hb2); (try clear hk); (try clear hi)))
                                go_ret
                                exact ⟨by first | rfl | (simp [errW_none, errW_some] <;> rfl) | (simp [*, errW_none, errW_some] <;> rfl), by repeat (first | (with_reducible first | exact HB.out | apply below_alloc | apply pw_below_drewN | apply below_drew1) | exact HB.out)⟩
                            · replace c44 := Bool.eq_false_iff.mpr c44
                              subst c44
                              have H1 : (manorboylaw01_IntegerOrder.j5 kj38 a0 a1 a2 t175 t176) = some r := by rw [if_neg (show ¬ (false = true) by decide)] at H; exact H
                              clear H
                              have H := H1
                              clear H1
                              have H' := Aside0.mk H
                              clear H
                              go_wp2
                              go_meet
                              case rel => exact ⟨_, H', ⟨by have := HJ6.out; have := HJ18.out; have := HJ21.out; have := HJ30.out; have := HJ38.out; first | omega | exact Nat.le_refl _⟩, ⟨by repeat (first | (with_reducible first | exact HB.out | apply below_alloc | apply pw_below_drewN | apply below_drew1) | exact HB.out)⟩⟩
                          case rest => as_aux_lemma =>
                            clear HC43
                            try clear c1
                            try clear c2
                            try clear p2
                            try clear c3
                            try clear c4
                            try clear c6
                            try clear p6
                            try clear c11
                            try clear c11b0
                            try clear c11b1
                            try clear c12
                            try clear c12b0
                            try clear c12b1
                            try clear c13
                            try clear c13b0
                            try clear c13b1
                            try clear c14
                            try clear c14b0
                            try clear c14b1
                            try clear c14b2
                            try clear c15
                            try clear c15b0
                            try clear c16
                            try clear c17
                            try clear c17b0
                            try clear c17b1
                            try clear c18
                            try clear c19
                            try clear c21
                            try clear c21b0
                            try clear c21b1
                            try clear c23
                            try clear c25
                            try clear c25b0
                            try clear c25b1
                            try clear c26
                            try clear c26b0
                            try clear c26b1
                            try clear c29
                            try clear c30
                            try clear c33
                            try clear c33b0
                            try clear c33b1
                            try clear c35
                            try clear c35b0
                            try clear c35b1
                            try clear c36
                            try clear c36b0
                            try clear c36b1
                            try clear c42
                            try clear c42b0
                            try clear c42b1
                            try clear c44
                            try clear c46
                            try clear c46b0
                            try clear c46b1
                            try clear c47
                            try clear c47b0
                            try clear c47b1
                            try clear p2
                            try clear p6
                            obtain ⟨kq, HA, HJ42, HB⟩ := hcut
                            cases kq with
                            | zero => exact absurd HA.out (by simp [manorboylaw01_IntegerOrder.j5])
                            | succ kj42 =>
                              have H := HA.out
                              clear HA
                              simp only [manorboylaw01_IntegerOrder.j5] at H
                              replace H := Option.bind_eq_some_iff.mp H
                              obtain ⟨⟨t196, t197⟩, A510, H⟩ := H
                              replace H : ((integer_Mul.f a1 a2).bind fun bt198 => (if a2 > 0 then (if t197 = 0 then (manorboylaw01_IntegerOrder.j6 kj42 t175 t176 t196 bt198.1 (bt198.2 == 0)) else (manorboylaw01_IntegerOrder.j6 kj42 t175 t176 t196 bt198.1 false)) else (manorboylaw01_IntegerOrder.j6 kj42 t175 t176 t196 bt198.1 false))) = some r := H
                              have A51 := Aside0.mk A510
                              clear A510
                              replace H := Option.bind_eq_some_iff.mp H
                              obtain ⟨⟨t198, t199⟩, A520, H⟩ := H
                              replace H : (if a2 > 0 then (if t197 = 0 then (manorboylaw01_IntegerOrder.j6 kj42 t175 t176 t196 t198 (t199 == 0)) else (manorboylaw01_IntegerOrder.j6 kj42 t175 t176 t196 t198 false)) else (manorboylaw01_IntegerOrder.j6 kj42 t175 t176 t196 t198 false)) = some r := H
                              have A52 := Aside0.mk A520
                              clear A520
                              have HC53 := Aside0.mk H
                              clear H
                              go_upto_region 26 with (first | ((with_reducible refine gate_callee (f := 20) rfl ?_); refine goesL_ (some 160) rfl rfl Try.func20 (by kernel_rfl) rfl #[.int .i64 a0, .int .i64 a2] rfl (by (try simp only [List.map_toArray, List.map_cons, List.map_nil]); first | done | rfl | (simp only [List.length_drop, List.length_take]; rfl)) ?_; (with_reducible refine (integer_Mul.calls a0 a2 t196 t197 _ A51.out).mono ?_); rintro e w54 ⟨rfl, hb⟩; refine ⟨_, rfl, ?_⟩; have n0_ := Aside0.mk (below_step (by repeat (first | (with_reducible first | exact HB.out | apply below_alloc | apply pw_below_drewN | apply below_drew1) | exact HB.out)) hb); clear HB; have HB := n0_; clear n0_; (try clear hb); (try clear hb2); (try clear hk); (try clear hi)) | ((with_reducible refine gate_callee (f := 20) rfl ?_); refine goesL_ (some 166) rfl rfl Try.func20 (by kernel_rfl) rfl #[.int .i64 a1, .int .i64 a2] rfl (by (try simp only [List.map_toArray, List.map_cons, List.map_nil]); first | done | rfl | (simp only [List.length_drop, List.length_take]; rfl)) ?_; (with_reducible refine (integer_Mul.calls a1 a2 t198 t199 _ A52.out).mono ?_); rintro e w55 ⟨rfl, hb⟩; refine ⟨_, rfl, ?_⟩; have n0_ := Aside0.mk (below_step (by repeat (first | (with_reducible first | exact HB.out | apply below_alloc | apply pw_below_drewN | apply below_drew1) | exact HB.out)) hb); clear HB; have HB := n0_; clear n0_; (try clear hb); (try clear hb2); (try clear hk); (try clear hi)))
                              (try simp only [Act.put, List.setIfInBounds_toArray, List.set_cons_zero, List.set_cons_succ])
                              go_cut [178] (fun v178 wc => ∃ (kq : Nat) (x178_52 : Bool), v178 = .bool x178_52 ∧ Aside0 (manorboylaw01_IntegerOrder.j6 kq t175 t176 t196 t198 x178_52 = some r) ∧ Aside0 (kq ≤ kj42) ∧ Aside0 (Below w.heap.size w wc))
                              case first => as_aux_lemma =>
                                have H := HC53.out
                                clear HC53
                                by_cases c56 : a2 > 0
                                · rw [if_pos c56] at H
                                  have c56b0 : decide (0 < a2) = true := decide_eq_true c56
                                  clear c56
                                  (first | rw [c56b0] | (simp only [i64_w, i32_w]; rw [c56b0]) | skip)
                                  by_cases c57 : t197 = 0
                                  · rw [if_pos c57] at H
                                    have c57b0 : (t197 == 0) = true := beq_iff_eq.mpr c57
                                    have c57b1 : (t197 != 0) = false := bne_eq_false_iff_eq.mpr c57
                                    clear c57
                                    have H' := Aside0.mk H
                                    clear H
                                    go_wp2
                                    go_meet
                                    case rel => exact ⟨_, ((t199 == 0)), (by first | rfl | (simp; done) | (simp [*]; done)), H', ⟨by have := HJ6.out; have := HJ18.out; have := HJ21.out; have := HJ30.out; have := HJ38.out; have := HJ42.out; first | omega | exact Nat.le_refl _⟩, ⟨by repeat (first | (with_reducible first | exact HB.out | apply below_alloc | apply pw_below_drewN | apply below_drew1) | exact HB.out)⟩⟩
                                  · rw [if_neg c57] at H
                                    have c57b0 : (t197 == 0) = false := beq_eq_false_iff_ne.mpr c57
                                    have c57b1 : (t197 != 0) = true := bne_iff_ne.mpr c57
                                    have H' := Aside0.mk H
                                    clear H
                                    go_wp2
                                    go_meet
                                    case rel => exact ⟨_, (false), (by first | rfl | (simp; done) | (simp [*]; done)), H', ⟨by have := HJ6.out; have := HJ18.out; have := HJ21.out; have := HJ30.out; have := HJ38.out; have := HJ42.out; first | omega | exact Nat.le_refl _⟩, ⟨by repeat (first | (with_reducible first | exact HB.out | apply below_alloc | apply pw_below_drewN | apply below_drew1) | exact HB.out)⟩⟩
                                · rw [if_neg c56] at H
                                  have c56b0 : decide (0 < a2) = false := decide_eq_false c56
                                  clear c56
                                  (first | rw [c56b0] | (simp only [i64_w, i32_w]; rw [c56b0]) | skip)
                                  have H' := Aside0.mk H
                                  clear H
                                  go_wp2
                                  go_meet
                                  case rel => exact ⟨_, (false), (by first | rfl | (simp; done) | (simp [*]; done)), H', ⟨by have := HJ6.out; have := HJ18.out; have := HJ21.out; have := HJ30.out; have := HJ38.out; have := HJ42.out; first | omega | exact Nat.le_refl _⟩, ⟨by repeat (first | (with_reducible first | exact HB.out | apply below_alloc | apply pw_below_drewN | apply below_drew1) | exact HB.out)⟩⟩
                              case rest => as_aux_lemma =>
                                clear HC53
                                try clear c1
                                try clear c2
                                try clear p2
                                try clear c3
                                try clear c4
                                try clear c5
                                try clear c6
                                try clear p6
                                try clear c11
                                try clear c11b0
                                try clear c11b1
                                try clear c12
                                try clear c12b0
                                try clear c12b1
                                try clear c13
                                try clear c13b0
                                try clear c13b1
                                try clear c14
                                try clear c14b0
                                try clear c14b1
                                try clear c14b2
                                try clear c15
                                try clear c15b0
                                try clear c16
                                try clear c17
                                try clear c17b0
                                try clear c17b1
                                try clear c18
                                try clear c19
                                try clear c20
                                try clear c21
                                try clear c21b0
                                try clear c21b1
                                try clear c23
                                try clear c25
                                try clear c25b0
                                try clear c25b1
                                try clear c26
                                try clear c26b0
                                try clear c26b1
                                try clear c29
                                try clear c30
                                try clear c33
                                try clear c33b0
                                try clear c33b1
                                try clear c35
                                try clear c35b0
                                try clear c35b1
                                try clear c36
                                try clear c36b0
                                try clear c36b1
                                try clear c42
                                try clear c42b0
                                try clear c42b1
                                try clear c44
                                try clear c46
                                try clear c46b0
                                try clear c46b1
                                try clear c47
                                try clear c47b0
                                try clear c47b1
                                try clear c56
                                try clear c56b0
                                try clear c57
                                try clear c57b0
                                try clear c57b1
                                try clear p2
                                try clear p6
                                obtain ⟨kq, x178_52, rfl, HA, HJ52, HB⟩ := hcut
                                cases kq with
                                | zero => exact absurd HA.out (by simp [manorboylaw01_IntegerOrder.j6])
                                | succ kj52 =>
                                  have H := HA.out
                                  clear HA
                                  simp only [manorboylaw01_IntegerOrder.j6] at H
                                  by_cases c58 : x178_52 = true
                                  · subst c58
                                    have H1 : ((integer_Cmp.f t196 t198).bind fun bt200 => (if t175 = true then (if bt200.2 = 0 then (some (bt200.1 == t176)) else (some false)) else (some false))) = some r := by rw [if_pos rfl] at H; exact H
                                    clear H
                                    have H := H1
                                    clear H1
                                    replace H := Option.bind_eq_some_iff.mp H
                                    obtain ⟨⟨t200, t201⟩, A590, H⟩ := H
                                    replace H : (if t175 = true then (if t201 = 0 then (some (t200 == t176)) else (some false)) else (some false)) = some r := H
                                    have A59 := Aside0.mk A590
                                    clear A590
                                    by_cases c60 : t175 = true
                                    · subst c60
                                      have H1 : (if t201 = 0 then (some (t200 == t176)) else (some false)) = some r := by rw [if_pos rfl] at H; exact H
                                      clear H
                                      have H := H1
                                      clear H1
                                      by_cases c61 : t201 = 0
                                      · rw [if_pos c61] at H
                                        have c61b0 : (t201 == 0) = true := beq_iff_eq.mpr c61
                                        have c61b1 : (t201 != 0) = false := bne_eq_false_iff_eq.mpr c61
                                        clear c61
                                        obtain rfl := Option.some.inj H
                                        go_wp2_with (first | ((with_reducible refine gate_callee (f := 29) rfl ?_); refine goesL_ (some 182) rfl rfl Try.func29 (by kernel_rfl) rfl #[.int .i64 t196, .int .i64 t198] rfl (by (try simp only [List.map_toArray, List.map_cons, List.map_nil]); first | done | rfl | (simp only [List.length_drop, List.length_take]; rfl)) ?_; (with_reducible refine (integer_Cmp.calls t196 t198 t200 t201 _ A59.out).mono ?_); rintro e w62 ⟨rfl, hb⟩; refine ⟨_, rfl, ?_⟩; have n0_ := Aside0.mk (below_step (by repeat (first | (with_reducible first | exact HB.out | apply below_alloc | apply pw_below_drewN | apply below_drew1) | exact HB.out)) hb); clear HB; have HB := n0_; clear n0_; (try clear hb); (try clear hb2); (try clear hk); (try clear hi)))
                                        go_ret
                                        exact ⟨by first | rfl | (simp [errW_none, errW_some] <;> rfl) | (simp [*, errW_none, errW_some] <;> rfl), by repeat (first | (with_reducible first | exact HB.out | apply below_alloc | apply pw_below_drewN | apply below_drew1) | exact HB.out)⟩
                                      · rw [if_neg c61] at H
                                        have c61b0 : (t201 == 0) = false := beq_eq_false_iff_ne.mpr c61
                                        have c61b1 : (t201 != 0) = true := bne_iff_ne.mpr c61
                                        obtain rfl := Option.some.inj H
                                        go_wp2_with (first | ((with_reducible refine gate_callee (f := 29) rfl ?_); refine goesL_ (some 182) rfl rfl Try.func29 (by kernel_rfl) rfl #[.int .i64 t196, .int .i64 t198] rfl (by (try simp only [List.map_toArray, List.map_cons, List.map_nil]); first | done | rfl | (simp only [List.length_drop, List.length_take]; rfl)) ?_; (with_reducible refine (integer_Cmp.calls t196 t198 t200 t201 _ A59.out).mono ?_); rintro e w63 ⟨rfl, hb⟩; refine ⟨_, rfl, ?_⟩; have n0_ := Aside0.mk (below_step (by repeat (first | (with_reducible first | exact HB.out | apply below_alloc | apply pw_below_drewN | apply below_drew1) | exact HB.out)) hb); clear HB; have HB := n0_; clear n0_; (try clear hb); (try clear hb2); (try clear hk); (try clear hi)))
                                        go_ret
                                        exact ⟨by first | rfl | (simp [errW_none, errW_some] <;> rfl) | (simp [*, errW_none, errW_some] <;> rfl), by repeat (first | (with_reducible first | exact HB.out | apply below_alloc | apply pw_below_drewN | apply below_drew1) | exact HB.out)⟩
                                    · replace c60 := Bool.eq_false_iff.mpr c60
                                      subst c60
                                      have H1 : (some false) = some r := by rw [if_neg (show ¬ (false = true) by decide)] at H; exact H
                                      clear H
                                      have H := H1
                                      clear H1
                                      obtain rfl := Option.some.inj H
                                      go_wp2_with (first | ((with_reducible refine gate_callee (f := 29) rfl ?_); refine goesL_ (some 182) rfl rfl Try.func29 (by kernel_rfl) rfl #[.int .i64 t196, .int .i64 t198] rfl (by (try simp only [List.map_toArray, List.map_cons, List.map_nil]); first | done | rfl | (simp only [List.length_drop, List.length_take]; rfl)) ?_; (with_reducible refine (integer_Cmp.calls t196 t198 t200 t201 _ A59.out).mono ?_); rintro e w64 ⟨rfl, hb⟩; refine ⟨_, rfl, ?_⟩; have n0_ := Aside0.mk (below_step (by repeat (first | (with_reducible first | exact HB.out | apply below_alloc | apply pw_below_drewN | apply below_drew1) | exact HB.out)) hb); clear HB; have HB := n0_; clear n0_; (try clear hb); (try clear hb2); (try clear hk); (try clear hi)))
                                      go_ret
                                      exact ⟨by first | rfl | (simp [errW_none, errW_some] <;> rfl) | (simp [*, errW_none, errW_some] <;> rfl), by repeat (first | (with_reducible first | exact HB.out | apply below_alloc | apply pw_below_drewN | apply below_drew1) | exact HB.out)⟩
                                  · replace c58 := Bool.eq_false_iff.mpr c58
                                    subst c58
                                    have H1 : (some t175) = some r := by rw [if_neg (show ¬ (false = true) by decide)] at H; exact H
                                    clear H
                                    have H := H1
                                    clear H1
                                    obtain rfl := Option.some.inj H
                                    go_wp2
                                    go_ret
                                    exact ⟨by first | rfl | (simp [errW_none, errW_some] <;> rfl) | (simp [*, errW_none, errW_some] <;> rfl), by repeat (first | (with_reducible first | exact HB.out | apply below_alloc | apply pw_below_drewN | apply below_drew1) | exact HB.out)⟩
        · rw [if_neg c17] at H
          have c17b0 : (t177 == 0) = false := beq_eq_false_iff_ne.mpr c17
          have c17b1 : (t177 != 0) = true := bne_iff_ne.mpr c17
          by_cases c65 : t175 = true
          · subst c65
            have H1 : ((integer_Valid.f a0).bind fun t180 => (if t180 = true then ((integer_Valid.f a1).bind fun t181 => (some (!t181))) else (some true))) = some r := by rw [if_pos rfl] at H; exact H
            clear H
            have H := H1
            clear H1
            replace H := Option.bind_eq_some_iff.mp H
            obtain ⟨t180, A660, H⟩ := H
            replace H : (if t180 = true then ((integer_Valid.f a1).bind fun t181 => (some (!t181))) else (some true)) = some r := H
            have A66 := Aside0.mk A660
            clear A660
            by_cases c67 : t180 = true
            · subst c67
              have H1 : ((integer_Valid.f a1).bind fun t181 => (some (!t181))) = some r := by rw [if_pos rfl] at H; exact H
              clear H
              have H := H1
              clear H1
              replace H := Option.bind_eq_some_iff.mp H
              obtain ⟨t181, A680, H⟩ := H
              replace H : (some (!t181)) = some r := H
              have A68 := Aside0.mk A680
              clear A680
              obtain rfl := Option.some.inj H
              go_wp2_with (first | (go_at_call 26; (with_reducible refine (integer_Valid.calls a0 true _ A66.out).mono ?_); rintro e w' ⟨rfl, ⟨nd, rfl⟩⟩) | (go_at_call 26; (with_reducible refine (integer_Valid.calls a1 t181 _ A68.out).mono ?_); rintro e w' ⟨rfl, ⟨nd, rfl⟩⟩))
              go_ret
              exact ⟨by first | rfl | (simp [errW_none, errW_some] <;> rfl) | (simp [*, errW_none, errW_some] <;> rfl), by repeat (first | (with_reducible first | exact HB.out | apply below_alloc | apply pw_below_drewN | apply below_drew1) | exact HB.out)⟩
            · replace c67 := Bool.eq_false_iff.mpr c67
              subst c67
              have H1 : (some true) = some r := by rw [if_neg (show ¬ (false = true) by decide)] at H; exact H
              clear H
              have H := H1
              clear H1
              obtain rfl := Option.some.inj H
              go_wp2_with (first | (go_at_call 26; (with_reducible refine (integer_Valid.calls a0 false _ A66.out).mono ?_); rintro e w' ⟨rfl, ⟨nd, rfl⟩⟩))
              go_ret
              exact ⟨by first | rfl | (simp [errW_none, errW_some] <;> rfl) | (simp [*, errW_none, errW_some] <;> rfl), by repeat (first | (with_reducible first | exact HB.out | apply below_alloc | apply pw_below_drewN | apply below_drew1) | exact HB.out)⟩
          · replace c65 := Bool.eq_false_iff.mpr c65
            subst c65
            have H1 : (some false) = some r := by rw [if_neg (show ¬ (false = true) by decide)] at H; exact H
            clear H
            have H := H1
            clear H1
            obtain rfl := Option.some.inj H
            go_wp2
            go_ret
            exact ⟨by first | rfl | (simp [errW_none, errW_some] <;> rfl) | (simp [*, errW_none, errW_some] <;> rfl), by repeat (first | (with_reducible first | exact HB.out | apply below_alloc | apply pw_below_drewN | apply below_drew1) | exact HB.out)⟩

/-- THE ONE PURE STATEMENT of manorboylaw01_IntegerOrder: yours. -/
def manorboylaw01_IntegerOrder.Pure : Prop := ∀ (a0 : Int) (a1 : Int) (a2 : Int), (Lit.int .i64 a0).wf = true → (Lit.int .i64 a1).wf = true → (Lit.int .i64 a2).wf = true → ∃ k, manorboylaw01_IntegerOrder.f k a0 a1 a2 = some true
theorem manorboylaw01_IntegerOrder.walk (P : manorboylaw01_IntegerOrder.Pure) (a0 : Int) (a1 : Int) (a2 : Int) (w : World) (w0 : (Lit.int .i64 a0).wf = true) (w1 : (Lit.int .i64 a1).wf = true) (w2 : (Lit.int .i64 a2).wf = true) :
    Calls Try.prog 6 #[.int .i64 a0, .int .i64 a1, .int .i64 a2] w fun e w' => e = .returned (.bool true) ∧ Below w.heap.size w w' := by
  obtain ⟨k, h⟩ := P a0 a1 a2 w0 w1 w2
  refine (manorboylaw01_IntegerOrder.calls k a0 a1 a2 true w h).mono ?_
  rintro e w' ⟨rfl, hd⟩
  exact ⟨rfl, hd⟩

end Go.Proofs.Ytjclehdhjnmlpaa.P
