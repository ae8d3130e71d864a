/- Contracts and lemmas that the law's row leans on, joined by program (pack.py) out of the session's texts; no condition of its own. -/
import Derived.RangeFuncNested
import Derived.RangeFuncBound
import Derived.RangeFuncCalls
import Derived.RangeFuncLeaves
import Derived.Shelf.Abstract
import Derived.Shelf.RegionOpen
import Derived.WalkKit
import Derived.OwnWalkIn
import Derived.TacticsInMore
import Derived.LoopNIn
import Derived.LoopIn
import Derived.Lib.Hide
import Derived.Defers
import Derived.Recover
import Derived.Laws.Pointers
import Derived.Laws.Rows
import Derived.Test.YteigbokklclmbaaGreatDoorProg
import Derived.Below
import Derived.Deep.Draws
import Derived.Deep.AppendLies
import Derived.Maps.AppendAt
import Derived.OwnWalk
import Derived.Laws.BytesArg
import Derived.Laws.MakeOwn
import Derived.Laws.OwnMore
import Derived.Deep.OwnRows
import Derived.Tactics
import Derived.Lib.ConvBytes
import Derived.Laws.Slices
import Derived.KernelRfl
import Derived.RowKit3
import Derived.Deep.LoopGhost
import Derived.Deep.QuietTactic
import Derived.BigQuiet
import Derived.WideLaws
import Derived.Deep.DeepCutAuto
import Derived.Deep.CutBlock
import Derived.Deep.RegionHeld3
import Derived.Lib.AppendStr
import Derived.ArgAppend
import Derived.Laws.IdiomCopy
import Derived.OrdersHeld
import Derived.Laws.BitsLemmas
import Derived.RowKit
import Derived.Test.YteigbokklclmbaaGreatDoorRpla
import Derived.Test.YteigbokklclmbaaGreatDoorRplb
import Derived.Test.YteigbokklclmbaaGreatDoorRplc
set_option linter.unusedVariables false
set_option linter.unusedSimpArgs false
set_option maxRecDepth 100000
set_option maxHeartbeats 8000000
section
namespace Go.Proofs.YteigbokklclmbaaGreatDoor.Z
open Go.RowKit Go.Proofs.YteigbokklclmbaaGreatDoor.Given Go.Proofs.YteigbokklclmbaaGreatDoorW.PrintWords Go.Proofs.YteigbokklclmbaaGreatDoorW.PrintLast Go.Proofs.YteigbokklclmbaaGreatDoorW.PrintMore
attribute [local go_sem] max2_int min2_int max_two min_two max_three min_three max_four min_four   -- for this text's walks alone

def real_scaled.j0 : Nat → Int → List Int → List Int → Option (List Int × List Int)
 | 0, _, _, _ => none
 | k + 1, x2, x8, x9 => if x2 ≥ 0 then ((real_pow10.f k x2).bind fun t366 => ((real_nat_mul.f k x8 t366).bind fun t369 => (some (t369, x9)))) else ((real_pow10.f k (wrap64 (-x2))).bind fun t372 => ((real_nat_mul.f k x9 t372).bind fun t375 => (some (x8, t375))))
def real_scaled.f (k : Nat) (l0 : List Int) (a1 : Int) (a2 : Int) : Option (List Int × List Int) := (some (([1] : List Int) : List Int)).bind fun y357 => (if a1 ≥ 0 then ((real_nat_shl.f k l0 a1).bind fun t360 => (real_scaled.j0 k a2 t360 y357)) else ((real_nat_shl.f k y357 (wrap64 (-a1))).bind fun t363 => (real_scaled.j0 k a2 l0 t363)))
theorem real_scaled.mono_l : ∀ k, (∀ y0 y1 y2, LeO (real_scaled.j0 k y0 y1 y2) (real_scaled.j0 (k + 1) y0 y1 y2))
 | 0 => fun _ _ _ r h => by simp [real_scaled.j0] at h
 | k + 1 => by
  have ih0 := real_scaled.mono_l k
  ·intro y0 y1 y2
   unfold real_scaled.j0
   repeat' first
   | (with_reducible exact ih0 _ _ _)
   | (with_reducible exact real_nat_mul.mono _ _ _)
   | (with_reducible exact real_nat_shl.mono _ _ _)
   | (with_reducible exact real_pow10.mono _ _)
   | (with_reducible exact LeO.refl _)
   | (with_reducible exact LeO.none _)
   | (with_reducible refine LeO.ite ?_ ?_)
   | (with_reducible refine LeO.bind ?_ (fun _ => ?_))
   | exact ih0 _ _ _
   | exact real_nat_mul.mono _ _ _
   | exact real_nat_shl.mono _ _ _
   | exact real_pow10.mono _ _
   | exact LeO.none _
   | refine LeO.ite ?_ ?_
   | refine LeO.bind ?_ (fun _ => ?_)
theorem real_scaled.mono : ∀ a0 a1 a2 k, LeO (real_scaled.f k a0 a1 a2) (real_scaled.f (k + 1) a0 a1 a2) := by
 intro a0 a1 a2 k
 have ih0 := real_scaled.mono_l k
 unfold real_scaled.f
 repeat' first
   | (with_reducible exact ih0 _ _ _)
   | (with_reducible exact real_nat_mul.mono _ _ _)
   | (with_reducible exact real_nat_shl.mono _ _ _)
   | (with_reducible exact real_pow10.mono _ _)
   | (with_reducible exact LeO.refl _)
   | (with_reducible exact LeO.none _)
   | (with_reducible refine LeO.ite ?_ ?_)
   | (with_reducible refine LeO.bind ?_ (fun _ => ?_))
   | exact ih0 _ _ _
   | exact real_nat_mul.mono _ _ _
   | exact real_nat_shl.mono _ _ _
   | exact real_pow10.mono _ _
   | exact LeO.none _
   | refine LeO.ite ?_ ?_
   | refine LeO.bind ?_ (fun _ => ?_)
theorem real_scaled.calls (k : Nat) (P0_ : Nat → Prop) (A0 : Option Addr) (c0 : Nat) (l0 : List Int) (a1 : Int) (a2 : Int) (r1 : List Int) (r2 : List Int) (w : World) (hs0 : Kd.V (Kd.int .u32) 115 w w.heap.size (fun k_ => P0_ k_) (.slice A0 l0.length c0) l0) (h : real_scaled.f k l0 a1 a2 = some (r1, r2)) :
  Calls Tryz.prog 122 #[.slice A0 l0.length c0, .int .i64 a1, .int .i64 a2] w fun e w' => ∃ v0_ v1_ : Value, e = .returned (.tuple #[v0_, v1_]) ∧ Kd.V (Kd.int .u32) 115 w' w.heap.size (fun k_ => (P0_ k_ ∨ w.heap.size ≤ k_)) v0_ r1 ∧ Kd.V (Kd.int .u32) 115 w' w.heap.size (fun k_ => (P0_ k_ ∨ w.heap.size ≤ k_)) v1_ r2 ∧ Below w.heap.size w w' := by
 have HO0 := Aside0.mk (show Kd.V (Kd.int .u32) 115 w w.heap.size (fun k_ => (P0_ k_ ∨ w.heap.size ≤ k_)) (.slice A0 l0.length c0) l0 from Kd.V_mono hs0 (fun k_ hk => .inl hk))
 have HB := Aside0.mk (Below.refl w.heap.size w)
 have H := h; unfold real_scaled.f at H; clear h
 obtain ⟨y357, hy357⟩ : ∃ y_ : List Int, y_ = (([1] : List Int)) := ⟨_, rfl⟩
 replace H : (if a1 ≥ 0 then ((real_nat_shl.f k l0 a1).bind fun t360 => (real_scaled.j0 k a2 t360 y357)) else ((real_nat_shl.f k y357 (wrap64 (-a1))).bind fun t363 => (real_scaled.j0 k a2 l0 t363))) = some (r1, r2) := by first | (rw [hy357]; with_reducible exact H) | (have H2_ := (Option.bind_some _ _).symm.trans H; rw [hy357]; with_reducible exact H2_) | (have H2_ := (Option.bind_some _ _).symm.trans H; with_reducible exact H2_) | with_reducible exact H | (rw [hy357]; exact H) | exact H
 have Ny357 := Aside0.mk hy357
 clear hy357
 have HC4 := Aside0.mk H
 clear H
 go_enter Tryz.func122, Tryz.ntmps122
 go_upto_if 13 with (first | ((with_reducible refine gate_dst (N := 11) rfl ?_); refine Kd.R_lit (Kd.int .u32) _ 115 ?hg (N := 11) ?hd (xs := ([1] : List Int)) (inner := [.int .u32 1]) (ok := fun _ => True) (okp := fun _ => True) ?hr ?hp (fun _ hk => hk) trivial (Below.refl _ _) (Nat.le_refl _) (by simp) ?_; (case hd => rfl); (case hg => rfl); (case hr => first | (go_simp; done) | (go_simp; rfl)); (case hp => exact (Reps.one (show Kd.M (Kd.int .u32) _ _ _ 1 [.int .u32 1] from rfl) (Reps.none _ _))); intro v358 w5 ho6 hb hg_ hnew_; clear hg_ hnew_; (first | rw [← Ny357.out] at ho6 | (simp only [Int.reduceToNat] at ho6; rw [← Ny357.out] at ho6)); have HO359 := Aside0.mk (Kd.R_lower (Kd.R_newM (M := fun k_ => (w.heap.size ≤ k_)) ho6 (below_size bz) (fun k_ h_ => h_)) (below_size bz)); replace HO0 := Aside0.mk (Kd.V_elder' (vz HO0) (Kd.R_base ho6) hb); replace HB := bs hb; clear hb ho6))
 (try simp only [Act.put, List.setIfInBounds_toArray, List.set_cons_zero, List.set_cons_succ])
 go_cut [8, 9] (fun v8 v9 wc => ∃ (kq : Nat) (x8_3 : List Int) (x9_3 : List Int), Aside0 (real_scaled.j0 kq a2 x8_3 x9_3 = some (r1, r2)) ∧ Aside0 (kq ≤ k) ∧ Aside0 (Kd.V (Kd.int .u32) 115 wc w.heap.size (fun k_ => (P0_ k_ ∨ w.heap.size ≤ k_)) v8 x8_3) ∧ Aside0 (Kd.V (Kd.int .u32) 115 wc w.heap.size (fun k_ => (P0_ k_ ∨ w.heap.size ≤ k_)) v9 x9_3) ∧ Aside0 (Below w.heap.size w wc))
 case first => as_aux_lemma =>
  have H := HC4.out
  clear HC4
  by_cases c7 : a1 ≥ 0
  ·rw [if_pos c7] at H
   have c7b0 : decide (0 ≤ a1) = true := decide_eq_true c7
   clear c7
   (first | rw [c7b0] | (simp only [i64_w, i32_w]; rw [c7b0]) | skip)
   replace H := Option.bind_eq_some_iff.mp H
   obtain ⟨t360, A80, H⟩ := H
   try dsimp only at H
   have A8 := Aside0.mk A80
   clear A80
   have H' := Aside0.mk H
   clear H
   go_wp2_with (first | ((with_reducible refine gate_callee (f := 126) rfl ?_); refine goesL_ (some 16) rfl rfl Tryz.func126 (by kernel_rfl) rfl #[.slice A0 l0.length c0, .int .i64 a1] rfl az ?_; (with_reducible refine (real_nat_shl.calls k _ _ l0 a1 t360 _ ?side1 ?side2 A8.out).mono ?_); (case side1 => exact ccz (Kd.V_reads' HO0.out).2.2); (case side2 => exact (Kd.V_reads' HO0.out).2.1); rintro e w9 ⟨v361, rfl, ho0, hb⟩; refine ⟨_, rfl, ?_⟩; have HO362 := Aside0.mk (Kd.V_lower (Kd.V_mono (ok' := fun k_ => (P0_ k_ ∨ w.heap.size ≤ k_) ∧ some k_ ≠ (v358 : Value).ownBlock) ho0 (fun k_ hk_ => ⟨(.inr (Nat.le_trans (below_size bz) hk_)), (Kd.fresh' (Kd.R_lt (rz HO359)) k_ hk_)⟩)) (below_size bz)); replace HO0 := vb HO0 hb; replace HO359 := rb HO359 hb; replace HB := bs hb; (try clear hb); (try clear hk); (try clear ho0)))
   go_meet
   case rel => exact ⟨_, (t360), (y357), H', ⟨by first | omega | exact Nat.le_refl _⟩, ⟨by (with_reducible repeat (first | apply Kd.V_alloc | apply Kd.V_drewN | apply Kd.V_drew)); exact Kd.V_mono HO362.out (fun _ hk => hk.1)⟩, ⟨Kd.V_mono (Kd.R_V (by (with_reducible repeat (first | apply Kd.R_alloc | apply Kd.R_drewN | apply Kd.R_drew)); exact Kd.R_mono HO359.out (fun _ hk => hk.1))) (fun k_ hk => by first | exact ⟨(.inr (hk.1)), hk.2⟩ | exact (.inr (hk)))⟩, ⟨bz⟩⟩
  ·rw [if_neg c7] at H
   have c7b0 : decide (0 ≤ a1) = false := decide_eq_false c7
   clear c7
   (first | rw [c7b0] | (simp only [i64_w, i32_w]; rw [c7b0]) | skip)
   replace H := Option.bind_eq_some_iff.mp H
   obtain ⟨t363, A100, H⟩ := H
   try dsimp only at H
   have A10 := Aside0.mk A100
   clear A100
   have H' := Aside0.mk H
   clear H
   obtain ⟨Ao11, co11, eo11⟩ := Kd.R_slice HO359.out
   subst eo11
   go_wp2_with (first | ((with_reducible refine gate_callee (f := 126) rfl ?_); refine goesL_ (some 20) rfl rfl Tryz.func126 (by kernel_rfl) rfl #[.slice Ao11 y357.length co11, .int .i64 (wrap64 (-a1))] rfl az ?_; (with_reducible refine (real_nat_shl.calls k _ _ y357 (wrap64 (-a1)) t363 _ ?side1 ?side2 A10.out).mono ?_); (case side1 => exact ccz (Kd.R_reads' HO359.out).2.2); (case side2 => exact (Kd.R_reads' HO359.out).2.1); rintro e w12 ⟨v364, rfl, ho0, hb⟩; refine ⟨_, rfl, ?_⟩; have HO365 := Aside0.mk (Kd.V_lower (Kd.V_mono (ok' := fun k_ => (P0_ k_ ∨ w.heap.size ≤ k_) ∧ some k_ ≠ (.slice Ao11 y357.length co11 : Value).ownBlock) ho0 (fun k_ hk_ => ⟨(.inr (Nat.le_trans (below_size bz) hk_)), (Kd.fresh' (Kd.R_lt (rz HO359)) k_ hk_)⟩)) (below_size bz)); replace HO0 := vb HO0 hb; replace HO359 := rb HO359 hb; replace HB := bs hb; (try clear hb); (try clear hk); (try clear ho0)))
   go_meet
   case rel => exact ⟨_, (l0), (t363), H', ⟨by first | omega | exact Nat.le_refl _⟩, ⟨by (with_reducible repeat (first | apply Kd.V_alloc | apply Kd.V_drewN | apply Kd.V_drew)); exact Kd.V_mono HO0.out (fun _ hk => hk.1)⟩, ⟨by (with_reducible repeat (first | apply Kd.V_alloc | apply Kd.V_drewN | apply Kd.V_drew)); exact Kd.V_mono HO365.out (fun _ hk => hk.1)⟩, ⟨bz⟩⟩
 case rest => as_aux_lemma =>
  clear HC4
  try clear c7
  try clear c7b0
  obtain ⟨kq, x8_3, x9_3, HA, HJ3, HO_8, HO_9, HB⟩ := hcut
  cases kq with
  | zero => exact absurd HA.out (by simp [real_scaled.j0])
  | succ kj3 =>
   have H := HA.out
   clear HA
   simp only [real_scaled.j0] at H
   by_cases c13 : a2 ≥ 0
   ·rw [if_pos c13] at H
    have c13b0 : decide (0 ≤ a2) = true := decide_eq_true c13
    clear c13
    replace H := Option.bind_eq_some_iff.mp H
    obtain ⟨t366, A140, H⟩ := H
    try dsimp only at H
    have A14 := Aside0.mk A140
    clear A140
    replace H := Option.bind_eq_some_iff.mp H
    obtain ⟨t369, A150, H⟩ := H
    try dsimp only at H
    have A15 := Aside0.mk A150
    clear A150
    simp only [Option.some.injEq, Prod.mk.injEq] at H
    obtain ⟨rfl, rfl⟩ := H
    go_wp2_with (first | ((with_reducible refine gate_callee (f := 119) rfl ?_); refine goesL_ (some 25) rfl rfl Tryz.func119 (by kernel_rfl) rfl #[.int .i64 a2] rfl az ?_; (with_reducible refine (real_pow10.calls kj3 a2 t366 _ A14.out).mono ?_); rintro e w16 ⟨v367, rfl, ho0, hb⟩; refine ⟨_, rfl, ?_⟩; have HO368 := Aside0.mk (Kd.V_lower (Kd.V_mono (ok' := fun k_ => (P0_ k_ ∨ w.heap.size ≤ k_)) ho0 (fun k_ hk_ => (.inr (Nat.le_trans (below_size bz) hk_)))) (below_size bz)); replace HO_8 := vb HO_8 hb; replace HO_9 := vb HO_9 hb; replace HB := bs hb; (try clear hb); (try clear hk); (try clear ho0); obtain ⟨Ao17, co17, eo17⟩ := Kd.V_slice HO_8.out; subst eo17; obtain ⟨Ao18, co18, eo18⟩ := Kd.V_slice HO368.out; subst eo18) | ((with_reducible refine gate_callee (f := 116) rfl ?_); refine goesL_ (some 26) rfl rfl Tryz.func116 (by kernel_rfl) rfl #[.slice Ao17 x8_3.length co17, .slice Ao18 t366.length co18] rfl az ?_; (with_reducible refine (real_nat_mul.calls kj3 _ _ x8_3 _ _ t366 t369 _ ?side1 ?side2 ?side3 ?side4 A15.out).mono ?_); (case side1 => exact ccz (Kd.V_reads' HO_8.out).2.2); (case side2 => exact (Kd.V_reads' HO_8.out).2.1); (case side3 => exact ccz (Kd.V_reads' HO368.out).2.2); (case side4 => exact (Kd.V_reads' HO368.out).2.1); rintro e w19 ⟨v370, rfl, ho0, hb⟩; refine ⟨_, rfl, ?_⟩; have HO371 := Aside0.mk (Kd.V_lower (Kd.V_mono (ok' := fun k_ => (P0_ k_ ∨ w.heap.size ≤ k_)) ho0 (fun k_ hk_ => (.inr (Nat.le_trans (below_size bz) hk_)))) (below_size bz)); replace HO_8 := vb HO_8 hb; replace HO_9 := vb HO_9 hb; replace HO368 := vb HO368 hb; replace HB := bs hb; (try clear hb); (try clear hk); (try clear ho0)))
    go_ret2
    exact ⟨_, _, by first | rfl | (simp [errW_none, errW_some] <;> rfl) | (simp [*, errW_none, errW_some] <;> rfl), by (with_reducible repeat (first | apply Kd.V_alloc | apply Kd.V_drewN | apply Kd.V_drew)); exact HO371.out, by (with_reducible repeat (first | apply Kd.V_alloc | apply Kd.V_drewN | apply Kd.V_drew)); exact HO_9.out, bz⟩
   ·rw [if_neg c13] at H
    have c13b0 : decide (0 ≤ a2) = false := decide_eq_false c13
    clear c13
    replace H := Option.bind_eq_some_iff.mp H
    obtain ⟨t372, A200, H⟩ := H
    try dsimp only at H
    have A20 := Aside0.mk A200
    clear A200
    replace H := Option.bind_eq_some_iff.mp H
    obtain ⟨t375, A210, H⟩ := H
    try dsimp only at H
    have A21 := Aside0.mk A210
    clear A210
    simp only [Option.some.injEq, Prod.mk.injEq] at H
    obtain ⟨rfl, rfl⟩ := H
    go_wp2_with (first | ((with_reducible refine gate_callee (f := 119) rfl ?_); refine goesL_ (some 30) rfl rfl Tryz.func119 (by kernel_rfl) rfl #[.int .i64 (wrap64 (-a2))] rfl az ?_; (with_reducible refine (real_pow10.calls kj3 (wrap64 (-a2)) t372 _ A20.out).mono ?_); rintro e w22 ⟨v373, rfl, ho0, hb⟩; refine ⟨_, rfl, ?_⟩; have HO374 := Aside0.mk (Kd.V_lower (Kd.V_mono (ok' := fun k_ => (P0_ k_ ∨ w.heap.size ≤ k_)) ho0 (fun k_ hk_ => (.inr (Nat.le_trans (below_size bz) hk_)))) (below_size bz)); replace HO_8 := vb HO_8 hb; replace HO_9 := vb HO_9 hb; replace HB := bs hb; (try clear hb); (try clear hk); (try clear ho0); obtain ⟨Ao23, co23, eo23⟩ := Kd.V_slice HO_9.out; subst eo23; obtain ⟨Ao24, co24, eo24⟩ := Kd.V_slice HO374.out; subst eo24) | ((with_reducible refine gate_callee (f := 116) rfl ?_); refine goesL_ (some 31) rfl rfl Tryz.func116 (by kernel_rfl) rfl #[.slice Ao23 x9_3.length co23, .slice Ao24 t372.length co24] rfl az ?_; (with_reducible refine (real_nat_mul.calls kj3 _ _ x9_3 _ _ t372 t375 _ ?side1 ?side2 ?side3 ?side4 A21.out).mono ?_); (case side1 => exact ccz (Kd.V_reads' HO_9.out).2.2); (case side2 => exact (Kd.V_reads' HO_9.out).2.1); (case side3 => exact ccz (Kd.V_reads' HO374.out).2.2); (case side4 => exact (Kd.V_reads' HO374.out).2.1); rintro e w25 ⟨v376, rfl, ho0, hb⟩; refine ⟨_, rfl, ?_⟩; have HO377 := Aside0.mk (Kd.V_lower (Kd.V_mono (ok' := fun k_ => (P0_ k_ ∨ w.heap.size ≤ k_)) ho0 (fun k_ hk_ => (.inr (Nat.le_trans (below_size bz) hk_)))) (below_size bz)); replace HO_8 := vb HO_8 hb; replace HO_9 := vb HO_9 hb; replace HO374 := vb HO374 hb; replace HB := bs hb; (try clear hb); (try clear hk); (try clear ho0)))
    go_ret2
    exact ⟨_, _, by first | rfl | (simp [errW_none, errW_some] <;> rfl) | (simp [*, errW_none, errW_some] <;> rfl), by (with_reducible repeat (first | apply Kd.V_alloc | apply Kd.V_drewN | apply Kd.V_drew)); exact HO_8.out, by (with_reducible repeat (first | apply Kd.V_alloc | apply Kd.V_drewN | apply Kd.V_drew)); exact HO377.out, bz⟩

end Go.Proofs.YteigbokklclmbaaGreatDoor.Z
end
section
namespace Go.Proofs.YteigbokklclmbaaGreatDoor.Z
open Go Go.RowKit Go.Shelf Go.Proofs.YteigbokklclmbaaGreatDoor.Given Go.Proofs.YteigbokklclmbaaGreatDoorW.PrintWords Go.Proofs.YteigbokklclmbaaGreatDoorW.PrintLast Go.Proofs.YteigbokklclmbaaGreatDoorW.PrintMore
attribute [local go_sem] Oper.semAt_some
/-- The digits from a place on. -/
def digsFrom (s : ByteArray) : Nat → Nat → List Int
  | 0, _ => []
  | f + 1, i => if 48 ≤ bt s (i : Int) then (if bt s (i : Int) ≤ 57 then (bt s (i : Int) - 48) :: digsFrom s f (i + 1) else []) else []
def digs (s : ByteArray) : List Int := digsFrom s s.size 0
theorem digsFrom_len (s : ByteArray) : ∀ f i, (digsFrom s f i).length ≤ f
  | 0, _ => Nat.le_refl _
  | f + 1, i => by
    unfold digsFrom; split
    · split
      · have := digsFrom_len s f (i + 1); simp; exact this
      · simp
    · simp
theorem digs_len (s : ByteArray) : (digs s).length ≤ s.size := digsFrom_len s _ _
/-- The string's box lies as it lay. -/
def KB (Bn : Nat) (W W' : World) : Prop := W'.heap[Bn]? = W.heap[Bn]?
theorem digits1_in (n : Nat) (hn : 1 ≤ n) (l Bn : Nat) (s : ByteArray) (hs : s.size < 1000000000000) (J Jx : List Int → World → Prop)
    (hY : ∀ pre x W, J pre W → pre.length < s.size → YieldAt Fence.wide (n - 1) Tryz.prog l #[.int .i64 x] W fun e W' =>
      (e = .returned (.bool true) ∧ J (pre ++ [x]) W' ∧ KB Bn W W') ∨ (e = .returned (.bool false) ∧ Jx (pre ++ [x]) W'))
    (W : World) (hBn : W.cell? ⟨Bn, 0, none⟩ = some (.string s)) (h0 : J [] W) :
    CallsIn Fence.wide n Tryz.prog 147 #[.func (.yield l) #[] #[], .pointer (some ⟨Bn, 0, none⟩)] W fun e W' => (∃ v, e = .returned v) ∧
      ((∃ ys, ys = digs s ∧ J ys W') ∨ (∃ pre, pre <+: digs s ∧ Jx pre W')) := by
  refine callsIn_of_wp Tryz.func147 rfl trivial ?_ rfl
  simp only [Tryz.ntmps147, List.size_toArray, List.length_cons, List.length_nil, Nat.reduceAdd, Nat.reduceSub, Array.replicate_succ, Array.replicate_zero, List.push_toArray, List.append_toArray, List.nil_append, List.cons_append]
  have HS := Lib.hid hs
  have HY := Lib.hid hY
  clear hY hs
  gi_wp2
  gi_loopw [3] (fun p wr => ∃ (pre : List Int), p = .int .i64 (pre.length : Int) ∧ Hid (digs s = pre ++ digsFrom s (s.size - pre.length) pre.length ∧ pre.length ≤ s.size ∧ J pre wr ∧ wr.cell? ⟨Bn, 0, none⟩ = some (.string s)))
    (fun p wr => s.size - (intOf p).toNat)
  case atStart =>
    exact ⟨[], rfl, ⟨rfl, by simp, h0, hBn⟩⟩
  case round =>
    obtain ⟨pre, rfl, hx⟩ := hrel
    have hcell := hx.out.2.2.2
    have hsz := HS.out
    by_cases hlt : pre.length < s.size
    · have hbt : ((s[pre.length]'hlt).toNat : Int) = bt s (pre.length : Int) := bt_at s (pre.length : Int) hlt
      have hbr := bt_range s (pre.length : Int)
      have hstep : digsFrom s (s.size - pre.length) pre.length = if 48 ≤ bt s (pre.length : Int) then (if bt s (pre.length : Int) ≤ 57 then (bt s (pre.length : Int) - 48) :: digsFrom s (s.size - (pre.length + 1)) (pre.length + 1) else []) else [] := by
        rw [show s.size - pre.length = (s.size - (pre.length + 1)) + 1 by omega, digsFrom]
      have HST := Lib.hid hstep
      clear hstep
      obtain ⟨d, hd⟩ : ∃ d, bt s (pre.length : Int) = d := ⟨_, rfl⟩
      have HD := Lib.hid hd
      rw [hd] at hbt hbr
      clear hd
      have hw : wrap64 ((pre.length : Int) + 1) = ((pre.length + 1 : Nat) : Int) := by rw [w64 _ (by omega) (by omega)]; omega
      by_cases h48 : 48 ≤ d
      · by_cases h57 : d ≤ 57
        · have hsub : IntKind.u8.wrap (d - 48) = d - 48 := by simp [IntKind.wrap, IntKind.bits, IntKind.signed]; omega
          obtain ⟨fn, tmps, assign, body, hy, hR⟩ := HY.out pre (d - 48) wr hx.out.2.2.1 hlt
          have hcons : digs s = (pre ++ [d - 48]) ++ digsFrom s (s.size - (pre ++ [d - 48]).length) (pre ++ [d - 48]).length := by
            rw [hx.out.1, HST.out, HD.out, if_pos h48, if_pos h57]; simp
          have HC := Lib.hid hcons
          clear hcons
          gi_wp2
          refine hR.mono ?_
          rintro e W3 (⟨rfl, hJ3, hk3⟩ | ⟨rfl, hJx3⟩)
          · have hcell3 : W3.cell? ⟨Bn, 0, none⟩ = some (.string s) := (World.cell?_of_block (a := ⟨Bn, 0, none⟩) (show W3.heap[Bn]? = wr.heap[Bn]? from hk3)).trans hcell
            gi_wp2
            go_roundw
            case rel => exact ⟨pre ++ [d - 48], by simp, ⟨HC.out, by simp; omega, hJ3, hcell3⟩⟩
            case measure => simp [intOf]; omega
          · gi_wp2
            refine bodyPost_ret (results_none rfl _ _ _) rfl ?_
            refine ⟨⟨_, rfl⟩, .inr ⟨pre ++ [d - 48], ?_, hJx3⟩⟩
            rw [HC.out]
            exact List.prefix_append _ _
        · have hall : digs s = pre := by rw [hx.out.1, HST.out, HD.out, if_pos h48, if_neg h57, List.append_nil]
          gi_wp2
          go_end0
          refine ⟨⟨_, rfl⟩, .inl ?_⟩
          first | exact ⟨pre, hall.symm, hx.out.2.2.1⟩ | exact hx.out.2.2.1 | (rw [hall]; exact hx.out.2.2.1)
      · have hall : digs s = pre := by rw [hx.out.1, HST.out, HD.out, if_neg h48, List.append_nil]
        gi_wp2
        go_end0
        refine ⟨⟨_, rfl⟩, .inl ?_⟩
        first | exact ⟨pre, hall.symm, hx.out.2.2.1⟩ | exact hx.out.2.2.1 | (rw [hall]; exact hx.out.2.2.1)
    · have hall : digs s = pre := by rw [hx.out.1, show s.size - pre.length = 0 by omega, digsFrom, List.append_nil]
      gi_wp2
      go_end0
      refine ⟨⟨_, rfl⟩, .inl ?_⟩
      first | exact ⟨pre, hall.symm, hx.out.2.2.1⟩ | exact hx.out.2.2.1 | (rw [hall]; exact hx.out.2.2.1)
/-- digits hands back the iterator; the string lies in a box of its own. -/
theorem digits_c (s : ByteArray) (w : World) : Calls Tryz.prog 115 #[.string s] w fun e w' => e = .returned (.func (.func 147) #[] #[.pointer (some ⟨w.heap.size, 0, none⟩)]) ∧ w' = w.alloc (.cells #[.string s] 9) := by
  have hmf : ∀ (fn : Fn) (first cap : Array Value) (w : World), (Instr.makeFunc fn first cap).run Tryz.prog w = .ok (.func fn first cap) w := fun _ _ _ _ => rfl
  go_enter Tryz.func115, Tryz.ntmps115
  go_wp2
  go_ret
  exact ⟨rfl, rfl⟩
theorem digits_stops (n : Nat) (hn : 1 ≤ n) (Bn : Nat) (s : ByteArray) (hs : s.size < 1000000000000) (w : World) (hBn : Bn < w.heap.size) (hb : w.cell? ⟨Bn, 0, none⟩ = some (.string s)) :
    SeqStopsK Fence.wide n Tryz.prog 147 #[.pointer (some ⟨Bn, 0, none⟩)] (fun x : Int => #[.int .i64 x]) (KB Bn) (fun xs => xs = digs s) (fun xs => xs <+: digs s) s.size w :=
  fun l J Jx W hW hJ hJx hY h0 => digits1_in n hn l Bn s hs J Jx hY W ((hW.cell (p := ⟨Bn, 0, none⟩) hBn).trans hb) h0
theorem KB_t {Bn : Nat} {A B C : World} (h : KB Bn A B) (k : KB Bn B C) : KB Bn A C := Eq.trans k h
theorem KB_b {Bn : Nat} {w : World} (hn : Bn < w.heap.size) (W : World) (l : Nat) (o o' : Obj) (hl : w.heap.size ≤ l) (h : W.heap[l]? = some o) (_ : o.isCells = false) (_ : o.isWalk = false) : KB Bn W (W.putObj l o') := World.putObj_heap_other (by omega)
end Go.Proofs.YteigbokklclmbaaGreatDoor.Z
end
section
namespace Go.Proofs.YteigbokklclmbaaGreatDoor.Z
open Go Go.RowKit Go.Proofs.YteigbokklclmbaaGreatDoor.Given Go.Proofs.YteigbokklclmbaaGreatDoorW.PrintWords Go.Proofs.YteigbokklclmbaaGreatDoorW.PrintLast Go.Proofs.YteigbokklclmbaaGreatDoorW.PrintMore
theorem catch_idle (p q : Addr) (w : World) :
    CallsD Tryz.prog 112 #[.pointer (some p), .pointer (some q)] .returning w fun e u' w' => e = .returned (.tuple #[]) ∧ u' = .returning ∧ w' = w := by
  refine callsD_of_wpS Tryz.func112 rfl fun c₀ cs hu => ?_
  apply wpS_seq
  apply wpS_region
  simp [wpOpsS, go_sem, recoverD, hu, Tryz.ntmps112, Exit.thenS]
  refine wpS_of_wp ?_
  change Code.wp _ _ _ { tmps := #[.pointer (some p), .pointer (some q), .nilIface, undef, undef, .nilIface, undef, undef, undef, undef, undef, undef, undef, undef, undef, undef, undef], defers := [] } _
  go_wp2
  cases c₀
  simp_all [bodyPostS, results, Tryz.results112]
theorem isOverflow (w : World) : Sem.run Tryz.prog (Instr.typeAssert (Value.iface 75 (Value.agg #[])) 20 75 true) w = .ok (.tuple #[.agg #[], .bool true]) w := by kernel_rfl
/-- What the deferred function does behind a panic: the result is laid. -/
def laidEnd (b c : Nat) (w : World) : World := (((w.setCell ⟨b, 0, none⟩ (.int .i64 0)).setCell ⟨b, 1, none⟩ (.int .i64 0)).setCell ⟨c, 0, none⟩ (.int .i64 3)).alloc (.cells #[] 75)
theorem catch_panicking (b c : Nat) (x0 x1 y0 : Value) (older : List PanicEntry) (w : World) (hb : w.heap[b]? = some (.cells #[x0, x1] 23 (0, 0))) (hc : w.heap[c]? = some (.cells #[y0] 24 (0, 0))) (hne : b ≠ c) :
    CallsD Tryz.prog 112 #[.pointer (some ⟨b, 0, none⟩), .pointer (some ⟨c, 0, none⟩)] (.panicking ({ v := .iface 75 (.agg #[]), recovered := false } :: older)) w fun e u' w' => e = .returned (.tuple #[]) ∧ u' = .panicking ({ v := .iface 75 (.agg #[]), recovered := true } :: older) ∧ w' = laidEnd b c w := by
  have h0 := blk_cell hb 0
  have h1 := blk_cell hb 1
  have h2 := blk_cell hc 0
  have g0 := blk_frozen hb 0
  have g1 := blk_frozen hb 1
  have g2 := blk_frozen hc 0
  have l0 := blk_lt hb
  have l1 := blk_lt hc
  simp at h0 h1 h2
  have hta := isOverflow
  clear hb hc
  refine callsD_of_wpS Tryz.func112 rfl fun c₀ cs hu => ?_
  apply wpS_seq
  apply wpS_region
  simp [wpOpsS, go_sem, recoverD, hu, Tryz.ntmps112, Exit.thenS]
  refine wpS_of_wp ?_
  change Code.wp _ _ _ { tmps := #[.pointer (some ⟨b, 0, none⟩), .pointer (some ⟨c, 0, none⟩), .iface 75 (.agg #[]), undef, undef, .iface 75 (.agg #[]), undef, undef, undef, undef, undef, undef, undef, undef, undef, undef, undef], defers := [] } _
  go_wp2
  exact ⟨rfl, _, rfl, .tuple #[], by simp [results, Tryz.results112], rfl, rfl, rfl⟩
theorem laid_cells {b c : Nat} {x0 x1 y0 : Value} {w : World} (hb : w.heap[b]? = some (.cells #[x0, x1] 23 (0, 0))) (hc : w.heap[c]? = some (.cells #[y0] 24 (0, 0))) (hne : b ≠ c) (u0 u1 v0 : Value) :
    (((w.setCell ⟨b, 0, none⟩ u0).setCell ⟨b, 1, none⟩ u1).setCell ⟨c, 0, none⟩ v0).heap[b]? = some (.cells #[u0, u1] 23 (0, 0)) ∧
    (((w.setCell ⟨b, 0, none⟩ u0).setCell ⟨b, 1, none⟩ u1).setCell ⟨c, 0, none⟩ v0).heap[c]? = some (.cells #[v0] 24 (0, 0)) := by
  refine ⟨?_, ?_⟩
  · rw [heap_setCell_other _ _ _ _ hne]
    have h1 := heap_setCell_same w b 0 _ _ u0 hb
    have h2 := heap_setCell_same (w.setCell ⟨b, 0, none⟩ u0) b 1 _ _ u1 h1
    exact h2
  · have h1 : ((w.setCell ⟨b, 0, none⟩ u0).setCell ⟨b, 1, none⟩ u1).heap[c]? = some (.cells #[y0] 24 (0, 0)) := by
      rw [heap_setCell_other _ _ _ _ (by exact fun e => hne e.symm), heap_setCell_other _ _ _ _ (by exact fun e => hne e.symm)]
      exact hc
    exact heap_setCell_same _ c 0 _ _ v0 h1
/-- How caught tells an end. -/
def caughtS (m x : Int) : Int × Int × Int := if x = 1000 then (0, 0, 3) else (m, x, 0)
theorem caught_c (g : FuncId) (caps : Array Value) (m x : Int) (w : World) (he : ∀ args (w : World), (callFunc g args).run Tryz.prog w = .ok (.enter g args) w)
    (hg : ∀ w1, Below w.heap.size w w1 → Calls Tryz.prog g caps w1 fun e w' => e = ending m x ∧ Below w1.heap.size w1 w') :
    Calls Tryz.prog 64 #[.func (.func g) #[] caps] w fun e w' => e = .returned (.tuple #[.agg #[.int .i64 (caughtS m x).1, .int .i64 (caughtS m x).2.1], .int .i64 (caughtS m x).2.2]) ∧ Below w.heap.size w w' := by
  have HG := Lib.hid hg
  have HE := Lib.hid he
  clear hg he
  have hmf : ∀ (fn : Fn) (first cap : Array Value) (w : World), (Instr.makeFunc fn first cap).run Tryz.prog w = .ok (.func fn first cap) w := fun _ _ _ _ => rfl
  by_cases hx : x = 1000
  · have e1 : ending m x = .panicked chain := by unfold ending; rw [if_pos hx]
    have e2 : caughtS m x = (0, 0, 3) := by unfold caughtS; rw [if_pos hx]
    rw [e2]
    go_enter_defers Tryz.func64, Tryz.ntmps64
    go_wp2_with fail
    rw [HE.out]
    go_wp2_with fail
    refine (HG.out _ (((Below.refl _ w).alloc (Nat.le_refl _) _).alloc (by simp) _)).mono ?_
    rintro e w3 ⟨rfl, hb⟩
    have hz : w3.heap[w.heap.size]? = some (.cells #[.int .i64 0, .int .i64 0] 23 (0, 0)) := blk_below (blk_alloc (blk_new _ _) _) hb
    have hy : w3.heap[w.heap.size + 1]? = some (.cells #[.int .i64 0] 24 (0, 0)) := by
      have h := blk_new (w.alloc (.cells #[.int .i64 0, .int .i64 0] 23)) (.cells #[.int .i64 0] 24)
      rw [World.size_alloc] at h
      exact blk_below h hb
    have hB : Below w.heap.size w w3 := (((Below.refl _ w).alloc (Nat.le_refl _) _).alloc (by simp) _).trans (hb.mono (by simp; omega))
    have hne : w.heap.size ≠ w.heap.size + 1 := by omega
    have HZ := Lib.hid hz
    have HY := Lib.hid hy
    clear hb
    rw [e1]
    clear hz hy
    refine leaves_cons (f := 112) (args := #[.pointer (some ⟨w.heap.size, 0, none⟩), .pointer (some ⟨w.heap.size + 1, 0, none⟩)]) (by simp) (by simp [go_sem]) ?_
    refine (catch_panicking w.heap.size (w.heap.size + 1) _ _ _ [] w3 HZ.out HY.out hne).mono ?_
    rintro e u' w'' ⟨rfl, rfl, rfl⟩
    obtain ⟨fz, fy⟩ := laid_cells HZ.out HY.out hne (.int .i64 0) (.int .i64 0) (.int .i64 3)
    have fz : (laidEnd w.heap.size (w.heap.size + 1) w3).heap[w.heap.size]? = _ := blk_alloc fz (.cells #[] 75)
    have fy : (laidEnd w.heap.size (w.heap.size + 1) w3).heap[w.heap.size + 1]? = _ := blk_alloc fy (.cells #[] 75)
    change ∃ v, (results Tryz.f64 _).run Tryz.prog (laidEnd w.heap.size (w.heap.size + 1) w3) = .ok v _ ∧ _
    refine ⟨_, ?_, rfl, (((hB.setCell (Nat.le_refl _) _).setCell (Nat.le_refl _) _).setCell (Nat.le_add_right _ 1) _).alloc (by simp [laidEnd]; exact Nat.le_of_lt (blk_lt HZ.out)) _⟩
    have h0 := blk_cell fz 0
    have h1 := blk_cell fz 1
    have h2 := blk_cell fy 0
    have l0 := blk_lt fz
    have l1 := blk_lt fy
    simp at h0 h1 h2
    simp [results, Tryz.results64, go_sem, h0, h1, h2]
  · have e1 : ending m x = .returned (.agg #[.int .i64 m, .int .i64 x]) := ending_at hx
    have e2 : caughtS m x = (m, x, 0) := by unfold caughtS; rw [if_neg hx]
    rw [e2]
    go_enter_defers Tryz.func64, Tryz.ntmps64
    go_wp2_with fail
    rw [HE.out]
    go_wp2_with fail
    refine (HG.out _ (((Below.refl _ w).alloc (Nat.le_refl _) _).alloc (by simp) _)).mono ?_
    rintro e w3 ⟨rfl, hb⟩
    have hz : w3.heap[w.heap.size]? = some (.cells #[.int .i64 0, .int .i64 0] 23 (0, 0)) := blk_below (blk_alloc (blk_new _ _) _) hb
    have hy : w3.heap[w.heap.size + 1]? = some (.cells #[.int .i64 0] 24 (0, 0)) := by
      have h := blk_new (w.alloc (.cells #[.int .i64 0, .int .i64 0] 23)) (.cells #[.int .i64 0] 24)
      rw [World.size_alloc] at h
      exact blk_below h hb
    have hB : Below w.heap.size w w3 := (((Below.refl _ w).alloc (Nat.le_refl _) _).alloc (by simp) _).trans (hb.mono (by simp; omega))
    have hne : w.heap.size ≠ w.heap.size + 1 := by omega
    have HZ := Lib.hid hz
    have HY := Lib.hid hy
    clear hb
    rw [e1]
    have h0 := blk_cell hz 0
    have h1 := blk_cell hz 1
    have h2 := blk_cell hy 0
    have g0 := blk_frozen hz 0
    have g1 := blk_frozen hz 1
    have g2 := blk_frozen hy 0
    have l0 := blk_lt hz
    have l1 := blk_lt hy
    simp at h0 h1 h2
    clear hz hy
    go_wp2
    obtain ⟨fz, fy⟩ := laid_cells HZ.out HY.out hne (.int .i64 m) (.int .i64 x) (.int .i64 0)
    refine leaves_cons (f := 112) (args := #[.pointer (some ⟨w.heap.size, 0, none⟩), .pointer (some ⟨w.heap.size + 1, 0, none⟩)]) (by simp) (by simp [go_sem]) ?_
    refine (catch_idle _ _ _).mono ?_
    rintro e u' w'' ⟨rfl, rfl, rfl⟩
    change ∃ v, (results Tryz.f64 _).run Tryz.prog _ = .ok v _ ∧ _
    refine ⟨_, ?_, rfl, ((hB.setCell (Nat.le_refl _) _).setCell (Nat.le_refl _) _).setCell (Nat.le_add_right _ 1) _⟩
    have h0 := blk_cell fz 0
    have h1 := blk_cell fz 1
    have h2 := blk_cell fy 0
    have l0 := blk_lt fz
    have l1 := blk_lt fy
    simp at h0 h1 h2
    simp [results, Tryz.results64, go_sem, h0, h1, h2]
/-- all's closure: not Valid. -/
theorem notValid_c (m e : Int) (b : Bool) (h : real_Valid.f m e = some b) (w : World) : Calls Tryz.prog 144 #[.agg #[.int .i64 m, .int .i64 e]] w fun en w' => en = .returned (.bool (!b)) ∧ Below w.heap.size w w' := by
  have H := Lib.hid h
  clear h
  go_enter Tryz.func144, Tryz.ntmps144
  go_wp2_with fail
  refine (real_Valid.calls m e b _ H.out).mono ?_
  rintro en w1 ⟨rfl, hb⟩
  have hB : Below w.heap.size w w1 := ((Below.refl _ w).alloc (Nat.le_refl _) _).trans (hb.mono (by simp))
  clear hb
  go_wp2
  go_ret
  exact ⟨rfl, hB⟩
theorem index2_c (b : Nat) (m0 e0 m1 e1 : Int) (t : TypeId) (v0 v1 : Bool) (h0 : real_Valid.f m0 e0 = some v0) (h1 : real_Valid.f m1 e1 = some v1) (w : World)
    (hb : w.heap[b]? = some (.cells #[.int .i64 m0, .int .i64 e0, .int .i64 m1, .int .i64 e1] t (0, 0))) :
    Calls Tryz.prog 163 #[.slice (some ⟨b, 0, none⟩) 2 2, .func (.func 144) #[] #[]] w fun en w' => en = .returned (.int .i64 (if v0 then (if v1 then -1 else 1) else 0)) ∧ Below w.heap.size w w' := by
  have H0 := Lib.hid h0
  have H1 := Lib.hid h1
  have HB := Lib.hid hb
  clear h0 h1 hb
  go_enter Tryz.func163, Tryz.ntmps163
  go_wp2
  go_loopg [5, 8] (3 : Nat) (fun kq v5 v8 wr => ∃ j : Nat, kq + j = 3 ∧ v8 = .int .i64 (j : Int) ∧ Below w.heap.size w wr ∧ (1 ≤ j → v0 = true) ∧ (2 ≤ j → v1 = true))
  case atStart => exact ⟨0, rfl, rfl, Below.refl _ w, by omega, by omega⟩
  case round =>
    obtain ⟨j, hj, rfl, hB, hv0, hv1⟩ := hrel
    have HB2 := Lib.hid hB
    have hbr := blk_below HB.out hB
    rcases (by omega : j = 0 ∨ j = 1 ∨ j = 2 ∨ j = 3) with h | h | h | h
    · subst h
      have c0 : wr.cell? ⟨b, 0, none⟩ = some (.int .i64 m0) := (blk_cell hbr 0).trans rfl
      have c1 : wr.cell? ⟨b, 1, none⟩ = some (.int .i64 e0) := (blk_cell hbr 1).trans rfl
      clear hB hbr hv0 hv1
      cases v0
      · go_wp2_with fail
        refine (notValid_c m0 e0 _ H0.out _).mono ?_
        rintro en w1 ⟨rfl, hb⟩
        have hB : Below w.heap.size w w1 := HB2.out.trans (hb.mono HB2.out.size)
        clear hb
        go_wp2
        go_ret
        exact ⟨rfl, hB⟩
      · go_wp2_with fail
        refine (notValid_c m0 e0 _ H0.out _).mono ?_
        rintro en w1 ⟨rfl, hb⟩
        have hB : Below w.heap.size w w1 := HB2.out.trans (hb.mono HB2.out.size)
        clear hb
        go_wp2
        go_roundg (gk - 1)
        case measure => omega
        case rel => exact ⟨1, by omega, rfl, hB, fun _ => trivial, by omega⟩
    · subst h
      have c0 : wr.cell? ⟨b, 2, none⟩ = some (.int .i64 m1) := (blk_cell hbr 2).trans rfl
      have c1 : wr.cell? ⟨b, 3, none⟩ = some (.int .i64 e1) := (blk_cell hbr 3).trans rfl
      have hv := hv0 (Nat.le_refl _)
      subst hv
      clear hB hbr hv0 hv1
      cases v1
      · go_wp2_with fail
        refine (notValid_c m1 e1 _ H1.out _).mono ?_
        rintro en w1 ⟨rfl, hb⟩
        have hB : Below w.heap.size w w1 := HB2.out.trans (hb.mono HB2.out.size)
        clear hb
        go_wp2
        go_ret
        exact ⟨rfl, hB⟩
      · go_wp2_with fail
        refine (notValid_c m1 e1 _ H1.out _).mono ?_
        rintro en w1 ⟨rfl, hb⟩
        have hB : Below w.heap.size w w1 := HB2.out.trans (hb.mono HB2.out.size)
        clear hb
        go_wp2
        go_roundg (gk - 1)
        case measure => omega
        case rel => exact ⟨2, by omega, rfl, hB, fun _ => trivial, fun _ => trivial⟩
    · subst h
      have hva := hv0 (by omega)
      have hvb := hv1 (by omega)
      subst hva hvb
      clear hbr hv0 hv1
      go_wp2
      go_ret
      exact ⟨rfl, hB⟩
    · subst h
      have hva := hv0 (by omega)
      have hvb := hv1 (by omega)
      subst hva hvb
      clear hbr hv0 hv1
      go_wp2
      go_ret
      exact ⟨rfl, hB⟩
theorem contains2_c (b : Nat) (m0 e0 m1 e1 : Int) (t : TypeId) (v0 v1 : Bool) (h0 : real_Valid.f m0 e0 = some v0) (h1 : real_Valid.f m1 e1 = some v1) (w : World)
    (hb : w.heap[b]? = some (.cells #[.int .i64 m0, .int .i64 e0, .int .i64 m1, .int .i64 e1] t (0, 0))) :
    Calls Tryz.prog 143 #[.slice (some ⟨b, 0, none⟩) 2 2, .func (.func 144) #[] #[]] w fun en w' => en = .returned (.bool (!(v0 && v1))) ∧ Below w.heap.size w w' := by
  have H := Lib.hid (index2_c b m0 e0 m1 e1 t v0 v1 h0 h1 w hb)
  clear h0 h1 hb
  go_enter Tryz.func143, Tryz.ntmps143
  go_wp2_with fail
  refine H.out.mono ?_
  rintro en w1 ⟨rfl, hB⟩
  clear H
  rcases v0 with _ | _ <;> rcases v1 with _ | _ <;> (go_wp2; go_ret; exact ⟨rfl, hB⟩)
theorem all2_c (b : Nat) (m0 e0 m1 e1 : Int) (t : TypeId) (v0 v1 : Bool) (h0 : real_Valid.f m0 e0 = some v0) (h1 : real_Valid.f m1 e1 = some v1) (w : World)
    (hb : w.heap[b]? = some (.cells #[.int .i64 m0, .int .i64 e0, .int .i64 m1, .int .i64 e1] t (0, 0))) :
    Calls Tryz.prog 99 #[.slice (some ⟨b, 0, none⟩) 2 2] w fun en w' => en = .returned (.bool (v0 && v1)) ∧ Below w.heap.size w w' := by
  have H := Lib.hid (contains2_c b m0 e0 m1 e1 t v0 v1 h0 h1 w hb)
  clear h0 h1 hb
  go_enter Tryz.func99, Tryz.ntmps99
  go_wp2_with fail
  refine H.out.mono ?_
  rintro en w1 ⟨rfl, hB⟩
  clear H
  rcases v0 with _ | _ <;> rcases v1 with _ | _ <;> (go_wp2; go_ret; exact ⟨rfl, hB⟩)
/-- What an operation of two reals is: each end is coded, behind it no old cell is changed. -/
def OpC (g : FuncId) (x0 x1 y0 y1 m x : Int) : Prop := ∀ w : World, Calls Tryz.prog g #[.agg #[.int .i64 x0, .int .i64 x1], .agg #[.int .i64 y0, .int .i64 y1]] w fun e w' => e = ending m x ∧ Below w.heap.size w w'
def binS (v0 v1 : Bool) (m x : Int) : Int × Int × Int := if (v0 && v1) = true then caughtS m x else (0, 0, 1)
theorem binary1_c (g : FuncId) (x0 x1 y0 y1 m x : Int) (hg : OpC g x0 x1 y0 y1 m x) (b c d : Nat) (w : World) (he : ∀ args (w : World), (callFunc g args).run Tryz.prog w = .ok (.enter g args) w)
    (hb : w.heap[b]? = some (.cells #[.int .i64 x0, .int .i64 x1] 23 (0, 0))) (hc : w.heap[c]? = some (.cells #[.int .i64 y0, .int .i64 y1] 23 (0, 0))) (hd : w.heap[d]? = some (.cells #[.func (.func g) #[] #[]] 76 (0, 0))) :
    Calls Tryz.prog 140 #[.pointer (some ⟨d, 0, none⟩), .pointer (some ⟨b, 0, none⟩), .pointer (some ⟨c, 0, none⟩)] w fun e w' => e = ending m x ∧ Below w.heap.size w w' := by
  have HG := Lib.hid hg
  have HE := Lib.hid he
  have b0 : w.cell? ⟨b, 0, none⟩ = some (.int .i64 x0) := (blk_cell hb 0).trans rfl
  have b1 : w.cell? ⟨b, 1, none⟩ = some (.int .i64 x1) := (blk_cell hb 1).trans rfl
  have c0 : w.cell? ⟨c, 0, none⟩ = some (.int .i64 y0) := (blk_cell hc 0).trans rfl
  have c1 : w.cell? ⟨c, 1, none⟩ = some (.int .i64 y1) := (blk_cell hc 1).trans rfl
  have d0 : w.cell? ⟨d, 0, none⟩ = some (.func (.func g) #[] #[]) := (blk_cell hd 0).trans rfl
  have lb := blk_lt hb
  have lc := blk_lt hc
  have ld := blk_lt hd
  clear hg he hb hc hd
  by_cases hx : x = 1000
  · have e1 : ending m x = .panicked chain := by unfold ending; rw [if_pos hx]
    go_enter Tryz.func140, Tryz.ntmps140
    go_wp2_with fail
    rw [HE.out]
    go_wp2_with fail
    refine (HG.out _).mono ?_
    rintro e w3 ⟨rfl, hb⟩
    have hB : Below w.heap.size w w3 := ((Below.refl _ w).alloc (Nat.le_refl _) _).trans (hb.mono (by simp))
    rw [e1]
    exact ⟨rfl, by rw [e1], hB⟩
  · have e1 : ending m x = .returned (.agg #[.int .i64 m, .int .i64 x]) := ending_at hx
    rw [e1]
    go_enter Tryz.func140, Tryz.ntmps140
    go_wp2_with fail
    rw [HE.out]
    go_wp2_with fail
    refine (HG.out _).mono ?_
    rintro e w3 ⟨rfl, hb⟩
    have hB : Below w.heap.size w w3 := ((Below.refl _ w).alloc (Nat.le_refl _) _).trans (hb.mono (by simp))
    have hz : w3.heap[w.heap.size]? = some (.cells #[.int .i64 0, .int .i64 0] 23 (0, 0)) := blk_below (blk_new _ _) hb
    have z0 : w3.cell? ⟨w.heap.size, 0, none⟩ = some (.int .i64 0) := (blk_cell hz 0).trans rfl
    have z1 : w3.cell? ⟨w.heap.size, 1, none⟩ = some (.int .i64 0) := (blk_cell hz 1).trans rfl
    have f0 := blk_frozen hz 0
    have f1 := blk_frozen hz 1
    have lz := blk_lt hz
    clear hb
    rw [e1]
    go_wp2
    have fz : (((w3.setCell ⟨w.heap.size, 0, none⟩ (.int .i64 m)).setCell ⟨w.heap.size, 1, none⟩ (.int .i64 x))).heap[w.heap.size]? = some (.cells #[.int .i64 m, .int .i64 x] 23 (0, 0)) := heap_setCell_same (w3.setCell ⟨w.heap.size, 0, none⟩ (.int .i64 m)) w.heap.size 1 _ _ (.int .i64 x) (heap_setCell_same w3 w.heap.size 0 _ _ (.int .i64 m) hz)
    refine bodyPost_ret (results_cell_row rfl _ _ w.heap.size 23 #[.int .i64 m, .int .i64 x] (0, 0) _ rfl fz Tryz.underlying23 rfl (by kernel_rfl)) rfl ?_
    exact ⟨rfl, (hB.setCell (Nat.le_refl _) _).setCell (Nat.le_refl _) _⟩
theorem new_at (w : World) (o : Obj) (n : Nat) (h : n = w.heap.size) : (w.alloc o).heap[n]? = some o := by subst h; exact blk_new w o
theorem caught_t (g : FuncId) (caps : Array Value) (m x t0 t1 t2 : Int) (ht : caughtS m x = (t0, t1, t2)) (w : World) (he : ∀ args (w : World), (callFunc g args).run Tryz.prog w = .ok (.enter g args) w)
    (hg : ∀ w1, Below w.heap.size w w1 → Calls Tryz.prog g caps w1 fun e w' => e = ending m x ∧ Below w1.heap.size w1 w') :
    Calls Tryz.prog 64 #[.func (.func g) #[] caps] w fun e w' => e = .returned (.tuple #[.agg #[.int .i64 t0, .int .i64 t1], .int .i64 t2]) ∧ Below w.heap.size w w' := by
  have h := caught_c g caps m x w he hg
  rw [ht] at h
  exact h
theorem binary_c (g : FuncId) (x0 x1 y0 y1 m x : Int) (v0 v1 : Bool) (h0 : real_Valid.f x0 x1 = some v0) (h1 : real_Valid.f y0 y1 = some v1) (hg : (v0 && v1) = true → OpC g x0 x1 y0 y1 m x) (w : World) (he : ∀ args (w : World), (callFunc g args).run Tryz.prog w = .ok (.enter g args) w) :
    Calls Tryz.prog 95 #[.agg #[.int .i64 x0, .int .i64 x1], .agg #[.int .i64 y0, .int .i64 y1], .func (.func g) #[] #[]] w fun e w' => e = .returned (.tuple #[.agg #[.int .i64 (binS v0 v1 m x).1, .int .i64 (binS v0 v1 m x).2.1], .int .i64 (binS v0 v1 m x).2.2]) ∧ Below w.heap.size w w' := by
  have HG := Lib.hid hg
  have HE := Lib.hid he
  have H0 := Lib.hid h0
  have H1 := Lib.hid h1
  clear h0 h1 hg he
  by_cases hv : (v0 && v1) = true
  · have e2 : binS v0 v1 m x = caughtS m x := by unfold binS; rw [if_pos hv]
    rw [e2]
    clear e2
    rcases hcs : caughtS m x with ⟨t0, t1, t2⟩
    go_enter Tryz.func95, Tryz.ntmps95
    go_wp2_with fail
    refine (all2_c _ x0 x1 y0 y1 23 v0 v1 H0.out H1.out _ (new_at _ _ _ (by simp only [World.size_alloc]))).mono ?_
    rintro e w1 ⟨rfl, hb⟩
    rw [hv]
    have kz : w1.heap[w.heap.size + 1 + 1 + 1]? = some (.cells #[.int .i64 0, .int .i64 0] 23 (0, 0)) := blk_below (blk_alloc (new_at _ _ _ (by simp only [World.size_alloc])) _) hb
    have kg : w1.heap[w.heap.size + 1 + 1]? = some (.cells #[.func (.func g) #[] #[]] 76 (0, 0)) := blk_below (blk_alloc (blk_alloc (new_at _ _ _ (by simp only [World.size_alloc])) _) _) hb
    have ky : w1.heap[w.heap.size + 1]? = some (.cells #[.int .i64 y0, .int .i64 y1] 23 (0, 0)) := blk_below (blk_alloc (blk_alloc (blk_alloc (new_at _ _ _ (by simp only [World.size_alloc])) _) _) _) hb
    have kx : w1.heap[w.heap.size]? = some (.cells #[.int .i64 x0, .int .i64 x1] 23 (0, 0)) := blk_below (blk_alloc (blk_alloc (blk_alloc (blk_alloc (new_at _ _ _ rfl) _) _) _) _) hb
    have hB : Below w.heap.size w w1 := ((((((Below.refl _ w).alloc (Nat.le_refl _) _).alloc (by simp only [World.size_alloc]; omega) _).alloc (by simp only [World.size_alloc]; omega) _).alloc (by simp only [World.size_alloc]; omega) _).alloc (by simp only [World.size_alloc]; omega) _).trans (hb.mono (by simp only [World.size_alloc]; omega))
    have hmf : ∀ (fn : Fn) (first cap : Array Value) (w : World), (Instr.makeFunc fn first cap).run Tryz.prog w = .ok (.func fn first cap) w := fun _ _ _ _ => rfl
    have KX := Lib.hid kx
    have KY := Lib.hid ky
    have KG := Lib.hid kg
    have KZ := Lib.hid kz
    have HB := Lib.hid hB
    clear hb kx ky kg kz hB
    go_wp2_with fail
    refine (caught_t 140 _ m x t0 t1 t2 hcs w1 (fun args w => enters_ Tryz.func140 (by kernel_rfl) rfl args w) (fun w2 h2 => binary1_c g x0 x1 y0 y1 m x (HG.out hv) _ _ _ w2 HE.out (blk_below KX.out h2) (blk_below KY.out h2) (blk_below KG.out h2))).mono ?_
    rintro e w3 ⟨rfl, hb⟩
    have hz : w3.heap[w.heap.size + 1 + 1 + 1]? = some (.cells #[.int .i64 0, .int .i64 0] 23 (0, 0)) := blk_below KZ.out hb
    have hB : Below w.heap.size w w3 := HB.out.trans (hb.mono HB.out.size)
    have z0 : w3.cell? ⟨w.heap.size + 1 + 1 + 1, 0, none⟩ = some (.int .i64 0) := (blk_cell hz 0).trans rfl
    have z1 : w3.cell? ⟨w.heap.size + 1 + 1 + 1, 1, none⟩ = some (.int .i64 0) := (blk_cell hz 1).trans rfl
    have f0 := blk_frozen hz 0
    have f1 := blk_frozen hz 1
    have lz := blk_lt hz
    clear hb
    go_wp2
    have fz := heap_setCell_same (w3.setCell ⟨w.heap.size + 1 + 1 + 1, 0, none⟩ (.int .i64 t0)) (w.heap.size + 1 + 1 + 1) 1 _ _ (.int .i64 t1) (heap_setCell_same w3 (w.heap.size + 1 + 1 + 1) 0 _ _ (.int .i64 t0) hz)
    refine bodyPost_ret (results_ct rfl _ _ (w.heap.size + 1 + 1 + 1) 23 #[.int .i64 t0, .int .i64 t1] (0, 0) _ rfl fz Tryz.underlying23 rfl (by kernel_rfl)) rfl ?_
    exact ⟨rfl, (hB.setCell (by simp only; omega) _).setCell (by simp only; omega) _⟩
  · have e2 : binS v0 v1 m x = (0, 0, 1) := by unfold binS; rw [if_neg hv]
    rw [e2]
    replace hv : (v0 && v1) = false := by simpa using hv
    go_enter Tryz.func95, Tryz.ntmps95
    go_wp2_with fail
    refine (all2_c _ x0 x1 y0 y1 23 v0 v1 H0.out H1.out _ (new_at _ _ _ (by simp only [World.size_alloc]))).mono ?_
    rintro e w1 ⟨rfl, hb⟩
    rw [hv]
    have kz : w1.heap[w.heap.size + 1 + 1 + 1]? = some (.cells #[.int .i64 0, .int .i64 0] 23 (0, 0)) := blk_below (blk_alloc (new_at _ _ _ (by simp only [World.size_alloc])) _) hb
    have kg : w1.heap[w.heap.size + 1 + 1]? = some (.cells #[.func (.func g) #[] #[]] 76 (0, 0)) := blk_below (blk_alloc (blk_alloc (new_at _ _ _ (by simp only [World.size_alloc])) _) _) hb
    have ky : w1.heap[w.heap.size + 1]? = some (.cells #[.int .i64 y0, .int .i64 y1] 23 (0, 0)) := blk_below (blk_alloc (blk_alloc (blk_alloc (new_at _ _ _ (by simp only [World.size_alloc])) _) _) _) hb
    have kx : w1.heap[w.heap.size]? = some (.cells #[.int .i64 x0, .int .i64 x1] 23 (0, 0)) := blk_below (blk_alloc (blk_alloc (blk_alloc (blk_alloc (new_at _ _ _ rfl) _) _) _) _) hb
    have hB : Below w.heap.size w w1 := ((((((Below.refl _ w).alloc (Nat.le_refl _) _).alloc (by simp only [World.size_alloc]; omega) _).alloc (by simp only [World.size_alloc]; omega) _).alloc (by simp only [World.size_alloc]; omega) _).alloc (by simp only [World.size_alloc]; omega) _).trans (hb.mono (by simp only [World.size_alloc]; omega))
    have z0 : w1.cell? ⟨w.heap.size + 1 + 1 + 1, 0, none⟩ = some (.int .i64 0) := (blk_cell kz 0).trans rfl
    have z1 : w1.cell? ⟨w.heap.size + 1 + 1 + 1, 1, none⟩ = some (.int .i64 0) := (blk_cell kz 1).trans rfl
    have f0 := blk_frozen kz 0
    have f1 := blk_frozen kz 1
    have lz := blk_lt kz
    clear hb kx ky kg
    go_wp2
    have fz := heap_setCell_same (w1.setCell ⟨w.heap.size + 1 + 1 + 1, 0, none⟩ (.int .i64 0)) (w.heap.size + 1 + 1 + 1) 1 _ _ (.int .i64 0) (heap_setCell_same w1 (w.heap.size + 1 + 1 + 1) 0 _ _ (.int .i64 0) kz)
    refine bodyPost_ret (results_ct rfl _ _ (w.heap.size + 1 + 1 + 1) 23 #[.int .i64 0, .int .i64 0] (0, 0) _ rfl fz Tryz.underlying23 rfl (by kernel_rfl)) rfl ?_
    exact ⟨rfl, (hB.setCell (by simp only; omega) _).setCell (by simp only; omega) _⟩
theorem sum_op (k : Nat) (x0 x1 y0 y1 m x : Int) (h : real_sum.f k x0 x1 y0 y1 = some (m, x)) : OpC 100 x0 x1 y0 y1 m x := fun w => real_sum.calls k x0 x1 y0 y1 m x w h
theorem product_op (k : Nat) (x0 x1 y0 y1 m x : Int) (h : real_product.f k x0 x1 y0 y1 = some (m, x)) : OpC 96 x0 x1 y0 y1 m x := fun w => real_product.calls k x0 x1 y0 y1 m x w h
theorem quotient_op (k : Nat) (x0 x1 y0 y1 m x : Int) (h : real_quotient.f k x0 x1 y0 y1 = some (m, x)) : OpC 68 x0 x1 y0 y1 m x := fun w => real_quotient.calls k x0 x1 y0 y1 m x w h
theorem binary_t (g : FuncId) (x0 x1 y0 y1 m x : Int) (v0 v1 : Bool) (h0 : real_Valid.f x0 x1 = some v0) (h1 : real_Valid.f y0 y1 = some v1) (hg : (v0 && v1) = true → OpC g x0 x1 y0 y1 m x) (w : World) (he : ∀ args (w : World), (callFunc g args).run Tryz.prog w = .ok (.enter g args) w) (t0 t1 t2 : Int) (ht : binS v0 v1 m x = (t0, t1, t2)) :
    Calls Tryz.prog 95 #[.agg #[.int .i64 x0, .int .i64 x1], .agg #[.int .i64 y0, .int .i64 y1], .func (.func g) #[] #[]] w fun e w' => e = .returned (.tuple #[.agg #[.int .i64 t0, .int .i64 t1], .int .i64 t2]) ∧ Below w.heap.size w w' := by
  have h := binary_c g x0 x1 y0 y1 m x v0 v1 h0 h1 hg w he
  rw [ht] at h
  exact h
def real_Add.f (k : Nat) (x0 x1 y0 y1 : Int) : Option (Int × Int × Int) := (real_Valid.f x0 x1).bind fun v0 => (real_Valid.f y0 y1).bind fun v1 => if (v0 && v1) = true then (real_sum.f k x0 x1 y0 y1).bind fun r => some (caughtS r.1 r.2) else some (0, 0, 1)
theorem real_Add.calls (k : Nat) (a0_0 a0_1 a1_0 a1_1 r1 r2 r3 : Int) (w : World) (h : real_Add.f k a0_0 a0_1 a1_0 a1_1 = some (r1, r2, r3)) :
    Calls Tryz.prog 33 #[.agg #[.int .i64 a0_0, .int .i64 a0_1], .agg #[.int .i64 a1_0, .int .i64 a1_1]] w fun e w' => e = .returned (.tuple #[.agg #[.int .i64 r1, .int .i64 r2], .int .i64 r3]) ∧ Below w.heap.size w w' := by
  obtain ⟨v0, h0, h⟩ := Option.bind_eq_some_iff.mp h
  obtain ⟨v1, h1, h⟩ := Option.bind_eq_some_iff.mp h
  have HB : Hid (∀ w : World, Calls Tryz.prog 95 #[.agg #[.int .i64 a0_0, .int .i64 a0_1], .agg #[.int .i64 a1_0, .int .i64 a1_1], .func (.func 100) #[] #[]] w fun e w' => e = .returned (.tuple #[.agg #[.int .i64 r1, .int .i64 r2], .int .i64 r3]) ∧ Below w.heap.size w w') := by
    refine Lib.hid (fun w => ?_)
    by_cases hv : (v0 && v1) = true
    · rw [if_pos hv] at h
      obtain ⟨⟨m, x⟩, hm, h⟩ := Option.bind_eq_some_iff.mp h
      refine binary_t 100 a0_0 a0_1 a1_0 a1_1 m x v0 v1 h0 h1 (fun _ => sum_op k _ _ _ _ _ _ hm) w (fun args w => enters_ Tryz.func100 (by kernel_rfl) rfl args w) r1 r2 r3 ?_
      unfold binS; rw [if_pos hv]; exact Option.some.inj h
    · rw [if_neg hv] at h
      refine binary_t 100 a0_0 a0_1 a1_0 a1_1 0 0 v0 v1 h0 h1 (fun h => absurd h hv) w (fun args w => enters_ Tryz.func100 (by kernel_rfl) rfl args w) r1 r2 r3 ?_
      unfold binS; rw [if_neg hv]; exact Option.some.inj h
  clear h h0 h1
  go_enter Tryz.func33, Tryz.ntmps33
  go_wp2_with fail
  refine (HB.out _).mono ?_
  rintro e w1 ⟨rfl, hb⟩
  have hz : w1.heap[w.heap.size + 1 + 1]? = some (.cells #[.int .i64 0, .int .i64 0] 23 (0, 0)) := blk_below (new_at _ _ _ (by simp only [World.size_alloc])) hb
  have hB : Below w.heap.size w w1 := ((((Below.refl _ w).alloc (Nat.le_refl _) _).alloc (by simp only [World.size_alloc]; omega) _).alloc (by simp only [World.size_alloc]; omega) _).trans (hb.mono (by simp only [World.size_alloc]; omega))
  have z0 : w1.cell? ⟨w.heap.size + 1 + 1, 0, none⟩ = some (.int .i64 0) := (blk_cell hz 0).trans rfl
  have z1 : w1.cell? ⟨w.heap.size + 1 + 1, 1, none⟩ = some (.int .i64 0) := (blk_cell hz 1).trans rfl
  have f0 := blk_frozen hz 0
  have f1 := blk_frozen hz 1
  have lz := blk_lt hz
  clear hb
  go_wp2
  have fz := heap_setCell_same (w1.setCell ⟨w.heap.size + 1 + 1, 0, none⟩ (.int .i64 r1)) (w.heap.size + 1 + 1) 1 _ _ (.int .i64 r2) (heap_setCell_same w1 (w.heap.size + 1 + 1) 0 _ _ (.int .i64 r1) hz)
  refine bodyPost_ret (results_ct rfl _ _ (w.heap.size + 1 + 1) 23 #[.int .i64 r1, .int .i64 r2] (0, 0) _ rfl fz Tryz.underlying23 rfl (by kernel_rfl)) rfl ?_
  exact ⟨rfl, (hB.setCell (by simp only; omega) _).setCell (by simp only; omega) _⟩
def real_Mul.f (k : Nat) (x0 x1 y0 y1 : Int) : Option (Int × Int × Int) := (real_Valid.f x0 x1).bind fun v0 => (real_Valid.f y0 y1).bind fun v1 => if (v0 && v1) = true then (real_product.f k x0 x1 y0 y1).bind fun r => some (caughtS r.1 r.2) else some (0, 0, 1)
theorem real_Mul.calls (k : Nat) (a0_0 a0_1 a1_0 a1_1 r1 r2 r3 : Int) (w : World) (h : real_Mul.f k a0_0 a0_1 a1_0 a1_1 = some (r1, r2, r3)) :
    Calls Tryz.prog 30 #[.agg #[.int .i64 a0_0, .int .i64 a0_1], .agg #[.int .i64 a1_0, .int .i64 a1_1]] w fun e w' => e = .returned (.tuple #[.agg #[.int .i64 r1, .int .i64 r2], .int .i64 r3]) ∧ Below w.heap.size w w' := by
  obtain ⟨v0, h0, h⟩ := Option.bind_eq_some_iff.mp h
  obtain ⟨v1, h1, h⟩ := Option.bind_eq_some_iff.mp h
  have HB : Hid (∀ w : World, Calls Tryz.prog 95 #[.agg #[.int .i64 a0_0, .int .i64 a0_1], .agg #[.int .i64 a1_0, .int .i64 a1_1], .func (.func 96) #[] #[]] w fun e w' => e = .returned (.tuple #[.agg #[.int .i64 r1, .int .i64 r2], .int .i64 r3]) ∧ Below w.heap.size w w') := by
    refine Lib.hid (fun w => ?_)
    by_cases hv : (v0 && v1) = true
    · rw [if_pos hv] at h
      obtain ⟨⟨m, x⟩, hm, h⟩ := Option.bind_eq_some_iff.mp h
      refine binary_t 96 a0_0 a0_1 a1_0 a1_1 m x v0 v1 h0 h1 (fun _ => product_op k _ _ _ _ _ _ hm) w (fun args w => enters_ Tryz.func96 (by kernel_rfl) rfl args w) r1 r2 r3 ?_
      unfold binS; rw [if_pos hv]; exact Option.some.inj h
    · rw [if_neg hv] at h
      refine binary_t 96 a0_0 a0_1 a1_0 a1_1 0 0 v0 v1 h0 h1 (fun h => absurd h hv) w (fun args w => enters_ Tryz.func96 (by kernel_rfl) rfl args w) r1 r2 r3 ?_
      unfold binS; rw [if_neg hv]; exact Option.some.inj h
  clear h h0 h1
  go_enter Tryz.func30, Tryz.ntmps30
  go_wp2_with fail
  refine (HB.out _).mono ?_
  rintro e w1 ⟨rfl, hb⟩
  have hz : w1.heap[w.heap.size + 1 + 1]? = some (.cells #[.int .i64 0, .int .i64 0] 23 (0, 0)) := blk_below (new_at _ _ _ (by simp only [World.size_alloc])) hb
  have hB : Below w.heap.size w w1 := ((((Below.refl _ w).alloc (Nat.le_refl _) _).alloc (by simp only [World.size_alloc]; omega) _).alloc (by simp only [World.size_alloc]; omega) _).trans (hb.mono (by simp only [World.size_alloc]; omega))
  have z0 : w1.cell? ⟨w.heap.size + 1 + 1, 0, none⟩ = some (.int .i64 0) := (blk_cell hz 0).trans rfl
  have z1 : w1.cell? ⟨w.heap.size + 1 + 1, 1, none⟩ = some (.int .i64 0) := (blk_cell hz 1).trans rfl
  have f0 := blk_frozen hz 0
  have f1 := blk_frozen hz 1
  have lz := blk_lt hz
  clear hb
  go_wp2
  have fz := heap_setCell_same (w1.setCell ⟨w.heap.size + 1 + 1, 0, none⟩ (.int .i64 r1)) (w.heap.size + 1 + 1) 1 _ _ (.int .i64 r2) (heap_setCell_same w1 (w.heap.size + 1 + 1) 0 _ _ (.int .i64 r1) hz)
  refine bodyPost_ret (results_ct rfl _ _ (w.heap.size + 1 + 1) 23 #[.int .i64 r1, .int .i64 r2] (0, 0) _ rfl fz Tryz.underlying23 rfl (by kernel_rfl)) rfl ?_
  exact ⟨rfl, (hB.setCell (by simp only; omega) _).setCell (by simp only; omega) _⟩
def real_Div.f (k : Nat) (x0 x1 y0 y1 : Int) : Option (Int × Int × Int) := (real_Valid.f x0 x1).bind fun v0 => (real_Valid.f y0 y1).bind fun v1 => if (v0 && v1) = true then if y0 = 0 then some (0, 0, 5) else (real_quotient.f k x0 x1 y0 y1).bind fun r => some (caughtS r.1 r.2) else some (0, 0, 1)
theorem real_Div.calls (k : Nat) (a0_0 a0_1 a1_0 a1_1 r1 r2 r3 : Int) (w : World) (h : real_Div.f k a0_0 a0_1 a1_0 a1_1 = some (r1, r2, r3)) :
    Calls Tryz.prog 32 #[.agg #[.int .i64 a0_0, .int .i64 a0_1], .agg #[.int .i64 a1_0, .int .i64 a1_1]] w fun e w' => e = .returned (.tuple #[.agg #[.int .i64 r1, .int .i64 r2], .int .i64 r3]) ∧ Below w.heap.size w w' := by
  obtain ⟨v0, h0, h⟩ := Option.bind_eq_some_iff.mp h
  obtain ⟨v1, h1, h⟩ := Option.bind_eq_some_iff.mp h
  have H0 := Lib.hid h0
  have H1 := Lib.hid h1
  by_cases hv : (v0 && v1) = true
  · by_cases hy : a1_0 = 0
    · rw [if_pos hv, if_pos hy] at h
      simp only [Option.some.injEq, Prod.mk.injEq] at h
      obtain ⟨rfl, rfl, rfl⟩ := h
      subst hy
      clear h0 h1
      go_enter Tryz.func32, Tryz.ntmps32
      go_wp2_with fail
      refine (all2_c _ a0_0 a0_1 0 a1_1 23 v0 v1 H0.out H1.out _ (new_at _ _ _ (by simp only [World.size_alloc]))).mono ?_
      rintro e w1 ⟨rfl, hb⟩
      have hz : w1.heap[w.heap.size + 1 + 1]? = some (.cells #[.int .i64 0, .int .i64 0] 23 (0, 0)) := blk_below (blk_alloc (new_at _ _ _ (by simp only [World.size_alloc])) _) hb
      have kx : w1.heap[w.heap.size]? = some (.cells #[.int .i64 a0_0, .int .i64 a0_1] 23 (0, 0)) := blk_below (blk_alloc (blk_alloc (blk_alloc (new_at _ _ _ rfl) _) _) _) hb
      have ky : w1.heap[w.heap.size + 1]? = some (.cells #[.int .i64 0, .int .i64 a1_1] 23 (0, 0)) := blk_below (blk_alloc (blk_alloc (new_at _ _ _ (by simp only [World.size_alloc])) _) _) hb
      have hB : Below w.heap.size w w1 := (((((Below.refl _ w).alloc (Nat.le_refl _) _).alloc (by simp only [World.size_alloc]; omega) _).alloc (by simp only [World.size_alloc]; omega) _).alloc (by simp only [World.size_alloc]; omega) _).trans (hb.mono (by simp only [World.size_alloc]; omega))
      rw [hv]
      have x0 : w1.cell? ⟨w.heap.size, 0, none⟩ = some (.int .i64 a0_0) := (blk_cell kx 0).trans rfl
      have x1 : w1.cell? ⟨w.heap.size, 1, none⟩ = some (.int .i64 a0_1) := (blk_cell kx 1).trans rfl
      have y0 : w1.cell? ⟨w.heap.size + 1, 0, none⟩ = some (.int .i64 0) := (blk_cell ky 0).trans rfl
      have y1 : w1.cell? ⟨w.heap.size + 1, 1, none⟩ = some (.int .i64 a1_1) := (blk_cell ky 1).trans rfl
      have lx := blk_lt kx
      have ly := blk_lt ky
      have z0 : w1.cell? ⟨w.heap.size + 1 + 1, 0, none⟩ = some (.int .i64 0) := (blk_cell hz 0).trans rfl
      have z1 : w1.cell? ⟨w.heap.size + 1 + 1, 1, none⟩ = some (.int .i64 0) := (blk_cell hz 1).trans rfl
      have f0 := blk_frozen hz 0
      have f1 := blk_frozen hz 1
      have lz := blk_lt hz
      clear hb
      go_wp2
      have fz := heap_setCell_same (w1.setCell ⟨w.heap.size + 1 + 1, 0, none⟩ (.int .i64 0)) (w.heap.size + 1 + 1) 1 _ _ (.int .i64 0) (heap_setCell_same w1 (w.heap.size + 1 + 1) 0 _ _ (.int .i64 0) hz)
      refine bodyPost_ret (results_ct rfl _ _ (w.heap.size + 1 + 1) 23 #[.int .i64 0, .int .i64 0] (0, 0) _ rfl fz Tryz.underlying23 rfl (by kernel_rfl)) rfl ?_
      exact ⟨rfl, (hB.setCell (by simp only; omega) _).setCell (by simp only; omega) _⟩
    · have HY := Lib.hid hy
      have HB : Hid (∀ w : World, Calls Tryz.prog 95 #[.agg #[.int .i64 a0_0, .int .i64 a0_1], .agg #[.int .i64 a1_0, .int .i64 a1_1], .func (.func 68) #[] #[]] w fun e w' => e = .returned (.tuple #[.agg #[.int .i64 r1, .int .i64 r2], .int .i64 r3]) ∧ Below w.heap.size w w') := by
        refine Lib.hid (fun w => ?_)
        rw [if_pos hv] at h
        rw [if_neg hy] at h
        obtain ⟨⟨m, x⟩, hm, h⟩ := Option.bind_eq_some_iff.mp h
        refine binary_t 68 a0_0 a0_1 a1_0 a1_1 m x v0 v1 h0 h1 (fun _ => quotient_op k _ _ _ _ _ _ hm) w (fun args w => enters_ Tryz.func68 (by kernel_rfl) rfl args w) r1 r2 r3 ?_
        unfold binS; rw [if_pos hv]; exact Option.some.inj h
      clear h
      clear h0 h1
      go_enter Tryz.func32, Tryz.ntmps32
      go_wp2_with fail
      refine (all2_c _ a0_0 a0_1 a1_0 a1_1 23 v0 v1 H0.out H1.out _ (new_at _ _ _ (by simp only [World.size_alloc]))).mono ?_
      rintro e w1 ⟨rfl, hb⟩
      have hz : w1.heap[w.heap.size + 1 + 1]? = some (.cells #[.int .i64 0, .int .i64 0] 23 (0, 0)) := blk_below (blk_alloc (new_at _ _ _ (by simp only [World.size_alloc])) _) hb
      have kx : w1.heap[w.heap.size]? = some (.cells #[.int .i64 a0_0, .int .i64 a0_1] 23 (0, 0)) := blk_below (blk_alloc (blk_alloc (blk_alloc (new_at _ _ _ rfl) _) _) _) hb
      have ky : w1.heap[w.heap.size + 1]? = some (.cells #[.int .i64 a1_0, .int .i64 a1_1] 23 (0, 0)) := blk_below (blk_alloc (blk_alloc (new_at _ _ _ (by simp only [World.size_alloc])) _) _) hb
      have hB : Below w.heap.size w w1 := (((((Below.refl _ w).alloc (Nat.le_refl _) _).alloc (by simp only [World.size_alloc]; omega) _).alloc (by simp only [World.size_alloc]; omega) _).alloc (by simp only [World.size_alloc]; omega) _).trans (hb.mono (by simp only [World.size_alloc]; omega))
      rw [hv]
      have x0 : w1.cell? ⟨w.heap.size, 0, none⟩ = some (.int .i64 a0_0) := (blk_cell kx 0).trans rfl
      have x1 : w1.cell? ⟨w.heap.size, 1, none⟩ = some (.int .i64 a0_1) := (blk_cell kx 1).trans rfl
      have y0 : w1.cell? ⟨w.heap.size + 1, 0, none⟩ = some (.int .i64 a1_0) := (blk_cell ky 0).trans rfl
      have y1 : w1.cell? ⟨w.heap.size + 1, 1, none⟩ = some (.int .i64 a1_1) := (blk_cell ky 1).trans rfl
      have lx := blk_lt kx
      have ly := blk_lt ky
      have hyn : ¬ a1_0 = 0 := HY.out
      have hB1 := Lib.hid hB
      have HZ := Lib.hid hz
      clear hb hz hB kx ky
      go_wp2_with fail
      refine (HB.out _).mono ?_
      rintro e w2 ⟨rfl, hb⟩
      have hz := blk_below HZ.out hb
      have hB : Below w.heap.size w w2 := hB1.out.trans (hb.mono hB1.out.size)
      have z0 : w2.cell? ⟨w.heap.size + 1 + 1, 0, none⟩ = some (.int .i64 0) := (blk_cell hz 0).trans rfl
      have z1 : w2.cell? ⟨w.heap.size + 1 + 1, 1, none⟩ = some (.int .i64 0) := (blk_cell hz 1).trans rfl
      have f0 := blk_frozen hz 0
      have f1 := blk_frozen hz 1
      have lz := blk_lt hz
      clear hb
      go_wp2
      have fz := heap_setCell_same (w2.setCell ⟨w.heap.size + 1 + 1, 0, none⟩ (.int .i64 r1)) (w.heap.size + 1 + 1) 1 _ _ (.int .i64 r2) (heap_setCell_same w2 (w.heap.size + 1 + 1) 0 _ _ (.int .i64 r1) hz)
      refine bodyPost_ret (results_ct rfl _ _ (w.heap.size + 1 + 1) 23 #[.int .i64 r1, .int .i64 r2] (0, 0) _ rfl fz Tryz.underlying23 rfl (by kernel_rfl)) rfl ?_
      exact ⟨rfl, (hB.setCell (by simp only; omega) _).setCell (by simp only; omega) _⟩
  · rw [if_neg hv] at h
    simp only [Option.some.injEq, Prod.mk.injEq] at h
    obtain ⟨rfl, rfl, rfl⟩ := h
    have hv : (v0 && v1) = false := by simpa using hv
    clear h0 h1
    go_enter Tryz.func32, Tryz.ntmps32
    go_wp2_with fail
    refine (all2_c _ a0_0 a0_1 a1_0 a1_1 23 v0 v1 H0.out H1.out _ (new_at _ _ _ (by simp only [World.size_alloc]))).mono ?_
    rintro e w1 ⟨rfl, hb⟩
    have hz : w1.heap[w.heap.size + 1 + 1]? = some (.cells #[.int .i64 0, .int .i64 0] 23 (0, 0)) := blk_below (blk_alloc (new_at _ _ _ (by simp only [World.size_alloc])) _) hb
    have kx : w1.heap[w.heap.size]? = some (.cells #[.int .i64 a0_0, .int .i64 a0_1] 23 (0, 0)) := blk_below (blk_alloc (blk_alloc (blk_alloc (new_at _ _ _ rfl) _) _) _) hb
    have ky : w1.heap[w.heap.size + 1]? = some (.cells #[.int .i64 a1_0, .int .i64 a1_1] 23 (0, 0)) := blk_below (blk_alloc (blk_alloc (new_at _ _ _ (by simp only [World.size_alloc])) _) _) hb
    have hB : Below w.heap.size w w1 := (((((Below.refl _ w).alloc (Nat.le_refl _) _).alloc (by simp only [World.size_alloc]; omega) _).alloc (by simp only [World.size_alloc]; omega) _).alloc (by simp only [World.size_alloc]; omega) _).trans (hb.mono (by simp only [World.size_alloc]; omega))
    rw [hv]
    have x0 : w1.cell? ⟨w.heap.size, 0, none⟩ = some (.int .i64 a0_0) := (blk_cell kx 0).trans rfl
    have x1 : w1.cell? ⟨w.heap.size, 1, none⟩ = some (.int .i64 a0_1) := (blk_cell kx 1).trans rfl
    have y0 : w1.cell? ⟨w.heap.size + 1, 0, none⟩ = some (.int .i64 a1_0) := (blk_cell ky 0).trans rfl
    have y1 : w1.cell? ⟨w.heap.size + 1, 1, none⟩ = some (.int .i64 a1_1) := (blk_cell ky 1).trans rfl
    have lx := blk_lt kx
    have ly := blk_lt ky
    have z0 : w1.cell? ⟨w.heap.size + 1 + 1, 0, none⟩ = some (.int .i64 0) := (blk_cell hz 0).trans rfl
    have z1 : w1.cell? ⟨w.heap.size + 1 + 1, 1, none⟩ = some (.int .i64 0) := (blk_cell hz 1).trans rfl
    have f0 := blk_frozen hz 0
    have f1 := blk_frozen hz 1
    have lz := blk_lt hz
    clear hb
    go_wp2
    have fz := heap_setCell_same (w1.setCell ⟨w.heap.size + 1 + 1, 0, none⟩ (.int .i64 0)) (w.heap.size + 1 + 1) 1 _ _ (.int .i64 0) (heap_setCell_same w1 (w.heap.size + 1 + 1) 0 _ _ (.int .i64 0) hz)
    refine bodyPost_ret (results_ct rfl _ _ (w.heap.size + 1 + 1) 23 #[.int .i64 0, .int .i64 0] (0, 0) _ rfl fz Tryz.underlying23 rfl (by kernel_rfl)) rfl ?_
    exact ⟨rfl, (hB.setCell (by simp only; omega) _).setCell (by simp only; omega) _⟩

end Go.Proofs.YteigbokklclmbaaGreatDoor.Z
end
section
namespace Go.Proofs.YteigbokklclmbaaGreatDoor.Z
open Go Go.RowKit Go.Shelf Go.Proofs.YteigbokklclmbaaGreatDoor.Given Go.Proofs.YteigbokklclmbaaGreatDoorW.PrintWords Go.Proofs.YteigbokklclmbaaGreatDoorW.PrintLast Go.Proofs.YteigbokklclmbaaGreatDoorW.PrintMore
attribute [local go_sem] Oper.semAt_some
theorem upO {α : Type} {f : Nat → Option α} (h : ∀ k, LeO (f k) (f (k + 1))) {k k' : Nat} (hk : k ≤ k') {r : α} (e : f k = some r) : f k' = some r := by
  induction hk with
  | refl => exact e
  | step _ ih => exact h _ _ ih
def numStep (k : Nat) (n : List Int) (d : Int) : Option (List Int) := (real_nat_mul.f k n [10]).bind fun a => (real_natOf.f k (IntKind.u64.wrap d)).bind fun b => real_nat_add.f k a b
theorem numStep_mono (n : List Int) (d : Int) (k : Nat) : LeO (numStep k n d) (numStep (k + 1) n d) :=
  LeO.bind (real_nat_mul.mono _ _ _) (fun a => LeO.bind (real_natOf.mono _ _) (fun b => real_nat_add.mono _ _ _))
theorem numStep_of {k k1 k2 k3 : Nat} {n a b c : List Int} {d : Int} (e1 : k1 ≤ k) (e2 : k2 ≤ k) (e3 : k3 ≤ k) (h1 : real_nat_mul.f k1 n [10] = some a) (h2 : real_natOf.f k2 (IntKind.u64.wrap d) = some b) (h3 : real_nat_add.f k3 a b = some c) : numStep k n d = some c := by
  have h1' := upO (f := fun k => real_nat_mul.f k n [10]) (fun k => real_nat_mul.mono _ _ _) e1 h1
  have h2' := upO (f := fun k => real_natOf.f k (IntKind.u64.wrap d)) (fun k => real_natOf.mono _ _) e2 h2
  have h3' := upO (f := fun k => real_nat_add.f k a b) (fun k => real_nat_add.mono _ _ _) e3 h3
  unfold numStep
  refine Option.bind_eq_some_iff.mpr ⟨a, h1', Option.bind_eq_some_iff.mpr ⟨b, h2', h3'⟩⟩
def numL (k : Nat) : List Int → List Int → Option (List Int)
  | [], n => some n
  | d :: ds, n => (numStep k n d).bind fun c => numL k ds c
theorem numL_mono : ∀ (l n : List Int) (k : Nat), LeO (numL k l n) (numL (k + 1) l n)
  | [], n, k => LeO.refl _
  | d :: ds, n, k => LeO.bind (numStep_mono _ _ _) (fun c => numL_mono ds c k)
def NumE (l n r : List Int) : Prop := ∃ k, numL k l n = some r
theorem numE_only {l n a b : List Int} (h : NumE l n a) (h' : NumE l n b) : a = b := by
  obtain ⟨k, h⟩ := h
  obtain ⟨k', h'⟩ := h'
  have e := upO (numL_mono l n) (Nat.le_max_left k k') h
  have e' := upO (numL_mono l n) (Nat.le_max_right k k') h'
  exact Option.some.inj (e.symm.trans e')
theorem numL_snoc (k : Nat) : ∀ (l n r c : List Int) (d : Int), numL k l n = some r → numStep k r d = some c → numL k (l ++ [d]) n = some c
  | [], n, r, c, d, h, hs => by
    cases h
    exact Option.bind_eq_some_iff.mpr ⟨c, hs, rfl⟩
  | e :: ds, n, r, c, d, h, hs => by
    obtain ⟨m, h1, h2⟩ := Option.bind_eq_some_iff.mp h
    exact Option.bind_eq_some_iff.mpr ⟨m, h1, numL_snoc k ds m r c d h2 hs⟩
theorem numE_snoc {l n r a b c : List Int} {d : Int} {k1 k2 k3 : Nat} (h : NumE l n r) (h1 : real_nat_mul.f k1 r [10] = some a) (h2 : real_natOf.f k2 (IntKind.u64.wrap d) = some b) (h3 : real_nat_add.f k3 a b = some c) : NumE (l ++ [d]) n c := by
  obtain ⟨k, h⟩ := h
  refine ⟨k + k1 + k2 + k3, numL_snoc _ l n r c d (upO (numL_mono l n) (by omega) h) (numStep_of (by omega) (by omega) (by omega) h1 h2 h3)⟩
/-- A number of digits lies where it lay when a block turns that is no cells. -/
theorem nat32_kept {W W' : World} {row : Option Nat} {v : Value} {l : List Int} (h : Nat32 W v l) (hg : W.grownBy W' row) (hr : ∀ r, row = some r → ∃ o : Obj, W.heap[r]? = some o ∧ o.isCells = false) : Nat32 W' v l := by
  obtain ⟨A, c, rfl, hc, hC⟩ := h
  refine ⟨A, c, rfl, hc, ?_⟩
  have h := Kd.reads_of_C (enc := Value.int .u32) (d := (0 : Int)) (h1 := fun _ => rfl) hC
  refine Kd.C_of_reads (enc := Value.int .u32) (d := (0 : Int)) (h1 := fun _ => rfl) ⟨h.1, h.2.1, fun hn => ?_⟩
  obtain ⟨ad, e, hc⟩ := h.2.2 hn
  exact ⟨ad, e, fun j hj => Go.cell_kept (hc j hj) hg hr⟩
theorem nat32_set {W : World} {b : Nat} {t : TypeId} {u v v' : Value} {l : List Int} (h : Nat32 W v l) (hb : W.heap[b]? = some (.cells #[u] t (0, 0))) (hu : ∀ n, u ≠ .int .u32 n) : Nat32 (W.setCell ⟨b, 0, none⟩ v') v l := by
  obtain ⟨A, c, rfl, hc, hC⟩ := h
  refine ⟨A, c, rfl, hc, ?_⟩
  have h := Kd.reads_of_C (enc := Value.int .u32) (d := (0 : Int)) (h1 := fun _ => rfl) hC
  refine Kd.C_of_reads (enc := Value.int .u32) (d := (0 : Int)) (h1 := fun _ => rfl) ⟨h.1, h.2.1, fun hn => ?_⟩
  obtain ⟨ad, e, hc⟩ := h.2.2 hn
  refine ⟨ad, e, fun j hj => ?_⟩
  have hj' := hc j hj
  rw [World.cell?_setCell_other]
  · exact hj'
  · intro e'
    rw [← e', (blk_cell hb 0)] at hj'
    exact hu _ (Option.some.inj hj')
def real_number.f (k : Nat) (s : ByteArray) (n : List Int) : Option (List Int × Int × ByteArray) := if n.length + s.size < 100000000000 then (numL k (digs s) n).bind fun r => some (r, ((digs s).length : Int), s.extract (digs s).length s.size) else none
theorem number_in (k : Nat) (s : ByteArray) (A0 : Option Addr) (c0 : Nat) (l0 : List Int) (r1 : List Int) (r2 : Int) (r3 : ByteArray) (w : World) (hr0 : Kd.C (Kd.int .u32) w A0 l0.length l0) (hc0 : l0.length ≤ c0) (h : real_number.f k s l0 = some (r1, r2, r3)) :
    CallsIn Fence.wide 9 Tryz.prog 77 #[.string s, .slice A0 l0.length c0] w fun e W' => (∃ v, Nat32 W' v r1 ∧ e = .returned (.tuple #[v, .int .i64 r2, .string r3])) ∧ Below w.heap.size w W' := by
  have H := Lib.hid h
  have HR := Lib.hid hr0
  clear h hr0
  refine callsIn_of_wp_marks Tryz.func77 rfl trivial ?_ rfl
  simp only [Tryz.ntmps77, List.size_toArray, List.length_cons, List.length_nil, Nat.reduceAdd, Nat.reduceSub, Array.replicate_succ, Array.replicate_zero, List.push_toArray, List.append_toArray, List.nil_append, List.cons_append]
  gi_wp2_with (refine ⟨trivial, ?_⟩; gi_at_call 115; refine (callsIn_wide.2 (digits_c s _)).mono ?_; rintro e w' ⟨rfl, rfl⟩)
  have hlen : l0.length + s.size < 100000000000 := by
    have h := H.out
    unfold real_number.f at h
    by_cases hl : l0.length + s.size < 100000000000
    · exact hl
    · rw [if_neg hl] at h; cases h
  have hB0 : Below w.heap.size w (((w.alloc (.cells #[Value.slice A0 l0.length c0] 87)).alloc (.cells #[Value.int IntKind.i64 0] 3)).alloc (.cells #[Value.string s] 9)) := (((Below.refl _ w).alloc (Nat.le_refl _) _).alloc (by simp only [World.size_alloc]; omega) _).alloc (by simp only [World.size_alloc]; omega) _
  obtain ⟨w0, hw0⟩ : ∃ w0, (((w.alloc (.cells #[Value.slice A0 l0.length c0] 87)).alloc (.cells #[Value.int IntKind.i64 0] 3)).alloc (.cells #[Value.string s] 9)) = w0 := ⟨_, rfl⟩
  have k0 : w0.heap[w.heap.size]? = some (.cells #[Value.slice A0 l0.length c0] 87 (0, 0)) := by
    rw [← hw0]; exact blk_alloc (blk_alloc (new_at _ _ _ rfl) _) _
  have k1 : w0.heap[w.heap.size + 1]? = some (.cells #[Value.int .i64 0] 3 (0, 0)) := by
    rw [← hw0]; exact blk_alloc (new_at _ _ _ (by simp only [World.size_alloc])) _
  have k2 : w0.heap[w.heap.size + 1 + 1]? = some (.cells #[Value.string s] 9 (0, 0)) := by
    rw [← hw0]; exact new_at _ _ _ (by simp only [World.size_alloc])
  have hs0 : w0.heap.size = w.heap.size + 1 + 1 + 1 := by rw [← hw0]; simp only [World.size_alloc]
  rw [hw0] at hB0 ⊢
  refine wpIn_rangeFunc_ownF rfl (by omega) (gf := 147) (lb := #[.pointer (some ⟨w.heap.size + 1 + 1, 0, none⟩)]) rfl trivial (enters_ Tryz.func147 (by kernel_rfl) rfl)
    (digits_stops 8 (by omega) (w.heap.size + 1 + 1) s (by omega) w0 (by omega) ((blk_cell k2 0).trans rfl)) KB_t (KB_b (by omega)) (Below.refl _ _) (fun _ => rfl)
    (fun pre W => (∃ n v, NumE pre l0 n ∧ n.length ≤ l0.length + 3 * pre.length ∧ Boxed W w.heap.size 87 v ∧ Nat32 W v n ∧ Boxed W (w.heap.size + 1) 3 (.int .i64 (pre.length : Int)) ∧ Boxed W (w.heap.size + 1 + 1) 9 (.string s)) ∧ Below w.heap.size w W)
    (fun _ _ _ => False)
    (OwnFrom.and (Own.from (fun pre A B row hs hg hr => by
      obtain ⟨n, v, h1, h2, h3, h4, h5, h6⟩ := hs
      exact ⟨n, v, h1, h2, h3.kept hg (fun e => by obtain ⟨o, ho, hc⟩ := hr _ e.symm; rw [show A.heap[w.heap.size]? = _ from h3] at ho; cases ho; cases hc), nat32_kept h4 hg hr, h5.kept hg (fun e => by obtain ⟨o, ho, hc⟩ := hr _ e.symm; rw [show A.heap[w.heap.size + 1]? = _ from h5] at ho; cases ho; cases hc), h6.kept hg (fun e => by obtain ⟨o, ho, hc⟩ := hr _ e.symm; rw [show A.heap[w.heap.size + 1 + 1]? = _ from h6] at ho; cases ho; cases hc)⟩) _) (ownFrom_below (Nat.le_refl _) (by omega)))
    (fun _ _ _ _ _ hs _ _ => hs)
    ⟨⟨l0, _, ⟨0, rfl⟩, by simp, k0, ⟨A0, c0, rfl, hc0, Kd.C_below HR.out (hB0.mono (Nat.le_refl _))⟩, k1, k2⟩, hB0⟩
    (fun x => { tmps := #[Value.string s, Value.slice A0 l0.length c0, undef, Value.pointer (some { block := w.heap.size, off := 0 }), Value.slice none 0 0, Value.int IntKind.i64 0, Value.string { data := #[] }, Value.pointer (some { block := w.heap.size + 1, off := 0 }), .int .i64 x, Value.string s, Value.func (Fn.func 147) #[] #[Value.pointer (some { block := w.heap.size + 1 + 1, off := 0 })], .int .i64 x, undef, undef, undef, undef, undef, undef, undef, undef, undef, undef, undef, undef, undef, undef], defers := [] }) ?assign ?body ?done ?stop
  case assign =>
    intro l x W K hK
    gi_wp2
    exact hK
  case body =>
    rintro l pre x W ⟨⟨n, v, hE, hn, hb0, ⟨A, c, rfl, hc, hC⟩, hb1, hb2⟩, hB⟩ hpre
    have l2 := hb2.lt
    have HBz := Lib.hid hb2
    have HE := Lib.hid hE
    have HC := Lib.hid hC
    have HBx := Lib.hid hb0
    have HBy := Lib.hid hb1
    have HBB := Lib.hid hB
    obtain ⟨k1, a, hm, ha⟩ := mul_total n [10] (by simp; omega)
    obtain ⟨k2, b, ho, hb⟩ := natOf_total (IntKind.u64.wrap x)
    obtain ⟨k3, e, hadd, he⟩ := add_total a b (n.length + 2) (by omega) (by simp at ha; omega) (by omega)
    have HM := Lib.hid (fun (W : World) (h1 : Kd.C (Kd.int .u32) W A n.length n) (A1 : Option Addr) (h2 : Kd.C (Kd.int .u32) W A1 1 [10]) => real_nat_mul.calls k1 A c n A1 1 [10] a W h1 hc h2 (Nat.le_refl _) hm)
    have HO := Lib.hid (fun (W : World) => real_natOf.calls k2 (IntKind.u64.wrap x) b W ho)
    have HA := Lib.hid hadd
    have hm' := hm
    have ho' := ho
    have c0 := hb0.cell
    have f0 := hb0.frozen
    have c1 := hb1.cell
    have f1 := hb1.frozen
    clear hE hC hm ho hadd
    replace hm' := Lib.hid hm'
    replace ho' := Lib.hid ho'
    gi_wp2_with fail
    refine ⟨trivial, CallsIn.inRound l (callsIn_wide.2 ((HM.out _ (Kd.C_below HC.out ((Below.refl _ W).alloc (Nat.le_refl _) _)) _ (one_C _ _ _)).mono ?_))⟩
    rintro e1 w1 ⟨v1, rfl, hV1, hB1⟩
    have hW1 : Below W.heap.size W w1 := ((Below.refl _ W).alloc (Nat.le_refl _) _).trans (hB1.mono (by simp))
    have hN1 := nat32_of_V hV1
    clear hV1 hB1
    gi_wp2_with fail
    refine ⟨trivial, CallsIn.inRound l (callsIn_wide.2 ((HO.out _).mono ?_))⟩
    rintro e2 w2 ⟨v2, rfl, hV2, hB2⟩
    have hW2 : Below W.heap.size W w2 := hW1.trans (hB2.mono hW1.size)
    have hN2 := nat32_of_V hV2
    have hN1' := hN1.below hB2
    clear hV2 hB2 hN1 hW1
    obtain ⟨A1, ca1, rfl, hc1, hC1⟩ := hN1'
    obtain ⟨A2, ca2, rfl, hc2, hC2⟩ := hN2
    gi_wp2_with fail
    refine ⟨trivial, CallsIn.inRound l (callsIn_wide.2 ((real_nat_add.calls k3 A1 ca1 a A2 ca2 b e w2 hC1 hc1 hC2 hc2 HA.out).mono ?_))⟩
    rintro e3 w3 ⟨v3, rfl, hV3, hB3⟩
    have hW3 : Below W.heap.size W w3 := hW2.trans (hB3.mono hW2.size)
    have hN3 := nat32_of_V hV3
    clear hV3 hB3 hW2
    obtain ⟨A3, ca3, rfl, hc3, hC3⟩ := hN3
    have b0 : w3.heap[w.heap.size]? = some (.cells #[Value.slice A n.length c] 87 (0, 0)) := blk_below HBx.out hW3
    have b1 : w3.heap[w.heap.size + 1]? = some (.cells #[Value.int .i64 (pre.length : Int)] 3 (0, 0)) := blk_below HBy.out hW3
    have q0 := (blk_cell b0 0).trans rfl
    have q1 := (blk_cell b1 0).trans rfl
    have g0 := blk_frozen b0 0
    have g1 := blk_frozen b1 0
    clear c0 f0 c1 f1
    gi_wp2
    have hN3 : Nat32 w3 (.slice A3 e.length ca3) e := ⟨A3, ca3, rfl, hc3, hC3⟩
    have t0 := heap_setCell_same w3 w.heap.size 0 _ _ (.slice A3 e.length ca3) b0
    have t1 : (w3.setCell ⟨w.heap.size, 0, none⟩ (.slice A3 e.length ca3)).heap[w.heap.size + 1]? = _ := (heap_setCell_other _ _ _ _ (by simp only; omega)).trans b1
    have u0 := (heap_setCell_other (w3.setCell ⟨w.heap.size, 0, none⟩ (.slice A3 e.length ca3)) ⟨w.heap.size + 1, 0, none⟩ w.heap.size (.int .i64 ((pre.length : Int) + 1)) (by simp only; omega)).trans t0
    have u1 := heap_setCell_same _ (w.heap.size + 1) 0 _ _ (.int .i64 ((pre.length : Int) + 1)) t1
    have u2 : ((w3.setCell ⟨w.heap.size, 0, none⟩ (.slice A3 e.length ca3)).setCell ⟨w.heap.size + 1, 0, none⟩ (.int .i64 ((pre.length : Int) + 1))).heap[w.heap.size + 1 + 1]? = W.heap[w.heap.size + 1 + 1]? :=
      (heap_setCell_other _ _ _ _ (by simp only; omega)).trans ((heap_setCell_other _ _ _ _ (by simp only; omega)).trans (hW3.block _ l2))
    refine ⟨(KeepsOthers.trans ⟨hW3.size, fun k o hk _ => (hW3.block k (Array.getElem?_eq_some_iff.1 hk).1).trans hk⟩ (KeepsOthers.setCell _ _ _)).trans (KeepsOthers.setCell _ _ _), u2, ⟨e, _, numE_snoc HE.out hm'.out ho'.out HA.out, by simp at ha ⊢; omega, u0, nat32_set (nat32_set hN3 b0 (fun _ h => by cases h)) t1 (fun _ h => by cases h), ?_, u2.trans HBz.out⟩, ((HBB.out.trans (hW3.mono HBB.out.size)).setCell (Nat.le_refl _) _).setCell (by simp only; omega) _⟩
    have hp : (((pre ++ [x]).length : Nat) : Int) = (pre.length : Int) + 1 := by simp
    rw [hp]
    exact u1
  case done =>
    rintro D ys W hD rfl ⟨⟨n, v, hE, hn, hb0, ⟨A, c, rfl, hc, hC⟩, hb1, hb2⟩, hB⟩ hK
    have hv : r1 = n ∧ r2 = ((digs s).length : Int) ∧ r3 = s.extract (digs s).length s.size := by
      have h := H.out
      unfold real_number.f at h
      rw [if_pos hlen] at h
      obtain ⟨r, h1, h2⟩ := Option.bind_eq_some_iff.mp h
      cases h2
      exact ⟨numE_only ⟨k, h1⟩ hE, rfl, rfl⟩
    obtain ⟨rfl, rfl, rfl⟩ := hv
    have hdl := digs_len s
    obtain ⟨m, hm⟩ : ∃ m, (digs s).length = m := ⟨_, rfl⟩
    rw [hm] at hb1 hdl
    have HM := Lib.hid hm
    clear hm
    have c0 := hb0.cell
    have c1 := hb1.cell
    have HX := Lib.hid (And.intro hE hC)
    clear hE hC H
    gi_wp2
    gi_region
    gi_wp2
    have hKd : W.drew.heap[D]? = some (.deferred (some [])) := hK
    refine ⟨by simp, .inl ⟨_, _, rfl, run_takeDeferred hKd, ?_⟩⟩
    have hN : Nat32 W.drew (.slice A r1.length c) r1 := ⟨A, c, rfl, hc, Kd.C_drew HX.out.2⟩
    refine ⟨_, results_tmp3 rfl _ _ _, ⟨_, nat32_kept hN (grownBy_putObj' W.drew D (.deferred none)) (fun r e => by cases e; exact ⟨_, hKd, rfl⟩), ?_⟩, (below_drew hB).trans (belowK_b (w := w) (Nat.le_refl _) W.drew D _ _ (by omega) hKd rfl rfl)⟩
    rw [HM.out]
    rfl
  case stop =>
    rintro D c pre W _ _ h _
    exact h.elim
theorem number_c (k : Nat) (s : ByteArray) (A0 : Option Addr) (c0 : Nat) (l0 : List Int) (r1 : List Int) (r2 : Int) (r3 : ByteArray) (w : World) (hr0 : Kd.C (Kd.int .u32) w A0 l0.length l0) (hc0 : l0.length ≤ c0) (h : real_number.f k s l0 = some (r1, r2, r3)) :
    Calls Tryz.prog 77 #[.string s, .slice A0 l0.length c0] w fun e W' => (∃ v, Nat32 W' v r1 ∧ e = .returned (.tuple #[v, .int .i64 r2, .string r3])) ∧ Below w.heap.size w W' :=
  (callsIn_wide (n := 9)).1 (number_in k s A0 c0 l0 r1 r2 r3 w hr0 hc0 h)
end Go.Proofs.YteigbokklclmbaaGreatDoor.Z
end
section
namespace Go.Proofs.YteigbokklclmbaaGreatDoor.Z
open Go Go.RowKit Go.Proofs.YteigbokklclmbaaGreatDoor.Given Go.Proofs.YteigbokklclmbaaGreatDoorW.PrintWords Go.Proofs.YteigbokklclmbaaGreatDoorW.PrintLast Go.Proofs.YteigbokklclmbaaGreatDoorW.PrintMore
theorem parse1_c (k : Nat) (neg : Bool) (l : List Int) (A : Option Addr) (c : Nat) (exp behind m x r1 r2 : Int) (hd : real_decimal.f k l (wrap64 (exp - behind)) = some (m, x)) (hs : real_signed.f neg m x = some (r1, r2)) (b0 b1 b2 b3 : Nat) (w : World)
    (h0 : w.heap[b0]? = some (.cells #[.bool neg] 4 (0, 0))) (h1 : w.heap[b1]? = some (.cells #[.slice A l.length c] 87 (0, 0))) (h2 : w.heap[b2]? = some (.cells #[.int .i64 exp] 3 (0, 0))) (h3 : w.heap[b3]? = some (.cells #[.int .i64 behind] 3 (0, 0)))
    (hC : Kd.C (Kd.int .u32) w A l.length l) (hc : l.length ≤ c) :
    Calls Tryz.prog 79 #[.pointer (some ⟨b0, 0, none⟩), .pointer (some ⟨b1, 0, none⟩), .pointer (some ⟨b2, 0, none⟩), .pointer (some ⟨b3, 0, none⟩)] w fun e w' => e = ending r1 r2 ∧ Below w.heap.size w w' := by
  have AS := Aside0.mk hs
  have AD := Aside0.mk hd
  have l0 := blk_lt h0
  have l1 := blk_lt h1
  have l2 := blk_lt h2
  have l3 := blk_lt h3
  have H0 := Lib.hid (blk_drew (blk_alloc h0 (.cells #[.int .i64 0, .int .i64 0] 23)))
  have H1 := Lib.hid (blk_drew (blk_alloc h1 (.cells #[.int .i64 0, .int .i64 0] 23)))
  have H2 := Lib.hid (blk_drew (blk_alloc h2 (.cells #[.int .i64 0, .int .i64 0] 23)))
  have H3 := Lib.hid (blk_drew (blk_alloc h3 (.cells #[.int .i64 0, .int .i64 0] 23)))
  have HZ := Lib.hid (blk_drew (blk_new w (.cells #[.int .i64 0, .int .i64 0] 23)))
  have HC := Lib.hid (Kd.C_drew (Kd.C_alloc hC (.cells #[.int .i64 0, .int .i64 0] 23)))
  have HB := Lib.hid (below_drew ((Below.refl w.heap.size w).alloc (Nat.le_refl _) (.cells #[.int .i64 0, .int .i64 0] 23)))
  clear h0 h1 h2 h3 hC hs hd
  go_enter Tryz.func79, Tryz.ntmps79
  go_wp2_with fail
  refine start_ (n := 8) (S := fun w' => w'.cell? ⟨b0, 0, none⟩ = some (.bool neg) ∧ w'.cell? ⟨b1, 0, none⟩ = some (.slice A l.length c) ∧ w'.cell? ⟨b2, 0, none⟩ = some (.int .i64 exp) ∧ w'.cell? ⟨b3, 0, none⟩ = some (.int .i64 behind)) (ds := []) #[false, false, false, false, false, false, false, false] (by kernel_rfl) rfl rfl ⟨(blk_cell H0.out 0).trans rfl, (blk_cell H1.out 0).trans rfl, (blk_cell H2.out 0).trans rfl, (blk_cell H3.out 0).trans rfl⟩ (fun hHeld => ?_)
  generalize (w.alloc (.cells #[.int .i64 0, .int .i64 0] 23)).drew = w5 at H0 H1 H2 H3 HZ HC HB hHeld ⊢
  refine take_ (i := 0) (N := some 5) (v := ?_) (a' := ?_) #[true, false, false, false, false, false, false, false] rfl rfl (by kernel_rfl) (fun _ _ _ h => h) (Or.inl ⟨by rfl, ?_⟩) hHeld ?_ ?_
  rotate_left
  · rintro w' ⟨s0, s1, s2, s3⟩
    go_simp
    with_reducible rfl
  rotate_left
  · simp only [Act.put, List.setIfInBounds_toArray, List.set_cons_zero, List.set_cons_succ, i64_w, i32_w]
    rfl
  refine take_ (i := 1) (N := some 6) (v := ?_) (a' := ?_) #[true, true, false, false, false, false, false, false] rfl rfl (by kernel_rfl) (fun _ _ _ h => h) (Or.inl ⟨by rfl, ?_⟩) hHeld ?_ ?_
  rotate_left
  · rintro w' ⟨s0, s1, s2, s3⟩
    go_simp
    with_reducible rfl
  rotate_left
  · simp only [Act.put, List.setIfInBounds_toArray, List.set_cons_zero, List.set_cons_succ, i64_w, i32_w]
    rfl
  refine take_ (i := 2) (N := some 7) (v := ?_) (a' := ?_) #[true, true, true, false, false, false, false, false] rfl rfl (by kernel_rfl) (fun _ _ _ h => h) (Or.inl ⟨by rfl, ?_⟩) hHeld ?_ ?_
  rotate_left
  · rintro w' ⟨s0, s1, s2, s3⟩
    go_simp
    with_reducible rfl
  rotate_left
  · simp only [Act.put, List.setIfInBounds_toArray, List.set_cons_zero, List.set_cons_succ, i64_w, i32_w]
    rfl
  refine take_ (i := 3) (N := some 8) (v := ?_) (a' := ?_) #[true, true, true, true, false, false, false, false] rfl rfl (by kernel_rfl) (fun _ _ _ h => h) (Or.inl ⟨by rfl, ?_⟩) hHeld ?_ ?_
  rotate_left
  · rintro w' ⟨s0, s1, s2, s3⟩
    go_simp
    with_reducible rfl
  rotate_left
  · simp only [Act.put, List.setIfInBounds_toArray, List.set_cons_zero, List.set_cons_succ, i64_w, i32_w]
    rfl
  refine take_ (i := 4) (N := some 9) (v := ?_) (a' := ?_) #[true, true, true, true, true, false, false, false] rfl rfl (by kernel_rfl) (fun _ _ _ h => h) (Or.inl ⟨by rfl, ?_⟩) hHeld ?_ ?_
  rotate_left
  · rintro w' ⟨s0, s1, s2, s3⟩
    go_simp
    with_reducible rfl
  rotate_left
  · simp only [Act.put, List.setIfInBounds_toArray, List.set_cons_zero, List.set_cons_succ, i64_w, i32_w]
    rfl
  refine one_ (i := 5) (N := some 10) #[true, true, true, true, true, true, false, false] rfl rfl (by kernel_rfl) (by decide) (fun K hK => ?_)
  refine goesP_ Tryz.func81 (by kernel_rfl) rfl #[.slice A l.length c, .int .i64 (wrap64 (exp - behind))] (by rfl) rfl rfl (by first | rfl | (simp only [List.map_toArray, List.map_cons, List.map_nil]; rfl)) ?_
  refine (real_decimal.calls k A c l (wrap64 (exp - behind)) m x w5 HC.out hc AD.out).mono ?_
  rintro e w9 ⟨he_, hb⟩
  clear HC
  refine ends_ he_ (fun p1_ => And.intro rfl (And.intro (code_signed AS p1_) (HB.out.trans (hb.mono HB.out.size)))) (fun hpn_ => ?_)
  replace H0 := Lib.hid (blk_below H0.out hb)
  replace H1 := Lib.hid (blk_below H1.out hb)
  replace H2 := Lib.hid (blk_below H2.out hb)
  replace H3 := Lib.hid (blk_below H3.out hb)
  replace HZ := Lib.hid (blk_below HZ.out hb)
  replace HB := Lib.hid (HB.out.trans (hb.mono HB.out.size))
  clear hb
  refine hK.out _ _ ⟨(blk_cell H0.out 0).trans rfl, (blk_cell H1.out 0).trans rfl, (blk_cell H2.out 0).trans rfl, (blk_cell H3.out 0).trans rfl⟩ (fun hHeld => ?_)
  clear hK K
  refine norm_ (a' := ?_) ?_ ?_
  rotate_left
  · show Act.put _ (some 10) _ = _
    simp only [Act.put, List.setIfInBounds_toArray, List.set_cons_zero, List.set_cons_succ, i64_w, i32_w]
    rfl
  refine one_ (i := 6) (N := some 11) #[true, true, true, true, true, true, true, false] rfl rfl (by kernel_rfl) (by decide) (fun K hK => ?_)
  refine goes_ Tryz.func80 (by kernel_rfl) rfl #[.bool neg, .agg #[.int .i64 m, .int .i64 x]] (by rfl) rfl rfl (by first | rfl | (simp only [List.map_toArray, List.map_cons, List.map_nil]; rfl)) ?_
  refine (real_signed.calls neg m x r1 r2 _ AS.out).mono ?_
  rintro e w10 ⟨rfl, hb⟩
  refine ⟨_, rfl, ?_⟩
  replace H0 := Lib.hid (blk_below H0.out hb)
  replace H1 := Lib.hid (blk_below H1.out hb)
  replace H2 := Lib.hid (blk_below H2.out hb)
  replace H3 := Lib.hid (blk_below H3.out hb)
  replace HZ := Lib.hid (blk_below HZ.out hb)
  replace HB := Lib.hid (HB.out.trans (hb.mono HB.out.size))
  clear hb
  refine hK.out _ _ ⟨(blk_cell H0.out 0).trans rfl, (blk_cell H1.out 0).trans rfl, (blk_cell H2.out 0).trans rfl, (blk_cell H3.out 0).trans rfl⟩ (fun hHeld => ?_)
  clear hK K
  refine norm_ (a' := ?_) ?_ ?_
  rotate_left
  · show Act.put _ (some 11) _ = _
    simp only [Act.put, List.setIfInBounds_toArray, List.set_cons_zero, List.set_cons_succ, i64_w, i32_w]
    rfl
  refine one_ (i := 7) (N := none) #[true, true, true, true, true, true, true, true] rfl rfl (by kernel_rfl) (by decide) (fun K hK => ?_)
  have hz := HZ.out
  have z0 : w10.cell? ⟨w.heap.size, 0, none⟩ = some (.int .i64 0) := (blk_cell hz 0).trans rfl
  have z1 : w10.cell? ⟨w.heap.size, 1, none⟩ = some (.int .i64 0) := (blk_cell hz 1).trans rfl
  have f0 := blk_frozen hz 0
  have f1 := blk_frozen hz 1
  have lz := blk_lt hz
  refine skip_ (w1 := ?_) (by rfl) rfl ?_ ?_
  rotate_left
  · go_simp
    rfl
  have ne0 : b0 ≠ w.heap.size := by omega
  have ne1 : b1 ≠ w.heap.size := by omega
  have ne2 : b2 ≠ w.heap.size := by omega
  have ne3 : b3 ≠ w.heap.size := by omega
  have far : ∀ (b : Nat) (o : Obj), b ≠ w.heap.size → w10.heap[b]? = some o → ((w10.setCell ⟨w.heap.size, 0, none⟩ (.int .i64 r1)).setCell ⟨w.heap.size, 1, none⟩ (.int .i64 r2)).heap[b]? = some o := fun b o hne h => (heap_setCell_other _ _ _ _ hne).trans ((heap_setCell_other _ _ _ _ hne).trans h)
  refine hK.out _ _ ⟨(blk_cell (far _ _ ne0 H0.out) 0).trans rfl, (blk_cell (far _ _ ne1 H1.out) 0).trans rfl, (blk_cell (far _ _ ne2 H2.out) 0).trans rfl, (blk_cell (far _ _ ne3 H3.out) 0).trans rfl⟩ (fun hHeld => ?_)
  clear hK K
  refine done_ (by kernel_rfl) ?_
  have fz := heap_setCell_same (w10.setCell ⟨w.heap.size, 0, none⟩ (.int .i64 r1)) w.heap.size 1 _ _ (.int .i64 r2) (heap_setCell_same w10 w.heap.size 0 _ _ (.int .i64 r1) hz)
  go_wp2
  refine bodyPost_ret (results_cell_row rfl _ _ w.heap.size 23 #[.int .i64 r1, .int .i64 r2] (0, 0) _ rfl fz Tryz.underlying23 rfl (by kernel_rfl)) rfl ?_
  exact ⟨(ending_at (signed_not AS hpn_)).symm, (HB.out.setCell (Nat.le_refl _) _).setCell (Nat.le_refl _) _⟩
theorem is1_c (k : Nat) (l : List Int) (A : Option Addr) (c : Nat) (exp m x : Int) (hd : real_decimal.f k l exp = some (m, x)) (b0 b1 : Nat) (w : World)
    (h0 : w.heap[b0]? = some (.cells #[.slice A l.length c] 87 (0, 0))) (h1 : w.heap[b1]? = some (.cells #[.int .i64 exp] 3 (0, 0))) (hC : Kd.C (Kd.int .u32) w A l.length l) (hc : l.length ≤ c) :
    Calls Tryz.prog 151 #[.pointer (some ⟨b0, 0, none⟩), .pointer (some ⟨b1, 0, none⟩)] w fun e w' => e = ending m x ∧ Below w.heap.size w w' := by
  have HD := Lib.hid hd
  have HC := Lib.hid (Kd.C_alloc hC (.cells #[.int .i64 0, .int .i64 0] 23))
  have c0 : w.cell? ⟨b0, 0, none⟩ = some (.slice A l.length c) := (blk_cell h0 0).trans rfl
  have c1 : w.cell? ⟨b1, 0, none⟩ = some (.int .i64 exp) := (blk_cell h1 0).trans rfl
  have l0 := blk_lt h0
  have l1 := blk_lt h1
  clear hd hC h0 h1
  by_cases hx : x = 1000
  · have e1 : ending m x = .panicked chain := by unfold ending; rw [if_pos hx]
    go_enter Tryz.func151, Tryz.ntmps151
    go_wp2_with fail
    refine (real_decimal.calls k A c l exp m x _ HC.out hc HD.out).mono ?_
    rintro e w3 ⟨rfl, hb⟩
    have hB : Below w.heap.size w w3 := ((Below.refl _ w).alloc (Nat.le_refl _) _).trans (hb.mono (by simp))
    rw [e1]
    exact ⟨rfl, by rw [e1], hB⟩
  · have e1 : ending m x = .returned (.agg #[.int .i64 m, .int .i64 x]) := ending_at hx
    rw [e1]
    go_enter Tryz.func151, Tryz.ntmps151
    go_wp2_with fail
    refine (real_decimal.calls k A c l exp m x _ HC.out hc HD.out).mono ?_
    rintro e w3 ⟨rfl, hb⟩
    have hB : Below w.heap.size w w3 := ((Below.refl _ w).alloc (Nat.le_refl _) _).trans (hb.mono (by simp))
    have hz : w3.heap[w.heap.size]? = some (.cells #[.int .i64 0, .int .i64 0] 23 (0, 0)) := blk_below (blk_new _ _) hb
    have z0 : w3.cell? ⟨w.heap.size, 0, none⟩ = some (.int .i64 0) := (blk_cell hz 0).trans rfl
    have z1 : w3.cell? ⟨w.heap.size, 1, none⟩ = some (.int .i64 0) := (blk_cell hz 1).trans rfl
    have f0 := blk_frozen hz 0
    have f1 := blk_frozen hz 1
    have lz := blk_lt hz
    clear hb
    rw [e1]
    go_wp2
    have fz : (((w3.setCell ⟨w.heap.size, 0, none⟩ (.int .i64 m)).setCell ⟨w.heap.size, 1, none⟩ (.int .i64 x))).heap[w.heap.size]? = some (.cells #[.int .i64 m, .int .i64 x] 23 (0, 0)) := heap_setCell_same (w3.setCell ⟨w.heap.size, 0, none⟩ (.int .i64 m)) w.heap.size 1 _ _ (.int .i64 x) (heap_setCell_same w3 w.heap.size 0 _ _ (.int .i64 m) hz)
    refine bodyPost_ret (results_cell_row rfl _ _ w.heap.size 23 #[.int .i64 m, .int .i64 x] (0, 0) _ rfl fz Tryz.underlying23 rfl (by kernel_rfl)) rfl ?_
    exact ⟨rfl, (hB.setCell (Nat.le_refl _) _).setCell (Nat.le_refl _) _⟩
theorem is1_n (k : Nat) (l : List Int) (A : Option Addr) (c : Nat) (exp m x : Int) (hd : real_decimal.f k l exp = some (m, x)) (b0 b1 : Nat) (w : World)
    (h0 : w.heap[b0]? = some (.cells #[.slice A l.length c] 87 (0, 0))) (h1 : w.heap[b1]? = some (.cells #[.int .i64 exp] 3 (0, 0))) (hN : Nat32 w (.slice A l.length c) l) :
    Calls Tryz.prog 151 #[.pointer (some ⟨b0, 0, none⟩), .pointer (some ⟨b1, 0, none⟩)] w fun e w' => e = ending m x ∧ Below w.heap.size w w' := by
  obtain ⟨A', c', heq, hc, hC⟩ := hN
  cases heq
  exact is1_c k l A c exp m x hd b0 b1 w h0 h1 hC hc
def real_is.f (k : Nat) (l0 : List Int) (a1 a2_0 a2_1 : Int) : Option Bool := (real_decimal.f k l0 a1).bind fun d => if (caughtS d.1 d.2).2.2 = 0 then some ((caughtS d.1 d.2).1 == a2_0 && ((caughtS d.1 d.2).2.1 == a2_1)) else some false
theorem real_is.mono (a0 : List Int) (a1 a2 a3 : Int) (k : Nat) : LeO (real_is.f k a0 a1 a2 a3) (real_is.f (k + 1) a0 a1 a2 a3) := LeO.bind (real_decimal.mono _ _ _) (fun _ => LeO.refl _)
theorem real_is.calls (k : Nat) (A0 : Option Addr) (c0 : Nat) (l0 : List Int) (a1 a2_0 a2_1 : Int) (r : Bool) (w : World) (hr0 : Kd.C (Kd.int .u32) w A0 l0.length l0) (hc0 : l0.length ≤ c0) (h : real_is.f k l0 a1 a2_0 a2_1 = some r) :
    Calls Tryz.prog 125 #[.slice A0 l0.length c0, .int .i64 a1, .agg #[.int .i64 a2_0, .int .i64 a2_1]] w fun e w' => e = .returned (.bool r) ∧ Below w.heap.size w w' := by
  obtain ⟨⟨m, x⟩, hd, h⟩ := Option.bind_eq_some_iff.mp h
  rcases hcs : caughtS m x with ⟨t0, t1, t2⟩
  simp only [hcs] at h
  have HD := Lib.hid hd
  have HT := Lib.hid hcs
  have HN := Lib.hid (show Nat32 w (.slice A0 l0.length c0) l0 from ⟨A0, c0, rfl, hc0, hr0⟩)
  have HB := Lib.hid (Below.refl w.heap.size w)
  clear hd hr0 hcs
  have hmf : ∀ (fn : Fn) (first cap : Array Value) (w : World), (Instr.makeFunc fn first cap).run Tryz.prog w = .ok (.func fn first cap) w := fun _ _ _ _ => rfl
  by_cases ht : t2 = 0
  · rw [if_pos ht] at h
    cases h
    have hq : (t2 == 0) = true := by simp [ht]
    clear ht
    go_enter Tryz.func125, Tryz.ntmps125
    go_wp2_with fail
    refine (caught_t 151 _ m x t0 t1 t2 HT.out _ (fun args w => enters_ Tryz.func151 (by kernel_rfl) rfl args w) (fun w' h' => is1_n k l0 A0 c0 a1 m x HD.out _ _ w' (blk_below (blk_alloc (blk_alloc (new_at _ _ (w.heap.size) oz) _) _) h') (blk_below (blk_alloc (new_at _ _ (w.heap.size + 1) oz) _) h') (((((HN.out).below ((Below.refl _ _).alloc (Nat.le_refl _) _)).below ((Below.refl _ _).alloc (Nat.le_refl _) _)).below ((Below.refl _ _).alloc (Nat.le_refl _) _)).below h'))).mono ?_
    rintro e w1 ⟨rfl, hb⟩
    have nQ := Lib.hid (blk_below (blk_alloc (blk_alloc (new_at _ _ (w.heap.size) oz) _) _) hb)
    have nE := Lib.hid (blk_below (blk_alloc (new_at _ _ (w.heap.size + 1) oz) _) hb)
    have nX := Lib.hid (blk_below (new_at _ _ (w.heap.size + 1 + 1) oz) hb)
    have nN := Lib.hid (((((HN.out).below ((Below.refl _ _).alloc (Nat.le_refl _) _)).below ((Below.refl _ _).alloc (Nat.le_refl _) _)).below ((Below.refl _ _).alloc (Nat.le_refl _) _)).below hb)
    have nB := Lib.hid (((((HB.out).alloc oz _).alloc oz _).alloc oz _).trans (hb.mono oz))
    have hs1 := hb.size
    try simp only [World.size_alloc, World.size_setCell] at hs1
    clear HB HN
    have HQ := nQ
    have HE := nE
    have HX := nX
    have HN := nN
    have HB := nB
    clear nB nQ nE nX nN
    clear hb
    have cQ0 : w1.cell? ⟨w.heap.size, 0, none⟩ = some (.slice A0 l0.length c0) := (blk_cell HQ.out 0).trans rfl
    have fQ0 := blk_frozen HQ.out 0
    have lQ1 := blk_lt HQ.out
    have cE0 : w1.cell? ⟨w.heap.size + 1, 0, none⟩ = some (.int .i64 a1) := (blk_cell HE.out 0).trans rfl
    have fE0 := blk_frozen HE.out 0
    have lE1 := blk_lt HE.out
    have cX0 : w1.cell? ⟨w.heap.size + 1 + 1, 0, none⟩ = some (Value.int .i64 a2_0) := (blk_cell HX.out 0).trans rfl
    have fX0 := blk_frozen HX.out 0
    have cX1 : w1.cell? ⟨w.heap.size + 1 + 1, 1, none⟩ = some (Value.int .i64 a2_1) := (blk_cell HX.out 1).trans rfl
    have fX1 := blk_frozen HX.out 1
    have lX1 := blk_lt HX.out
    go_wp2
    all_goals (go_ret; exact ⟨by first | rfl | (simp_all; done) | (simp [*]; done), (HB.out).alloc oz _⟩)
  · rw [if_neg ht] at h
    cases h
    have hq : (t2 == 0) = false := by simp [ht]
    clear ht
    go_enter Tryz.func125, Tryz.ntmps125
    go_wp2_with fail
    refine (caught_t 151 _ m x t0 t1 t2 HT.out _ (fun args w => enters_ Tryz.func151 (by kernel_rfl) rfl args w) (fun w' h' => is1_n k l0 A0 c0 a1 m x HD.out _ _ w' (blk_below (blk_alloc (blk_alloc (new_at _ _ (w.heap.size) oz) _) _) h') (blk_below (blk_alloc (new_at _ _ (w.heap.size + 1) oz) _) h') (((((HN.out).below ((Below.refl _ _).alloc (Nat.le_refl _) _)).below ((Below.refl _ _).alloc (Nat.le_refl _) _)).below ((Below.refl _ _).alloc (Nat.le_refl _) _)).below h'))).mono ?_
    rintro e w1 ⟨rfl, hb⟩
    have nQ := Lib.hid (blk_below (blk_alloc (blk_alloc (new_at _ _ (w.heap.size) oz) _) _) hb)
    have nE := Lib.hid (blk_below (blk_alloc (new_at _ _ (w.heap.size + 1) oz) _) hb)
    have nX := Lib.hid (blk_below (new_at _ _ (w.heap.size + 1 + 1) oz) hb)
    have nN := Lib.hid (((((HN.out).below ((Below.refl _ _).alloc (Nat.le_refl _) _)).below ((Below.refl _ _).alloc (Nat.le_refl _) _)).below ((Below.refl _ _).alloc (Nat.le_refl _) _)).below hb)
    have nB := Lib.hid (((((HB.out).alloc oz _).alloc oz _).alloc oz _).trans (hb.mono oz))
    have hs1 := hb.size
    try simp only [World.size_alloc, World.size_setCell] at hs1
    clear HB HN
    have HQ := nQ
    have HE := nE
    have HX := nX
    have HN := nN
    have HB := nB
    clear nB nQ nE nX nN
    clear hb
    have cQ0 : w1.cell? ⟨w.heap.size, 0, none⟩ = some (.slice A0 l0.length c0) := (blk_cell HQ.out 0).trans rfl
    have fQ0 := blk_frozen HQ.out 0
    have lQ1 := blk_lt HQ.out
    have cE0 : w1.cell? ⟨w.heap.size + 1, 0, none⟩ = some (.int .i64 a1) := (blk_cell HE.out 0).trans rfl
    have fE0 := blk_frozen HE.out 0
    have lE1 := blk_lt HE.out
    have cX0 : w1.cell? ⟨w.heap.size + 1 + 1, 0, none⟩ = some (Value.int .i64 a2_0) := (blk_cell HX.out 0).trans rfl
    have fX0 := blk_frozen HX.out 0
    have cX1 : w1.cell? ⟨w.heap.size + 1 + 1, 1, none⟩ = some (Value.int .i64 a2_1) := (blk_cell HX.out 1).trans rfl
    have fX1 := blk_frozen HX.out 1
    have lX1 := blk_lt HX.out
    go_wp2
    all_goals (go_ret; exact ⟨by first | rfl | (simp_all; done) | (simp [*]; done), (HB.out).alloc oz _⟩)
end Go.Proofs.YteigbokklclmbaaGreatDoor.Z
end
section
namespace Go.Proofs.YteigbokklclmbaaGreatDoor.Z
open Go.RowKit Go.Proofs.YteigbokklclmbaaGreatDoor.Given Go.Proofs.YteigbokklclmbaaGreatDoorW.PrintWords Go.Proofs.YteigbokklclmbaaGreatDoorW.PrintLast Go.Proofs.YteigbokklclmbaaGreatDoorW.PrintMore
attribute [local go_sem] max2_int min2_int max_two min_two max_three min_three max_four min_four   -- for this text's walks alone

mutual
def real_shortest.l0 : Nat → List Int → Int → Int → Int → Option (ByteArray × Int)
 | 0, _, _, _, _ => none
 | k + 1, x4, x5, x379000, x379001 => (real_scaled.f k x4 x379001 (wrap64 (-x5))).bind fun bt382 => ((real_nat_cmp.f k bt382.1 bt382.2).bind fun t388 => (if t388 < 0 then (real_shortest.l1 k x4 x5 1 x379000 x379001) else (real_shortest.l0 k x4 (wrap64 (x5 + 1)) x379000 x379001)))
def real_shortest.l1 : Nat → List Int → Int → Int → Int → Int → Option (ByteArray × Int)
 | 0, _, _, _, _, _ => none
 | k + 1, x4, x5, x8, x379000, x379001 => (real_scaled.f k x4 x379001 (wrap64 (x8 - x5))).bind fun bt389 => ((real_nat_div.f k bt389.1 bt389.2).bind fun bt395 => ((real_nat_add.f k bt395.1 (([1] : List Int))).bind fun t404 => ((real_is.f k bt395.1 (wrap64 (x5 - x8)) x379000 x379001).bind fun t407 => ((real_is.f k t404 (wrap64 (x5 - x8)) x379000 x379001).bind fun t408 => (if t407 = true then (real_shortest.j2 k x4 x5 x8 bt389.2 bt395.1 bt395.2 t404 t407 t408 false x379000 x379001) else (real_shortest.j2 k x4 x5 x8 bt389.2 bt395.1 bt395.2 t404 t407 t408 (!t408) x379000 x379001))))))
def real_shortest.j2 : Nat → List Int → Int → Int → List Int → List Int → List Int → List Int → Bool → Bool → Bool → Int → Int → Option (ByteArray × Int)
 | 0, _, _, _, _, _, _, _, _, _, _, _, _ => none
 | k + 1, x4, x5, x8, x10, x11, x12, x13, x14, x15, x75, x379000, x379001 => if x75 = true then (real_shortest.l1 k x4 x5 (wrap64 (x8 + 1)) x379000 x379001) else ((real_nat_shl.f k x12 1).bind fun t409 => ((real_nat_cmp.f k t409 x10).bind fun t412 => (if x14 = true then (if x15 = true then (if t412 > 0 then (real_shortest.j3 k x5 x8 x13 x11 true) else (if t412 = 0 then ((real_nat_small.f k x11).bind fun t413 => (real_shortest.j3 k x5 x8 x13 x11 ((Int.tmod t413 2) == 1))) else (real_shortest.j3 k x5 x8 x13 x11 false))) else (real_shortest.j3 k x5 x8 x13 x11 false)) else (real_shortest.j3 k x5 x8 x13 x11 true))))
def real_shortest.j3 : Nat → Int → Int → List Int → List Int → Bool → Option (ByteArray × Int)
 | 0, _, _, _, _, _ => none
 | k + 1, x5, x8, x13, x16, x99 => if x99 = true then (real_shortest.j4 k x5 x8 x13) else (real_shortest.j4 k x5 x8 x16)
def real_shortest.j4 : Nat → Int → Int → List Int → Option (ByteArray × Int)
 | 0, _, _, _ => none
 | k + 1, x5, x8, x16 => (real_nat_small.f k x16).bind fun t414 => ((strconv_FormatUint.f t414 10).bind fun t415 => ((strings_TrimRight.f t415 (⟨#[48]⟩ : ByteArray)).bind fun t416 => (some (t416, wrap64 ((wrap64 (x5 + (t415.size : Int))) - x8)))))
end
def real_shortest.f (k : Nat) (a0_0 : Int) (a0_1 : Int) : Option (ByteArray × Int) := (real_magnitude.f k a0_0).bind fun t379 => (real_shortest.l0 k t379 (-60) a0_0 a0_1)
theorem real_shortest.mono_l : ∀ k, (∀ y0 y1 y2 y3, LeO (real_shortest.l0 k y0 y1 y2 y3) (real_shortest.l0 (k + 1) y0 y1 y2 y3)) ∧ (∀ y0 y1 y2 y3 y4, LeO (real_shortest.l1 k y0 y1 y2 y3 y4) (real_shortest.l1 (k + 1) y0 y1 y2 y3 y4)) ∧ (∀ y0 y1 y2 y3 y4 y5 y6 y7 y8 y9 y10 y11, LeO (real_shortest.j2 k y0 y1 y2 y3 y4 y5 y6 y7 y8 y9 y10 y11) (real_shortest.j2 (k + 1) y0 y1 y2 y3 y4 y5 y6 y7 y8 y9 y10 y11)) ∧ (∀ y0 y1 y2 y3 y4, LeO (real_shortest.j3 k y0 y1 y2 y3 y4) (real_shortest.j3 (k + 1) y0 y1 y2 y3 y4)) ∧ (∀ y0 y1 y2, LeO (real_shortest.j4 k y0 y1 y2) (real_shortest.j4 (k + 1) y0 y1 y2))
 | 0 => ⟨fun _ _ _ _ r h => by simp [real_shortest.l0] at h, fun _ _ _ _ _ r h => by simp [real_shortest.l1] at h, fun _ _ _ _ _ _ _ _ _ _ _ _ r h => by simp [real_shortest.j2] at h, fun _ _ _ _ _ r h => by simp [real_shortest.j3] at h, fun _ _ _ r h => by simp [real_shortest.j4] at h⟩
 | k + 1 => by
  obtain ⟨ih0, ih1, ih2, ih3, ih4⟩ := real_shortest.mono_l k
  refine ⟨?_, ?_, ?_, ?_, ?_⟩
  ·intro y0 y1 y2 y3
   unfold real_shortest.l0
   repeat' first
   | (with_reducible exact ih0 _ _ _ _)
   | (with_reducible exact ih1 _ _ _ _ _)
   | (with_reducible exact ih2 _ _ _ _ _ _ _ _ _ _ _ _)
   | (with_reducible exact ih3 _ _ _ _ _)
   | (with_reducible exact ih4 _ _ _)
   | (with_reducible exact real_is.mono _ _ _ _ _)
   | (with_reducible exact real_magnitude.mono _ _)
   | (with_reducible exact real_nat_add.mono _ _ _)
   | (with_reducible exact real_nat_cmp.mono _ _ _)
   | (with_reducible exact real_nat_div.mono _ _ _)
   | (with_reducible exact real_nat_shl.mono _ _ _)
   | (with_reducible exact real_nat_small.mono _ _)
   | (with_reducible exact real_scaled.mono _ _ _ _)
   | (with_reducible exact LeO.refl _)
   | (with_reducible exact LeO.none _)
   | (with_reducible refine LeO.ite ?_ ?_)
   | (with_reducible refine LeO.bind ?_ (fun _ => ?_))
   | exact ih0 _ _ _ _
   | exact ih1 _ _ _ _ _
   | exact ih2 _ _ _ _ _ _ _ _ _ _ _ _
   | exact ih3 _ _ _ _ _
   | exact ih4 _ _ _
   | exact real_is.mono _ _ _ _ _
   | exact real_magnitude.mono _ _
   | exact real_nat_add.mono _ _ _
   | exact real_nat_cmp.mono _ _ _
   | exact real_nat_div.mono _ _ _
   | exact real_nat_shl.mono _ _ _
   | exact real_nat_small.mono _ _
   | exact real_scaled.mono _ _ _ _
   | exact LeO.none _
   | refine LeO.ite ?_ ?_
   | refine LeO.bind ?_ (fun _ => ?_)
  ·intro y0 y1 y2 y3 y4
   unfold real_shortest.l1
   repeat' first
   | (with_reducible exact ih0 _ _ _ _)
   | (with_reducible exact ih1 _ _ _ _ _)
   | (with_reducible exact ih2 _ _ _ _ _ _ _ _ _ _ _ _)
   | (with_reducible exact ih3 _ _ _ _ _)
   | (with_reducible exact ih4 _ _ _)
   | (with_reducible exact real_is.mono _ _ _ _ _)
   | (with_reducible exact real_magnitude.mono _ _)
   | (with_reducible exact real_nat_add.mono _ _ _)
   | (with_reducible exact real_nat_cmp.mono _ _ _)
   | (with_reducible exact real_nat_div.mono _ _ _)
   | (with_reducible exact real_nat_shl.mono _ _ _)
   | (with_reducible exact real_nat_small.mono _ _)
   | (with_reducible exact real_scaled.mono _ _ _ _)
   | (with_reducible exact LeO.refl _)
   | (with_reducible exact LeO.none _)
   | (with_reducible refine LeO.ite ?_ ?_)
   | (with_reducible refine LeO.bind ?_ (fun _ => ?_))
   | exact ih0 _ _ _ _
   | exact ih1 _ _ _ _ _
   | exact ih2 _ _ _ _ _ _ _ _ _ _ _ _
   | exact ih3 _ _ _ _ _
   | exact ih4 _ _ _
   | exact real_is.mono _ _ _ _ _
   | exact real_magnitude.mono _ _
   | exact real_nat_add.mono _ _ _
   | exact real_nat_cmp.mono _ _ _
   | exact real_nat_div.mono _ _ _
   | exact real_nat_shl.mono _ _ _
   | exact real_nat_small.mono _ _
   | exact real_scaled.mono _ _ _ _
   | exact LeO.none _
   | refine LeO.ite ?_ ?_
   | refine LeO.bind ?_ (fun _ => ?_)
  ·intro y0 y1 y2 y3 y4 y5 y6 y7 y8 y9 y10 y11
   unfold real_shortest.j2
   repeat' first
   | (with_reducible exact ih0 _ _ _ _)
   | (with_reducible exact ih1 _ _ _ _ _)
   | (with_reducible exact ih2 _ _ _ _ _ _ _ _ _ _ _ _)
   | (with_reducible exact ih3 _ _ _ _ _)
   | (with_reducible exact ih4 _ _ _)
   | (with_reducible exact real_is.mono _ _ _ _ _)
   | (with_reducible exact real_magnitude.mono _ _)
   | (with_reducible exact real_nat_add.mono _ _ _)
   | (with_reducible exact real_nat_cmp.mono _ _ _)
   | (with_reducible exact real_nat_div.mono _ _ _)
   | (with_reducible exact real_nat_shl.mono _ _ _)
   | (with_reducible exact real_nat_small.mono _ _)
   | (with_reducible exact real_scaled.mono _ _ _ _)
   | (with_reducible exact LeO.refl _)
   | (with_reducible exact LeO.none _)
   | (with_reducible refine LeO.ite ?_ ?_)
   | (with_reducible refine LeO.bind ?_ (fun _ => ?_))
   | exact ih0 _ _ _ _
   | exact ih1 _ _ _ _ _
   | exact ih2 _ _ _ _ _ _ _ _ _ _ _ _
   | exact ih3 _ _ _ _ _
   | exact ih4 _ _ _
   | exact real_is.mono _ _ _ _ _
   | exact real_magnitude.mono _ _
   | exact real_nat_add.mono _ _ _
   | exact real_nat_cmp.mono _ _ _
   | exact real_nat_div.mono _ _ _
   | exact real_nat_shl.mono _ _ _
   | exact real_nat_small.mono _ _
   | exact real_scaled.mono _ _ _ _
   | exact LeO.none _
   | refine LeO.ite ?_ ?_
   | refine LeO.bind ?_ (fun _ => ?_)
  ·intro y0 y1 y2 y3 y4
   unfold real_shortest.j3
   repeat' first
   | (with_reducible exact ih0 _ _ _ _)
   | (with_reducible exact ih1 _ _ _ _ _)
   | (with_reducible exact ih2 _ _ _ _ _ _ _ _ _ _ _ _)
   | (with_reducible exact ih3 _ _ _ _ _)
   | (with_reducible exact ih4 _ _ _)
   | (with_reducible exact real_is.mono _ _ _ _ _)
   | (with_reducible exact real_magnitude.mono _ _)
   | (with_reducible exact real_nat_add.mono _ _ _)
   | (with_reducible exact real_nat_cmp.mono _ _ _)
   | (with_reducible exact real_nat_div.mono _ _ _)
   | (with_reducible exact real_nat_shl.mono _ _ _)
   | (with_reducible exact real_nat_small.mono _ _)
   | (with_reducible exact real_scaled.mono _ _ _ _)
   | (with_reducible exact LeO.refl _)
   | (with_reducible exact LeO.none _)
   | (with_reducible refine LeO.ite ?_ ?_)
   | (with_reducible refine LeO.bind ?_ (fun _ => ?_))
   | exact ih0 _ _ _ _
   | exact ih1 _ _ _ _ _
   | exact ih2 _ _ _ _ _ _ _ _ _ _ _ _
   | exact ih3 _ _ _ _ _
   | exact ih4 _ _ _
   | exact real_is.mono _ _ _ _ _
   | exact real_magnitude.mono _ _
   | exact real_nat_add.mono _ _ _
   | exact real_nat_cmp.mono _ _ _
   | exact real_nat_div.mono _ _ _
   | exact real_nat_shl.mono _ _ _
   | exact real_nat_small.mono _ _
   | exact real_scaled.mono _ _ _ _
   | exact LeO.none _
   | refine LeO.ite ?_ ?_
   | refine LeO.bind ?_ (fun _ => ?_)
  ·intro y0 y1 y2
   unfold real_shortest.j4
   repeat' first
   | (with_reducible exact ih0 _ _ _ _)
   | (with_reducible exact ih1 _ _ _ _ _)
   | (with_reducible exact ih2 _ _ _ _ _ _ _ _ _ _ _ _)
   | (with_reducible exact ih3 _ _ _ _ _)
   | (with_reducible exact ih4 _ _ _)
   | (with_reducible exact real_is.mono _ _ _ _ _)
   | (with_reducible exact real_magnitude.mono _ _)
   | (with_reducible exact real_nat_add.mono _ _ _)
   | (with_reducible exact real_nat_cmp.mono _ _ _)
   | (with_reducible exact real_nat_div.mono _ _ _)
   | (with_reducible exact real_nat_shl.mono _ _ _)
   | (with_reducible exact real_nat_small.mono _ _)
   | (with_reducible exact real_scaled.mono _ _ _ _)
   | (with_reducible exact LeO.refl _)
   | (with_reducible exact LeO.none _)
   | (with_reducible refine LeO.ite ?_ ?_)
   | (with_reducible refine LeO.bind ?_ (fun _ => ?_))
   | exact ih0 _ _ _ _
   | exact ih1 _ _ _ _ _
   | exact ih2 _ _ _ _ _ _ _ _ _ _ _ _
   | exact ih3 _ _ _ _ _
   | exact ih4 _ _ _
   | exact real_is.mono _ _ _ _ _
   | exact real_magnitude.mono _ _
   | exact real_nat_add.mono _ _ _
   | exact real_nat_cmp.mono _ _ _
   | exact real_nat_div.mono _ _ _
   | exact real_nat_shl.mono _ _ _
   | exact real_nat_small.mono _ _
   | exact real_scaled.mono _ _ _ _
   | exact LeO.none _
   | refine LeO.ite ?_ ?_
   | refine LeO.bind ?_ (fun _ => ?_)
theorem real_shortest.mono : ∀ a0 a1 k, LeO (real_shortest.f k a0 a1) (real_shortest.f (k + 1) a0 a1) := by
 intro a0 a1 k
 obtain ⟨ih0, ih1, ih2, ih3, ih4⟩ := real_shortest.mono_l k
 unfold real_shortest.f
 repeat' first
   | (with_reducible exact ih0 _ _ _ _)
   | (with_reducible exact ih1 _ _ _ _ _)
   | (with_reducible exact ih2 _ _ _ _ _ _ _ _ _ _ _ _)
   | (with_reducible exact ih3 _ _ _ _ _)
   | (with_reducible exact ih4 _ _ _)
   | (with_reducible exact real_is.mono _ _ _ _ _)
   | (with_reducible exact real_magnitude.mono _ _)
   | (with_reducible exact real_nat_add.mono _ _ _)
   | (with_reducible exact real_nat_cmp.mono _ _ _)
   | (with_reducible exact real_nat_div.mono _ _ _)
   | (with_reducible exact real_nat_shl.mono _ _ _)
   | (with_reducible exact real_nat_small.mono _ _)
   | (with_reducible exact real_scaled.mono _ _ _ _)
   | (with_reducible exact LeO.refl _)
   | (with_reducible exact LeO.none _)
   | (with_reducible refine LeO.ite ?_ ?_)
   | (with_reducible refine LeO.bind ?_ (fun _ => ?_))
   | exact ih0 _ _ _ _
   | exact ih1 _ _ _ _ _
   | exact ih2 _ _ _ _ _ _ _ _ _ _ _ _
   | exact ih3 _ _ _ _ _
   | exact ih4 _ _ _
   | exact real_is.mono _ _ _ _ _
   | exact real_magnitude.mono _ _
   | exact real_nat_add.mono _ _ _
   | exact real_nat_cmp.mono _ _ _
   | exact real_nat_div.mono _ _ _
   | exact real_nat_shl.mono _ _ _
   | exact real_nat_small.mono _ _
   | exact real_scaled.mono _ _ _ _
   | exact LeO.none _
   | refine LeO.ite ?_ ?_
   | refine LeO.bind ?_ (fun _ => ?_)
def real_shortest.T11 : Bool × List (List Nat × List Nat) := (true, [([], []), ([], []), ([], []), ([1, 2], [1, 2]), ([], []), ([0, 3, 4], [0, 3, 4]), ([], []), ([], []), ([], []), ([7, 8], [7, 8]), ([], []), ([6, 9, 10, 5], [6, 9, 10]), ([5, 11, 0, 1, 2, 3, 4, 5], [5]), ([11, 12, 0, 1, 2, 3, 4, 5, 6, 7, 8, 9, 10, 11, 12], [11])])
def real_shortest.B11 : List Nat := [0, 0, 0, 6, 0, 31, 0, 0, 0, 384, 0, 2047, 4095, 8191]
theorem real_shortest.tab11 : rtab .any (opsOf Tryz.f89 11) = real_shortest.T11 := by kernel_rfl
theorem real_shortest.bits11 : waitsOk real_shortest.T11.2 real_shortest.B11 = true := by kernel_rfl
theorem real_shortest.calls (k : Nat) (a0_0 : Int) (a0_1 : Int) (r1 : ByteArray) (r2 : Int) (w : World) (h : real_shortest.f k a0_0 a0_1 = some (r1, r2)) (ht : Table w) :
  Calls Tryz.prog 89 #[.agg #[.int .i64 a0_0, .int .i64 a0_1]] w fun e w' => e = .returned (.tuple #[.string r1, .int .i64 r2]) ∧ Below w.heap.size w w' := by
 have hu23 := Tryz.underlying23
 have HB := Aside0.mk (Below.refl w.heap.size w)
 have HT := Aside0.mk (Lib.tabBelow_of_tabIs ht)
 clear ht
 have H := h; unfold real_shortest.f at H; clear h
 replace H := Option.bind_eq_some_iff.mp H
 obtain ⟨t379, A20, H⟩ := H
 try dsimp only at H
 have A2 := Aside0.mk A20
 clear A20
 have H' := Aside0.mk H
 clear H
 go_enter Tryz.func89, Tryz.ntmps89
 go_wp2_with (first | ((with_reducible refine gate_dst (N := 1) rfl ?_); refine box_event ?hg (N := 1) ?hd (cs := #[.int .i64 a0_0, .int .i64 a0_1]) (t := 23) ?hr ?_; (case hd => rfl); (case hg => rfl); (case hr => first | (go_simp; done) | (go_simp; rfl)); intro gb378 hg w3 hbox hb; have BK378 := Aside0.mk hbox; have GW378 := ge hg; have GE378 := ge hg; replace HB := bs hb; clear hb hbox hg; have hcz4_0 := c20 BK378; have hcz4_1 := c21 BK378; have hfz4_0 := blk_frozen BK378.out 0; have hfz4_1 := blk_frozen BK378.out 1) | ((with_reducible refine gate_callee (f := 113) rfl ?_); refine goesL_ (some 21) rfl rfl Tryz.func113 (by kernel_rfl) rfl #[.int .i64 a0_0] rfl az ?_; (with_reducible refine (real_magnitude.calls k a0_0 t379 _ A2.out).mono ?_); rintro e w5 ⟨v380, rfl, ho0, hb⟩; refine ⟨_, rfl, ?_⟩; have HO381 := Aside0.mk (Kd.V_lower (Kd.V_mono (ok' := fun k_ => k_ ≠ gb378) ho0 (fun k_ hk_ => (fb BK378 k_ hk_))) (below_size bz)); replace BK378 := kb BK378 hb; replace HB := bs hb; (try clear hb); (try clear hk); (try clear ho0)))
 go_loopg [5] k (fun kq v5 w' => ∃ (x5_1 : Int), v5 = .int .i64 x5_1 ∧ Aside0 (real_shortest.l0 kq t379 x5_1 a0_0 a0_1 = some (r1, r2)) ∧ Aside0 (kq ≤ k) ∧ Aside0 (Kd.V (Kd.int .u32) 115 w' w.heap.size (fun k_ => k_ ≠ gb378) v380 t379) ∧ Aside0 (w'.heap[gb378]? = some (.cells #[.int .i64 a0_0, .int .i64 a0_1] 23 (0, 0))) ∧ Aside0 (Below w.heap.size w w'))
 case atStart => exact ⟨((-60)), (by first | rfl | (simp; done) | (simp [*]; done)), H', ⟨Nat.le_refl _⟩, ⟨vz HO381⟩, ⟨kz BK378⟩, ⟨bz⟩⟩
 case round =>
  clear H'
  try clear hcz4_0
  try clear hcz4_1
  try clear hfz4_0
  try clear hfz4_1
  obtain ⟨x5_1, rfl, HA, HK1, HO_4, BK378, HB⟩ := hrel
  cases gk with
  | zero => exact absurd HA.out (by simp [real_shortest.l0])
  | succ k1 =>
   have H := HA.out
   clear HA
   simp only [real_shortest.l0] at H
   replace H := Option.bind_eq_some_iff.mp H
   obtain ⟨⟨t382, t385⟩, A60, H⟩ := H
   try dsimp only at H
   have A6 := Aside0.mk A60
   clear A60
   replace H := Option.bind_eq_some_iff.mp H
   obtain ⟨t388, A70, H⟩ := H
   try dsimp only at H
   have A7 := Aside0.mk A70
   clear A70
   by_cases c8 : t388 < 0
   ·rw [if_pos c8] at H
    have c8b0 : decide (t388 < 0) = true := decide_eq_true c8
    clear c8
    have H' := Aside0.mk H
    clear H
    have hcz9_0 := c20 BK378
    have hcz9_1 := c21 BK378
    have hfz9_0 := blk_frozen BK378.out 0
    have hfz9_1 := blk_frozen BK378.out 1
    obtain ⟨Ao10, co10, eo10⟩ := Kd.V_slice HO_4.out
    subst eo10
    go_wp2_with (first | ((with_reducible refine gate_callee (f := 122) rfl ?_); refine goesL_ (some 28) rfl rfl Tryz.func122 (by kernel_rfl) rfl #[.slice Ao10 t379.length co10, .int .i64 a0_1, .int .i64 (wrap64 (-x5_1))] rfl az ?_; (with_reducible refine (real_scaled.calls k1 (fun k_ => k_ ≠ gb378) _ _ t379 a0_1 (wrap64 (-x5_1)) t382 t385 _ ?side1 A6.out).mono ?_); (case side1 => exact HO_4.out); rintro e w11 ⟨v383, v386, rfl, ho0, ho1, hb⟩; refine ⟨_, rfl, ?_⟩; have HO384 := Aside0.mk (Kd.V_lower (Kd.V_mono (ok' := fun k_ => k_ ≠ gb378) ho0 (fun k_ hk_ => Or.elim hk_ (fun hs_ => hs_) (fun hn_ => (fb BK378 k_ hn_)))) (below_size bz)); have HO387 := Aside0.mk (Kd.V_lower (Kd.V_mono (ok' := fun k_ => k_ ≠ gb378) ho1 (fun k_ hk_ => Or.elim hk_ (fun hs_ => hs_) (fun hn_ => (fb BK378 k_ hn_)))) (below_size bz)); replace HO_4 := vb HO_4 hb; replace BK378 := kb BK378 hb; replace HB := bs hb; (try clear hb); (try clear hk); (try clear ho0); (try clear ho1); obtain ⟨Ao12, co12, eo12⟩ := Kd.V_slice HO384.out; subst eo12; obtain ⟨Ao13, co13, eo13⟩ := Kd.V_slice HO387.out; subst eo13) | ((with_reducible refine gate_callee (f := 123) rfl ?_); refine goesL_ (some 33) rfl rfl Tryz.func123 (by kernel_rfl) rfl #[.slice Ao12 t382.length co12, .slice Ao13 t385.length co13] rfl az ?_; (with_reducible refine (real_nat_cmp.calls k1 _ _ t382 _ _ t385 t388 _ ?side1 ?side2 ?side3 ?side4 A7.out).mono ?_); (case side1 => exact ccz (Kd.V_reads' HO384.out).2.2); (case side2 => exact (Kd.V_reads' HO384.out).2.1); (case side3 => exact ccz (Kd.V_reads' HO387.out).2.2); (case side4 => exact (Kd.V_reads' HO387.out).2.1); rintro e w' ⟨rfl, ⟨nd, rfl⟩⟩; refine ⟨_, rfl, ?_⟩))
    go_loopg [8] k1 (fun kq v8 w' => ∃ (x8_2 : Int), v8 = .int .i64 x8_2 ∧ Aside0 (real_shortest.l1 kq t379 x5_1 x8_2 a0_0 a0_1 = some (r1, r2)) ∧ Aside0 (kq ≤ k1) ∧ Aside0 (Kd.V (Kd.int .u32) 115 w' w.heap.size (fun k_ => k_ ≠ gb378) (.slice Ao10 t379.length co10) t379) ∧ Aside0 (w'.heap[gb378]? = some (.cells #[.int .i64 a0_0, .int .i64 a0_1] 23 (0, 0))) ∧ Aside0 (Below w.heap.size w w'))
    case atStart => exact ⟨(1), (by first | rfl | (simp; done) | (simp [*]; done)), H', ⟨Nat.le_refl _⟩, ⟨vz HO_4⟩, ⟨kz BK378⟩, ⟨bz⟩⟩
    case round =>
     clear H'
     try clear c8
     try clear c8b0
     try clear hcz4_0
     try clear hcz4_1
     try clear hcz9_0
     try clear hcz9_1
     try clear hfz4_0
     try clear hfz4_1
     try clear hfz9_0
     try clear hfz9_1
     obtain ⟨x8_2, rfl, HA, HK2, HO_4, BK378, HB⟩ := hrel
     cases gk with
     | zero => exact absurd HA.out (by simp [real_shortest.l1])
     | succ k2 =>
      have H := HA.out
      clear HA
      simp only [real_shortest.l1] at H
      replace H := Option.bind_eq_some_iff.mp H
      obtain ⟨⟨t389, t392⟩, A140, H⟩ := H
      try dsimp only at H
      have A14 := Aside0.mk A140
      clear A140
      replace H := Option.bind_eq_some_iff.mp H
      obtain ⟨⟨t395, t398⟩, A150, H⟩ := H
      try dsimp only at H
      have A15 := Aside0.mk A150
      clear A150
      obtain ⟨y401, hy401⟩ : ∃ y_ : List Int, y_ = (([1] : List Int)) := ⟨_, rfl⟩
      replace H : ((real_nat_add.f k2 t395 y401).bind fun t404 => ((real_is.f k2 t395 (wrap64 (x5_1 - x8_2)) a0_0 a0_1).bind fun t407 => ((real_is.f k2 t404 (wrap64 (x5_1 - x8_2)) a0_0 a0_1).bind fun t408 => (if t407 = true then (real_shortest.j2 k2 t379 x5_1 x8_2 t392 t395 t398 t404 t407 t408 false a0_0 a0_1) else (real_shortest.j2 k2 t379 x5_1 x8_2 t392 t395 t398 t404 t407 t408 (!t408) a0_0 a0_1))))) = some (r1, r2) := by first | (rw [hy401]; with_reducible exact H) | (have H2_ := (Option.bind_some _ _).symm.trans H; rw [hy401]; with_reducible exact H2_) | (have H2_ := (Option.bind_some _ _).symm.trans H; with_reducible exact H2_) | with_reducible exact H | (rw [hy401]; exact H) | exact H
      have Ny401 := Aside0.mk hy401
      clear hy401
      replace H := Option.bind_eq_some_iff.mp H
      obtain ⟨t404, A160, H⟩ := H
      try dsimp only at H
      have A16 := Aside0.mk A160
      clear A160
      replace H := Option.bind_eq_some_iff.mp H
      obtain ⟨t407, A170, H⟩ := H
      try dsimp only at H
      have A17 := Aside0.mk A170
      clear A170
      replace H := Option.bind_eq_some_iff.mp H
      obtain ⟨t408, A180, H⟩ := H
      try dsimp only at H
      have A18 := Aside0.mk A180
      clear A180
      have HC19 := Aside0.mk H
      clear H
      have hcz20_0 := c20 BK378
      have hcz20_1 := c21 BK378
      have hfz20_0 := blk_frozen BK378.out 0
      have hfz20_1 := blk_frozen BK378.out 1
      try go_wp2_with (first | ((with_reducible refine gate_callee (f := 122) rfl ?_); refine goesL_ (some 46) rfl rfl Tryz.func122 (by kernel_rfl) rfl #[.slice Ao10 t379.length co10, .int .i64 a0_1, .int .i64 (wrap64 (x8_2 - x5_1))] rfl az ?_; (with_reducible refine (real_scaled.calls k2 (fun k_ => k_ ≠ gb378) _ _ t379 a0_1 (wrap64 (x8_2 - x5_1)) t389 t392 _ ?side1 A14.out).mono ?_); (case side1 => exact HO_4.out); rintro e w21 ⟨v390, v393, rfl, ho0, ho1, hb⟩; refine ⟨_, rfl, ?_⟩; have HO391 := Aside0.mk (Kd.V_lower (Kd.V_mono (ok' := fun k_ => k_ ≠ gb378) ho0 (fun k_ hk_ => Or.elim hk_ (fun hs_ => hs_) (fun hn_ => (fb BK378 k_ hn_)))) (below_size bz)); have HO394 := Aside0.mk (Kd.V_lower (Kd.V_mono (ok' := fun k_ => k_ ≠ gb378) ho1 (fun k_ hk_ => Or.elim hk_ (fun hs_ => hs_) (fun hn_ => (fb BK378 k_ hn_)))) (below_size bz)); replace HO_4 := vb HO_4 hb; replace BK378 := kb BK378 hb; replace HB := bs hb; (try clear hb); (try clear hk); (try clear ho0); (try clear ho1); obtain ⟨Ao22, co22, eo22⟩ := Kd.V_slice HO391.out; subst eo22; obtain ⟨Ao23, co23, eo23⟩ := Kd.V_slice HO394.out; subst eo23) | ((with_reducible refine gate_callee (f := 124) rfl ?_); refine goesL_ (some 52) rfl rfl Tryz.func124 (by kernel_rfl) rfl #[.slice Ao22 t389.length co22, .slice Ao23 t392.length co23] rfl az ?_; (with_reducible refine (real_nat_div.calls k2 _ _ t389 _ _ t392 t395 t398 _ ?side1 ?side2 ?side3 ?side4 A15.out).mono ?_); (case side1 => exact ccz (Kd.V_reads' HO391.out).2.2); (case side2 => exact (Kd.V_reads' HO391.out).2.1); (case side3 => exact ccz (Kd.V_reads' HO394.out).2.2); (case side4 => exact (Kd.V_reads' HO394.out).2.1); rintro e w24 ⟨v396, v399, rfl, ho0, ho1, hb⟩; refine ⟨_, rfl, ?_⟩; have HO397 := Aside0.mk (Kd.V_lower (Kd.V_mono (ok' := fun k_ => k_ ≠ gb378) ho0 (fun k_ hk_ => (fb BK378 k_ hk_))) (below_size bz)); have HO400 := Aside0.mk (Kd.V_lower (Kd.V_mono (ok' := fun k_ => k_ ≠ gb378) ho1 (fun k_ hk_ => (fb BK378 k_ hk_))) (below_size bz)); replace HO_4 := vb HO_4 hb; replace HO391 := vb HO391 hb; replace HO394 := vb HO394 hb; replace BK378 := kb BK378 hb; replace HB := bs hb; (try clear hb); (try clear hk); (try clear ho0); (try clear ho1)) | ((with_reducible refine gate_dst (N := 56) rfl ?_); refine Kd.R_lit (Kd.int .u32) _ 115 ?hg (N := 56) ?hd (xs := ([1] : List Int)) (inner := [.int .u32 1]) (ok := fun _ => True) (okp := fun _ => True) ?hr ?hp (fun _ hk => hk) trivial (Below.refl _ _) (Nat.le_refl _) (by simp) ?_; (case hd => rfl); (case hg => rfl); (case hr => first | (go_simp; done) | (go_simp; rfl)); (case hp => exact (Reps.one (show Kd.M (Kd.int .u32) _ _ _ 1 [.int .u32 1] from rfl) (Reps.none _ _))); intro v402 w25 ho26 hb hg_ hnew_; clear hg_ hnew_; (first | rw [← Ny401.out] at ho26 | (simp only [Int.reduceToNat] at ho26; rw [← Ny401.out] at ho26)); have HO403 := Aside0.mk (Kd.R_lower ho26 (below_size bz)); replace HO_4 := Aside0.mk (Kd.V_elder' (vz HO_4) (Kd.R_base ho26) hb); replace HO391 := Aside0.mk (Kd.V_elder' (vz HO391) (Kd.R_base ho26) hb); replace HO394 := Aside0.mk (Kd.V_elder' (vz HO394) (Kd.R_base ho26) hb); replace HO397 := Aside0.mk (Kd.V_elder' (vz HO397) (Kd.R_base ho26) hb); replace HO400 := Aside0.mk (Kd.V_elder' (vz HO400) (Kd.R_base ho26) hb); replace BK378 := kb BK378 hb; replace HB := bs hb; clear hb ho26; obtain ⟨Ao27, co27, eo27⟩ := Kd.V_slice HO397.out; subst eo27; obtain ⟨Ao28, co28, eo28⟩ := Kd.R_slice HO403.out; subst eo28) | ((with_reducible refine gate_callee (f := 117) rfl ?_); refine goesL_ (some 57) rfl rfl Tryz.func117 (by kernel_rfl) rfl #[.slice Ao27 t395.length co27, .slice Ao28 y401.length co28] rfl az ?_; (with_reducible refine (real_nat_add.calls k2 _ _ t395 _ _ y401 t404 _ ?side1 ?side2 ?side3 ?side4 A16.out).mono ?_); (case side1 => exact ccz (Kd.V_reads' HO397.out).2.2); (case side2 => exact (Kd.V_reads' HO397.out).2.1); (case side3 => exact ccz (Kd.R_reads' HO403.out).2.2); (case side4 => exact (Kd.R_reads' HO403.out).2.1); rintro e w29 ⟨v405, rfl, ho0, hb⟩; refine ⟨_, rfl, ?_⟩; have HO406 := Aside0.mk (Kd.V_lower (Kd.V_mono (ok' := fun k_ => some k_ ≠ (.slice Ao28 y401.length co28 : Value).ownBlock ∧ k_ ≠ gb378) ho0 (fun k_ hk_ => ⟨(Kd.fresh' (Kd.R_lt (rz HO403)) k_ hk_), (fb BK378 k_ hk_)⟩)) (below_size bz)); replace HO_4 := vb HO_4 hb; replace HO391 := vb HO391 hb; replace HO394 := vb HO394 hb; replace HO397 := vb HO397 hb; replace HO400 := vb HO400 hb; replace HO403 := rb HO403 hb; replace BK378 := kb BK378 hb; replace HB := bs hb; (try clear hb); (try clear hk); (try clear ho0)))
      replace HO_4 := Aside0.mk (Kd.V_drew HO_4.out)
      replace HO391 := Aside0.mk (Kd.V_drew HO391.out)
      replace HO394 := Aside0.mk (Kd.V_drew HO394.out)
      replace HO397 := Aside0.mk (Kd.V_drew HO397.out)
      replace HO400 := Aside0.mk (Kd.V_drew HO400.out)
      replace HO403 := Aside0.mk (Kd.R_drew HO403.out)
      replace HO406 := Aside0.mk (Kd.V_drew HO406.out)
      replace BK378 := Aside0.mk (blk_drew BK378.out)
      replace HB := Aside0.mk (below_drew1 HB.out)
      refine start_ (n := 14) (S := fun w' => w'.cell? ⟨gb378, 0, none⟩ = some (.int .i64 a0_0) ∧ w'.cell? ⟨gb378, 1, none⟩ = some (.int .i64 a0_1)) (ds := []) #[false, false, false, false, false, false, false, false, false, false, false, false, false, false] (by kernel_rfl) rfl rfl ⟨(blk_cell BK378.out 0).trans rfl, (blk_cell BK378.out 1).trans rfl⟩ (fun hHeld => ?_); refine with_tabW real_shortest.tab11 real_shortest.bits11 (fun HT_ HW_ => ?_)
      generalize w29.drew = w30 at HO_4 HO391 HO394 HO397 HO400 HO403 HO406 BK378 HB hHeld ⊢
      refine pur 0 (some 58) #[tt,ff,ff,ff,ff,ff,ff,ff,ff,ff,ff,ff,ff,ff] ?_
      refine pur 1 (some 59) #[tt,tt,ff,ff,ff,ff,ff,ff,ff,ff,ff,ff,ff,ff] ?_
      refine pur 2 (some 60) #[tt,tt,tt,ff,ff,ff,ff,ff,ff,ff,ff,ff,ff,ff] ?_
      refine pur 3 (some 61) #[tt,tt,tt,tt,ff,ff,ff,ff,ff,ff,ff,ff,ff,ff] ?_
      refine pur 6 (some 64) #[tt,tt,tt,tt,ff,ff,tt,ff,ff,ff,ff,ff,ff,ff] ?_
      refine pur 7 (some 65) #[tt,tt,tt,tt,ff,ff,tt,tt,ff,ff,ff,ff,ff,ff] ?_
      refine pur 8 (some 66) #[tt,tt,tt,tt,ff,ff,tt,tt,tt,ff,ff,ff,ff,ff] ?_
      refine pur 9 (some 67) #[tt,tt,tt,tt,ff,ff,tt,tt,tt,tt,ff,ff,ff,ff] ?_
      refine tk2 4 (some 62) #[tt,tt,tt,tt,tt,ff,tt,tt,tt,tt,ff,ff,ff,ff] ?_
      refine tk2 10 (some 68) #[tt,tt,tt,tt,tt,ff,tt,tt,tt,tt,tt,ff,ff,ff] ?_
      refine one_ (i := 5) (N := some 63) #[true, true, true, true, true, true, true, true, true, true, true, false, false, false] rfl rfl (one_of HT_.out (by kernel_rfl)) (by decide) (fun K hK => ?_)
      refine goes_ Tryz.func125 (by kernel_rfl) rfl #[.slice Ao27 t395.length co27, .int .i64 (wrap64 (x5_1 - x8_2)), .agg #[.int .i64 a0_0, .int .i64 a0_1]] (by rfl) rfl rfl az ?_
      with_reducible refine (real_is.calls k2 _ _ t395 (wrap64 (x5_1 - x8_2)) a0_0 a0_1 t407 _ ?side1 ?side2 A17.out).mono ?_
      (case side1 => exact ccz (Kd.V_reads' HO397.out).2.2)
      (case side2 => exact (Kd.V_reads' HO397.out).2.1)
      rintro e w31 ⟨rfl, hb⟩
      refine ⟨_, rfl, ?_⟩
      replace HO_4 := vb HO_4 hb
      replace HO391 := vb HO391 hb
      replace HO394 := vb HO394 hb
      replace HO397 := vb HO397 hb
      replace HO400 := vb HO400 hb
      replace HO403 := rb HO403 hb
      replace HO406 := vb HO406 hb
      replace BK378 := kb BK378 hb
      replace HB := bs hb
      (try clear hb)
      (try clear hk)
      obtain ⟨Ao32, co32, eo32⟩ := Kd.V_slice HO406.out
      (first | subst eo32 | (injection eo32 with f1_ f2_ f3_; have f4_ := f1_.symm; have f5_ := f3_.symm; clear f1_ f2_ f3_; subst f4_; subst f5_))
      refine hK.out _ _ ⟨(blk_cell BK378.out 0).trans rfl, (blk_cell BK378.out 1).trans rfl⟩ (fun hHeld => ?_)
      clear hK K
      refine norm_ (a' := ?_) ?_ ?_
      rotate_left
      ·show Act.put _ (some 63) _ = _
       simp only [Act.put, List.setIfInBounds_toArray, List.set_cons_zero, List.set_cons_succ, i64_w, i32_w]
       rfl
      refine one_ (i := 11) (N := some 69) #[true, true, true, true, true, true, true, true, true, true, true, true, false, false] rfl rfl (one_of HT_.out (by kernel_rfl)) (by decide) (fun K hK => ?_)
      refine goes_ Tryz.func125 (by kernel_rfl) rfl #[.slice Ao32 t404.length co32, .int .i64 (wrap64 (x5_1 - x8_2)), .agg #[.int .i64 a0_0, .int .i64 a0_1]] (by rfl) rfl rfl az ?_
      with_reducible refine (real_is.calls k2 _ _ t404 (wrap64 (x5_1 - x8_2)) a0_0 a0_1 t408 _ ?side1 ?side2 A18.out).mono ?_
      (case side1 => exact ccz (Kd.V_reads' HO406.out).2.2)
      (case side2 => exact (Kd.V_reads' HO406.out).2.1)
      rintro e w33 ⟨rfl, hb⟩
      refine ⟨_, rfl, ?_⟩
      replace HO_4 := vb HO_4 hb
      replace HO391 := vb HO391 hb
      replace HO394 := vb HO394 hb
      replace HO397 := vb HO397 hb
      replace HO400 := vb HO400 hb
      replace HO403 := rb HO403 hb
      replace HO406 := vb HO406 hb
      replace BK378 := kb BK378 hb
      replace HB := bs hb
      (try clear hb)
      (try clear hk)
      refine hK.out _ _ ⟨(blk_cell BK378.out 0).trans rfl, (blk_cell BK378.out 1).trans rfl⟩ (fun hHeld => ?_)
      clear hK K
      refine norm_ (a' := ?_) ?_ ?_
      rotate_left
      ·show Act.put _ (some 69) _ = _
       simp only [Act.put, List.setIfInBounds_toArray, List.set_cons_zero, List.set_cons_succ, i64_w, i32_w]
       rfl
      refine pur 12 (some 14) #[tt,tt,tt,tt,tt,tt,tt,tt,tt,tt,tt,tt,tt,ff] ?_
      refine pur 13 (some 15) #[tt,tt,tt,tt,tt,tt,tt,tt,tt,tt,tt,tt,tt,tt] ?_
      refine done_ (done_of HT_.out (by kernel_rfl)) ?_
      go_upto_region 12 with (fail)
      go_cut [75] (fun v75 wc => ∃ (kq : Nat) (x75_18 : Bool), v75 = .bool x75_18 ∧ Aside0 (real_shortest.j2 kq t379 x5_1 x8_2 t392 t395 t398 t404 t407 t408 x75_18 a0_0 a0_1 = some (r1, r2)) ∧ Aside0 (kq ≤ k2) ∧ Aside0 (Kd.V (Kd.int .u32) 115 wc w.heap.size (fun k_ => k_ ≠ gb378) (.slice Ao10 t379.length co10) t379) ∧ Aside0 (Kd.V (Kd.int .u32) 115 wc w.heap.size (fun k_ => k_ ≠ gb378) (.slice Ao23 t392.length co23) t392) ∧ Aside0 (Kd.V (Kd.int .u32) 115 wc w.heap.size (fun k_ => k_ ≠ gb378) (.slice Ao27 t395.length co27) t395) ∧ Aside0 (Kd.V (Kd.int .u32) 115 wc w.heap.size (fun k_ => k_ ≠ gb378) v399 t398) ∧ Aside0 (Kd.V (Kd.int .u32) 115 wc w.heap.size (fun k_ => k_ ≠ gb378) (.slice Ao32 t404.length co32) t404) ∧ Aside0 (wc.heap[gb378]? = some (.cells #[.int .i64 a0_0, .int .i64 a0_1] 23 (0, 0))) ∧ Aside0 (Below w.heap.size w wc))
      case first => as_aux_lemma =>
       have H := HC19.out
       clear HC19
       by_cases c34 : t407 = true
       ·subst c34
        rw [if_pos rfl] at H
        have H' := Aside0.mk H
        clear H
        go_wp2
        go_meet
        case rel => exact ⟨_, (false), (by first | rfl | (simp; done) | (simp [*]; done)), H', ⟨by have := HK1.out; have := HK2.out; first | omega | exact Nat.le_refl _⟩, ⟨by (with_reducible repeat (first | apply Kd.V_alloc | apply Kd.V_drewN | apply Kd.V_drew)); exact Kd.V_mono HO_4.out (fun _ hk => hk.1)⟩, ⟨by (with_reducible repeat (first | apply Kd.V_alloc | apply Kd.V_drewN | apply Kd.V_drew)); exact Kd.V_mono HO394.out (fun _ hk => hk.1)⟩, ⟨by (with_reducible repeat (first | apply Kd.V_alloc | apply Kd.V_drewN | apply Kd.V_drew)); exact Kd.V_mono HO397.out (fun _ hk => hk.1)⟩, ⟨by (with_reducible repeat (first | apply Kd.V_alloc | apply Kd.V_drewN | apply Kd.V_drew)); exact Kd.V_mono HO400.out (fun _ hk => hk.1)⟩, ⟨by (with_reducible repeat (first | apply Kd.V_alloc | apply Kd.V_drewN | apply Kd.V_drew)); exact Kd.V_mono HO406.out (fun _ hk => hk.2)⟩, ⟨kz BK378⟩, ⟨bz⟩⟩
       ·replace c34 := Bool.eq_false_iff.mpr c34
        subst c34
        rw [if_neg (show ¬ (false = true) by decide)] at H
        have H' := Aside0.mk H
        clear H
        go_wp2
        go_meet
        case rel => exact ⟨_, (!t408), (by first | rfl | (simp; done) | (simp [*]; done)), H', ⟨by have := HK1.out; have := HK2.out; first | omega | exact Nat.le_refl _⟩, ⟨by (with_reducible repeat (first | apply Kd.V_alloc | apply Kd.V_drewN | apply Kd.V_drew)); exact Kd.V_mono HO_4.out (fun _ hk => hk.1)⟩, ⟨by (with_reducible repeat (first | apply Kd.V_alloc | apply Kd.V_drewN | apply Kd.V_drew)); exact Kd.V_mono HO394.out (fun _ hk => hk.1)⟩, ⟨by (with_reducible repeat (first | apply Kd.V_alloc | apply Kd.V_drewN | apply Kd.V_drew)); exact Kd.V_mono HO397.out (fun _ hk => hk.1)⟩, ⟨by (with_reducible repeat (first | apply Kd.V_alloc | apply Kd.V_drewN | apply Kd.V_drew)); exact Kd.V_mono HO400.out (fun _ hk => hk.1)⟩, ⟨by (with_reducible repeat (first | apply Kd.V_alloc | apply Kd.V_drewN | apply Kd.V_drew)); exact Kd.V_mono HO406.out (fun _ hk => hk.2)⟩, ⟨kz BK378⟩, ⟨bz⟩⟩
      case rest => as_aux_lemma =>
       clear HC19
       try clear c8
       try clear c8b0
       try clear c34
       try clear hcz20_0
       try clear hcz20_1
       try clear hcz4_0
       try clear hcz4_1
       try clear hcz9_0
       try clear hcz9_1
       try clear hfz20_0
       try clear hfz20_1
       try clear hfz4_0
       try clear hfz4_1
       try clear hfz9_0
       try clear hfz9_1
       obtain ⟨kq, x75_18, rfl, HA, HJ18, HO_4, HO_10, HO_11, HO_12, HO_13, BK378, HB⟩ := hcut
       cases kq with
       | zero => exact absurd HA.out (by simp [real_shortest.j2])
       | succ kj18 =>
        have H := HA.out
        clear HA
        simp only [real_shortest.j2] at H
        by_cases c35 : x75_18 = true
        ·subst c35
         rw [if_pos rfl] at H
         have H' := Aside0.mk H
         clear H
         go_wp2
         go_roundg kj18
         case measure => have := HK1.out; have := HK2.out; have := HJ18.out; omega
         case rel => exact ⟨(wrap64 (x8_2 + 1)), (by first | rfl | (simp; done) | (simp [*]; done)), H', ⟨by have := HK1.out; have := HK2.out; have := HJ18.out; omega⟩, ⟨vz HO_4⟩, ⟨kz BK378⟩, ⟨bz⟩⟩
        ·replace c35 := Bool.eq_false_iff.mpr c35
         subst c35
         rw [if_neg (show ¬ (false = true) by decide)] at H
         replace H := Option.bind_eq_some_iff.mp H
         obtain ⟨t409, A360, H⟩ := H
         try dsimp only at H
         have A36 := Aside0.mk A360
         clear A360
         replace H := Option.bind_eq_some_iff.mp H
         obtain ⟨t412, A370, H⟩ := H
         try dsimp only at H
         have A37 := Aside0.mk A370
         clear A370
         have HC38 := Aside0.mk H
         clear H
         obtain ⟨Ao39, co39, eo39⟩ := Kd.V_slice HO_12.out
         subst eo39
         go_upto_region 15 with (first | ((with_reducible refine gate_callee (f := 126) rfl ?_); refine goesL_ (some 78) rfl rfl Tryz.func126 (by kernel_rfl) rfl #[.slice Ao39 t398.length co39, .int .i64 1] rfl az ?_; (with_reducible refine (real_nat_shl.calls kj18 _ _ t398 1 t409 _ ?side1 ?side2 A36.out).mono ?_); (case side1 => exact ccz (Kd.V_reads' HO_12.out).2.2); (case side2 => exact (Kd.V_reads' HO_12.out).2.1); rintro e w40 ⟨v410, rfl, ho0, hb⟩; refine ⟨_, rfl, ?_⟩; have HO411 := Aside0.mk (Kd.V_lower (Kd.V_mono (ok' := fun k_ => k_ ≠ gb378) ho0 (fun k_ hk_ => (fb BK378 k_ hk_))) (below_size bz)); replace HO_4 := vb HO_4 hb; replace HO_10 := vb HO_10 hb; replace HO_11 := vb HO_11 hb; replace HO_12 := vb HO_12 hb; replace HO_13 := vb HO_13 hb; replace BK378 := kb BK378 hb; replace HB := bs hb; (try clear hb); (try clear hk); (try clear ho0); obtain ⟨Ao41, co41, eo41⟩ := Kd.V_slice HO411.out; subst eo41) | ((with_reducible refine gate_callee (f := 123) rfl ?_); refine goesL_ (some 80) rfl rfl Tryz.func123 (by kernel_rfl) rfl #[.slice Ao41 t409.length co41, .slice Ao23 t392.length co23] rfl az ?_; (with_reducible refine (real_nat_cmp.calls kj18 _ _ t409 _ _ t392 t412 _ ?side1 ?side2 ?side3 ?side4 A37.out).mono ?_); (case side1 => exact ccz (Kd.V_reads' HO411.out).2.2); (case side2 => exact (Kd.V_reads' HO411.out).2.1); (case side3 => exact ccz (Kd.V_reads' HO_10.out).2.2); (case side4 => exact (Kd.V_reads' HO_10.out).2.1); rintro e w' ⟨rfl, ⟨nd, rfl⟩⟩; refine ⟨_, rfl, ?_⟩))
         (try simp only [Act.put, List.setIfInBounds_toArray, List.set_cons_zero, List.set_cons_succ])
         go_cut [99] (fun v99 wc => ∃ (kq : Nat) (x99_37 : Bool), v99 = .bool x99_37 ∧ Aside0 (real_shortest.j3 kq x5_1 x8_2 t404 t395 x99_37 = some (r1, r2)) ∧ Aside0 (kq ≤ kj18) ∧ Aside0 (Kd.V (Kd.int .u32) 115 wc w.heap.size (fun k_ => k_ ≠ gb378) (.slice Ao32 t404.length co32) t404) ∧ Aside0 (Kd.V (Kd.int .u32) 115 wc w.heap.size (fun k_ => k_ ≠ gb378) (.slice Ao27 t395.length co27) t395) ∧ Aside0 (wc.heap[gb378]? = some (.cells #[.int .i64 a0_0, .int .i64 a0_1] 23 (0, 0))) ∧ Aside0 (Below w.heap.size w wc))
         case first => as_aux_lemma =>
          have H := HC38.out
          clear HC38
          by_cases c42 : t407 = true
          ·subst c42
           rw [if_pos rfl] at H
           by_cases c43 : t408 = true
           ·subst c43
            rw [if_pos rfl] at H
            by_cases c44 : t412 > 0
            ·rw [if_pos c44] at H
             have c44b0 : decide (0 < t412) = true := decide_eq_true c44
             clear c44
             (first | rw [c44b0] | (simp only [i64_w, i32_w]; rw [c44b0]) | skip)
             have H' := Aside0.mk H
             clear H
             go_wp2
             go_meet
             case rel => exact ⟨_, (true), (by first | rfl | (simp; done) | (simp [*]; done)), H', ⟨by have := HK1.out; have := HK2.out; have := HJ18.out; first | omega | exact Nat.le_refl _⟩, ⟨vz HO_13⟩, ⟨vz HO_11⟩, ⟨kz BK378⟩, ⟨bz⟩⟩
            ·rw [if_neg c44] at H
             have c44b0 : decide (0 < t412) = false := decide_eq_false c44
             clear c44
             (first | rw [c44b0] | (simp only [i64_w, i32_w]; rw [c44b0]) | skip)
             by_cases c45 : t412 = 0
             ·rw [if_pos c45] at H
              have c45b0 : (t412 == 0) = true := beq_iff_eq.mpr c45
              have c45b1 : (t412 != 0) = false := bne_eq_false_iff_eq.mpr c45
              clear c45
              replace H := Option.bind_eq_some_iff.mp H
              obtain ⟨t413, A460, H⟩ := H
              try dsimp only at H
              have A46 := Aside0.mk A460
              clear A460
              have H' := Aside0.mk H
              clear H
              go_wp2_with (first | (go_at_call 127; (with_reducible refine (real_nat_small.calls kj18 _ _ t395 t413 _ ?side1 ?side2 A46.out).mono ?_); (case side1 => exact ccz (Kd.V_reads' HO_11.out).2.2); (case side2 => exact (Kd.V_reads' HO_11.out).2.1); rintro e w' ⟨rfl, ⟨nd, rfl⟩⟩))
              go_meet
              case rel => exact ⟨_, (((Int.tmod t413 2) == 1)), (by first | rfl | (simp; done) | (simp [*]; done)), H', ⟨by have := HK1.out; have := HK2.out; have := HJ18.out; first | omega | exact Nat.le_refl _⟩, ⟨vz HO_13⟩, ⟨vz HO_11⟩, ⟨kz BK378⟩, ⟨bz⟩⟩
             ·rw [if_neg c45] at H
              have c45b0 : (t412 == 0) = false := beq_eq_false_iff_ne.mpr c45
              have c45b1 : (t412 != 0) = true := bne_iff_ne.mpr c45
              have H' := Aside0.mk H
              clear H
              go_wp2
              go_meet
              case rel => exact ⟨_, (false), (by first | rfl | (simp; done) | (simp [*]; done)), H', ⟨by have := HK1.out; have := HK2.out; have := HJ18.out; first | omega | exact Nat.le_refl _⟩, ⟨vz HO_13⟩, ⟨vz HO_11⟩, ⟨kz BK378⟩, ⟨bz⟩⟩
           ·replace c43 := Bool.eq_false_iff.mpr c43
            subst c43
            rw [if_neg (show ¬ (false = true) by decide)] at H
            have H' := Aside0.mk H
            clear H
            go_wp2
            go_meet
            case rel => exact ⟨_, (false), (by first | rfl | (simp; done) | (simp [*]; done)), H', ⟨by have := HK1.out; have := HK2.out; have := HJ18.out; first | omega | exact Nat.le_refl _⟩, ⟨vz HO_13⟩, ⟨vz HO_11⟩, ⟨kz BK378⟩, ⟨bz⟩⟩
          ·replace c42 := Bool.eq_false_iff.mpr c42
           subst c42
           rw [if_neg (show ¬ (false = true) by decide)] at H
           have H' := Aside0.mk H
           clear H
           go_wp2
           go_meet
           case rel => exact ⟨_, (true), (by first | rfl | (simp; done) | (simp [*]; done)), H', ⟨by have := HK1.out; have := HK2.out; have := HJ18.out; first | omega | exact Nat.le_refl _⟩, ⟨vz HO_13⟩, ⟨vz HO_11⟩, ⟨kz BK378⟩, ⟨bz⟩⟩
         case rest => as_aux_lemma =>
          clear HC38
          try clear c8
          try clear c8b0
          try clear c34
          try clear c35
          try clear c42
          try clear c43
          try clear c44
          try clear c44b0
          try clear c45
          try clear c45b0
          try clear c45b1
          try clear hcz20_0
          try clear hcz20_1
          try clear hcz4_0
          try clear hcz4_1
          try clear hcz9_0
          try clear hcz9_1
          try clear hfz20_0
          try clear hfz20_1
          try clear hfz4_0
          try clear hfz4_1
          try clear hfz9_0
          try clear hfz9_1
          obtain ⟨kq, x99_37, rfl, HA, HJ37, HO_13, HO_16, BK378, HB⟩ := hcut
          cases kq with
          | zero => exact absurd HA.out (by simp [real_shortest.j3])
          | succ kj37 =>
           have H := HA.out
           clear HA
           simp only [real_shortest.j3] at H
           have HC47 := Aside0.mk H
           clear H
           go_upto_if 99 with (fail)
           go_cut [16] (fun v16 wc => ∃ (kq : Nat) (x16_46 : List Int), Aside0 (real_shortest.j4 kq x5_1 x8_2 x16_46 = some (r1, r2)) ∧ Aside0 (kq ≤ kj37) ∧ Aside0 (Kd.V (Kd.int .u32) 115 wc w.heap.size (fun k_ => k_ ≠ gb378) v16 x16_46) ∧ Aside0 (wc.heap[gb378]? = some (.cells #[.int .i64 a0_0, .int .i64 a0_1] 23 (0, 0))) ∧ Aside0 (Below w.heap.size w wc))
           case first => as_aux_lemma =>
            have H := HC47.out
            clear HC47
            by_cases c48 : x99_37 = true
            ·subst c48
             rw [if_pos rfl] at H
             have H' := Aside0.mk H
             clear H
             go_wp2
             go_meet
             case rel => exact ⟨_, (t404), H', ⟨by have := HK1.out; have := HK2.out; have := HJ18.out; have := HJ37.out; first | omega | exact Nat.le_refl _⟩, ⟨vz HO_13⟩, ⟨kz BK378⟩, ⟨bz⟩⟩
            ·replace c48 := Bool.eq_false_iff.mpr c48
             subst c48
             rw [if_neg (show ¬ (false = true) by decide)] at H
             have H' := Aside0.mk H
             clear H
             go_wp2
             go_meet
             case rel => exact ⟨_, (t395), H', ⟨by have := HK1.out; have := HK2.out; have := HJ18.out; have := HJ37.out; first | omega | exact Nat.le_refl _⟩, ⟨vz HO_16⟩, ⟨kz BK378⟩, ⟨bz⟩⟩
           case rest => as_aux_lemma =>
            clear HC47
            try clear c8
            try clear c8b0
            try clear c34
            try clear c35
            try clear c42
            try clear c43
            try clear c44
            try clear c44b0
            try clear c45
            try clear c45b0
            try clear c45b1
            try clear c48
            try clear hcz20_0
            try clear hcz20_1
            try clear hcz4_0
            try clear hcz4_1
            try clear hcz9_0
            try clear hcz9_1
            try clear hfz20_0
            try clear hfz20_1
            try clear hfz4_0
            try clear hfz4_1
            try clear hfz9_0
            try clear hfz9_1
            obtain ⟨kq, x16_46, HA, HJ46, HO_16, BK378, HB⟩ := hcut
            cases kq with
            | zero => exact absurd HA.out (by simp [real_shortest.j4])
            | succ kj46 =>
             have H := HA.out
             clear HA
             simp only [real_shortest.j4] at H
             replace H := Option.bind_eq_some_iff.mp H
             obtain ⟨t414, A490, H⟩ := H
             try dsimp only at H
             have A49 := Aside0.mk A490
             clear A490
             replace H := Option.bind_eq_some_iff.mp H
             obtain ⟨t415, A500, H⟩ := H
             try dsimp only at H
             have A50 := Aside0.mk A500
             clear A500
             replace H := Option.bind_eq_some_iff.mp H
             obtain ⟨t416, A510, H⟩ := H
             try dsimp only at H
             have A51 := Aside0.mk A510
             clear A510
             simp only [Option.some.injEq, Prod.mk.injEq] at H
             obtain ⟨rfl, rfl⟩ := H
             obtain ⟨Ao52, co52, eo52⟩ := Kd.V_slice HO_16.out
             subst eo52
             go_wp2_with (first | ((with_reducible refine gate_callee (f := 127) rfl ?_); refine goesL_ (some 102) rfl rfl Tryz.func127 (by kernel_rfl) rfl #[.slice Ao52 x16_46.length co52] rfl az ?_; (with_reducible refine (real_nat_small.calls kj46 _ _ x16_46 t414 _ ?side1 ?side2 A49.out).mono ?_); (case side1 => exact ccz (Kd.V_reads' HO_16.out).2.2); (case side2 => exact (Kd.V_reads' HO_16.out).2.1); rintro e w' ⟨rfl, ⟨nd, rfl⟩⟩; refine ⟨_, rfl, ?_⟩) | ((with_reducible refine gate_callee (f := 128) rfl ?_); refine goesL_ (some 103) rfl rfl Tryz.func128 (by kernel_rfl) rfl #[.int .u64 t414, .int .i64 10] rfl az ?_; (with_reducible refine (strconv_FormatUint.calls t414 10 t415 _ A50.out (tabAt HT.out bz)).mono ?_); rintro e w53 ⟨rfl, hb⟩; refine ⟨_, rfl, ?_⟩; replace HO_16 := vb HO_16 hb; replace BK378 := kb BK378 hb; replace HB := bs hb; (try clear hb); (try clear hk)) | ((with_reducible refine gate_callee (f := 129) rfl ?_); refine goesL_ (some 105) rfl rfl Tryz.func129 (by kernel_rfl) rfl #[.string t415, .string (⟨#[48]⟩ : ByteArray)] rfl az ?_; (with_reducible refine (strings_TrimRight.calls t415 (⟨#[48]⟩ : ByteArray) t416 _ A51.out).mono ?_); rintro e w54 ⟨rfl, hb⟩; refine ⟨_, rfl, ?_⟩; replace HO_16 := vb HO_16 hb; replace BK378 := kb BK378 hb; replace HB := bs hb; (try clear hb); (try clear hk)))
             go_ret2
             exact ⟨by first | rfl | (simp [errW_none, errW_some] <;> rfl) | (simp [*, errW_none, errW_some] <;> rfl), bz⟩
   ·rw [if_neg c8] at H
    have c8b0 : decide (t388 < 0) = false := decide_eq_false c8
    clear c8
    have H' := Aside0.mk H
    clear H
    have hcz55_0 := c20 BK378
    have hcz55_1 := c21 BK378
    have hfz55_0 := blk_frozen BK378.out 0
    have hfz55_1 := blk_frozen BK378.out 1
    obtain ⟨Ao56, co56, eo56⟩ := Kd.V_slice HO_4.out
    subst eo56
    go_wp2_with (first | ((with_reducible refine gate_callee (f := 122) rfl ?_); refine goesL_ (some 28) rfl rfl Tryz.func122 (by kernel_rfl) rfl #[.slice Ao56 t379.length co56, .int .i64 a0_1, .int .i64 (wrap64 (-x5_1))] rfl az ?_; (with_reducible refine (real_scaled.calls k1 (fun k_ => k_ ≠ gb378) _ _ t379 a0_1 (wrap64 (-x5_1)) t382 t385 _ ?side1 A6.out).mono ?_); (case side1 => exact HO_4.out); rintro e w57 ⟨v383, v386, rfl, ho0, ho1, hb⟩; refine ⟨_, rfl, ?_⟩; have HO384 := Aside0.mk (Kd.V_lower (Kd.V_mono (ok' := fun k_ => k_ ≠ gb378) ho0 (fun k_ hk_ => Or.elim hk_ (fun hs_ => hs_) (fun hn_ => (fb BK378 k_ hn_)))) (below_size bz)); have HO387 := Aside0.mk (Kd.V_lower (Kd.V_mono (ok' := fun k_ => k_ ≠ gb378) ho1 (fun k_ hk_ => Or.elim hk_ (fun hs_ => hs_) (fun hn_ => (fb BK378 k_ hn_)))) (below_size bz)); replace HO_4 := vb HO_4 hb; replace BK378 := kb BK378 hb; replace HB := bs hb; (try clear hb); (try clear hk); (try clear ho0); (try clear ho1); obtain ⟨Ao58, co58, eo58⟩ := Kd.V_slice HO384.out; subst eo58; obtain ⟨Ao59, co59, eo59⟩ := Kd.V_slice HO387.out; subst eo59) | ((with_reducible refine gate_callee (f := 123) rfl ?_); refine goesL_ (some 33) rfl rfl Tryz.func123 (by kernel_rfl) rfl #[.slice Ao58 t382.length co58, .slice Ao59 t385.length co59] rfl az ?_; (with_reducible refine (real_nat_cmp.calls k1 _ _ t382 _ _ t385 t388 _ ?side1 ?side2 ?side3 ?side4 A7.out).mono ?_); (case side1 => exact ccz (Kd.V_reads' HO384.out).2.2); (case side2 => exact (Kd.V_reads' HO384.out).2.1); (case side3 => exact ccz (Kd.V_reads' HO387.out).2.2); (case side4 => exact (Kd.V_reads' HO387.out).2.1); rintro e w' ⟨rfl, ⟨nd, rfl⟩⟩; refine ⟨_, rfl, ?_⟩))
    go_roundg k1
    case measure => have := HK1.out; omega
    case rel => exact ⟨(wrap64 (x5_1 + 1)), (by first | rfl | (simp; done) | (simp [*]; done)), H', ⟨by have := HK1.out; omega⟩, ⟨vz HO_4⟩, ⟨kz BK378⟩, ⟨bz⟩⟩

end Go.Proofs.YteigbokklclmbaaGreatDoor.Z
end
section
namespace Go.Proofs.YteigbokklclmbaaGreatDoor.Z
open Go.RowKit Go.Proofs.YteigbokklclmbaaGreatDoor.Given Go.Proofs.YteigbokklclmbaaGreatDoorW.PrintWords Go.Proofs.YteigbokklclmbaaGreatDoorW.PrintLast Go.Proofs.YteigbokklclmbaaGreatDoorW.PrintMore
attribute [local go_sem] max2_int min2_int max_two min_two max_three min_three max_four min_four   -- for this text's walks alone

mutual
def real_Print.j0 : Nat → ByteArray → Int → Int → Option (ByteArray × Int)
 | 0, _, _, _ => none
 | k + 1, x4, x418000, x418001 => (real_signed.f (decide (x418000 < 0)) x418000 x418001).bind fun bt419 => ((real_shortest.f k bt419.1 bt419.2).bind fun bt421 => (if bt421.2 < (-3) then (real_Print.j1 k x4 bt421.1 bt421.2 true) else (real_Print.j1 k x4 bt421.1 bt421.2 (decide (bt421.2 > 9)))))
def real_Print.j1 : Nat → ByteArray → ByteArray → Int → Bool → Option (ByteArray × Int)
 | 0, _, _, _, _ => none
 | k + 1, x4, x5, x6, x26 => if x26 = true then (if 1 ≤ (x5.size : Int) then (if (x5.extract 1 x5.size).toList = ([] : List UInt8) then (if 0 ≤ 1 then (if x4.size + (x5.extract 0 1).size ≤ 9223372036854775807 then (if (x4 ++ (x5.extract 0 1)).size + 1 ≤ 9223372036854775807 then (if ((x4 ++ (x5.extract 0 1)) ++ (⟨#[46]⟩ : ByteArray)).size + 1 ≤ 9223372036854775807 then (if (((x4 ++ (x5.extract 0 1)) ++ (⟨#[46]⟩ : ByteArray)) ++ (⟨#[48]⟩ : ByteArray)).size + 1 ≤ 9223372036854775807 then ((strconv_Itoa.f (wrap64 (x6 - 1))).bind fun t423 => (if ((((x4 ++ (x5.extract 0 1)) ++ (⟨#[46]⟩ : ByteArray)) ++ (⟨#[48]⟩ : ByteArray)) ++ (⟨#[101]⟩ : ByteArray)).size + t423.size ≤ 9223372036854775807 then (some (((((x4 ++ (x5.extract 0 1)) ++ (⟨#[46]⟩ : ByteArray)) ++ (⟨#[48]⟩ : ByteArray)) ++ (⟨#[101]⟩ : ByteArray)) ++ t423, 0)) else (none))) else (none)) else (none)) else (none)) else (none)) else (none)) else (if 0 ≤ 1 then (if x4.size + (x5.extract 0 1).size ≤ 9223372036854775807 then (if (x4 ++ (x5.extract 0 1)).size + 1 ≤ 9223372036854775807 then (if ((x4 ++ (x5.extract 0 1)) ++ (⟨#[46]⟩ : ByteArray)).size + (x5.extract 1 x5.size).size ≤ 9223372036854775807 then (if (((x4 ++ (x5.extract 0 1)) ++ (⟨#[46]⟩ : ByteArray)) ++ (x5.extract 1 x5.size)).size + 1 ≤ 9223372036854775807 then ((strconv_Itoa.f (wrap64 (x6 - 1))).bind fun t424 => (if ((((x4 ++ (x5.extract 0 1)) ++ (⟨#[46]⟩ : ByteArray)) ++ (x5.extract 1 x5.size)) ++ (⟨#[101]⟩ : ByteArray)).size + t424.size ≤ 9223372036854775807 then (some (((((x4 ++ (x5.extract 0 1)) ++ (⟨#[46]⟩ : ByteArray)) ++ (x5.extract 1 x5.size)) ++ (⟨#[101]⟩ : ByteArray)) ++ t424, 0)) else (none))) else (none)) else (none)) else (none)) else (none)) else (none))) else (none)) else (if x6 < 1 then (if x4.size + 2 ≤ 9223372036854775807 then ((strings_Repeat.f (⟨#[48]⟩ : ByteArray) (wrap64 (-x6))).bind fun t425 => (if (x4 ++ (⟨#[48, 46]⟩ : ByteArray)).size + t425.size ≤ 9223372036854775807 then (if ((x4 ++ (⟨#[48, 46]⟩ : ByteArray)) ++ t425).size + x5.size ≤ 9223372036854775807 then (some (((x4 ++ (⟨#[48, 46]⟩ : ByteArray)) ++ t425) ++ x5, 0)) else (none)) else (none))) else (none)) else (if (x5.size : Int) ≤ x6 then (if x4.size + x5.size ≤ 9223372036854775807 then ((strings_Repeat.f (⟨#[48]⟩ : ByteArray) (wrap64 (x6 - (x5.size : Int)))).bind fun t426 => (if (x4 ++ x5).size + t426.size ≤ 9223372036854775807 then (if ((x4 ++ x5) ++ t426).size + 2 ≤ 9223372036854775807 then (some (((x4 ++ x5) ++ t426) ++ (⟨#[46, 48]⟩ : ByteArray), 0)) else (none)) else (none))) else (none)) else (if 0 ≤ x6 then (if x6 ≤ (x5.size : Int) then (if x4.size + (x5.extract 0 (x6 : Int).toNat).size ≤ 9223372036854775807 then (if (x4 ++ (x5.extract 0 (x6 : Int).toNat)).size + 1 ≤ 9223372036854775807 then (if ((x4 ++ (x5.extract 0 (x6 : Int).toNat)) ++ (⟨#[46]⟩ : ByteArray)).size + (x5.extract (x6 : Int).toNat x5.size).size ≤ 9223372036854775807 then (some (((x4 ++ (x5.extract 0 (x6 : Int).toNat)) ++ (⟨#[46]⟩ : ByteArray)) ++ (x5.extract (x6 : Int).toNat x5.size), 0)) else (none)) else (none)) else (none)) else (none)) else (none))))
end
def real_Print.f (k : Nat) (a0_0 : Int) (a0_1 : Int) : Option (ByteArray × Int) := (real_Valid.f a0_0 a0_1).bind fun t418 => (if t418 = true then (if a0_0 = 0 then (some ((⟨#[48, 46, 48]⟩ : ByteArray), 0)) else (if a0_0 < 0 then (real_Print.j0 k (⟨#[45]⟩ : ByteArray) a0_0 a0_1) else (real_Print.j0 k (⟨#[]⟩ : ByteArray) a0_0 a0_1))) else (some ((⟨#[]⟩ : ByteArray), 1)))
theorem real_Print.mono_l : ∀ k, (∀ y0 y1 y2, LeO (real_Print.j0 k y0 y1 y2) (real_Print.j0 (k + 1) y0 y1 y2)) ∧ (∀ y0 y1 y2 y3, LeO (real_Print.j1 k y0 y1 y2 y3) (real_Print.j1 (k + 1) y0 y1 y2 y3))
 | 0 => ⟨fun _ _ _ r h => by simp [real_Print.j0] at h, fun _ _ _ _ r h => by simp [real_Print.j1] at h⟩
 | k + 1 => by
  obtain ⟨ih0, ih1⟩ := real_Print.mono_l k
  refine ⟨?_, ?_⟩
  ·intro y0 y1 y2
   unfold real_Print.j0
   repeat' first
   | (with_reducible exact ih0 _ _ _)
   | (with_reducible exact ih1 _ _ _ _)
   | (with_reducible exact real_shortest.mono _ _ _)
   | (with_reducible exact LeO.refl _)
   | (with_reducible exact LeO.none _)
   | (with_reducible refine LeO.ite ?_ ?_)
   | (with_reducible refine LeO.bind ?_ (fun _ => ?_))
   | exact ih0 _ _ _
   | exact ih1 _ _ _ _
   | exact real_shortest.mono _ _ _
   | exact LeO.none _
   | refine LeO.ite ?_ ?_
   | refine LeO.bind ?_ (fun _ => ?_)
  ·intro y0 y1 y2 y3
   unfold real_Print.j1
   repeat' first
   | (with_reducible exact ih0 _ _ _)
   | (with_reducible exact ih1 _ _ _ _)
   | (with_reducible exact real_shortest.mono _ _ _)
   | (with_reducible exact LeO.refl _)
   | (with_reducible exact LeO.none _)
   | (with_reducible refine LeO.ite ?_ ?_)
   | (with_reducible refine LeO.bind ?_ (fun _ => ?_))
   | exact ih0 _ _ _
   | exact ih1 _ _ _ _
   | exact real_shortest.mono _ _ _
   | exact LeO.none _
   | refine LeO.ite ?_ ?_
   | refine LeO.bind ?_ (fun _ => ?_)
theorem real_Print.mono : ∀ a0 a1 k, LeO (real_Print.f k a0 a1) (real_Print.f (k + 1) a0 a1) := by
 intro a0 a1 k
 obtain ⟨ih0, ih1⟩ := real_Print.mono_l k
 unfold real_Print.f
 repeat' first
   | (with_reducible exact ih0 _ _ _)
   | (with_reducible exact ih1 _ _ _ _)
   | (with_reducible exact real_shortest.mono _ _ _)
   | (with_reducible exact LeO.refl _)
   | (with_reducible exact LeO.none _)
   | (with_reducible refine LeO.ite ?_ ?_)
   | (with_reducible refine LeO.bind ?_ (fun _ => ?_))
   | exact ih0 _ _ _
   | exact ih1 _ _ _ _
   | exact real_shortest.mono _ _ _
   | exact LeO.none _
   | refine LeO.ite ?_ ?_
   | refine LeO.bind ?_ (fun _ => ?_)
def real_Print.T13 : Bool × List (List Nat × List Nat) := (true, [([], []), ([], []), ([1], [1]), ([0, 2], [0, 2]), ([3], [3]), ([], []), ([4, 5], [4, 5]), ([6], [6]), ([], []), ([8], [8]), ([9], [9]), ([7, 10], [7, 10]), ([11, 10, 0, 1, 2, 3, 4, 5, 6, 7, 8, 9, 10, 11], [11]), ([12, 0, 1, 2, 3, 4, 5, 6, 7, 8, 9, 10, 11, 12], [])])
def real_Print.B13 : List Nat := [0, 0, 2, 7, 15, 0, 63, 127, 0, 256, 768, 2047, 4095, 8191]
theorem real_Print.tab13 : rtab .any (opsOf Tryz.f27 13) = real_Print.T13 := by kernel_rfl
theorem real_Print.bits13 : waitsOk real_Print.T13.2 real_Print.B13 = true := by kernel_rfl
theorem bsz_ (a : Array UInt8) : (ByteArray.mk a).size = a.size := rfl
end Go.Proofs.YteigbokklclmbaaGreatDoor.Z
end
section
namespace Go.Proofs.YteigbokklclmbaaGreatDoor.Z
open Go.RowKit Go.Proofs.YteigbokklclmbaaGreatDoor.Given Go.Proofs.YteigbokklclmbaaGreatDoorW.PrintWords Go.Proofs.YteigbokklclmbaaGreatDoorW.PrintLast Go.Proofs.YteigbokklclmbaaGreatDoorW.PrintMore
attribute [local go_sem] max2_int min2_int max_two min_two max_three min_three max_four min_four   -- for this text's walks alone

theorem at_fixed {α : Type} {f : Nat → Option α} (mono : ∀ k, LeO (f k) (f (k + 1))) {k m : Nat} {a b : α} (h1 : f k = some a) (h2 : f m = some b) : a = b := by
 have up : ∀ n d r, f n = some r → f (n + d) = some r := by
  intro n d
  induction d with
  | zero => intro r h; exact h
  | succ d ih => intro r h; exact mono _ _ (ih r h)
 have e1 := up k m a h1
 have e2 := up m k b h2
 rw [Nat.add_comm] at e2
 exact Option.some.inj (e1.symm.trans e2)
theorem print_two {a b c d e : Int} {s : ByteArray} {k : Nat} (hp : a = 11184811 ∧ b = -25 ∨ a = 1 ∧ b = -150) (h1 : real_signed.f (decide (a < 0)) a b = some (c, d)) (h2 : real_shortest.f k c d = some (s, e)) :
  s = (⟨#[51, 51, 51, 51, 51, 51, 51, 52]⟩ : ByteArray) ∧ e = 0 ∨ s = (⟨#[55]⟩ : ByteArray) ∧ e = -45 := by
 rcases hp with ⟨rfl, rfl⟩ | ⟨rfl, rfl⟩
 ·have e1 : real_signed.f (decide ((11184811 : Int) < 0)) 11184811 (-25) = some (11184811, -25) := by kernel_rfl
  have e2 := Option.some.inj (h1.symm.trans e1)
  obtain ⟨rfl, rfl⟩ := Prod.mk.inj e2
  have e3 : real_shortest.f 400 11184811 (-25) = some ((⟨#[51, 51, 51, 51, 51, 51, 51, 52]⟩ : ByteArray), 0) := by kernel_rfl
  have e4 := at_fixed (fun k => real_shortest.mono _ _ k) h2 e3
  exact Or.inl ⟨(Prod.mk.inj e4).1, (Prod.mk.inj e4).2⟩
 ·have e1 : real_signed.f (decide ((1 : Int) < 0)) 1 (-150) = some (1, -150) := by kernel_rfl
  have e2 := Option.some.inj (h1.symm.trans e1)
  obtain ⟨rfl, rfl⟩ := Prod.mk.inj e2
  have e3 : real_shortest.f 400 1 (-150) = some ((⟨#[55]⟩ : ByteArray), -45) := by kernel_rfl
  have e4 := at_fixed (fun k => real_shortest.mono _ _ k) h2 e3
  exact Or.inr ⟨(Prod.mk.inj e4).1, (Prod.mk.inj e4).2⟩
theorem real_Print.calls1 (k : Nat) (a0_0 : Int) (a0_1 : Int) (r1 : ByteArray) (r2 : Int) (w : World) (h : real_Print.f k a0_0 a0_1 = some (r1, r2)) (hp : a0_0 = 11184811 ∧ a0_1 = -25 ∨ a0_0 = 1 ∧ a0_1 = -150) (ht : Table w) :
  Calls Tryz.prog 27 #[.agg #[.int .i64 a0_0, .int .i64 a0_1]] w fun e w' => e = .returned (.tuple #[.string r1, .int .i64 r2]) ∧ Below w.heap.size w w' := by
 have hu23 := Tryz.underlying23
 have HB := Aside0.mk (Below.refl w.heap.size w)
 have HT := Aside0.mk (Lib.tabBelow_of_tabIs ht)
 clear ht
 have H := h; unfold real_Print.f at H; clear h
 replace H := Option.bind_eq_some_iff.mp H
 obtain ⟨t418, A20, H⟩ := H
 try dsimp only at H
 have A2 := Aside0.mk A20
 clear A20
 by_cases c3 : t418 = true
 ·subst c3
  rw [if_pos rfl] at H
  by_cases c4 : a0_0 = 0
  ·exact absurd c4 (by rcases hp with h | h <;> rw [h.1] <;> decide)
  ·rw [if_neg c4] at H
   have c4b0 : (a0_0 == 0) = false := beq_eq_false_iff_ne.mpr c4
   have c4b1 : (a0_0 != 0) = true := bne_iff_ne.mpr c4
   have HC9 := Aside0.mk H
   clear H
   go_enter Tryz.func27, Tryz.ntmps27
   go_upto_if 16 with (first | ((with_reducible refine gate_dst (N := 1) rfl ?_); refine box_event ?hg (N := 1) ?hd (cs := #[.int .i64 a0_0, .int .i64 a0_1]) (t := 23) ?hr ?_; (case hd => rfl); (case hg => rfl); (case hr => first | (go_simp; done) | (go_simp; rfl)); intro gb417 hg w10 hbox hb; have BK417 := Aside0.mk hbox; have GW417 := ge hg; have GE417 := ge hg; replace HB := bs hb; clear hb hbox hg; have hcz11_0 := c20 BK417; have hcz11_1 := c21 BK417; have hfz11_0 := blk_frozen BK417.out 0; have hfz11_1 := blk_frozen BK417.out 1) | ((with_reducible refine gate_callee (f := 53) rfl ?_); refine goesL_ (some 9) rfl rfl Tryz.func53 (by kernel_rfl) rfl #[.agg #[.int .i64 a0_0, .int .i64 a0_1]] rfl az ?_; (with_reducible refine (real_Valid.calls a0_0 a0_1 true _ A2.out).mono ?_); rintro e w12 ⟨rfl, hb⟩; refine ⟨_, rfl, ?_⟩; replace BK417 := kb BK417 hb; replace HB := bs hb; (try clear hb); have hcz13_0 := c20 BK417; have hcz13_1 := c21 BK417; have hfz13_0 := blk_frozen BK417.out 0; have hfz13_1 := blk_frozen BK417.out 1))
   (try simp only [Act.put, List.setIfInBounds_toArray, List.set_cons_zero, List.set_cons_succ])
   go_cut [4] (fun v4 wc => ∃ (kq : Nat) (x4_8 : ByteArray), v4 = .string x4_8 ∧ Aside0 (real_Print.j0 kq x4_8 a0_0 a0_1 = some (r1, r2)) ∧ Aside0 (kq ≤ k) ∧ Aside0 (wc.heap[gb417]? = some (.cells #[.int .i64 a0_0, .int .i64 a0_1] 23 (0, 0))) ∧ Aside0 (Below w.heap.size w wc))
   case first => as_aux_lemma =>
    have H := HC9.out
    clear HC9
    by_cases c14 : a0_0 < 0
    ·exact absurd c14 (by rcases hp with h | h <;> rw [h.1] <;> decide)
    ·rw [if_neg c14] at H
     have c14b0 : decide (a0_0 < 0) = false := decide_eq_false c14
     clear c14
     (first | rw [c14b0] | (simp only [i64_w, i32_w]; rw [c14b0]) | skip)
     have H' := Aside0.mk H
     clear H
     go_wp2
     go_meet
     case rel => exact ⟨_, ((⟨#[]⟩ : ByteArray)), (by first | rfl | (simp; done) | (simp [*]; done)), H', ⟨by first | omega | exact Nat.le_refl _⟩, ⟨kz BK417⟩, ⟨bz⟩⟩
   case rest => as_aux_lemma =>
    clear HC9
    try clear c3
    try clear c4
    try clear c4b0
    try clear c4b1
    try clear c14
    try clear c14b0
    try clear hcz11_0
    try clear hcz11_1
    try clear hcz13_0
    try clear hcz13_1
    try clear hfz11_0
    try clear hfz11_1
    try clear hfz13_0
    try clear hfz13_1
    obtain ⟨kq, x4_8, rfl, HA, HJ8, BK417, HB⟩ := hcut
    cases kq with
    | zero => exact absurd HA.out (by simp [real_Print.j0])
    | succ kj8 =>
     have H := HA.out
     clear HA
     simp only [real_Print.j0] at H
     replace H := Option.bind_eq_some_iff.mp H
     obtain ⟨⟨t419, t420⟩, A150, H⟩ := H
     try dsimp only at H
     have A15 := Aside0.mk A150
     clear A150
     replace H := Option.bind_eq_some_iff.mp H
     obtain ⟨⟨t421, t422⟩, A160, H⟩ := H
     try dsimp only at H
     have A16 := Aside0.mk A160
     have HS := Aside0.mk (print_two hp A15.out A16.out)
     clear A160
     have HC17 := Aside0.mk H
     clear H
     have hcz18_0 := c20 BK417
     have hcz18_1 := c21 BK417
     have hfz18_0 := blk_frozen BK417.out 0
     have hfz18_1 := blk_frozen BK417.out 1
     go_upto_region 9 with (first | ((with_reducible refine gate_callee (f := 80) rfl ?_); refine goesL_ (some 22) rfl rfl Tryz.func80 (by kernel_rfl) rfl #[.bool (decide (a0_0 < 0)), .agg #[.int .i64 a0_0, .int .i64 a0_1]] rfl az ?_; (with_reducible refine (real_signed.calls (decide (a0_0 < 0)) a0_0 a0_1 t419 t420 _ A15.out).mono ?_); rintro e w19 ⟨rfl, hb⟩; refine ⟨_, rfl, ?_⟩; replace BK417 := kb BK417 hb; replace HB := bs hb; (try clear hb)) | ((with_reducible refine gate_callee (f := 89) rfl ?_); refine goesL_ (some 23) rfl rfl Tryz.func89 (by kernel_rfl) rfl #[.agg #[.int .i64 t419, .int .i64 t420]] rfl az ?_; (with_reducible refine (real_shortest.calls kj8 t419 t420 t421 t422 _ A16.out (tabAt HT.out bz)).mono ?_); rintro e w20 ⟨rfl, hb⟩; refine ⟨_, rfl, ?_⟩; replace BK417 := kb BK417 hb; replace HB := bs hb; (try clear hb)))
     (try simp only [Act.put, List.setIfInBounds_toArray, List.set_cons_zero, List.set_cons_succ])
     go_cut [26] (fun v26 wc => ∃ (kq : Nat) (x26_16 : Bool), v26 = .bool x26_16 ∧ Aside0 (real_Print.j1 kq x4_8 t421 t422 x26_16 = some (r1, r2)) ∧ Aside0 (kq ≤ kj8) ∧ Aside0 (x26_16 = decide (t422 < (-3))) ∧ Aside0 (wc.heap[gb417]? = some (.cells #[.int .i64 a0_0, .int .i64 a0_1] 23 (0, 0))) ∧ Aside0 (Below w.heap.size w wc))
     case first => as_aux_lemma =>
      have H := HC17.out
      clear HC17
      by_cases c21 : t422 < (-3)
      ·rw [if_pos c21] at H
       have c21b0 : decide (t422 < (-3)) = true := decide_eq_true c21
       clear c21
       (first | rw [c21b0] | (simp only [i64_w, i32_w]; rw [c21b0]) | skip)
       have H' := Aside0.mk H
       clear H
       go_wp2
       go_meet
       case rel => exact ⟨_, (true), (by first | rfl | (simp; done) | (simp [*]; done)), H', ⟨by have := HJ8.out; first | omega | exact Nat.le_refl _⟩, ⟨by first | exact c21b0.symm | simp [c21b0]⟩, ⟨kz BK417⟩, ⟨bz⟩⟩
      ·rw [if_neg c21] at H
       have c21b0 : decide (t422 < (-3)) = false := decide_eq_false c21
       clear c21
       (first | rw [c21b0] | (simp only [i64_w, i32_w]; rw [c21b0]) | skip)
       have H' := Aside0.mk H
       clear H
       go_wp2
       go_meet
       case rel => exact ⟨_, (decide (t422 > 9)), (by first | rfl | (simp; done) | (simp [*]; done)), H', ⟨by have := HJ8.out; first | omega | exact Nat.le_refl _⟩, ⟨by rcases HS.out with ⟨_, h2⟩ | ⟨_, h2⟩ <;> rw [h2] at c21b0 ⊢ <;> first | rfl | exact absurd c21b0 (by decide)⟩, ⟨kz BK417⟩, ⟨bz⟩⟩
     case rest => as_aux_lemma =>
      clear HC17
      try clear c3
      try clear c4
      try clear c4b0
      try clear c4b1
      try clear c14
      try clear c14b0
      try clear c21
      try clear c21b0
      try clear hcz11_0
      try clear hcz11_1
      try clear hcz13_0
      try clear hcz13_1
      try clear hcz18_0
      try clear hcz18_1
      try clear hfz11_0
      try clear hfz11_1
      try clear hfz13_0
      try clear hfz13_1
      try clear hfz18_0
      try clear hfz18_1
      obtain ⟨kq, x26_16, rfl, HA, HJ16, HX, BK417, HB⟩ := hcut
      cases kq with
      | zero => exact absurd HA.out (by simp [real_Print.j1])
      | succ kj16 =>
       have H := HA.out
       clear HA
       simp only [real_Print.j1] at H
       by_cases c22 : x26_16 = true
       ·subst c22
        rw [if_pos rfl] at H
        by_cases c23 : 1 ≤ (t421.size : Int)
        ·rw [if_pos c23] at H
         have c23b0 := eq_true c23
         have c23b1 : decide (1 ≤ (t421.size : Int)) = true := decide_eq_true c23
         clear c23
         by_cases c24 : (t421.extract 1 t421.size).toList = ([] : List UInt8)
         ·rw [if_pos c24] at H
          have c24b0 : ((t421.extract 1 t421.size).toList == ([] : List UInt8)) = true := beq_iff_eq.mpr c24
          have c24b1 : ((t421.extract 1 t421.size).toList != ([] : List UInt8)) = false := bne_eq_false_iff_eq.mpr c24
          clear c24
          by_cases c25 : 0 ≤ 1
          ·rw [if_pos c25] at H
           have c25b0 := eq_true c25
           have c25b1 : decide (0 ≤ 1) = true := decide_eq_true c25
           clear c25
           have c26b0 := eq_true (of_decide_eq_true (by first | (with_reducible assumption) | assumption) : 1 ≤ (t421.size : Int))
           by_cases c27 : x4_8.size + (t421.extract 0 1).size ≤ 9223372036854775807
           ·rw [if_pos c27] at H
            have c27b0 := eq_true c27
            have c27b1 : decide (x4_8.size + (t421.extract 0 1).size ≤ 9223372036854775807) = true := decide_eq_true c27
            try have c27b2 : (9223372036854775807 < x4_8.size + (t421.extract 0 1).size) = False := eq_false (Nat.not_lt.2 c27)
            have c27z_ := c27
            try simp only [ByteArray.size_append, ByteArray.size_extract, bsz_, List.size_toArray, List.length_cons, List.length_nil, Nat.reduceAdd, Nat.sub_zero, Nat.min_self] at c27z_
            by_cases c28 : (x4_8 ++ (t421.extract 0 1)).size + 1 ≤ 9223372036854775807
            ·rw [if_pos c28] at H
             have c28b0 := eq_true c28
             have c28b1 : decide ((x4_8 ++ (t421.extract 0 1)).size + 1 ≤ 9223372036854775807) = true := decide_eq_true c28
             try have c28b2 : (9223372036854775807 < (x4_8 ++ (t421.extract 0 1)).size + 1) = False := eq_false (Nat.not_lt.2 c28)
             have c28z_ := c28
             try simp only [ByteArray.size_append, ByteArray.size_extract, bsz_, List.size_toArray, List.length_cons, List.length_nil, Nat.reduceAdd, Nat.sub_zero, Nat.min_self] at c28z_
             by_cases c29 : ((x4_8 ++ (t421.extract 0 1)) ++ (⟨#[46]⟩ : ByteArray)).size + 1 ≤ 9223372036854775807
             ·rw [if_pos c29] at H
              have c29b0 := eq_true c29
              have c29b1 : decide (((x4_8 ++ (t421.extract 0 1)) ++ (⟨#[46]⟩ : ByteArray)).size + 1 ≤ 9223372036854775807) = true := decide_eq_true c29
              try have c29b2 : (9223372036854775807 < ((x4_8 ++ (t421.extract 0 1)) ++ (⟨#[46]⟩ : ByteArray)).size + 1) = False := eq_false (Nat.not_lt.2 c29)
              have c29z_ := c29
              try simp only [ByteArray.size_append, ByteArray.size_extract, bsz_, List.size_toArray, List.length_cons, List.length_nil, Nat.reduceAdd, Nat.sub_zero, Nat.min_self] at c29z_
              by_cases c30 : (((x4_8 ++ (t421.extract 0 1)) ++ (⟨#[46]⟩ : ByteArray)) ++ (⟨#[48]⟩ : ByteArray)).size + 1 ≤ 9223372036854775807
              ·rw [if_pos c30] at H
               have c30b0 := eq_true c30
               have c30b1 : decide ((((x4_8 ++ (t421.extract 0 1)) ++ (⟨#[46]⟩ : ByteArray)) ++ (⟨#[48]⟩ : ByteArray)).size + 1 ≤ 9223372036854775807) = true := decide_eq_true c30
               try have c30b2 : (9223372036854775807 < (((x4_8 ++ (t421.extract 0 1)) ++ (⟨#[46]⟩ : ByteArray)) ++ (⟨#[48]⟩ : ByteArray)).size + 1) = False := eq_false (Nat.not_lt.2 c30)
               have c30z_ := c30
               try simp only [ByteArray.size_append, ByteArray.size_extract, bsz_, List.size_toArray, List.length_cons, List.length_nil, Nat.reduceAdd, Nat.sub_zero, Nat.min_self] at c30z_
               replace H := Option.bind_eq_some_iff.mp H
               obtain ⟨t423, A310, H⟩ := H
               try dsimp only at H
               have A31 := Aside0.mk A310
               clear A310
               by_cases c32 : ((((x4_8 ++ (t421.extract 0 1)) ++ (⟨#[46]⟩ : ByteArray)) ++ (⟨#[48]⟩ : ByteArray)) ++ (⟨#[101]⟩ : ByteArray)).size + t423.size ≤ 9223372036854775807
               ·rw [if_pos c32] at H
                have c32b0 := eq_true c32
                have c32b1 : decide (((((x4_8 ++ (t421.extract 0 1)) ++ (⟨#[46]⟩ : ByteArray)) ++ (⟨#[48]⟩ : ByteArray)) ++ (⟨#[101]⟩ : ByteArray)).size + t423.size ≤ 9223372036854775807) = true := decide_eq_true c32
                try have c32b2 : (9223372036854775807 < ((((x4_8 ++ (t421.extract 0 1)) ++ (⟨#[46]⟩ : ByteArray)) ++ (⟨#[48]⟩ : ByteArray)) ++ (⟨#[101]⟩ : ByteArray)).size + t423.size) = False := eq_false (Nat.not_lt.2 c32)
                have c32z_ := c32
                try simp only [ByteArray.size_append, ByteArray.size_extract, bsz_, List.size_toArray, List.length_cons, List.length_nil, Nat.reduceAdd, Nat.sub_zero, Nat.min_self] at c32z_
                simp only [Option.some.injEq, Prod.mk.injEq] at H
                obtain ⟨rfl, rfl⟩ := H
                try go_wp2
                replace BK417 := Aside0.mk (blk_drew BK417.out)
                replace HB := Aside0.mk (below_drew1 HB.out)
                refine start_ (n := 14) (S := fun w' => True) (ds := []) #[false, false, false, false, false, false, false, false, false, false, false, false, false, false] (by kernel_rfl) rfl rfl trivial (fun hHeld => ?_); refine with_tabW real_Print.tab13 real_Print.bits13 (fun HT_ HW_ => ?_)
                generalize wc.drew = w33 at BK417 HB hHeld ⊢
                refine pure_ (i := 0) (N := some 37) (v := ?_) (a' := ?_) #[true, false, false, false, false, false, false, false, false, false, false, false, false, false] rfl rfl (any_of HT_.out (by kernel_rfl)) (fun _ _ _ h => h) (Or.inl ⟨by rfl, ?_⟩) ?_ ?_
                rotate_left
                ·intro w'
                 go_simp
                 first | (with_reducible rfl) | (rw [if_neg (by (try simp only [ByteArray.size_append, ByteArray.size_extract, bsz_, List.size_toArray, List.length_cons, List.length_nil, Nat.reduceAdd, Nat.sub_zero, Nat.min_self]); first | omega | (simp only [eq_iff_iff, iff_true, decide_eq_true_eq] at *; omega))]; try with_reducible rfl)
                rotate_left
                ·simp only [Act.put, List.setIfInBounds_toArray, List.set_cons_zero, List.set_cons_succ, i64_w, i32_w]
                 rfl
                refine pure_ (i := 1) (N := some 38) (v := ?_) (a' := ?_) #[true, true, false, false, false, false, false, false, false, false, false, false, false, false] rfl rfl (any_of HT_.out (by kernel_rfl)) (fun _ _ _ h => h) (Or.inl ⟨by rfl, ?_⟩) ?_ ?_
                rotate_left
                ·intro w'
                 go_simp
                 first | (with_reducible rfl) | (rw [if_neg (by (try simp only [ByteArray.size_append, ByteArray.size_extract, bsz_, List.size_toArray, List.length_cons, List.length_nil, Nat.reduceAdd, Nat.sub_zero, Nat.min_self]); first | omega | (simp only [eq_iff_iff, iff_true, decide_eq_true_eq] at *; omega))]; try with_reducible rfl)
                rotate_left
                ·simp only [Act.put, List.setIfInBounds_toArray, List.set_cons_zero, List.set_cons_succ, i64_w, i32_w]
                 rfl
                refine pure_ (i := 2) (N := some 39) (v := ?_) (a' := ?_) #[true, true, true, false, false, false, false, false, false, false, false, false, false, false] rfl rfl (any_of HT_.out (by kernel_rfl)) (fun _ _ _ h => h) (Or.inl ⟨by rfl, ?_⟩) ?_ ?_
                rotate_left
                ·intro w'
                 go_simp
                 first | (with_reducible rfl) | (rw [if_neg (by (try simp only [ByteArray.size_append, ByteArray.size_extract, bsz_, List.size_toArray, List.length_cons, List.length_nil, Nat.reduceAdd, Nat.sub_zero, Nat.min_self]); first | omega | (simp only [eq_iff_iff, iff_true, decide_eq_true_eq] at *; omega))]; try with_reducible rfl)
                rotate_left
                ·simp only [Act.put, List.setIfInBounds_toArray, List.set_cons_zero, List.set_cons_succ, i64_w, i32_w]
                 rfl
                refine pure_ (i := 3) (N := some 40) (v := ?_) (a' := ?_) #[true, true, true, true, false, false, false, false, false, false, false, false, false, false] rfl rfl (any_of HT_.out (by kernel_rfl)) (fun _ _ _ h => h) (Or.inl ⟨by rfl, ?_⟩) ?_ ?_
                rotate_left
                ·intro w'
                 go_simp
                 first | (with_reducible rfl) | (rw [if_neg (by (try simp only [ByteArray.size_append, ByteArray.size_extract, bsz_, List.size_toArray, List.length_cons, List.length_nil, Nat.reduceAdd, Nat.sub_zero, Nat.min_self]); first | omega | (simp only [eq_iff_iff, iff_true, decide_eq_true_eq] at *; omega))]; try with_reducible rfl)
                rotate_left
                ·simp only [Act.put, List.setIfInBounds_toArray, List.set_cons_zero, List.set_cons_succ, i64_w, i32_w]
                 rfl
                refine pure_ (i := 4) (N := some 41) (v := ?_) (a' := ?_) #[true, true, true, true, true, false, false, false, false, false, false, false, false, false] rfl rfl (any_of HT_.out (by kernel_rfl)) (fun _ _ _ h => h) (Or.inl ⟨by rfl, ?_⟩) ?_ ?_
                rotate_left
                ·intro w'
                 go_simp
                 first | (with_reducible rfl) | (rw [if_neg (by (try simp only [ByteArray.size_append, ByteArray.size_extract, bsz_, List.size_toArray, List.length_cons, List.length_nil, Nat.reduceAdd, Nat.sub_zero, Nat.min_self]); first | omega | (simp only [eq_iff_iff, iff_true, decide_eq_true_eq] at *; omega))]; try with_reducible rfl)
                rotate_left
                ·simp only [Act.put, List.setIfInBounds_toArray, List.set_cons_zero, List.set_cons_succ, i64_w, i32_w]
                 rfl
                refine pure_ (i := 5) (N := some 42) (v := ?_) (a' := ?_) #[true, true, true, true, true, true, false, false, false, false, false, false, false, false] rfl rfl (any_of HT_.out (by kernel_rfl)) (fun _ _ _ h => h) (Or.inl ⟨by rfl, ?_⟩) ?_ ?_
                rotate_left
                ·intro w'
                 go_simp
                 first | (with_reducible rfl) | (rw [if_neg (by (try simp only [ByteArray.size_append, ByteArray.size_extract, bsz_, List.size_toArray, List.length_cons, List.length_nil, Nat.reduceAdd, Nat.sub_zero, Nat.min_self]); first | omega | (simp only [eq_iff_iff, iff_true, decide_eq_true_eq] at *; omega))]; try with_reducible rfl)
                rotate_left
                ·simp only [Act.put, List.setIfInBounds_toArray, List.set_cons_zero, List.set_cons_succ, i64_w, i32_w]
                 rfl
                refine pure_ (i := 6) (N := some 43) (v := ?_) (a' := ?_) #[true, true, true, true, true, true, true, false, false, false, false, false, false, false] rfl rfl (any_of HT_.out (by kernel_rfl)) (fun _ _ _ h => h) (Or.inl ⟨by rfl, ?_⟩) ?_ ?_
                rotate_left
                ·intro w'
                 go_simp
                 first | (with_reducible rfl) | (rw [if_neg (by (try simp only [ByteArray.size_append, ByteArray.size_extract, bsz_, List.size_toArray, List.length_cons, List.length_nil, Nat.reduceAdd, Nat.sub_zero, Nat.min_self]); first | omega | (simp only [eq_iff_iff, iff_true, decide_eq_true_eq] at *; omega))]; try with_reducible rfl)
                rotate_left
                ·simp only [Act.put, List.setIfInBounds_toArray, List.set_cons_zero, List.set_cons_succ, i64_w, i32_w]
                 rfl
                refine pure_ (i := 7) (N := some 44) (v := ?_) (a' := ?_) #[true, true, true, true, true, true, true, true, false, false, false, false, false, false] rfl rfl (any_of HT_.out (by kernel_rfl)) (fun _ _ _ h => h) (Or.inl ⟨by rfl, ?_⟩) ?_ ?_
                rotate_left
                ·intro w'
                 go_simp
                 first | (with_reducible rfl) | (rw [if_neg (by (try simp only [ByteArray.size_append, ByteArray.size_extract, bsz_, List.size_toArray, List.length_cons, List.length_nil, Nat.reduceAdd, Nat.sub_zero, Nat.min_self]); first | omega | (simp only [eq_iff_iff, iff_true, decide_eq_true_eq] at *; omega))]; try with_reducible rfl)
                rotate_left
                ·simp only [Act.put, List.setIfInBounds_toArray, List.set_cons_zero, List.set_cons_succ, i64_w, i32_w]
                 rfl
                refine pure_ (i := 8) (N := some 45) (v := ?_) (a' := ?_) #[true, true, true, true, true, true, true, true, true, false, false, false, false, false] rfl rfl (any_of HT_.out (by kernel_rfl)) (fun _ _ _ h => h) (Or.inl ⟨by rfl, ?_⟩) ?_ ?_
                rotate_left
                ·intro w'
                 go_simp
                 first | (with_reducible rfl) | (rw [if_neg (by (try simp only [ByteArray.size_append, ByteArray.size_extract, bsz_, List.size_toArray, List.length_cons, List.length_nil, Nat.reduceAdd, Nat.sub_zero, Nat.min_self]); first | omega | (simp only [eq_iff_iff, iff_true, decide_eq_true_eq] at *; omega))]; try with_reducible rfl)
                rotate_left
                ·simp only [Act.put, List.setIfInBounds_toArray, List.set_cons_zero, List.set_cons_succ, i64_w, i32_w]
                 rfl
                refine pure_ (i := 9) (N := some 46) (v := ?_) (a' := ?_) #[true, true, true, true, true, true, true, true, true, true, false, false, false, false] rfl rfl (any_of HT_.out (by kernel_rfl)) (fun _ _ _ h => h) (Or.inl ⟨by rfl, ?_⟩) ?_ ?_
                rotate_left
                ·intro w'
                 go_simp
                 first | (with_reducible rfl) | (rw [if_neg (by (try simp only [ByteArray.size_append, ByteArray.size_extract, bsz_, List.size_toArray, List.length_cons, List.length_nil, Nat.reduceAdd, Nat.sub_zero, Nat.min_self]); first | omega | (simp only [eq_iff_iff, iff_true, decide_eq_true_eq] at *; omega))]; try with_reducible rfl)
                rotate_left
                ·simp only [Act.put, List.setIfInBounds_toArray, List.set_cons_zero, List.set_cons_succ, i64_w, i32_w]
                 rfl
                refine one_ (i := 10) (N := some 47) #[true, true, true, true, true, true, true, true, true, true, true, false, false, false] rfl rfl (one_of HT_.out (by kernel_rfl)) (by decide) (fun K hK => ?_)
                refine goes_ Tryz.func90 (by kernel_rfl) rfl #[.int .i64 (wrap64 (t422 - 1))] (by rfl) rfl rfl az ?_
                with_reducible refine (strconv_Itoa.calls (wrap64 (t422 - 1)) t423 _ A31.out (tabAt HT.out bz)).mono ?_
                rintro e w34 ⟨rfl, hb⟩
                refine ⟨_, rfl, ?_⟩
                replace BK417 := kb BK417 hb
                replace HB := bs hb
                (try clear hb)
                refine hK.out _ _ trivial (fun hHeld => ?_)
                clear hK K
                refine norm_ (a' := ?_) ?_ ?_
                rotate_left
                ·show Act.put _ (some 47) _ = _
                 simp only [Act.put, List.setIfInBounds_toArray, List.set_cons_zero, List.set_cons_succ, i64_w, i32_w]
                 rfl
                refine pure_ (i := 11) (N := some 48) (v := ?_) (a' := ?_) #[true, true, true, true, true, true, true, true, true, true, true, true, false, false] rfl rfl (any_of HT_.out (by kernel_rfl)) (fun _ _ _ h => h) (Or.inl ⟨by rfl, ?_⟩) ?_ ?_
                rotate_left
                ·intro w'
                 go_simp
                 first | (with_reducible rfl) | (rw [if_neg (by (try simp only [ByteArray.size_append, ByteArray.size_extract, bsz_, List.size_toArray, List.length_cons, List.length_nil, Nat.reduceAdd, Nat.sub_zero, Nat.min_self]); first | omega | (simp only [eq_iff_iff, iff_true, decide_eq_true_eq] at *; omega))]; try with_reducible rfl)
                rotate_left
                ·simp only [Act.put, List.setIfInBounds_toArray, List.set_cons_zero, List.set_cons_succ, i64_w, i32_w]
                 rfl
                refine pure_ (i := 12) (N := some 2) (v := ?_) (a' := ?_) #[true, true, true, true, true, true, true, true, true, true, true, true, true, false] rfl rfl (any_of HT_.out (by kernel_rfl)) (fun _ _ _ h => h) (Or.inl ⟨by rfl, ?_⟩) ?_ ?_
                rotate_left
                ·intro w'
                 go_simp
                 first | (with_reducible rfl) | (rw [if_neg (by (try simp only [ByteArray.size_append, ByteArray.size_extract, bsz_, List.size_toArray, List.length_cons, List.length_nil, Nat.reduceAdd, Nat.sub_zero, Nat.min_self]); first | omega | (simp only [eq_iff_iff, iff_true, decide_eq_true_eq] at *; omega))]; try with_reducible rfl)
                rotate_left
                ·simp only [Act.put, List.setIfInBounds_toArray, List.set_cons_zero, List.set_cons_succ, i64_w, i32_w]
                 rfl
                refine pure_ (i := 13) (N := some 3) (v := ?_) (a' := ?_) #[true, true, true, true, true, true, true, true, true, true, true, true, true, true] rfl rfl (any_of HT_.out (by kernel_rfl)) (fun _ _ _ h => h) (Or.inl ⟨by rfl, ?_⟩) ?_ ?_
                rotate_left
                ·intro w'
                 go_simp
                 first | (with_reducible rfl) | (rw [if_neg (by (try simp only [ByteArray.size_append, ByteArray.size_extract, bsz_, List.size_toArray, List.length_cons, List.length_nil, Nat.reduceAdd, Nat.sub_zero, Nat.min_self]); first | omega | (simp only [eq_iff_iff, iff_true, decide_eq_true_eq] at *; omega))]; try with_reducible rfl)
                rotate_left
                ·simp only [Act.put, List.setIfInBounds_toArray, List.set_cons_zero, List.set_cons_succ, i64_w, i32_w]
                 rfl
                refine done_ (done_of HT_.out (by kernel_rfl)) ?_
                try go_wp2
                go_ret2
                exact ⟨by first | rfl | (simp [errW_none, errW_some] <;> rfl) | (simp [*, errW_none, errW_some] <;> rfl), bz⟩
               ·rw [if_neg c32] at H
                exact absurd H (by simp)
              ·rw [if_neg c30] at H
               exact absurd H (by simp)
             ·rw [if_neg c29] at H
              exact absurd H (by simp)
            ·rw [if_neg c28] at H
             exact absurd H (by simp)
           ·rw [if_neg c27] at H
            exact absurd H (by simp)
          ·rw [if_neg c25] at H
           exact absurd H (by simp)
         ·refine absurd ?_ c24
          rcases HS.out with ⟨h1, h2⟩ | ⟨h1, h2⟩
          ·have hx := HX.out; rw [h2] at hx; exact absurd hx (by decide)
          ·rw [h1]; kernel_rfl
        ·rw [if_neg c23] at H
         exact absurd H (by simp)
       ·replace c22 := Bool.eq_false_iff.mpr c22
        subst c22
        rw [if_neg (show ¬ (false = true) by decide)] at H
        by_cases c45 : t422 < 1
        ·rw [if_pos c45] at H
         have c45b0 : decide (t422 < 1) = true := decide_eq_true c45
         clear c45
         by_cases c46 : x4_8.size + 2 ≤ 9223372036854775807
         ·rw [if_pos c46] at H
          have c46b0 := eq_true c46
          have c46b1 : decide (x4_8.size + 2 ≤ 9223372036854775807) = true := decide_eq_true c46
          try have c46b2 : (9223372036854775807 < x4_8.size + 2) = False := eq_false (Nat.not_lt.2 c46)
          have c46z_ := c46
          try simp only [ByteArray.size_append, ByteArray.size_extract, bsz_, List.size_toArray, List.length_cons, List.length_nil, Nat.reduceAdd, Nat.sub_zero, Nat.min_self] at c46z_
          replace H := Option.bind_eq_some_iff.mp H
          obtain ⟨t425, A470, H⟩ := H
          try dsimp only at H
          have A47 := Aside0.mk A470
          clear A470
          by_cases c48 : (x4_8 ++ (⟨#[48, 46]⟩ : ByteArray)).size + t425.size ≤ 9223372036854775807
          ·rw [if_pos c48] at H
           have c48b0 := eq_true c48
           have c48b1 : decide ((x4_8 ++ (⟨#[48, 46]⟩ : ByteArray)).size + t425.size ≤ 9223372036854775807) = true := decide_eq_true c48
           try have c48b2 : (9223372036854775807 < (x4_8 ++ (⟨#[48, 46]⟩ : ByteArray)).size + t425.size) = False := eq_false (Nat.not_lt.2 c48)
           have c48z_ := c48
           try simp only [ByteArray.size_append, ByteArray.size_extract, bsz_, List.size_toArray, List.length_cons, List.length_nil, Nat.reduceAdd, Nat.sub_zero, Nat.min_self] at c48z_
           by_cases c49 : ((x4_8 ++ (⟨#[48, 46]⟩ : ByteArray)) ++ t425).size + t421.size ≤ 9223372036854775807
           ·rw [if_pos c49] at H
            have c49b0 := eq_true c49
            have c49b1 : decide (((x4_8 ++ (⟨#[48, 46]⟩ : ByteArray)) ++ t425).size + t421.size ≤ 9223372036854775807) = true := decide_eq_true c49
            try have c49b2 : (9223372036854775807 < ((x4_8 ++ (⟨#[48, 46]⟩ : ByteArray)) ++ t425).size + t421.size) = False := eq_false (Nat.not_lt.2 c49)
            have c49z_ := c49
            try simp only [ByteArray.size_append, ByteArray.size_extract, bsz_, List.size_toArray, List.length_cons, List.length_nil, Nat.reduceAdd, Nat.sub_zero, Nat.min_self] at c49z_
            simp only [Option.some.injEq, Prod.mk.injEq] at H
            obtain ⟨rfl, rfl⟩ := H
            go_wp2_with (first | ((with_reducible refine gate_callee (f := 91) rfl ?_); refine goesL_ (some 56) rfl rfl Tryz.func91 (by kernel_rfl) rfl #[.string (⟨#[48]⟩ : ByteArray), .int .i64 (wrap64 (-t422))] rfl az ?_; (with_reducible refine (strings_Repeat.calls (⟨#[48]⟩ : ByteArray) (wrap64 (-t422)) t425 _ A47.out).mono ?_); rintro e w50 ⟨rfl, hb⟩; refine ⟨_, rfl, ?_⟩; replace BK417 := kb BK417 hb; replace HB := bs hb; (try clear hb)))
            go_ret2
            exact ⟨by first | rfl | (simp [errW_none, errW_some] <;> rfl) | (simp [*, errW_none, errW_some] <;> rfl), bz⟩
           ·rw [if_neg c49] at H
            exact absurd H (by simp)
          ·rw [if_neg c48] at H
           exact absurd H (by simp)
         ·rw [if_neg c46] at H
          exact absurd H (by simp)
        ·exact absurd (by rcases HS.out with ⟨_, h2⟩ | ⟨_, h2⟩ <;> rw [h2] <;> decide) c45
 ·have hv := A2.out
  replace c3 := Bool.eq_false_iff.mpr c3
  subst c3
  rcases hp with ⟨rfl, rfl⟩ | ⟨rfl, rfl⟩
  ·exact absurd (hv.symm.trans (show real_Valid.f 11184811 (-25) = some true by kernel_rfl)) (by decide)
  ·exact absurd (hv.symm.trans (show real_Valid.f 1 (-150) = some true by kernel_rfl)) (by decide)
end Go.Proofs.YteigbokklclmbaaGreatDoor.Z
end
section
namespace Go.Proofs.YteigbokklclmbaaGreatDoor.Z
open Go Go.RowKit Go.Shelf Go.Proofs.YteigbokklclmbaaGreatDoor.Given Go.Proofs.YteigbokklclmbaaGreatDoorW.PrintWords Go.Proofs.YteigbokklclmbaaGreatDoorW.PrintLast Go.Proofs.YteigbokklclmbaaGreatDoorW.PrintMore
def imin (x y : Int) : Int := if y < x then y else x
theorem min2_im (k k' : IntKind) (x y : Int) : Builtin.min2 (.int k x) (.int k' y) = pure (.int k (imin x y)) := min2_int k k' x y
attribute [local go_sem] Oper.semAt_some min_two min2_im
def expF (l : List Int) : Int := l.foldl (fun n d => imin 1000 (wrap64 (wrap64 (10 * n) + d))) 0
theorem expF_snoc (l : List Int) (d : Int) : expF (l ++ [d]) = imin 1000 (wrap64 (wrap64 (10 * expF l) + d)) := by unfold expF; rw [List.foldl_append]; rfl
def minusS : ByteArray := { data := #[45] }
def plusS : ByteArray := { data := #[43] }
def real_exponent.f (s : ByteArray) : Option (Int × Bool) := if s.size < 100000000000 then
  (strings_HasPrefix.f s minusS).bind fun neg => (strings_HasPrefix.f s plusS).bind fun pos =>
    if neg = true then (if 1 ≤ s.size then some (wrap64 (-(expF (digs (s.extract 1 s.size)))), decide (0 < (digs (s.extract 1 s.size)).length) && (((s.extract 1 s.size).extract (digs (s.extract 1 s.size)).length (s.extract 1 s.size).size).toList == [])) else none)
    else if pos = true then (if 1 ≤ s.size then some (expF (digs (s.extract 1 s.size)), decide (0 < (digs (s.extract 1 s.size)).length) && (((s.extract 1 s.size).extract (digs (s.extract 1 s.size)).length (s.extract 1 s.size).size).toList == [])) else none)
    else some (expF (digs s), decide (0 < (digs s).length) && ((s.extract (digs s).length s.size).toList == [])) else none
theorem exponent_neg (s : ByteArray) (hsz : s.size < 100000000000) (w : World) (h1 : 1 ≤ s.size) (hn : strings_HasPrefix.f s minusS = some true) :
    CallsIn Fence.wide 9 Tryz.prog 78 #[.string s] w fun e W' => e = .returned (.tuple #[.int .i64 (wrap64 (-(expF (digs (s.extract 1 s.size))))), .bool (decide (0 < (digs (s.extract 1 s.size)).length) && (((s.extract 1 s.size).extract (digs (s.extract 1 s.size)).length (s.extract 1 s.size).size).toList == []))]) ∧ Below w.heap.size w W' := by
  have HS := Lib.hid hsz
  refine callsIn_of_wp_marks Tryz.func78 rfl trivial ?_ rfl
  simp only [Tryz.ntmps78, List.size_toArray, List.length_cons, List.length_nil, Nat.reduceAdd, Nat.reduceSub, Array.replicate_succ, Array.replicate_zero, List.push_toArray, List.append_toArray, List.nil_append, List.cons_append]
  have HN := Lib.hid (fun w => strings_HasPrefix.calls s minusS true w hn)
  clear hn
  gi_wp2_with (fail)
  refine ⟨trivial, (callsIn_wide.2 ((HN.out _).mono ?_))⟩
  rintro e w1 ⟨rfl, hd⟩
  have hs1 : w1.heap.size = w.heap.size := by obtain ⟨q, hq⟩ := hd.out; rw [hq]; simp
  have hd1 := hd.below
  gi_wp2_with (fail)
  refine ⟨trivial, ?_⟩
  gi_wp2_with (refine ⟨trivial, ?_⟩; gi_at_call 115; refine (callsIn_wide.2 (digits_c _ _)).mono ?_; rintro e w' ⟨rfl, rfl⟩)
  have hdl := digs_len (s.extract 1 s.size)
  have hps : (s.extract 1 s.size).size ≤ s.size := by simp only [ByteArray.size_extract]; omega
  obtain ⟨sp, hsp⟩ : ∃ sp, (s.extract 1 s.size) = sp := ⟨_, rfl⟩
  have HSP := Lib.hid hsp
  rw [hsp] at hdl hps
  rw [hsp]
  have hB0 : Below w.heap.size w (((w1.alloc (.cells #[Value.int .i64 0] 3)).alloc (.cells #[Value.int .i64 0] 3)).alloc (.cells #[Value.string sp] 9)) := ((hd1.alloc (by omega) _).alloc (by simp only [World.size_alloc]; omega) _).alloc (by simp only [World.size_alloc]; omega) _
  obtain ⟨w0, hw0⟩ : ∃ w0, (((w1.alloc (.cells #[Value.int .i64 0] 3)).alloc (.cells #[Value.int .i64 0] 3)).alloc (.cells #[Value.string sp] 9)) = w0 := ⟨_, rfl⟩
  have k0 : w0.heap[w.heap.size]? = some (.cells #[Value.int .i64 0] 3 (0, 0)) := by
    rw [← hw0]; exact blk_alloc (blk_alloc (new_at _ _ _ (by omega)) _) _
  have k1 : w0.heap[w.heap.size + 1]? = some (.cells #[Value.int .i64 0] 3 (0, 0)) := by
    rw [← hw0]; exact blk_alloc (new_at _ _ _ (by simp only [World.size_alloc]; omega)) _
  have k2 : w0.heap[w.heap.size + 1 + 1]? = some (.cells #[Value.string sp] 9 (0, 0)) := by
    rw [← hw0]; exact new_at _ _ _ (by simp only [World.size_alloc]; omega)
  have hs0 : w0.heap.size = w.heap.size + 1 + 1 + 1 := by rw [← hw0]; simp only [World.size_alloc]; omega
  rw [hw0] at hB0 ⊢
  refine wpIn_rangeFunc_ownF rfl (by omega) (gf := 147) (lb := #[.pointer (some ⟨w.heap.size + 1 + 1, 0, none⟩)]) rfl trivial (enters_ Tryz.func147 (by kernel_rfl) rfl)
    (digits_stops 8 (by omega) (w.heap.size + 1 + 1) sp (by have := HS.out; omega) w0 (by omega) ((blk_cell k2 0).trans rfl)) KB_t (KB_b (by omega)) (Below.refl _ _) (fun _ => rfl)
    (fun pre W => (Boxed W w.heap.size 3 (.int .i64 (expF pre)) ∧ Boxed W (w.heap.size + 1) 3 (.int .i64 (pre.length : Int)) ∧ Boxed W (w.heap.size + 1 + 1) 9 (.string sp)) ∧ Below w.heap.size w W)
    (fun _ _ _ => False)
    (OwnFrom.and (Own.from (fun pre A B row hs hg hr => by
      obtain ⟨h3, h5, h6⟩ := hs
      exact ⟨h3.kept hg (fun e => by obtain ⟨o, ho, hc⟩ := hr _ e.symm; rw [show A.heap[w.heap.size]? = _ from h3] at ho; cases ho; cases hc), h5.kept hg (fun e => by obtain ⟨o, ho, hc⟩ := hr _ e.symm; rw [show A.heap[w.heap.size + 1]? = _ from h5] at ho; cases ho; cases hc), h6.kept hg (fun e => by obtain ⟨o, ho, hc⟩ := hr _ e.symm; rw [show A.heap[w.heap.size + 1 + 1]? = _ from h6] at ho; cases ho; cases hc)⟩) _) (ownFrom_below (Nat.le_refl _) (by omega)))
    (fun _ _ _ _ _ hs _ _ => hs)
    ⟨⟨k0, k1, k2⟩, hB0⟩
    (fun x => { tmps := #[Value.string sp, undef, Value.int IntKind.i64 0, Value.bool false, Value.bool true, Value.pointer (some { block := w.heap.size, off := 0 }), Value.pointer (some { block := w.heap.size + 1, off := 0 }), Value.string sp, .int .i64 x, Value.string s, Value.bool true, Value.bool true, Value.bool true, undef, undef, Value.bool true, Value.string s, Value.string sp, Value.string sp, Value.string sp, Value.func (Fn.func 147) #[] #[Value.pointer (some { block := w.heap.size + 1 + 1, off := 0 })], .int .i64 x, undef, undef, undef, undef, undef, undef, undef, undef, undef, undef, undef, undef, undef, undef, undef, undef, undef, undef, undef, undef], defers := [] }) ?assign ?body ?done ?stop
  case assign =>
    intro l x W K hK
    gi_wp2
    exact hK
  case body =>
    rintro l pre x W ⟨⟨hb0, hb1, hb2⟩, hB⟩ hpre
    have l2 := hb2.lt
    have hss := HS.out
    have hpl : (pre.length : Int) < 100000000000 := by omega
    have hw : wrap64 ((pre.length : Int) + 1) = (pre.length : Int) + 1 := w64 _ (by omega) (by omega)
    have c0 := hb0.cell
    have f0 := hb0.frozen
    have c1 := hb1.cell
    have f1 := hb1.frozen
    gi_wp2
    have t0 := heap_setCell_same W w.heap.size 0 _ _ (.int .i64 (imin 1000 (wrap64 (wrap64 (10 * expF pre) + x)))) hb0
    have t1 : (W.setCell ⟨w.heap.size, 0, none⟩ (.int .i64 (imin 1000 (wrap64 (wrap64 (10 * expF pre) + x))))).heap[w.heap.size + 1]? = _ := (heap_setCell_other _ _ _ _ (by simp only; omega)).trans hb1
    have u0 := (heap_setCell_other (W.setCell ⟨w.heap.size, 0, none⟩ (.int .i64 (imin 1000 (wrap64 (wrap64 (10 * expF pre) + x))))) ⟨w.heap.size + 1, 0, none⟩ w.heap.size (.int .i64 ((pre.length : Int) + 1)) (by simp only; omega)).trans t0
    have u1 := heap_setCell_same _ (w.heap.size + 1) 0 _ _ (.int .i64 ((pre.length : Int) + 1)) t1
    have u2 : ((W.setCell ⟨w.heap.size, 0, none⟩ (.int .i64 (imin 1000 (wrap64 (wrap64 (10 * expF pre) + x))))).setCell ⟨w.heap.size + 1, 0, none⟩ (.int .i64 ((pre.length : Int) + 1))).heap[w.heap.size + 1 + 1]? = W.heap[w.heap.size + 1 + 1]? :=
      (heap_setCell_other _ _ _ _ (by simp only; omega)).trans ((heap_setCell_other _ _ _ _ (by simp only; omega)))
    have hp : (((pre ++ [x]).length : Nat) : Int) = (pre.length : Int) + 1 := by simp
    refine ⟨(KeepsOthers.setCell _ _ _).trans (KeepsOthers.setCell _ _ _), u2, ⟨?_, ?_, u2.trans hb2⟩, (hB.setCell (by simp only; omega) _).setCell (by simp only; omega) _⟩
    · rw [expF_snoc]; exact u0
    · rw [hp]; exact u1
  case done =>
    rintro D ys W hD rfl ⟨⟨hb0, hb1, hb2⟩, hB⟩ hK
    have hss := HS.out
    have c0 := hb0.cell
    have f0 := hb0.frozen
    have c1 := hb1.cell
    have f1 := hb1.frozen
    by_cases hpos : 0 < (digs sp).length
    all_goals
      gi_wp2
      have hKd := (KeepsOthers.setCell W ⟨w.heap.size, 0, none⟩ (.int .i64 (wrap64 (-expF (digs sp))))).same D _ hK rfl
      refine ⟨by simp, .inl ⟨_, _, rfl, run_takeDeferred hKd, ?_⟩⟩
      refine ⟨_, results_tmp2 rfl _ _ _, ?_, (hB.setCell (p := ⟨w.heap.size, 0, none⟩) (Nat.le_refl _) _).trans (belowK_b (w := w) (Nat.le_refl _) _ D _ _ (by omega) hKd rfl rfl)⟩
      (rw [HSP.out]; simp [hpos]; done)
  case stop =>
    rintro D c pre W _ _ h _
    exact h.elim
theorem exponent_pos (s : ByteArray) (hsz : s.size < 100000000000) (w : World) (h1 : 1 ≤ s.size) (hn : strings_HasPrefix.f s minusS = some false) (hp : strings_HasPrefix.f s plusS = some true) :
    CallsIn Fence.wide 9 Tryz.prog 78 #[.string s] w fun e W' => e = .returned (.tuple #[.int .i64 (expF (digs (s.extract 1 s.size))), .bool (decide (0 < (digs (s.extract 1 s.size)).length) && (((s.extract 1 s.size).extract (digs (s.extract 1 s.size)).length (s.extract 1 s.size).size).toList == []))]) ∧ Below w.heap.size w W' := by
  have HS := Lib.hid hsz
  refine callsIn_of_wp_marks Tryz.func78 rfl trivial ?_ rfl
  simp only [Tryz.ntmps78, List.size_toArray, List.length_cons, List.length_nil, Nat.reduceAdd, Nat.reduceSub, Array.replicate_succ, Array.replicate_zero, List.push_toArray, List.append_toArray, List.nil_append, List.cons_append]
  have HN := Lib.hid (fun w => strings_HasPrefix.calls s minusS false w hn)
  have HP := Lib.hid (fun w => strings_HasPrefix.calls s plusS true w hp)
  clear hn hp
  gi_wp2_with (fail)
  refine ⟨trivial, (callsIn_wide.2 ((HN.out _).mono ?_))⟩
  rintro e w1 ⟨rfl, hd⟩
  have hs1 : w1.heap.size = w.heap.size := by obtain ⟨q, hq⟩ := hd.out; rw [hq]; simp
  have hd1 := hd.below
  gi_wp2_with (fail)
  refine ⟨trivial, (callsIn_wide.2 ((HP.out _).mono ?_))⟩
  rintro e w2 ⟨rfl, hd'⟩
  have hs2 : w2.heap.size = w.heap.size := by obtain ⟨q, hq⟩ := hd'.out; rw [hq]; simp [hs1]
  have hd2 := hd1.trans (hd'.below.mono hd1.size)
  gi_wp2_with (refine ⟨trivial, ?_⟩; gi_at_call 115; refine (callsIn_wide.2 (digits_c _ _)).mono ?_; rintro e w' ⟨rfl, rfl⟩)
  have hdl := digs_len (s.extract 1 s.size)
  have hps : (s.extract 1 s.size).size ≤ s.size := by simp only [ByteArray.size_extract]; omega
  obtain ⟨sp, hsp⟩ : ∃ sp, (s.extract 1 s.size) = sp := ⟨_, rfl⟩
  have HSP := Lib.hid hsp
  rw [hsp] at hdl hps
  rw [hsp]
  have hB0 : Below w.heap.size w (((w2.alloc (.cells #[Value.int .i64 0] 3)).alloc (.cells #[Value.int .i64 0] 3)).alloc (.cells #[Value.string sp] 9)) := ((hd2.alloc (by omega) _).alloc (by simp only [World.size_alloc]; omega) _).alloc (by simp only [World.size_alloc]; omega) _
  obtain ⟨w0, hw0⟩ : ∃ w0, (((w2.alloc (.cells #[Value.int .i64 0] 3)).alloc (.cells #[Value.int .i64 0] 3)).alloc (.cells #[Value.string sp] 9)) = w0 := ⟨_, rfl⟩
  have k0 : w0.heap[w.heap.size]? = some (.cells #[Value.int .i64 0] 3 (0, 0)) := by
    rw [← hw0]; exact blk_alloc (blk_alloc (new_at _ _ _ (by omega)) _) _
  have k1 : w0.heap[w.heap.size + 1]? = some (.cells #[Value.int .i64 0] 3 (0, 0)) := by
    rw [← hw0]; exact blk_alloc (new_at _ _ _ (by simp only [World.size_alloc]; omega)) _
  have k2 : w0.heap[w.heap.size + 1 + 1]? = some (.cells #[Value.string sp] 9 (0, 0)) := by
    rw [← hw0]; exact new_at _ _ _ (by simp only [World.size_alloc]; omega)
  have hs0 : w0.heap.size = w.heap.size + 1 + 1 + 1 := by rw [← hw0]; simp only [World.size_alloc]; omega
  rw [hw0] at hB0 ⊢
  refine wpIn_rangeFunc_ownF rfl (by omega) (gf := 147) (lb := #[.pointer (some ⟨w.heap.size + 1 + 1, 0, none⟩)]) rfl trivial (enters_ Tryz.func147 (by kernel_rfl) rfl)
    (digits_stops 8 (by omega) (w.heap.size + 1 + 1) sp (by have := HS.out; omega) w0 (by omega) ((blk_cell k2 0).trans rfl)) KB_t (KB_b (by omega)) (Below.refl _ _) (fun _ => rfl)
    (fun pre W => (Boxed W w.heap.size 3 (.int .i64 (expF pre)) ∧ Boxed W (w.heap.size + 1) 3 (.int .i64 (pre.length : Int)) ∧ Boxed W (w.heap.size + 1 + 1) 9 (.string sp)) ∧ Below w.heap.size w W)
    (fun _ _ _ => False)
    (OwnFrom.and (Own.from (fun pre A B row hs hg hr => by
      obtain ⟨h3, h5, h6⟩ := hs
      exact ⟨h3.kept hg (fun e => by obtain ⟨o, ho, hc⟩ := hr _ e.symm; rw [show A.heap[w.heap.size]? = _ from h3] at ho; cases ho; cases hc), h5.kept hg (fun e => by obtain ⟨o, ho, hc⟩ := hr _ e.symm; rw [show A.heap[w.heap.size + 1]? = _ from h5] at ho; cases ho; cases hc), h6.kept hg (fun e => by obtain ⟨o, ho, hc⟩ := hr _ e.symm; rw [show A.heap[w.heap.size + 1 + 1]? = _ from h6] at ho; cases ho; cases hc)⟩) _) (ownFrom_below (Nat.le_refl _) (by omega)))
    (fun _ _ _ _ _ hs _ _ => hs)
    ⟨⟨k0, k1, k2⟩, hB0⟩
    (fun x => { tmps := #[Value.string sp, undef, Value.int IntKind.i64 0, Value.bool false, Value.bool false, Value.pointer (some { block := w.heap.size, off := 0 }), Value.pointer (some { block := w.heap.size + 1, off := 0 }), Value.string sp, .int .i64 x, Value.string s, Value.bool false, Value.bool false, Value.bool false, Value.string s, Value.bool true, Value.bool true, Value.string s, Value.string sp, Value.string sp, Value.string sp, Value.func (Fn.func 147) #[] #[Value.pointer (some { block := w.heap.size + 1 + 1, off := 0 })], .int .i64 x, undef, undef, undef, undef, undef, undef, undef, undef, undef, undef, undef, undef, undef, undef, undef, undef, undef, undef, undef, undef], defers := [] }) ?assign ?body ?done ?stop
  case assign =>
    intro l x W K hK
    gi_wp2
    exact hK
  case body =>
    rintro l pre x W ⟨⟨hb0, hb1, hb2⟩, hB⟩ hpre
    have l2 := hb2.lt
    have hss := HS.out
    have hpl : (pre.length : Int) < 100000000000 := by omega
    have hw : wrap64 ((pre.length : Int) + 1) = (pre.length : Int) + 1 := w64 _ (by omega) (by omega)
    have c0 := hb0.cell
    have f0 := hb0.frozen
    have c1 := hb1.cell
    have f1 := hb1.frozen
    gi_wp2
    have t0 := heap_setCell_same W w.heap.size 0 _ _ (.int .i64 (imin 1000 (wrap64 (wrap64 (10 * expF pre) + x)))) hb0
    have t1 : (W.setCell ⟨w.heap.size, 0, none⟩ (.int .i64 (imin 1000 (wrap64 (wrap64 (10 * expF pre) + x))))).heap[w.heap.size + 1]? = _ := (heap_setCell_other _ _ _ _ (by simp only; omega)).trans hb1
    have u0 := (heap_setCell_other (W.setCell ⟨w.heap.size, 0, none⟩ (.int .i64 (imin 1000 (wrap64 (wrap64 (10 * expF pre) + x))))) ⟨w.heap.size + 1, 0, none⟩ w.heap.size (.int .i64 ((pre.length : Int) + 1)) (by simp only; omega)).trans t0
    have u1 := heap_setCell_same _ (w.heap.size + 1) 0 _ _ (.int .i64 ((pre.length : Int) + 1)) t1
    have u2 : ((W.setCell ⟨w.heap.size, 0, none⟩ (.int .i64 (imin 1000 (wrap64 (wrap64 (10 * expF pre) + x))))).setCell ⟨w.heap.size + 1, 0, none⟩ (.int .i64 ((pre.length : Int) + 1))).heap[w.heap.size + 1 + 1]? = W.heap[w.heap.size + 1 + 1]? :=
      (heap_setCell_other _ _ _ _ (by simp only; omega)).trans ((heap_setCell_other _ _ _ _ (by simp only; omega)))
    have hp : (((pre ++ [x]).length : Nat) : Int) = (pre.length : Int) + 1 := by simp
    refine ⟨(KeepsOthers.setCell _ _ _).trans (KeepsOthers.setCell _ _ _), u2, ⟨?_, ?_, u2.trans hb2⟩, (hB.setCell (by simp only; omega) _).setCell (by simp only; omega) _⟩
    · rw [expF_snoc]; exact u0
    · rw [hp]; exact u1
  case done =>
    rintro D ys W hD rfl ⟨⟨hb0, hb1, hb2⟩, hB⟩ hK
    have hss := HS.out
    have c0 := hb0.cell
    have f0 := hb0.frozen
    have c1 := hb1.cell
    have f1 := hb1.frozen
    by_cases hpos : 0 < (digs sp).length
    all_goals
      gi_wp2
      have hKd := hK
      refine ⟨by simp, .inl ⟨_, _, rfl, run_takeDeferred hKd, ?_⟩⟩
      refine ⟨_, results_tmp2 rfl _ _ _, ?_, hB.trans (belowK_b (w := w) (Nat.le_refl _) _ D _ _ (by omega) hKd rfl rfl)⟩
      (rw [HSP.out]; simp [hpos]; done)
  case stop =>
    rintro D c pre W _ _ h _
    exact h.elim
theorem exponent_plain (s : ByteArray) (hsz : s.size < 100000000000) (w : World) (hn : strings_HasPrefix.f s minusS = some false) (hp : strings_HasPrefix.f s plusS = some false) :
    CallsIn Fence.wide 9 Tryz.prog 78 #[.string s] w fun e W' => e = .returned (.tuple #[.int .i64 (expF (digs s)), .bool (decide (0 < (digs s).length) && ((s.extract (digs s).length s.size).toList == []))]) ∧ Below w.heap.size w W' := by
  have HS := Lib.hid hsz
  refine callsIn_of_wp_marks Tryz.func78 rfl trivial ?_ rfl
  simp only [Tryz.ntmps78, List.size_toArray, List.length_cons, List.length_nil, Nat.reduceAdd, Nat.reduceSub, Array.replicate_succ, Array.replicate_zero, List.push_toArray, List.append_toArray, List.nil_append, List.cons_append]
  have HN := Lib.hid (fun w => strings_HasPrefix.calls s minusS false w hn)
  have HP := Lib.hid (fun w => strings_HasPrefix.calls s plusS false w hp)
  clear hn hp
  gi_wp2_with (fail)
  refine ⟨trivial, (callsIn_wide.2 ((HN.out _).mono ?_))⟩
  rintro e w1 ⟨rfl, hd⟩
  have hs1 : w1.heap.size = w.heap.size := by obtain ⟨q, hq⟩ := hd.out; rw [hq]; simp
  have hd1 := hd.below
  gi_wp2_with (fail)
  refine ⟨trivial, (callsIn_wide.2 ((HP.out _).mono ?_))⟩
  rintro e w2 ⟨rfl, hd'⟩
  have hs2 : w2.heap.size = w.heap.size := by obtain ⟨q, hq⟩ := hd'.out; rw [hq]; simp [hs1]
  have hd2 := hd1.trans (hd'.below.mono hd1.size)
  gi_wp2_with (refine ⟨trivial, ?_⟩; gi_at_call 115; refine (callsIn_wide.2 (digits_c _ _)).mono ?_; rintro e w' ⟨rfl, rfl⟩)
  have hdl := digs_len s
  have hps : s.size ≤ s.size := by exact Nat.le_refl _
  have hB0 : Below w.heap.size w (((w2.alloc (.cells #[Value.int .i64 0] 3)).alloc (.cells #[Value.int .i64 0] 3)).alloc (.cells #[Value.string s] 9)) := ((hd2.alloc (by omega) _).alloc (by simp only [World.size_alloc]; omega) _).alloc (by simp only [World.size_alloc]; omega) _
  obtain ⟨w0, hw0⟩ : ∃ w0, (((w2.alloc (.cells #[Value.int .i64 0] 3)).alloc (.cells #[Value.int .i64 0] 3)).alloc (.cells #[Value.string s] 9)) = w0 := ⟨_, rfl⟩
  have k0 : w0.heap[w.heap.size]? = some (.cells #[Value.int .i64 0] 3 (0, 0)) := by
    rw [← hw0]; exact blk_alloc (blk_alloc (new_at _ _ _ (by omega)) _) _
  have k1 : w0.heap[w.heap.size + 1]? = some (.cells #[Value.int .i64 0] 3 (0, 0)) := by
    rw [← hw0]; exact blk_alloc (new_at _ _ _ (by simp only [World.size_alloc]; omega)) _
  have k2 : w0.heap[w.heap.size + 1 + 1]? = some (.cells #[Value.string s] 9 (0, 0)) := by
    rw [← hw0]; exact new_at _ _ _ (by simp only [World.size_alloc]; omega)
  have hs0 : w0.heap.size = w.heap.size + 1 + 1 + 1 := by rw [← hw0]; simp only [World.size_alloc]; omega
  rw [hw0] at hB0 ⊢
  refine wpIn_rangeFunc_ownF rfl (by omega) (gf := 147) (lb := #[.pointer (some ⟨w.heap.size + 1 + 1, 0, none⟩)]) rfl trivial (enters_ Tryz.func147 (by kernel_rfl) rfl)
    (digits_stops 8 (by omega) (w.heap.size + 1 + 1) s (by have := HS.out; omega) w0 (by omega) ((blk_cell k2 0).trans rfl)) KB_t (KB_b (by omega)) (Below.refl _ _) (fun _ => rfl)
    (fun pre W => (Boxed W w.heap.size 3 (.int .i64 (expF pre)) ∧ Boxed W (w.heap.size + 1) 3 (.int .i64 (pre.length : Int)) ∧ Boxed W (w.heap.size + 1 + 1) 9 (.string s)) ∧ Below w.heap.size w W)
    (fun _ _ _ => False)
    (OwnFrom.and (Own.from (fun pre A B row hs hg hr => by
      obtain ⟨h3, h5, h6⟩ := hs
      exact ⟨h3.kept hg (fun e => by obtain ⟨o, ho, hc⟩ := hr _ e.symm; rw [show A.heap[w.heap.size]? = _ from h3] at ho; cases ho; cases hc), h5.kept hg (fun e => by obtain ⟨o, ho, hc⟩ := hr _ e.symm; rw [show A.heap[w.heap.size + 1]? = _ from h5] at ho; cases ho; cases hc), h6.kept hg (fun e => by obtain ⟨o, ho, hc⟩ := hr _ e.symm; rw [show A.heap[w.heap.size + 1 + 1]? = _ from h6] at ho; cases ho; cases hc)⟩) _) (ownFrom_below (Nat.le_refl _) (by omega)))
    (fun _ _ _ _ _ hs _ _ => hs)
    ⟨⟨k0, k1, k2⟩, hB0⟩
    (fun x => { tmps := #[Value.string s, undef, Value.int IntKind.i64 0, Value.bool false, Value.bool false, Value.pointer (some { block := w.heap.size, off := 0 }), Value.pointer (some { block := w.heap.size + 1, off := 0 }), Value.string s, .int .i64 x, Value.string s, Value.bool false, Value.bool false, Value.bool false, Value.string s, Value.bool false, Value.bool false, undef, undef, Value.string s, Value.string s, Value.func (Fn.func 147) #[] #[Value.pointer (some { block := w.heap.size + 1 + 1, off := 0 })], .int .i64 x, undef, undef, undef, undef, undef, undef, undef, undef, undef, undef, undef, undef, undef, undef, undef, undef, undef, undef, undef, undef], defers := [] }) ?assign ?body ?done ?stop
  case assign =>
    intro l x W K hK
    gi_wp2
    exact hK
  case body =>
    rintro l pre x W ⟨⟨hb0, hb1, hb2⟩, hB⟩ hpre
    have l2 := hb2.lt
    have hss := HS.out
    have hpl : (pre.length : Int) < 100000000000 := by omega
    have hw : wrap64 ((pre.length : Int) + 1) = (pre.length : Int) + 1 := w64 _ (by omega) (by omega)
    have c0 := hb0.cell
    have f0 := hb0.frozen
    have c1 := hb1.cell
    have f1 := hb1.frozen
    gi_wp2
    have t0 := heap_setCell_same W w.heap.size 0 _ _ (.int .i64 (imin 1000 (wrap64 (wrap64 (10 * expF pre) + x)))) hb0
    have t1 : (W.setCell ⟨w.heap.size, 0, none⟩ (.int .i64 (imin 1000 (wrap64 (wrap64 (10 * expF pre) + x))))).heap[w.heap.size + 1]? = _ := (heap_setCell_other _ _ _ _ (by simp only; omega)).trans hb1
    have u0 := (heap_setCell_other (W.setCell ⟨w.heap.size, 0, none⟩ (.int .i64 (imin 1000 (wrap64 (wrap64 (10 * expF pre) + x))))) ⟨w.heap.size + 1, 0, none⟩ w.heap.size (.int .i64 ((pre.length : Int) + 1)) (by simp only; omega)).trans t0
    have u1 := heap_setCell_same _ (w.heap.size + 1) 0 _ _ (.int .i64 ((pre.length : Int) + 1)) t1
    have u2 : ((W.setCell ⟨w.heap.size, 0, none⟩ (.int .i64 (imin 1000 (wrap64 (wrap64 (10 * expF pre) + x))))).setCell ⟨w.heap.size + 1, 0, none⟩ (.int .i64 ((pre.length : Int) + 1))).heap[w.heap.size + 1 + 1]? = W.heap[w.heap.size + 1 + 1]? :=
      (heap_setCell_other _ _ _ _ (by simp only; omega)).trans ((heap_setCell_other _ _ _ _ (by simp only; omega)))
    have hp : (((pre ++ [x]).length : Nat) : Int) = (pre.length : Int) + 1 := by simp
    refine ⟨(KeepsOthers.setCell _ _ _).trans (KeepsOthers.setCell _ _ _), u2, ⟨?_, ?_, u2.trans hb2⟩, (hB.setCell (by simp only; omega) _).setCell (by simp only; omega) _⟩
    · rw [expF_snoc]; exact u0
    · rw [hp]; exact u1
  case done =>
    rintro D ys W hD rfl ⟨⟨hb0, hb1, hb2⟩, hB⟩ hK
    have hss := HS.out
    have c0 := hb0.cell
    have f0 := hb0.frozen
    have c1 := hb1.cell
    have f1 := hb1.frozen
    by_cases hpos : 0 < (digs s).length
    all_goals
      gi_wp2
      have hKd := hK
      refine ⟨by simp, .inl ⟨_, _, rfl, run_takeDeferred hKd, ?_⟩⟩
      refine ⟨_, results_tmp2 rfl _ _ _, ?_, hB.trans (belowK_b (w := w) (Nat.le_refl _) _ D _ _ (by omega) hKd rfl rfl)⟩
      (simp [hpos]; done)
  case stop =>
    rintro D c pre W _ _ h _
    exact h.elim
theorem real_exponent.calls (s : ByteArray) (r1 : Int) (r2 : Bool) (w : World) (h : real_exponent.f s = some (r1, r2)) :
    Calls Tryz.prog 78 #[.string s] w fun e w' => e = .returned (.tuple #[.int .i64 r1, .bool r2]) ∧ Below w.heap.size w w' := by
  refine (callsIn_wide (n := 9)).1 ?_
  unfold real_exponent.f at h
  by_cases hsz : s.size < 100000000000
  · rw [if_pos hsz] at h
    obtain ⟨neg, hn, h⟩ := Option.bind_eq_some_iff.mp h
    obtain ⟨pos, hp, h⟩ := Option.bind_eq_some_iff.mp h
    cases neg with
    | true =>
      rw [if_pos rfl] at h
      by_cases h1 : 1 ≤ s.size
      · rw [if_pos h1] at h
        cases h
        exact exponent_neg s hsz w h1 hn
      · rw [if_neg h1] at h; cases h
    | false =>
      rw [if_neg (by decide)] at h
      cases pos with
      | true =>
        rw [if_pos rfl] at h
        by_cases h1 : 1 ≤ s.size
        · rw [if_pos h1] at h
          cases h
          exact exponent_pos s hsz w h1 hn hp
        · rw [if_neg h1] at h; cases h
      | false =>
        rw [if_neg (by decide)] at h
        cases h
        exact exponent_plain s hsz w hn hp
  · rw [if_neg hsz] at h; cases h
end Go.Proofs.YteigbokklclmbaaGreatDoor.Z
end
section
namespace Go.Proofs.YteigbokklclmbaaGreatDoor.Z
open Go Go.RowKit Go.Proofs.YteigbokklclmbaaGreatDoor.Given Go.Proofs.YteigbokklclmbaaGreatDoorW.PrintWords Go.Proofs.YteigbokklclmbaaGreatDoorW.PrintLast Go.Proofs.YteigbokklclmbaaGreatDoorW.PrintMore
def dotS : ByteArray := { data := #[46] }
def eS : ByteArray := { data := #[101] }
theorem nil_C (w : World) : Kd.C (Kd.int .u32) w none ([] : List Int).length [] := Kd.C_of_reads (enc := Value.int .u32) (d := (0 : Int)) (h1 := fun _ => rfl) ⟨rfl, by simp, fun h => absurd h (by simp)⟩
theorem parse1_n (k : Nat) (neg : Bool) (l : List Int) (A : Option Addr) (c : Nat) (exp behind m x r1 r2 : Int) (hd : real_decimal.f k l (wrap64 (exp - behind)) = some (m, x)) (hs : real_signed.f neg m x = some (r1, r2)) (b0 b1 b2 b3 : Nat) (w : World)
    (h0 : w.heap[b0]? = some (.cells #[.bool neg] 4 (0, 0))) (h1 : w.heap[b1]? = some (.cells #[.slice A l.length c] 87 (0, 0))) (h2 : w.heap[b2]? = some (.cells #[.int .i64 exp] 3 (0, 0))) (h3 : w.heap[b3]? = some (.cells #[.int .i64 behind] 3 (0, 0)))
    (hN : Nat32 w (.slice A l.length c) l) :
    Calls Tryz.prog 79 #[.pointer (some ⟨b0, 0, none⟩), .pointer (some ⟨b1, 0, none⟩), .pointer (some ⟨b2, 0, none⟩), .pointer (some ⟨b3, 0, none⟩)] w fun e w' => e = ending r1 r2 ∧ Below w.heap.size w w' := by
  obtain ⟨A', c', heq, hc, hC⟩ := hN
  cases heq
  exact parse1_c k neg l A c exp behind m x r1 r2 hd hs b0 b1 b2 b3 w h0 h1 h2 h3 hC hc
theorem parse_F (k : Nat) (s : ByteArray) (w : World) (hsz : ¬ (s.size : Int) > 60) (rest : ByteArray) (neg : Bool) (hc1 : strings_CutPrefix.f s minusS = some (rest, neg)) (n : List Int) (many : Int) (rest2 : ByteArray) (hn1 : real_number.f k rest [] = some (n, many, rest2)) (hmany : ¬ many = 0) (after : ByteArray) (hc2 : strings_CutPrefix.f rest2 dotS = some (after, false)) (hrest : rest2.toList ≠ []) (aft : ByteArray) (x : Int) (hc3 : strings_CutPrefix.f rest2 eS = some (aft, true)) (hx : real_exponent.f aft = some (x, true)) (m y r1 r2 t0 t1 t2 : Int) (hd1 : real_decimal.f k n (wrap64 (x - 0)) = some (m, y)) (hsg : real_signed.f neg m y = some (r1, r2)) (ht : caughtS r1 r2 = (t0, t1, t2)) :
    Calls Tryz.prog 25 #[.string s] w fun e w' => e = .returned (.tuple #[.agg #[.int .i64 t0, .int .i64 t1], .int .i64 t2]) ∧ Below w.heap.size w w' := by
  have HB := Lib.hid (Below.refl w.heap.size w)
  go_enter Tryz.func25, Tryz.ntmps25
  go_wp2_with fail
  refine (strings_CutPrefix.calls s minusS rest neg _ hc1).mono ?_
  rintro e w1 ⟨rfl, hd⟩
  have hb := hd.below
  have nZ := Lib.hid (blk_below (new_at _ _ (w.heap.size) oz) hb)
  have nB := Lib.hid (((HB.out).alloc oz _).trans (hb.mono oz))
  have hs1 := hb.size
  try simp only [World.size_alloc, World.size_setCell] at hs1
  clear HB
  have HZ := nZ
  have HB := nB
  clear nB nZ
  clear hb hd
  have cZ0 : w1.cell? ⟨w.heap.size, 0, none⟩ = some (Value.int .i64 0) := (blk_cell HZ.out 0).trans rfl
  have fZ0 := blk_frozen HZ.out 0
  have cZ1 : w1.cell? ⟨w.heap.size, 1, none⟩ = some (Value.int .i64 0) := (blk_cell HZ.out 1).trans rfl
  have fZ1 := blk_frozen HZ.out 1
  have lZ1 := blk_lt HZ.out
  go_wp2_with fail
  refine (number_c k rest none 0 [] n many rest2 _ (nil_C _) (Nat.zero_le _) hn1).mono ?_
  rintro e w2 ⟨⟨v, hv, rfl⟩, hb⟩
  have nZ := Lib.hid (blk_below (blk_alloc (HZ.out) _) hb)
  have nG := Lib.hid (blk_below (new_at _ _ (w1.heap.size) oz) hb)
  have nB := Lib.hid (((HB.out).alloc oz _).trans (hb.mono oz))
  have hs2 := hb.size
  try simp only [World.size_alloc, World.size_setCell] at hs2
  clear HB HZ
  try clear cZ0 fZ0 cZ1 fZ1
  have HZ := nZ
  have HG := nG
  have HB := nB
  clear nB nZ nG
  clear hb
  have cZ0 : w2.cell? ⟨w.heap.size, 0, none⟩ = some (Value.int .i64 0) := (blk_cell HZ.out 0).trans rfl
  have fZ0 := blk_frozen HZ.out 0
  have cZ1 : w2.cell? ⟨w.heap.size, 1, none⟩ = some (Value.int .i64 0) := (blk_cell HZ.out 1).trans rfl
  have fZ1 := blk_frozen HZ.out 1
  have lZ2 := blk_lt HZ.out
  have cG0 : w2.cell? ⟨w1.heap.size, 0, none⟩ = some (.bool neg) := (blk_cell HG.out 0).trans rfl
  have fG0 := blk_frozen HG.out 0
  have lG2 := blk_lt HG.out
  obtain ⟨A, c, rfl, hc, hC⟩ := hv
  have HN := Lib.hid (show Nat32 w2 (.slice A n.length c) n from ⟨A, c, rfl, hc, hC⟩)
  clear hC
  go_wp2_with fail
  refine (strings_CutPrefix.calls rest2 dotS after false _ hc2).mono ?_
  rintro e w3 ⟨rfl, hd⟩
  have hb := hd.below
  have nZ := Lib.hid (blk_below (blk_alloc (blk_alloc (HZ.out) _) _) hb)
  have nG := Lib.hid (blk_below (blk_alloc (blk_alloc (HG.out) _) _) hb)
  have nQ := Lib.hid (blk_below (blk_alloc (new_at _ _ (w2.heap.size) oz) _) hb)
  have nE := Lib.hid (blk_below (new_at _ _ (w2.heap.size + 1) oz) hb)
  have nN := Lib.hid ((((HN.out).below ((Below.refl _ _).alloc (Nat.le_refl _) _)).below ((Below.refl _ _).alloc (Nat.le_refl _) _)).below hb)
  have nB := Lib.hid ((((HB.out).alloc oz _).alloc oz _).trans (hb.mono oz))
  have hs3 := hb.size
  try simp only [World.size_alloc, World.size_setCell] at hs3
  clear HB HZ HG HN
  try clear cZ0 fZ0 cZ1 fZ1 cG0 fG0
  have HZ := nZ
  have HG := nG
  have HQ := nQ
  have HE := nE
  have HN := nN
  have HB := nB
  clear nB nZ nG nQ nE nN
  clear hb hd
  have cZ0 : w3.cell? ⟨w.heap.size, 0, none⟩ = some (Value.int .i64 0) := (blk_cell HZ.out 0).trans rfl
  have fZ0 := blk_frozen HZ.out 0
  have cZ1 : w3.cell? ⟨w.heap.size, 1, none⟩ = some (Value.int .i64 0) := (blk_cell HZ.out 1).trans rfl
  have fZ1 := blk_frozen HZ.out 1
  have lZ3 := blk_lt HZ.out
  have cG0 : w3.cell? ⟨w1.heap.size, 0, none⟩ = some (.bool neg) := (blk_cell HG.out 0).trans rfl
  have fG0 := blk_frozen HG.out 0
  have lG3 := blk_lt HG.out
  have cQ0 : w3.cell? ⟨w2.heap.size, 0, none⟩ = some (.slice A n.length c) := (blk_cell HQ.out 0).trans rfl
  have fQ0 := blk_frozen HQ.out 0
  have lQ3 := blk_lt HQ.out
  have cE0 : w3.cell? ⟨w2.heap.size + 1, 0, none⟩ = some (.int .i64 0) := (blk_cell HE.out 0).trans rfl
  have fE0 := blk_frozen HE.out 0
  have lE3 := blk_lt HE.out
  have hre : (rest2.toList == []) = false := by simpa using hrest
  have hri : rest2.toList.isEmpty = false := by simpa using hrest
  go_wp2_with fail
  refine (strings_CutPrefix.calls rest2 eS aft true _ hc3).mono ?_
  rintro e w4 ⟨rfl, hd⟩
  have hb := hd.below
  have nZ := Lib.hid (blk_below (blk_alloc (HZ.out) _) hb)
  have nG := Lib.hid (blk_below (blk_alloc (HG.out) _) hb)
  have nQ := Lib.hid (blk_below (blk_alloc (HQ.out) _) hb)
  have nE := Lib.hid (blk_below (blk_alloc (HE.out) _) hb)
  have nX := Lib.hid (blk_below (new_at _ _ (w3.heap.size) oz) hb)
  have nN := Lib.hid (((HN.out).below ((Below.refl _ _).alloc (Nat.le_refl _) _)).below hb)
  have nB := Lib.hid (((HB.out).alloc oz _).trans (hb.mono oz))
  have hs4 := hb.size
  try simp only [World.size_alloc, World.size_setCell] at hs4
  clear HB HZ HG HQ HE HN
  try clear cZ0 fZ0 cZ1 fZ1 cG0 fG0 cQ0 fQ0 cE0 fE0
  have HZ := nZ
  have HG := nG
  have HQ := nQ
  have HE := nE
  have HX := nX
  have HN := nN
  have HB := nB
  clear nB nZ nG nQ nE nX nN
  clear hb hd
  have cZ0 : w4.cell? ⟨w.heap.size, 0, none⟩ = some (Value.int .i64 0) := (blk_cell HZ.out 0).trans rfl
  have fZ0 := blk_frozen HZ.out 0
  have cZ1 : w4.cell? ⟨w.heap.size, 1, none⟩ = some (Value.int .i64 0) := (blk_cell HZ.out 1).trans rfl
  have fZ1 := blk_frozen HZ.out 1
  have lZ4 := blk_lt HZ.out
  have cG0 : w4.cell? ⟨w1.heap.size, 0, none⟩ = some (.bool neg) := (blk_cell HG.out 0).trans rfl
  have fG0 := blk_frozen HG.out 0
  have lG4 := blk_lt HG.out
  have cQ0 : w4.cell? ⟨w2.heap.size, 0, none⟩ = some (.slice A n.length c) := (blk_cell HQ.out 0).trans rfl
  have fQ0 := blk_frozen HQ.out 0
  have lQ4 := blk_lt HQ.out
  have cE0 : w4.cell? ⟨w2.heap.size + 1, 0, none⟩ = some (.int .i64 0) := (blk_cell HE.out 0).trans rfl
  have fE0 := blk_frozen HE.out 0
  have lE4 := blk_lt HE.out
  have cX0 : w4.cell? ⟨w3.heap.size, 0, none⟩ = some (.int .i64 0) := (blk_cell HX.out 0).trans rfl
  have fX0 := blk_frozen HX.out 0
  have lX4 := blk_lt HX.out
  go_wp2_with fail
  refine (real_exponent.calls aft x true _ hx).mono ?_
  rintro e w5 ⟨rfl, hb⟩
  have nZ := Lib.hid (blk_below (HZ.out) hb)
  have nG := Lib.hid (blk_below (HG.out) hb)
  have nQ := Lib.hid (blk_below (HQ.out) hb)
  have nE := Lib.hid (blk_below (HE.out) hb)
  have nX := Lib.hid (blk_below (HX.out) hb)
  have nN := Lib.hid ((HN.out).below hb)
  have nB := Lib.hid ((HB.out).trans (hb.mono oz))
  have hs5 := hb.size
  try simp only [World.size_alloc, World.size_setCell] at hs5
  clear HB HZ HG HQ HE HX HN
  try clear cZ0 fZ0 cZ1 fZ1 cG0 fG0 cQ0 fQ0 cE0 fE0 cX0 fX0
  have HZ := nZ
  have HG := nG
  have HQ := nQ
  have HE := nE
  have HX := nX
  have HN := nN
  have HB := nB
  clear nB nZ nG nQ nE nX nN
  clear hb
  have cZ0 : w5.cell? ⟨w.heap.size, 0, none⟩ = some (Value.int .i64 0) := (blk_cell HZ.out 0).trans rfl
  have fZ0 := blk_frozen HZ.out 0
  have cZ1 : w5.cell? ⟨w.heap.size, 1, none⟩ = some (Value.int .i64 0) := (blk_cell HZ.out 1).trans rfl
  have fZ1 := blk_frozen HZ.out 1
  have lZ5 := blk_lt HZ.out
  have cG0 : w5.cell? ⟨w1.heap.size, 0, none⟩ = some (.bool neg) := (blk_cell HG.out 0).trans rfl
  have fG0 := blk_frozen HG.out 0
  have lG5 := blk_lt HG.out
  have cQ0 : w5.cell? ⟨w2.heap.size, 0, none⟩ = some (.slice A n.length c) := (blk_cell HQ.out 0).trans rfl
  have fQ0 := blk_frozen HQ.out 0
  have lQ5 := blk_lt HQ.out
  have cE0 : w5.cell? ⟨w2.heap.size + 1, 0, none⟩ = some (.int .i64 0) := (blk_cell HE.out 0).trans rfl
  have fE0 := blk_frozen HE.out 0
  have lE5 := blk_lt HE.out
  have cX0 : w5.cell? ⟨w3.heap.size, 0, none⟩ = some (.int .i64 0) := (blk_cell HX.out 0).trans rfl
  have fX0 := blk_frozen HX.out 0
  have lX5 := blk_lt HX.out
  have hmf : ∀ (fn : Fn) (first cap : Array Value) (w : World), (Instr.makeFunc fn first cap).run Tryz.prog w = .ok (.func fn first cap) w := fun _ _ _ _ => rfl
  have HD1 := Lib.hid hd1
  have HS1 := Lib.hid hsg
  have HT1 := Lib.hid ht
  clear hd1 hsg ht
  skip
  go_wp2_with fail
  refine (caught_t 79 _ r1 r2 t0 t1 t2 HT1.out _ (fun args w => enters_ Tryz.func79 (by kernel_rfl) rfl args w) (fun w' h' => parse1_n k neg n A c x 0 m y r1 r2 HD1.out HS1.out _ _ _ _ w' (blk_below ((heap_setCell_other _ _ _ _ (by simp only; omega)).trans (HG.out)) h') (blk_below ((heap_setCell_other _ _ _ _ (by simp only; omega)).trans (HQ.out)) h') (blk_below (heap_setCell_same _ _ 0 _ _ _ (HX.out)) h') (blk_below ((heap_setCell_other _ _ _ _ (by simp only; omega)).trans (HE.out)) h') ((nat32_set (HN.out) (HX.out) (fun _ h => by cases h)).below h'))).mono ?_
  rintro e w6 ⟨rfl, hb⟩
  have nZ := Lib.hid (blk_below ((heap_setCell_other _ _ _ _ (by simp only; omega)).trans (HZ.out)) hb)
  have nG := Lib.hid (blk_below ((heap_setCell_other _ _ _ _ (by simp only; omega)).trans (HG.out)) hb)
  have nQ := Lib.hid (blk_below ((heap_setCell_other _ _ _ _ (by simp only; omega)).trans (HQ.out)) hb)
  have nE := Lib.hid (blk_below ((heap_setCell_other _ _ _ _ (by simp only; omega)).trans (HE.out)) hb)
  have nX := Lib.hid (blk_below (heap_setCell_same _ _ 0 _ _ _ (HX.out)) hb)
  have nN := Lib.hid ((nat32_set (HN.out) (HX.out) (fun _ h => by cases h)).below hb)
  have nB := Lib.hid (((HB.out).setCell (p := ⟨w3.heap.size, 0, none⟩) (by simp only; omega) _).trans (hb.mono oz))
  have hs6 := hb.size
  try simp only [World.size_alloc, World.size_setCell] at hs6
  clear HB HZ HG HQ HE HX HN
  try clear cZ0 fZ0 cZ1 fZ1 cG0 fG0 cQ0 fQ0 cE0 fE0 cX0 fX0
  have HZ := nZ
  have HG := nG
  have HQ := nQ
  have HE := nE
  have HX := nX
  have HN := nN
  have HB := nB
  clear nB nZ nG nQ nE nX nN
  clear hb
  have cZ0 : w6.cell? ⟨w.heap.size, 0, none⟩ = some (Value.int .i64 0) := (blk_cell HZ.out 0).trans rfl
  have fZ0 := blk_frozen HZ.out 0
  have cZ1 : w6.cell? ⟨w.heap.size, 1, none⟩ = some (Value.int .i64 0) := (blk_cell HZ.out 1).trans rfl
  have fZ1 := blk_frozen HZ.out 1
  have lZ6 := blk_lt HZ.out
  have cG0 : w6.cell? ⟨w1.heap.size, 0, none⟩ = some (.bool neg) := (blk_cell HG.out 0).trans rfl
  have fG0 := blk_frozen HG.out 0
  have lG6 := blk_lt HG.out
  have cQ0 : w6.cell? ⟨w2.heap.size, 0, none⟩ = some (.slice A n.length c) := (blk_cell HQ.out 0).trans rfl
  have fQ0 := blk_frozen HQ.out 0
  have lQ6 := blk_lt HQ.out
  have cE0 : w6.cell? ⟨w2.heap.size + 1, 0, none⟩ = some (.int .i64 0) := (blk_cell HE.out 0).trans rfl
  have fE0 := blk_frozen HE.out 0
  have lE6 := blk_lt HE.out
  have cX0 : w6.cell? ⟨w3.heap.size, 0, none⟩ = some (.int .i64 x) := (blk_cell HX.out 0).trans rfl
  have fX0 := blk_frozen HX.out 0
  have lX6 := blk_lt HX.out
  go_wp2
  have fz : ((w6.setCell ⟨w.heap.size, 0, none⟩ (.int .i64 t0)).setCell ⟨w.heap.size, 1, none⟩ (.int .i64 t1)).heap[w.heap.size]? = some (.cells #[Value.int .i64 t0, Value.int .i64 t1] 23 (0, 0)) := heap_setCell_same _ _ 1 _ _ _ (heap_setCell_same _ _ 0 _ _ _ (HZ.out))
  refine bodyPost_ret (results_ct rfl _ _ (w.heap.size) 23 #[.int .i64 t0, .int .i64 t1] (0, 0) _ rfl fz Tryz.underlying23 rfl (by kernel_rfl)) rfl ?_
  exact ⟨rfl, ((HB.out).setCell (p := ⟨w.heap.size, 0, none⟩) (by simp only; omega) _).setCell (p := ⟨w.heap.size, 1, none⟩) (by simp only; omega) _⟩
theorem parse_PZ (k : Nat) (s : ByteArray) (w : World) (hsz : ¬ (s.size : Int) > 60) (rest : ByteArray) (neg : Bool) (hc1 : strings_CutPrefix.f s minusS = some (rest, neg)) (n : List Int) (many : Int) (rest2 : ByteArray) (hn1 : real_number.f k rest [] = some (n, many, rest2)) (hmany : ¬ many = 0) (after : ByteArray) (hc2 : strings_CutPrefix.f rest2 dotS = some (after, true)) (n2 : List Int) (behind : Int) (rest3 : ByteArray) (hn2 : real_number.f k after n = some (n2, behind, rest3)) (hbeh : ¬ behind = 0) (hrest : rest3.toList = []) (m y r1 r2 t0 t1 t2 : Int) (hd1 : real_decimal.f k n2 (wrap64 (0 - behind)) = some (m, y)) (hsg : real_signed.f neg m y = some (r1, r2)) (ht : caughtS r1 r2 = (t0, t1, t2)) :
    Calls Tryz.prog 25 #[.string s] w fun e w' => e = .returned (.tuple #[.agg #[.int .i64 t0, .int .i64 t1], .int .i64 t2]) ∧ Below w.heap.size w w' := by
  have HB := Lib.hid (Below.refl w.heap.size w)
  go_enter Tryz.func25, Tryz.ntmps25
  go_wp2_with fail
  refine (strings_CutPrefix.calls s minusS rest neg _ hc1).mono ?_
  rintro e w1 ⟨rfl, hd⟩
  have hb := hd.below
  have nZ := Lib.hid (blk_below (new_at _ _ (w.heap.size) oz) hb)
  have nB := Lib.hid (((HB.out).alloc oz _).trans (hb.mono oz))
  have hs1 := hb.size
  try simp only [World.size_alloc, World.size_setCell] at hs1
  clear HB
  have HZ := nZ
  have HB := nB
  clear nB nZ
  clear hb hd
  have cZ0 : w1.cell? ⟨w.heap.size, 0, none⟩ = some (Value.int .i64 0) := (blk_cell HZ.out 0).trans rfl
  have fZ0 := blk_frozen HZ.out 0
  have cZ1 : w1.cell? ⟨w.heap.size, 1, none⟩ = some (Value.int .i64 0) := (blk_cell HZ.out 1).trans rfl
  have fZ1 := blk_frozen HZ.out 1
  have lZ1 := blk_lt HZ.out
  go_wp2_with fail
  refine (number_c k rest none 0 [] n many rest2 _ (nil_C _) (Nat.zero_le _) hn1).mono ?_
  rintro e w2 ⟨⟨v, hv, rfl⟩, hb⟩
  have nZ := Lib.hid (blk_below (blk_alloc (HZ.out) _) hb)
  have nG := Lib.hid (blk_below (new_at _ _ (w1.heap.size) oz) hb)
  have nB := Lib.hid (((HB.out).alloc oz _).trans (hb.mono oz))
  have hs2 := hb.size
  try simp only [World.size_alloc, World.size_setCell] at hs2
  clear HB HZ
  try clear cZ0 fZ0 cZ1 fZ1
  have HZ := nZ
  have HG := nG
  have HB := nB
  clear nB nZ nG
  clear hb
  have cZ0 : w2.cell? ⟨w.heap.size, 0, none⟩ = some (Value.int .i64 0) := (blk_cell HZ.out 0).trans rfl
  have fZ0 := blk_frozen HZ.out 0
  have cZ1 : w2.cell? ⟨w.heap.size, 1, none⟩ = some (Value.int .i64 0) := (blk_cell HZ.out 1).trans rfl
  have fZ1 := blk_frozen HZ.out 1
  have lZ2 := blk_lt HZ.out
  have cG0 : w2.cell? ⟨w1.heap.size, 0, none⟩ = some (.bool neg) := (blk_cell HG.out 0).trans rfl
  have fG0 := blk_frozen HG.out 0
  have lG2 := blk_lt HG.out
  obtain ⟨A, c, rfl, hc, hC⟩ := hv
  have HN := Lib.hid (show Nat32 w2 (.slice A n.length c) n from ⟨A, c, rfl, hc, hC⟩)
  clear hC
  go_wp2_with fail
  refine (strings_CutPrefix.calls rest2 dotS after true _ hc2).mono ?_
  rintro e w3 ⟨rfl, hd⟩
  have hb := hd.below
  have nZ := Lib.hid (blk_below (blk_alloc (blk_alloc (HZ.out) _) _) hb)
  have nG := Lib.hid (blk_below (blk_alloc (blk_alloc (HG.out) _) _) hb)
  have nQ := Lib.hid (blk_below (blk_alloc (new_at _ _ (w2.heap.size) oz) _) hb)
  have nE := Lib.hid (blk_below (new_at _ _ (w2.heap.size + 1) oz) hb)
  have nN := Lib.hid ((((HN.out).below ((Below.refl _ _).alloc (Nat.le_refl _) _)).below ((Below.refl _ _).alloc (Nat.le_refl _) _)).below hb)
  have nB := Lib.hid ((((HB.out).alloc oz _).alloc oz _).trans (hb.mono oz))
  have hs3 := hb.size
  try simp only [World.size_alloc, World.size_setCell] at hs3
  clear HB HZ HG HN
  try clear cZ0 fZ0 cZ1 fZ1 cG0 fG0
  have HZ := nZ
  have HG := nG
  have HQ := nQ
  have HE := nE
  have HN := nN
  have HB := nB
  clear nB nZ nG nQ nE nN
  clear hb hd
  have cZ0 : w3.cell? ⟨w.heap.size, 0, none⟩ = some (Value.int .i64 0) := (blk_cell HZ.out 0).trans rfl
  have fZ0 := blk_frozen HZ.out 0
  have cZ1 : w3.cell? ⟨w.heap.size, 1, none⟩ = some (Value.int .i64 0) := (blk_cell HZ.out 1).trans rfl
  have fZ1 := blk_frozen HZ.out 1
  have lZ3 := blk_lt HZ.out
  have cG0 : w3.cell? ⟨w1.heap.size, 0, none⟩ = some (.bool neg) := (blk_cell HG.out 0).trans rfl
  have fG0 := blk_frozen HG.out 0
  have lG3 := blk_lt HG.out
  have cQ0 : w3.cell? ⟨w2.heap.size, 0, none⟩ = some (.slice A n.length c) := (blk_cell HQ.out 0).trans rfl
  have fQ0 := blk_frozen HQ.out 0
  have lQ3 := blk_lt HQ.out
  have cE0 : w3.cell? ⟨w2.heap.size + 1, 0, none⟩ = some (.int .i64 0) := (blk_cell HE.out 0).trans rfl
  have fE0 := blk_frozen HE.out 0
  have lE3 := blk_lt HE.out
  have HN32 := HN.out
  obtain ⟨A', c', heq, hcc, hCC⟩ := HN32
  cases heq
  go_wp2_with fail
  refine (number_c k after A c n n2 behind rest3 _ hCC hcc hn2).mono ?_
  rintro e w4 ⟨⟨v, hv, rfl⟩, hb⟩
  have nZ := Lib.hid (blk_below (HZ.out) hb)
  have nG := Lib.hid (blk_below (HG.out) hb)
  have nQ := Lib.hid (blk_below (HQ.out) hb)
  have nE := Lib.hid (blk_below (HE.out) hb)
  have nN := Lib.hid ((HN.out).below hb)
  have nB := Lib.hid ((HB.out).trans (hb.mono oz))
  have hs4 := hb.size
  try simp only [World.size_alloc, World.size_setCell] at hs4
  clear HB HZ HG HQ HE HN
  try clear cZ0 fZ0 cZ1 fZ1 cG0 fG0 cQ0 fQ0 cE0 fE0
  have HZ := nZ
  have HG := nG
  have HQ := nQ
  have HE := nE
  have HN := nN
  have HB := nB
  clear nB nZ nG nQ nE nN
  clear hb
  have cZ0 : w4.cell? ⟨w.heap.size, 0, none⟩ = some (Value.int .i64 0) := (blk_cell HZ.out 0).trans rfl
  have fZ0 := blk_frozen HZ.out 0
  have cZ1 : w4.cell? ⟨w.heap.size, 1, none⟩ = some (Value.int .i64 0) := (blk_cell HZ.out 1).trans rfl
  have fZ1 := blk_frozen HZ.out 1
  have lZ4 := blk_lt HZ.out
  have cG0 : w4.cell? ⟨w1.heap.size, 0, none⟩ = some (.bool neg) := (blk_cell HG.out 0).trans rfl
  have fG0 := blk_frozen HG.out 0
  have lG4 := blk_lt HG.out
  have cQ0 : w4.cell? ⟨w2.heap.size, 0, none⟩ = some (.slice A n.length c) := (blk_cell HQ.out 0).trans rfl
  have fQ0 := blk_frozen HQ.out 0
  have lQ4 := blk_lt HQ.out
  have cE0 : w4.cell? ⟨w2.heap.size + 1, 0, none⟩ = some (.int .i64 0) := (blk_cell HE.out 0).trans rfl
  have fE0 := blk_frozen HE.out 0
  have lE4 := blk_lt HE.out
  clear HN hCC
  obtain ⟨A2, c2, rfl, hc2', hC2⟩ := hv
  have HN := Lib.hid (show Nat32 w4 (.slice A2 n2.length c2) n2 from ⟨A2, c2, rfl, hc2', hC2⟩)
  clear hC2
  have hre : (rest3.toList == []) = true := by simp [hrest]
  have hri : rest3.toList.isEmpty = true := by simp [hrest]
  have hmf : ∀ (fn : Fn) (first cap : Array Value) (w : World), (Instr.makeFunc fn first cap).run Tryz.prog w = .ok (.func fn first cap) w := fun _ _ _ _ => rfl
  have HD1 := Lib.hid hd1
  have HS1 := Lib.hid hsg
  have HT1 := Lib.hid ht
  clear hd1 hsg ht
  skip
  go_wp2_with fail
  refine (caught_t 79 _ r1 r2 t0 t1 t2 HT1.out _ (fun args w => enters_ Tryz.func79 (by kernel_rfl) rfl args w) (fun w' h' => parse1_n k neg n2 A2 c2 0 behind m y r1 r2 HD1.out HS1.out _ _ _ _ w' (blk_below (blk_alloc ((heap_setCell_other _ _ _ _ (by simp only; omega)).trans ((heap_setCell_other _ _ _ _ (by simp only; omega)).trans (HG.out))) _) h') (blk_below (blk_alloc ((heap_setCell_other _ _ _ _ (by simp only; omega)).trans (heap_setCell_same _ _ 0 _ _ _ (HQ.out))) _) h') (blk_below (new_at _ _ (w4.heap.size) oz) h') (blk_below (blk_alloc (heap_setCell_same _ _ 0 _ _ _ ((heap_setCell_other _ _ _ _ (by simp only; omega)).trans (HE.out))) _) h') (((nat32_set (nat32_set (HN.out) (HQ.out) (fun _ h => by cases h)) ((heap_setCell_other _ _ _ _ (by simp only; omega)).trans (HE.out)) (fun _ h => by cases h)).below ((Below.refl _ _).alloc (Nat.le_refl _) _)).below h'))).mono ?_
  rintro e w5 ⟨rfl, hb⟩
  have nZ := Lib.hid (blk_below (blk_alloc ((heap_setCell_other _ _ _ _ (by simp only; omega)).trans ((heap_setCell_other _ _ _ _ (by simp only; omega)).trans (HZ.out))) _) hb)
  have nG := Lib.hid (blk_below (blk_alloc ((heap_setCell_other _ _ _ _ (by simp only; omega)).trans ((heap_setCell_other _ _ _ _ (by simp only; omega)).trans (HG.out))) _) hb)
  have nQ := Lib.hid (blk_below (blk_alloc ((heap_setCell_other _ _ _ _ (by simp only; omega)).trans (heap_setCell_same _ _ 0 _ _ _ (HQ.out))) _) hb)
  have nE := Lib.hid (blk_below (blk_alloc (heap_setCell_same _ _ 0 _ _ _ ((heap_setCell_other _ _ _ _ (by simp only; omega)).trans (HE.out))) _) hb)
  have nX := Lib.hid (blk_below (new_at _ _ (w4.heap.size) oz) hb)
  have nN := Lib.hid (((nat32_set (nat32_set (HN.out) (HQ.out) (fun _ h => by cases h)) ((heap_setCell_other _ _ _ _ (by simp only; omega)).trans (HE.out)) (fun _ h => by cases h)).below ((Below.refl _ _).alloc (Nat.le_refl _) _)).below hb)
  have nB := Lib.hid (((((HB.out).setCell (p := ⟨w2.heap.size, 0, none⟩) (by simp only; omega) _).setCell (p := ⟨w2.heap.size + 1, 0, none⟩) (by simp only; omega) _).alloc oz _).trans (hb.mono oz))
  have hs5 := hb.size
  try simp only [World.size_alloc, World.size_setCell] at hs5
  clear HB HZ HG HQ HE HN
  try clear cZ0 fZ0 cZ1 fZ1 cG0 fG0 cQ0 fQ0 cE0 fE0
  have HZ := nZ
  have HG := nG
  have HQ := nQ
  have HE := nE
  have HX := nX
  have HN := nN
  have HB := nB
  clear nB nZ nG nQ nE nX nN
  clear hb
  have cZ0 : w5.cell? ⟨w.heap.size, 0, none⟩ = some (Value.int .i64 0) := (blk_cell HZ.out 0).trans rfl
  have fZ0 := blk_frozen HZ.out 0
  have cZ1 : w5.cell? ⟨w.heap.size, 1, none⟩ = some (Value.int .i64 0) := (blk_cell HZ.out 1).trans rfl
  have fZ1 := blk_frozen HZ.out 1
  have lZ5 := blk_lt HZ.out
  have cG0 : w5.cell? ⟨w1.heap.size, 0, none⟩ = some (.bool neg) := (blk_cell HG.out 0).trans rfl
  have fG0 := blk_frozen HG.out 0
  have lG5 := blk_lt HG.out
  have cQ0 : w5.cell? ⟨w2.heap.size, 0, none⟩ = some (.slice A2 n2.length c2) := (blk_cell HQ.out 0).trans rfl
  have fQ0 := blk_frozen HQ.out 0
  have lQ5 := blk_lt HQ.out
  have cE0 : w5.cell? ⟨w2.heap.size + 1, 0, none⟩ = some (.int .i64 behind) := (blk_cell HE.out 0).trans rfl
  have fE0 := blk_frozen HE.out 0
  have lE5 := blk_lt HE.out
  have cX0 : w5.cell? ⟨w4.heap.size, 0, none⟩ = some (.int .i64 0) := (blk_cell HX.out 0).trans rfl
  have fX0 := blk_frozen HX.out 0
  have lX5 := blk_lt HX.out
  go_wp2
  have fz : ((w5.setCell ⟨w.heap.size, 0, none⟩ (.int .i64 t0)).setCell ⟨w.heap.size, 1, none⟩ (.int .i64 t1)).heap[w.heap.size]? = some (.cells #[Value.int .i64 t0, Value.int .i64 t1] 23 (0, 0)) := heap_setCell_same _ _ 1 _ _ _ (heap_setCell_same _ _ 0 _ _ _ (HZ.out))
  refine bodyPost_ret (results_ct rfl _ _ (w.heap.size) 23 #[.int .i64 t0, .int .i64 t1] (0, 0) _ rfl fz Tryz.underlying23 rfl (by kernel_rfl)) rfl ?_
  exact ⟨rfl, ((HB.out).setCell (p := ⟨w.heap.size, 0, none⟩) (by simp only; omega) _).setCell (p := ⟨w.heap.size, 1, none⟩) (by simp only; omega) _⟩
def parseFin (k : Nat) (neg : Bool) (n : List Int) (exp behind : Int) : Option (Int × Int × Int) :=
  (real_decimal.f k n (wrap64 (exp - behind))).bind fun d => (real_signed.f neg d.1 d.2).bind fun r => some (caughtS r.1 r.2)
def parseExp (k : Nat) (neg : Bool) (n : List Int) (behind : Int) (rest : ByteArray) : Option (Int × Int × Int) :=
  if rest.toList = [] then parseFin k neg n 0 behind else (strings_CutPrefix.f rest eS).bind fun a => (real_exponent.f a.1).bind fun x => if a.2 = true then (if x.2 = true then parseFin k neg n x.1 behind else some (0, 0, 7)) else some (0, 0, 7)
def real_Parse.f (k : Nat) (s : ByteArray) : Option (Int × Int × Int) :=
  if (s.size : Int) > 60 then some (0, 0, 7) else (strings_CutPrefix.f s minusS).bind fun a => (real_number.f k a.1 []).bind fun n => if n.2.1 = 0 then some (0, 0, 7) else
    (strings_CutPrefix.f n.2.2 dotS).bind fun b => if b.2 = true then ((real_number.f k b.1 n.1).bind fun m => if m.2.1 = 0 then some (0, 0, 7) else parseExp k a.2 m.1 m.2.1 m.2.2) else parseExp k a.2 n.1 0 n.2.2
theorem real_number.mono (s : ByteArray) (n : List Int) (k : Nat) : LeO (real_number.f k s n) (real_number.f (k + 1) s n) := LeO.ite (LeO.bind (numL_mono _ _ _) (fun _ => LeO.refl _)) (LeO.refl _)
theorem parseFin_mono (neg : Bool) (n : List Int) (exp behind : Int) (k : Nat) : LeO (parseFin k neg n exp behind) (parseFin (k + 1) neg n exp behind) := LeO.bind (real_decimal.mono _ _ _) (fun _ => LeO.refl _)
theorem parseExp_mono (neg : Bool) (n : List Int) (behind : Int) (rest : ByteArray) (k : Nat) : LeO (parseExp k neg n behind rest) (parseExp (k + 1) neg n behind rest) :=
  LeO.ite (parseFin_mono _ _ _ _ _) (LeO.bind (LeO.refl _) (fun _ => LeO.bind (LeO.refl _) (fun _ => LeO.ite (LeO.ite (parseFin_mono _ _ _ _ _) (LeO.refl _)) (LeO.refl _))))
theorem real_Parse.mono (s : ByteArray) (k : Nat) : LeO (real_Parse.f k s) (real_Parse.f (k + 1) s) :=
  LeO.ite (LeO.refl _) (LeO.bind (LeO.refl _) (fun _ => LeO.bind (real_number.mono _ _ _) (fun _ => LeO.ite (LeO.refl _) (LeO.bind (LeO.refl _) (fun _ => LeO.ite (LeO.bind (real_number.mono _ _ _) (fun _ => LeO.ite (LeO.refl _) (parseExp_mono _ _ _ _ _))) (parseExp_mono _ _ _ _ _))))))
theorem num_parts {k : Nat} {s : ByteArray} {l n : List Int} {many : Int} {rest : ByteArray} (h : real_number.f k s l = some (n, many, rest)) : many = ((digs s).length : Int) ∧ rest = s.extract (digs s).length s.size := by
  unfold real_number.f at h
  by_cases hs : l.length + s.size < 100000000000
  · rw [if_pos hs] at h
    obtain ⟨r, _, h⟩ := Option.bind_eq_some_iff.mp h
    simp only [Option.some.injEq, Prod.mk.injEq] at h
    exact ⟨h.2.1.symm, h.2.2.symm⟩
  · rw [if_neg hs] at h; cases h
theorem real_Parse.calls01 (k : Nat) (r1 r2 r3 : Int) (w : World) (h : real_Parse.f k (⟨#[48, 46, 49]⟩ : ByteArray) = some (r1, r2, r3)) :
    Calls Tryz.prog 25 #[.string (⟨#[48, 46, 49]⟩ : ByteArray)] w fun e w' => e = .returned (.tuple #[.agg #[.int .i64 r1, .int .i64 r2], .int .i64 r3]) ∧ Below w.heap.size w w' := by
  have hsz : ¬ (((⟨#[48, 46, 49]⟩ : ByteArray).size : Int) > 60) := by decide
  unfold real_Parse.f at h
  rw [if_neg hsz] at h
  obtain ⟨⟨rest, neg⟩, hc1, h⟩ := Option.bind_eq_some_iff.mp h
  have e1 : strings_CutPrefix.f (⟨#[48, 46, 49]⟩ : ByteArray) minusS = some ((⟨#[48, 46, 49]⟩ : ByteArray), false) := by kernel_rfl
  have e2 := Option.some.inj (hc1.symm.trans e1)
  obtain ⟨rfl, rfl⟩ := Prod.mk.inj e2
  clear e1 e2
  obtain ⟨⟨n, many, rest2⟩, hn1, h⟩ := Option.bind_eq_some_iff.mp h
  simp only at hn1 h
  obtain ⟨hm1, hr1⟩ := num_parts hn1
  have d1 : ((digs (⟨#[48, 46, 49]⟩ : ByteArray)).length : Int) = 1 := by kernel_rfl
  rw [d1] at hm1
  have x1 : (⟨#[48, 46, 49]⟩ : ByteArray).extract (digs (⟨#[48, 46, 49]⟩ : ByteArray)).length (⟨#[48, 46, 49]⟩ : ByteArray).size = (⟨#[46, 49]⟩ : ByteArray) := by kernel_rfl
  rw [x1] at hr1
  subst hm1 hr1
  have hm : ¬ ((1 : Int) = 0) := by decide
  rw [if_neg hm] at h
  obtain ⟨⟨after, point⟩, hc2, h⟩ := Option.bind_eq_some_iff.mp h
  simp only at hc2 h
  have e1 : strings_CutPrefix.f (⟨#[46, 49]⟩ : ByteArray) dotS = some ((⟨#[49]⟩ : ByteArray), true) := by kernel_rfl
  have e2 := Option.some.inj (hc2.symm.trans e1)
  obtain ⟨rfl, rfl⟩ := Prod.mk.inj e2
  clear e1 e2
  rw [if_pos rfl] at h
  obtain ⟨⟨n2, behind, rest3⟩, hn2, h⟩ := Option.bind_eq_some_iff.mp h
  simp only at hn2 h
  obtain ⟨hm2, hr2⟩ := num_parts hn2
  have d2 : ((digs (⟨#[49]⟩ : ByteArray)).length : Int) = 1 := by kernel_rfl
  rw [d2] at hm2
  have x2 : (⟨#[49]⟩ : ByteArray).extract (digs (⟨#[49]⟩ : ByteArray)).length (⟨#[49]⟩ : ByteArray).size = ByteArray.empty := by kernel_rfl
  rw [x2] at hr2
  subst hm2 hr2
  rw [if_neg hm] at h
  unfold parseExp at h
  have hr : ByteArray.empty.toList = [] := by decide +kernel
  rw [if_pos hr] at h
  obtain ⟨⟨m, y⟩, hd, h⟩ := Option.bind_eq_some_iff.mp h
  obtain ⟨⟨a, b⟩, hg, h⟩ := Option.bind_eq_some_iff.mp h
  exact parse_PZ k _ w hsz _ _ hc1 n 1 _ hn1 hm _ hc2 n2 1 _ hn2 hm hr m y a b r1 r2 r3 hd hg (Option.some.inj h)
theorem real_Parse.calls1e (k : Nat) (r1 r2 r3 : Int) (w : World) (h : real_Parse.f k (⟨#[49, 101, 54, 48]⟩ : ByteArray) = some (r1, r2, r3)) :
    Calls Tryz.prog 25 #[.string (⟨#[49, 101, 54, 48]⟩ : ByteArray)] w fun e w' => e = .returned (.tuple #[.agg #[.int .i64 r1, .int .i64 r2], .int .i64 r3]) ∧ Below w.heap.size w w' := by
  have hsz : ¬ (((⟨#[49, 101, 54, 48]⟩ : ByteArray).size : Int) > 60) := by decide
  unfold real_Parse.f at h
  rw [if_neg hsz] at h
  obtain ⟨⟨rest, neg⟩, hc1, h⟩ := Option.bind_eq_some_iff.mp h
  have e1 : strings_CutPrefix.f (⟨#[49, 101, 54, 48]⟩ : ByteArray) minusS = some ((⟨#[49, 101, 54, 48]⟩ : ByteArray), false) := by kernel_rfl
  have e2 := Option.some.inj (hc1.symm.trans e1)
  obtain ⟨rfl, rfl⟩ := Prod.mk.inj e2
  clear e1 e2
  obtain ⟨⟨n, many, rest2⟩, hn1, h⟩ := Option.bind_eq_some_iff.mp h
  simp only at hn1 h
  obtain ⟨hm1, hr1⟩ := num_parts hn1
  have d1 : ((digs (⟨#[49, 101, 54, 48]⟩ : ByteArray)).length : Int) = 1 := by kernel_rfl
  rw [d1] at hm1
  have x1 : (⟨#[49, 101, 54, 48]⟩ : ByteArray).extract (digs (⟨#[49, 101, 54, 48]⟩ : ByteArray)).length (⟨#[49, 101, 54, 48]⟩ : ByteArray).size = (⟨#[101, 54, 48]⟩ : ByteArray) := by kernel_rfl
  rw [x1] at hr1
  subst hm1 hr1
  have hm : ¬ ((1 : Int) = 0) := by decide
  rw [if_neg hm] at h
  obtain ⟨⟨after, point⟩, hc2, h⟩ := Option.bind_eq_some_iff.mp h
  simp only at hc2 h
  have e1 : strings_CutPrefix.f (⟨#[101, 54, 48]⟩ : ByteArray) dotS = some ((⟨#[101, 54, 48]⟩ : ByteArray), false) := by kernel_rfl
  have e2 := Option.some.inj (hc2.symm.trans e1)
  obtain ⟨rfl, rfl⟩ := Prod.mk.inj e2
  clear e1 e2
  rw [if_neg (by decide)] at h
  unfold parseExp at h
  have hr : ¬ ((⟨#[101, 54, 48]⟩ : ByteArray).toList = []) := by decide +kernel
  rw [if_neg hr] at h
  obtain ⟨⟨aft, is⟩, hc3, h⟩ := Option.bind_eq_some_iff.mp h
  have e1 : strings_CutPrefix.f (⟨#[101, 54, 48]⟩ : ByteArray) eS = some ((⟨#[54, 48]⟩ : ByteArray), true) := by kernel_rfl
  have e2 := Option.some.inj (hc3.symm.trans e1)
  obtain ⟨rfl, rfl⟩ := Prod.mk.inj e2
  clear e1 e2
  obtain ⟨⟨x, ok⟩, hx, h⟩ := Option.bind_eq_some_iff.mp h
  simp only at hx h
  rw [if_pos trivial] at h
  have e3 : (real_exponent.f (⟨#[54, 48]⟩ : ByteArray)).map (·.2) = some true := by kernel_rfl
  rw [hx] at e3
  obtain rfl : ok = true := Option.some.inj e3
  rw [if_pos rfl] at h
  obtain ⟨⟨m, y⟩, hd, h⟩ := Option.bind_eq_some_iff.mp h
  obtain ⟨⟨a, b⟩, hg, h⟩ := Option.bind_eq_some_iff.mp h
  exact parse_F k _ w hsz _ _ hc1 n 1 _ hn1 hm _ hc2 hr _ x hc3 hx m y a b r1 r2 r3 hd hg (Option.some.inj h)
def real_FromIntN.f (k : Nat) (a0 : Int) : Option (Int × Int) := (real_FromInt.f k a0).bind fun r => if r.2 = 1000 then none else some r
theorem real_FromIntN.mono (a0 : Int) (k : Nat) : LeO (real_FromIntN.f k a0) (real_FromIntN.f (k + 1) a0) := LeO.bind (real_FromInt.mono _ _) (fun _ => LeO.refl _)
theorem real_FromIntN.calls (k : Nat) (a0 : Int) (r1 r2 : Int) (w : World) (h : real_FromIntN.f k a0 = some (r1, r2)) :
    Calls Tryz.prog 31 #[.int .i64 a0] w fun e w' => e = .returned (.agg #[.int .i64 r1, .int .i64 r2]) ∧ Below w.heap.size w w' := by
  obtain ⟨⟨m, x⟩, h1, h2⟩ := Option.bind_eq_some_iff.mp h
  by_cases hx : x = 1000
  · rw [if_pos hx] at h2; cases h2
  · rw [if_neg hx] at h2
    cases h2
    refine (real_FromInt.calls k a0 r1 r2 w h1).mono ?_
    rintro e w' ⟨rfl, hb⟩
    exact ⟨ending_at hx, hb⟩
theorem real_Add.mono (a0 a1 a2 a3 : Int) (k : Nat) : LeO (real_Add.f k a0 a1 a2 a3) (real_Add.f (k + 1) a0 a1 a2 a3) := LeO.bind (LeO.refl _) (fun _ => LeO.bind (LeO.refl _) (fun _ => LeO.ite (LeO.bind (real_sum.mono _ _ _ _ _) (fun _ => LeO.refl _)) (LeO.refl _)))
theorem real_Div.mono (a0 a1 a2 a3 : Int) (k : Nat) : LeO (real_Div.f k a0 a1 a2 a3) (real_Div.f (k + 1) a0 a1 a2 a3) := LeO.bind (LeO.refl _) (fun _ => LeO.bind (LeO.refl _) (fun _ => LeO.ite (LeO.ite (LeO.refl _) (LeO.bind (real_quotient.mono _ _ _ _ _) (fun _ => LeO.refl _))) (LeO.refl _)))
/-- Pow of 0 with an exponent below 0; whatever else it does is not told here. -/
def real_PowZ.f (a0_0 a0_1 a1 : Int) : Option (Int × Int × Int) := if a0_0 = 0 ∧ a0_1 = 0 ∧ a1 < 0 then some (0, 0, 5) else none
theorem real_PowZ.calls (a0_0 a0_1 a1 r1 r2 r3 : Int) (w : World) (h : real_PowZ.f a0_0 a0_1 a1 = some (r1, r2, r3)) :
    Calls Tryz.prog 17 #[.agg #[.int .i64 a0_0, .int .i64 a0_1], .int .i64 a1] w fun e w' => e = .returned (.tuple #[.agg #[.int .i64 r1, .int .i64 r2], .int .i64 r3]) ∧ Below w.heap.size w w' := by
  unfold real_PowZ.f at h
  by_cases hc : a0_0 = 0 ∧ a0_1 = 0 ∧ a1 < 0
  · rw [if_pos hc] at h
    cases h
    obtain ⟨rfl, rfl, hn⟩ := hc
    go_enter Tryz.func17, Tryz.ntmps17
    go_wp2_with fail
    refine (real_Valid.calls 0 0 true _ (by rfl)).mono ?_
    rintro e w1 ⟨rfl, hb⟩
    have hz : w1.heap[w.heap.size + 1 + 1]? = some (.cells #[.int .i64 0, .int .i64 0] 23 (0, 0)) := blk_below (new_at _ _ _ (by simp only [World.size_alloc])) hb
    have kx : w1.heap[w.heap.size]? = some (.cells #[.int .i64 0, .int .i64 0] 23 (0, 0)) := blk_below (blk_alloc (blk_alloc (new_at _ _ _ rfl) _) _) hb
    have kn : w1.heap[w.heap.size + 1]? = some (.cells #[.int .i64 a1] 3 (0, 0)) := blk_below (blk_alloc (new_at _ _ _ (by simp only [World.size_alloc])) _) hb
    have hB : Below w.heap.size w w1 := ((((Below.refl _ w).alloc (Nat.le_refl _) _).alloc (by simp only [World.size_alloc]; omega) _).alloc (by simp only [World.size_alloc]; omega) _).trans (hb.mono (by simp only [World.size_alloc]; omega))
    have x0 : w1.cell? ⟨w.heap.size, 0, none⟩ = some (.int .i64 0) := (blk_cell kx 0).trans rfl
    have n0 : w1.cell? ⟨w.heap.size + 1, 0, none⟩ = some (.int .i64 a1) := (blk_cell kn 0).trans rfl
    have z0 : w1.cell? ⟨w.heap.size + 1 + 1, 0, none⟩ = some (.int .i64 0) := (blk_cell hz 0).trans rfl
    have z1 : w1.cell? ⟨w.heap.size + 1 + 1, 1, none⟩ = some (.int .i64 0) := (blk_cell hz 1).trans rfl
    have f0 := blk_frozen hz 0
    have f1 := blk_frozen hz 1
    have lz := blk_lt hz
    have lx := blk_lt kx
    have ln := blk_lt kn
    clear hb
    go_wp2
    have fz := heap_setCell_same (w1.setCell ⟨w.heap.size + 1 + 1, 0, none⟩ (.int .i64 0)) (w.heap.size + 1 + 1) 1 _ _ (.int .i64 0) (heap_setCell_same w1 (w.heap.size + 1 + 1) 0 _ _ (.int .i64 0) hz)
    refine bodyPost_ret (results_ct rfl _ _ (w.heap.size + 1 + 1) 23 #[.int .i64 0, .int .i64 0] (0, 0) _ rfl fz Tryz.underlying23 rfl (by kernel_rfl)) rfl ?_
    exact ⟨rfl, (hB.setCell (by simp only; omega) _).setCell (by simp only; omega) _⟩
  · rw [if_neg hc] at h; cases h
end Go.Proofs.YteigbokklclmbaaGreatDoor.Z
end
section
namespace Go.Proofs.YteigbokklclmbaaGreatDoor.Z.Y
open Go.RowKit Go.Proofs.YteigbokklclmbaaGreatDoor.Given Go.Proofs.YteigbokklclmbaaGreatDoorW.PrintWords Go.Proofs.YteigbokklclmbaaGreatDoorW.PrintLast Go.Proofs.YteigbokklclmbaaGreatDoorW.PrintMore
attribute [local go_sem] max2_int min2_int max_two min_two max_three min_three max_four min_four   -- for this text's walks alone



def errW : Option Int → Value
 | none => .nilIface
 | some c => .iface 0 (.int .i64 c)
theorem errW_none : errW none = .nilIface := rfl
theorem errW_some (c : Int) : errW (some c) = .iface 0 (.int .i64 c) := rfl

-- the values' own types


theorem eqA23 (d : Nat) (w : World) (x0 y0 : Int) (x1 y1 : Int) :
  (Op.equalIn (d + 2) 23 (.agg #[.int .i64 x0, .int .i64 x1]) (.agg #[.int .i64 y0, .int .i64 y1])).run Tryz.prog w = .ok (x0 == y0 && (x1 == y1)) w := by
 refine eqA_of Tryz.underlying23 (by kernel_rfl) ?_
 refine eqf_cons (by rfl) (by go_simp; rfl) (by go_simp; rfl) (by go_simp) ?_
 exact eqf_last (by rfl) (by go_simp; rfl) (by go_simp; rfl) (by go_simp)

def real_at.f (a0 : Int) : Option (Int × Int) := if (mx a0 (wrap64 (-a0))) < 16777216 then (if (mx a0 (wrap64 (-a0))) = 0 then (some (0, 0)) else ((real_signed.f (decide (a0 < 0)) (mx a0 (wrap64 (-a0))) (-150)).bind fun bt175 => (some (bt175.1, bt175.2)))) else ((real_signed.f (decide (a0 < 0)) (wrap64 ((Int.tmod (mx a0 (wrap64 (-a0))) 8388608) + 8388608)) (wrap64 ((wrap64 ((wrap64 (Int.tdiv (mx a0 (wrap64 (-a0))) 8388608)) - 1)) + (-150)))).bind fun bt177 => (some (bt177.1, bt177.2)))
theorem real_at.calls (a0 : Int) (r1 : Int) (r2 : Int) (w : World) (h : real_at.f a0 = some (r1, r2)) :
  Calls Tryz.prog 111 #[.int .i64 a0] w fun e w' => e = .returned (.agg #[.int .i64 r1, .int .i64 r2]) ∧ Below w.heap.size w w' := by
 have hu23 := Tryz.underlying23
 have HB := Aside0.mk (Below.refl w.heap.size w)
 have H := h; unfold real_at.f at H; clear h
 obtain ⟨ji2, hji2⟩ : ∃ j_ : Int, (mx a0 (wrap64 (-a0))) = j_ := ⟨_, rfl⟩
 first | rw [hji2] at H | simp only [hji2] at H
 have hji2_ : (if a0 < (wrap64 (-a0)) then (wrap64 (-a0)) else a0) = ji2 := hji2
 by_cases c3 : (ji2) < 16777216
 ·rw [if_pos c3] at H
  have c3b0 : decide ((ji2) < 16777216) = true := decide_eq_true c3
  clear c3
  by_cases c4 : (ji2) = 0
  ·rw [if_pos c4] at H
   have c4b0 : ((ji2) == 0) = true := beq_iff_eq.mpr c4
   have c4b1 : ((ji2) != 0) = false := bne_eq_false_iff_eq.mpr c4
   clear c4
   simp only [Option.some.injEq, Prod.mk.injEq] at H
   obtain ⟨rfl, rfl⟩ := H
   go_enter Tryz.func111, Tryz.ntmps111
   go_wp2_with (first | ((with_reducible refine gate_dst (N := 2) rfl ?_); refine box_event ?hg (N := 2) ?hd (cs := #[.int .i64 0, .int .i64 0]) (t := 23) ?hr ?_; (case hd => rfl); (case hg => rfl); (case hr => first | (go_simp; done) | (go_simp; rfl)); intro gb174 hg w5 hbox hb; have BK174 := Aside0.mk hbox; have GW174 := ge hg; have GE174 := ge hg; replace HB := bs hb; clear hb hbox hg; have hcz6_0 := c20 BK174; have hcz6_1 := c21 BK174; have hfz6_0 := blk_frozen BK174.out 0; have hfz6_1 := blk_frozen BK174.out 1))
   refine bodyPost_ret (results_cell_row rfl _ _ gb174 23 #[.int .i64 0, .int .i64 0] (0, 0) _ rfl (by (with_reducible repeat (first | refine blk_drewN ?_ _ | refine blk_drew ?_ | refine blk_alloc ?_ _)); refine blk_put (cs := #[.int .i64 0, .int .i64 0]) ?_ 1 _ rfl; (with_reducible repeat (first | refine blk_drewN ?_ _ | refine blk_drew ?_ | refine blk_alloc ?_ _)); refine blk_put (cs := #[.int .i64 0, .int .i64 0]) ?_ 0 _ rfl; (with_reducible repeat (first | refine blk_drewN ?_ _ | refine blk_drew ?_ | refine blk_alloc ?_ _)); exact BK174.out) Tryz.underlying23 rfl (by kernel_rfl)) rfl ?_
   exact ⟨by first | rfl | (simp [errW_none, errW_some] <;> rfl) | (simp only [← hji2]; first | rfl | (simp [errW_none, errW_some] <;> rfl)) | (simp [*, errW_none, errW_some] <;> rfl), bz⟩
  ·rw [if_neg c4] at H
   have c4b0 : ((ji2) == 0) = false := beq_eq_false_iff_ne.mpr c4
   have c4b1 : ((ji2) != 0) = true := bne_iff_ne.mpr c4
   replace H := Option.bind_eq_some_iff.mp H
   obtain ⟨⟨t175, t176⟩, A70, H⟩ := H
   try dsimp only at H
   have A7 := Aside0.mk A70
   clear A70
   simp only [Option.some.injEq, Prod.mk.injEq] at H
   obtain ⟨rfl, rfl⟩ := H
   go_enter Tryz.func111, Tryz.ntmps111
   go_wp2_with (first | ((with_reducible refine gate_dst (N := 2) rfl ?_); refine box_event ?hg (N := 2) ?hd (cs := #[.int .i64 0, .int .i64 0]) (t := 23) ?hr ?_; (case hd => rfl); (case hg => rfl); (case hr => first | (go_simp; done) | (go_simp; rfl)); intro gb174 hg w8 hbox hb; have BK174 := Aside0.mk hbox; have GW174 := ge hg; have GE174 := ge hg; replace HB := bs hb; clear hb hbox hg) | ((with_reducible refine gate_callee (f := 80) rfl ?_); refine goesL_ (some 17) rfl rfl Tryz.func80 (by kernel_rfl) rfl #[.bool (decide (a0 < 0)), .agg #[.int .i64 ji2, .int .i64 (-150)]] rfl (by (try simp only [List.map_toArray, List.map_cons, List.map_nil]); first | done | (simp only [hji2]; rfl) | rfl | (simp only [List.length_drop, List.length_take]; rfl)) ?_; (with_reducible refine (real_signed.calls (decide (a0 < 0)) ji2 (-150) t175 t176 _ A7.out).mono ?_); rintro e w9 ⟨rfl, hb⟩; refine ⟨_, rfl, ?_⟩; replace BK174 := kb BK174 hb; replace HB := bs hb; (try clear hb); have hcz10_0 := c20 BK174; have hcz10_1 := c21 BK174; have hfz10_0 := blk_frozen BK174.out 0; have hfz10_1 := blk_frozen BK174.out 1))
   refine bodyPost_ret (results_cell_row rfl _ _ gb174 23 #[.int .i64 t175, .int .i64 t176] (0, 0) _ rfl (by (with_reducible repeat (first | refine blk_drewN ?_ _ | refine blk_drew ?_ | refine blk_alloc ?_ _)); refine blk_put (cs := #[.int .i64 t175, .int .i64 0]) ?_ 1 _ rfl; (with_reducible repeat (first | refine blk_drewN ?_ _ | refine blk_drew ?_ | refine blk_alloc ?_ _)); refine blk_put (cs := #[.int .i64 0, .int .i64 0]) ?_ 0 _ rfl; (with_reducible repeat (first | refine blk_drewN ?_ _ | refine blk_drew ?_ | refine blk_alloc ?_ _)); exact BK174.out) Tryz.underlying23 rfl (by kernel_rfl)) rfl ?_
   exact ⟨by first | rfl | (simp [errW_none, errW_some] <;> rfl) | (simp only [← hji2]; first | rfl | (simp [errW_none, errW_some] <;> rfl)) | (simp [*, errW_none, errW_some] <;> rfl), bz⟩
 ·rw [if_neg c3] at H
  have c3b0 : decide ((ji2) < 16777216) = false := decide_eq_false c3
  clear c3
  replace H := Option.bind_eq_some_iff.mp H
  obtain ⟨⟨t177, t178⟩, A110, H⟩ := H
  try dsimp only at H
  have A11 := Aside0.mk A110
  clear A110
  simp only [Option.some.injEq, Prod.mk.injEq] at H
  obtain ⟨rfl, rfl⟩ := H
  go_enter Tryz.func111, Tryz.ntmps111
  go_wp2_with (first | ((with_reducible refine gate_dst (N := 2) rfl ?_); refine box_event ?hg (N := 2) ?hd (cs := #[.int .i64 0, .int .i64 0]) (t := 23) ?hr ?_; (case hd => rfl); (case hg => rfl); (case hr => first | (go_simp; done) | (go_simp; rfl)); intro gb174 hg w12 hbox hb; have BK174 := Aside0.mk hbox; have GW174 := ge hg; have GE174 := ge hg; replace HB := bs hb; clear hb hbox hg) | ((with_reducible refine gate_callee (f := 80) rfl ?_); refine goesL_ (some 28) rfl rfl Tryz.func80 (by kernel_rfl) rfl #[.bool (decide (a0 < 0)), .agg #[.int .i64 (wrap64 ((Int.tmod (ji2) 8388608) + 8388608)), .int .i64 (wrap64 ((wrap64 ((wrap64 (Int.tdiv (ji2) 8388608)) - 1)) + (-150)))]] rfl (by (try simp only [List.map_toArray, List.map_cons, List.map_nil]); first | done | (simp only [hji2]; rfl) | rfl | (simp only [List.length_drop, List.length_take]; rfl)) ?_; (with_reducible refine (real_signed.calls (decide (a0 < 0)) (wrap64 ((Int.tmod (ji2) 8388608) + 8388608)) (wrap64 ((wrap64 ((wrap64 (Int.tdiv (ji2) 8388608)) - 1)) + (-150))) t177 t178 _ A11.out).mono ?_); rintro e w13 ⟨rfl, hb⟩; refine ⟨_, rfl, ?_⟩; replace BK174 := kb BK174 hb; replace HB := bs hb; (try clear hb); have hcz14_0 := c20 BK174; have hcz14_1 := c21 BK174; have hfz14_0 := blk_frozen BK174.out 0; have hfz14_1 := blk_frozen BK174.out 1))
  refine bodyPost_ret (results_cell_row rfl _ _ gb174 23 #[.int .i64 t177, .int .i64 t178] (0, 0) _ rfl (by (with_reducible repeat (first | refine blk_drewN ?_ _ | refine blk_drew ?_ | refine blk_alloc ?_ _)); refine blk_put (cs := #[.int .i64 t177, .int .i64 0]) ?_ 1 _ rfl; (with_reducible repeat (first | refine blk_drewN ?_ _ | refine blk_drew ?_ | refine blk_alloc ?_ _)); refine blk_put (cs := #[.int .i64 0, .int .i64 0]) ?_ 0 _ rfl; (with_reducible repeat (first | refine blk_drewN ?_ _ | refine blk_drew ?_ | refine blk_alloc ?_ _)); exact BK174.out) Tryz.underlying23 rfl (by kernel_rfl)) rfl ?_
  exact ⟨by first | rfl | (simp [errW_none, errW_some] <;> rfl) | (simp only [← hji2]; first | rfl | (simp [errW_none, errW_some] <;> rfl)) | (simp [*, errW_none, errW_some] <;> rfl), bz⟩

def real_At.f (a0 : Int) : Option (Int × Int × Int) := if a0 < (-2533359615) then (some (0, 0, 1)) else (if a0 > 2533359615 then (some (0, 0, 1)) else ((real_at.f a0).bind fun bt180 => (some (bt180.1, bt180.2, 0))))
theorem real_At.calls (a0 : Int) (r1 : Int) (r2 : Int) (r3 : Int) (w : World) (h : real_At.f a0 = some (r1, r2, r3)) :
  Calls Tryz.prog 55 #[.int .i64 a0] w fun e w' => e = .returned (.tuple #[.agg #[.int .i64 r1, .int .i64 r2], .int .i64 r3]) ∧ Below w.heap.size w w' := by
 have hu23 := Tryz.underlying23
 have HB := Aside0.mk (Below.refl w.heap.size w)
 have H := h; unfold real_At.f at H; clear h
 by_cases c2 : a0 < (-2533359615)
 ·rw [if_pos c2] at H
  have c2b0 : decide (a0 < (-2533359615)) = true := decide_eq_true c2
  clear c2
  simp only [Option.some.injEq, Prod.mk.injEq] at H
  obtain ⟨rfl, rfl, rfl⟩ := H
  go_enter Tryz.func55, Tryz.ntmps55
  go_wp2_with (first | ((with_reducible refine gate_dst (N := 2) rfl ?_); refine box_event ?hg (N := 2) ?hd (cs := #[.int .i64 0, .int .i64 0]) (t := 23) ?hr ?_; (case hd => rfl); (case hg => rfl); (case hr => first | (go_simp; done) | (go_simp; rfl)); intro gb179 hg w3 hbox hb; have BK179 := Aside0.mk hbox; have GW179 := ge hg; have GE179 := ge hg; replace HB := bs hb; clear hb hbox hg; have hcz4_0 := c20 BK179; have hcz4_1 := c21 BK179; have hfz4_0 := blk_frozen BK179.out 0; have hfz4_1 := blk_frozen BK179.out 1))
  refine bodyPost_ret (results_ct rfl _ _ gb179 23 #[.int .i64 0, .int .i64 0] (0, 0) _ rfl (by (with_reducible repeat (first | refine blk_drewN ?_ _ | refine blk_drew ?_ | refine blk_alloc ?_ _)); refine blk_put (cs := #[.int .i64 0, .int .i64 0]) ?_ 1 _ rfl; (with_reducible repeat (first | refine blk_drewN ?_ _ | refine blk_drew ?_ | refine blk_alloc ?_ _)); refine blk_put (cs := #[.int .i64 0, .int .i64 0]) ?_ 0 _ rfl; (with_reducible repeat (first | refine blk_drewN ?_ _ | refine blk_drew ?_ | refine blk_alloc ?_ _)); exact BK179.out) Tryz.underlying23 rfl (by kernel_rfl)) rfl ?_
  exact ⟨by first | rfl | (simp [errW_none, errW_some] <;> rfl) | (simp [*, errW_none, errW_some] <;> rfl), bz⟩
 ·rw [if_neg c2] at H
  have c2b0 : decide (a0 < (-2533359615)) = false := decide_eq_false c2
  clear c2
  by_cases c5 : a0 > 2533359615
  ·rw [if_pos c5] at H
   have c5b0 : decide (2533359615 < a0) = true := decide_eq_true c5
   clear c5
   simp only [Option.some.injEq, Prod.mk.injEq] at H
   obtain ⟨rfl, rfl, rfl⟩ := H
   go_enter Tryz.func55, Tryz.ntmps55
   go_wp2_with (first | ((with_reducible refine gate_dst (N := 2) rfl ?_); refine box_event ?hg (N := 2) ?hd (cs := #[.int .i64 0, .int .i64 0]) (t := 23) ?hr ?_; (case hd => rfl); (case hg => rfl); (case hr => first | (go_simp; done) | (go_simp; rfl)); intro gb179 hg w6 hbox hb; have BK179 := Aside0.mk hbox; have GW179 := ge hg; have GE179 := ge hg; replace HB := bs hb; clear hb hbox hg; have hcz7_0 := c20 BK179; have hcz7_1 := c21 BK179; have hfz7_0 := blk_frozen BK179.out 0; have hfz7_1 := blk_frozen BK179.out 1))
   refine bodyPost_ret (results_ct rfl _ _ gb179 23 #[.int .i64 0, .int .i64 0] (0, 0) _ rfl (by (with_reducible repeat (first | refine blk_drewN ?_ _ | refine blk_drew ?_ | refine blk_alloc ?_ _)); refine blk_put (cs := #[.int .i64 0, .int .i64 0]) ?_ 1 _ rfl; (with_reducible repeat (first | refine blk_drewN ?_ _ | refine blk_drew ?_ | refine blk_alloc ?_ _)); refine blk_put (cs := #[.int .i64 0, .int .i64 0]) ?_ 0 _ rfl; (with_reducible repeat (first | refine blk_drewN ?_ _ | refine blk_drew ?_ | refine blk_alloc ?_ _)); exact BK179.out) Tryz.underlying23 rfl (by kernel_rfl)) rfl ?_
   exact ⟨by first | rfl | (simp [errW_none, errW_some] <;> rfl) | (simp [*, errW_none, errW_some] <;> rfl), bz⟩
  ·rw [if_neg c5] at H
   have c5b0 : decide (2533359615 < a0) = false := decide_eq_false c5
   clear c5
   replace H := Option.bind_eq_some_iff.mp H
   obtain ⟨⟨t180, t181⟩, A80, H⟩ := H
   try dsimp only at H
   have A8 := Aside0.mk A80
   clear A80
   simp only [Option.some.injEq, Prod.mk.injEq] at H
   obtain ⟨rfl, rfl, rfl⟩ := H
   go_enter Tryz.func55, Tryz.ntmps55
   go_wp2_with (first | ((with_reducible refine gate_dst (N := 2) rfl ?_); refine box_event ?hg (N := 2) ?hd (cs := #[.int .i64 0, .int .i64 0]) (t := 23) ?hr ?_; (case hd => rfl); (case hg => rfl); (case hr => first | (go_simp; done) | (go_simp; rfl)); intro gb179 hg w9 hbox hb; have BK179 := Aside0.mk hbox; have GW179 := ge hg; have GE179 := ge hg; replace HB := bs hb; clear hb hbox hg) | ((with_reducible refine gate_callee (f := 111) rfl ?_); refine goesL_ (some 12) rfl rfl Tryz.func111 (by kernel_rfl) rfl #[.int .i64 a0] rfl az ?_; (with_reducible refine (real_at.calls a0 t180 t181 _ A8.out).mono ?_); rintro e w10 ⟨rfl, hb⟩; refine ⟨_, rfl, ?_⟩; replace BK179 := kb BK179 hb; replace HB := bs hb; (try clear hb); have hcz11_0 := c20 BK179; have hcz11_1 := c21 BK179; have hfz11_0 := blk_frozen BK179.out 0; have hfz11_1 := blk_frozen BK179.out 1))
   refine bodyPost_ret (results_ct rfl _ _ gb179 23 #[.int .i64 t180, .int .i64 t181] (0, 0) _ rfl (by (with_reducible repeat (first | refine blk_drewN ?_ _ | refine blk_drew ?_ | refine blk_alloc ?_ _)); refine blk_put (cs := #[.int .i64 t180, .int .i64 0]) ?_ 1 _ rfl; (with_reducible repeat (first | refine blk_drewN ?_ _ | refine blk_drew ?_ | refine blk_alloc ?_ _)); refine blk_put (cs := #[.int .i64 0, .int .i64 0]) ?_ 0 _ rfl; (with_reducible repeat (first | refine blk_drewN ?_ _ | refine blk_drew ?_ | refine blk_alloc ?_ _)); exact BK179.out) Tryz.underlying23 rfl (by kernel_rfl)) rfl ?_
   exact ⟨by first | rfl | (simp [errW_none, errW_some] <;> rfl) | (simp [*, errW_none, errW_some] <;> rfl), bz⟩

def manorboylaw02_at.f (a0 : Int) : Option (Int × Int) := (real_At.f (Int.tmod a0 2533359616)).bind fun bt183 => (some (bt183.1, bt183.2.1))
theorem manorboylaw02_at.calls (a0 : Int) (r1 : Int) (r2 : Int) (w : World) (h : manorboylaw02_at.f a0 = some (r1, r2)) :
  Calls Tryz.prog 38 #[.int .i64 a0] w fun e w' => e = .returned (.agg #[.int .i64 r1, .int .i64 r2]) ∧ Below w.heap.size w w' := by
 have hu23 := Tryz.underlying23
 have HB := Aside0.mk (Below.refl w.heap.size w)
 have H := h; unfold manorboylaw02_at.f at H; clear h
 replace H := Option.bind_eq_some_iff.mp H
 obtain ⟨⟨t183, t184, t185⟩, A20, H⟩ := H
 try dsimp only at H
 have A2 := Aside0.mk A20
 clear A20
 simp only [Option.some.injEq, Prod.mk.injEq] at H
 obtain ⟨rfl, rfl⟩ := H
 go_enter Tryz.func38, Tryz.ntmps38
 go_wp2_with (first | ((with_reducible refine gate_dst (N := 2) rfl ?_); refine box_event ?hg (N := 2) ?hd (cs := #[.int .i64 0, .int .i64 0]) (t := 23) ?hr ?_; (case hd => rfl); (case hg => rfl); (case hr => first | (go_simp; done) | (go_simp; rfl)); intro gb182 hg w3 hbox hb; have BK182 := Aside0.mk hbox; have GW182 := ge hg; have GE182 := ge hg; replace HB := bs hb; clear hb hbox hg) | ((with_reducible refine gate_callee (f := 55) rfl ?_); refine goesL_ (some 8) rfl rfl Tryz.func55 (by kernel_rfl) rfl #[.int .i64 (Int.tmod a0 2533359616)] rfl az ?_; (with_reducible refine (real_At.calls (Int.tmod a0 2533359616) t183 t184 t185 _ A2.out).mono ?_); rintro e w4 ⟨rfl, hb⟩; refine ⟨_, rfl, ?_⟩; replace BK182 := kb BK182 hb; replace HB := bs hb; (try clear hb)) | ((with_reducible refine gate_dst (N := 3) rfl ?_); refine box_event ?hg (N := 3) ?hd (cs := #[.int .i64 0, .int .i64 0]) (t := 23) ?hr ?_; (case hd => rfl); (case hg => rfl); (case hr => first | (go_simp; done) | (go_simp; rfl)); intro gb186 hg w5 hbox hb; have BK186 := Aside0.mk hbox; have GW186 := ge hg; have GE186 := ge hg; have NB182_186 := nl BK182 hg; have NB186_182 := nr BK182 hg; replace BK182 := kb BK182 hb; replace HB := bs hb; clear hb hbox hg; have hnb6 := NB186_182.out; have hnc6 := NB182_186.out; have hcz7_0 := c20 BK186; have hcz7_1 := c21 BK186; have hfz7_0 := blk_frozen BK186.out 0; have hfz7_1 := blk_frozen BK186.out 1; have hcz8_0 := c20 BK182; have hcz8_1 := c21 BK182; have hfz8_0 := blk_frozen BK182.out 0; have hfz8_1 := blk_frozen BK182.out 1))
 refine bodyPost_ret (results_cell_row rfl _ _ gb182 23 #[.int .i64 t183, .int .i64 t184] (0, 0) _ rfl (by (with_reducible repeat (first | refine blk_drewN ?_ _ | refine blk_drew ?_ | refine blk_alloc ?_ _)); refine blk_put (cs := #[.int .i64 t183, .int .i64 0]) ?_ 1 _ rfl; (with_reducible repeat (first | refine blk_drewN ?_ _ | refine blk_drew ?_ | refine blk_alloc ?_ _)); refine blk_put (cs := #[.int .i64 0, .int .i64 0]) ?_ 0 _ rfl; (with_reducible repeat (first | refine blk_drewN ?_ _ | refine blk_drew ?_ | refine blk_alloc ?_ _)); refine blk_far ?_ NB182_186.out _; (with_reducible repeat (first | refine blk_drewN ?_ _ | refine blk_drew ?_ | refine blk_alloc ?_ _)); refine blk_far ?_ NB182_186.out _; (with_reducible repeat (first | refine blk_drewN ?_ _ | refine blk_drew ?_ | refine blk_alloc ?_ _)); exact BK182.out) Tryz.underlying23 rfl (by kernel_rfl)) rfl ?_
 exact ⟨by first | rfl | (simp [errW_none, errW_some] <;> rfl) | (simp [*, errW_none, errW_some] <;> rfl), bz⟩

-- NOT PRINTED: function 163 (api_Real_163)

-- NOT PRINTED: function 143 (api_Real_143)

-- NOT PRINTED: function 99 (real_all)

def real_sign.f (a0 : Int) : Option (Int) := if a0 < 0 then (some (-1)) else (if a0 > 0 then (some 1) else (some 0))
theorem real_sign.calls (a0 : Int) (r : Int) (w : World) (h : real_sign.f a0 = some r) :
  Calls Tryz.prog 109 #[.int .i64 a0] w fun e w' => e = .returned (.int .i64 r) ∧ Drawn0 w w' := by
 have H := h; unfold real_sign.f at H; clear h
 by_cases c2 : a0 < 0
 ·rw [if_pos c2] at H
  have c2b0 : decide (a0 < 0) = true := decide_eq_true c2
  clear c2
  obtain rfl := Option.some.inj H
  go_enter Tryz.func109, Tryz.ntmps109
  go_wp2
  go_ret
  exact ⟨by first | rfl | (simp; done) | (simp [*]; done) | (exfalso; simp at *; done), by repeat (first | exact Drawn0.refl _ | apply Drawn0.step)⟩
 ·rw [if_neg c2] at H
  have c2b0 : decide (a0 < 0) = false := decide_eq_false c2
  clear c2
  by_cases c3 : a0 > 0
  ·rw [if_pos c3] at H
   have c3b0 : decide (0 < a0) = true := decide_eq_true c3
   clear c3
   obtain rfl := Option.some.inj H
   go_enter Tryz.func109, Tryz.ntmps109
   go_wp2
   go_ret
   exact ⟨by first | rfl | (simp; done) | (simp [*]; done) | (exfalso; simp at *; done), by repeat (first | exact Drawn0.refl _ | apply Drawn0.step)⟩
  ·rw [if_neg c3] at H
   have c3b0 : decide (0 < a0) = false := decide_eq_false c3
   clear c3
   obtain rfl := Option.some.inj H
   go_enter Tryz.func109, Tryz.ntmps109
   go_wp2
   go_ret
   exact ⟨by first | rfl | (simp; done) | (simp [*]; done) | (exfalso; simp at *; done), by repeat (first | exact Drawn0.refl _ | apply Drawn0.step)⟩

def real_index.f (a0_0 : Int) (a0_1 : Int) : Option (Int) := if a0_0 = 0 then (some 0) else (if a0_0 < 0 then (some (wrap64 (-(wrap64 ((mx a0_0 (wrap64 (-a0_0))) + (wrap64 ((wrap64 (a0_1 - (-150))) * 8388608))))))) else (some (wrap64 ((mx a0_0 (wrap64 (-a0_0))) + (wrap64 ((wrap64 (a0_1 - (-150))) * 8388608))))))
theorem real_index.calls (a0_0 : Int) (a0_1 : Int) (r : Int) (w : World) (h : real_index.f a0_0 a0_1 = some r) :
  Calls Tryz.prog 110 #[.agg #[.int .i64 a0_0, .int .i64 a0_1]] w fun e w' => e = .returned (.int .i64 r) ∧ Below w.heap.size w w' := by
 have hu23 := Tryz.underlying23
 have HB := Aside0.mk (Below.refl w.heap.size w)
 have H := h; unfold real_index.f at H; clear h
 by_cases c2 : a0_0 = 0
 ·rw [if_pos c2] at H
  have c2b0 : (a0_0 == 0) = true := beq_iff_eq.mpr c2
  have c2b1 : (a0_0 != 0) = false := bne_eq_false_iff_eq.mpr c2
  clear c2
  obtain rfl := Option.some.inj H
  go_enter Tryz.func110, Tryz.ntmps110
  go_wp2_with (first | ((with_reducible refine gate_dst (N := 1) rfl ?_); refine box_event ?hg (N := 1) ?hd (cs := #[.int .i64 a0_0, .int .i64 a0_1]) (t := 23) ?hr ?_; (case hd => rfl); (case hg => rfl); (case hr => first | (go_simp; done) | (go_simp; rfl)); intro gb187 hg w3 hbox hb; have BK187 := Aside0.mk hbox; have GW187 := ge hg; have GE187 := ge hg; replace HB := bs hb; clear hb hbox hg; have hcz4_0 := c20 BK187; have hcz4_1 := c21 BK187; have hfz4_0 := blk_frozen BK187.out 0; have hfz4_1 := blk_frozen BK187.out 1))
  go_ret
  exact ⟨by first | rfl | (simp [errW_none, errW_some] <;> rfl) | (simp [*, errW_none, errW_some] <;> rfl), bz⟩
 ·rw [if_neg c2] at H
  have c2b0 : (a0_0 == 0) = false := beq_eq_false_iff_ne.mpr c2
  have c2b1 : (a0_0 != 0) = true := bne_iff_ne.mpr c2
  obtain ⟨ji5, hji5⟩ : ∃ j_ : Int, (mx a0_0 (wrap64 (-a0_0))) = j_ := ⟨_, rfl⟩
  first | rw [hji5] at H | simp only [hji5] at H
  have hji5_ : (if a0_0 < (wrap64 (-a0_0)) then (wrap64 (-a0_0)) else a0_0) = ji5 := hji5
  by_cases c6 : a0_0 < 0
  ·rw [if_pos c6] at H
   have c6b0 : decide (a0_0 < 0) = true := decide_eq_true c6
   clear c6
   obtain rfl := Option.some.inj H
   go_enter Tryz.func110, Tryz.ntmps110
   go_wp2_with (first | ((with_reducible refine gate_dst (N := 1) rfl ?_); refine box_event ?hg (N := 1) ?hd (cs := #[.int .i64 a0_0, .int .i64 a0_1]) (t := 23) ?hr ?_; (case hd => rfl); (case hg => rfl); (case hr => first | (go_simp; done) | (go_simp; rfl)); intro gb187 hg w7 hbox hb; have BK187 := Aside0.mk hbox; have GW187 := ge hg; have GE187 := ge hg; replace HB := bs hb; clear hb hbox hg; have hcz8_0 := c20 BK187; have hcz8_1 := c21 BK187; have hfz8_0 := blk_frozen BK187.out 0; have hfz8_1 := blk_frozen BK187.out 1))
   go_ret
   exact ⟨by first | rfl | (simp [errW_none, errW_some] <;> rfl) | (simp only [← hji5]; first | rfl | (simp [errW_none, errW_some] <;> rfl)) | (simp [*, errW_none, errW_some] <;> rfl), bz⟩
  ·rw [if_neg c6] at H
   have c6b0 : decide (a0_0 < 0) = false := decide_eq_false c6
   clear c6
   obtain rfl := Option.some.inj H
   go_enter Tryz.func110, Tryz.ntmps110
   go_wp2_with (first | ((with_reducible refine gate_dst (N := 1) rfl ?_); refine box_event ?hg (N := 1) ?hd (cs := #[.int .i64 a0_0, .int .i64 a0_1]) (t := 23) ?hr ?_; (case hd => rfl); (case hg => rfl); (case hr => first | (go_simp; done) | (go_simp; rfl)); intro gb187 hg w9 hbox hb; have BK187 := Aside0.mk hbox; have GW187 := ge hg; have GE187 := ge hg; replace HB := bs hb; clear hb hbox hg; have hcz10_0 := c20 BK187; have hcz10_1 := c21 BK187; have hfz10_0 := blk_frozen BK187.out 0; have hfz10_1 := blk_frozen BK187.out 1))
   go_ret
   exact ⟨by first | rfl | (simp [errW_none, errW_some] <;> rfl) | (simp only [← hji5]; first | rfl | (simp [errW_none, errW_some] <;> rfl)) | (simp [*, errW_none, errW_some] <;> rfl), bz⟩

-- NOT PRINTED: function 48 (real_Cmp)

-- NOT PRINTED: function 13 (manorboylaw02_RealOrder)

end Go.Proofs.YteigbokklclmbaaGreatDoor.Z.Y
end
