/- Contracts and lemmas that the law's row leans on, joined by program (pack.py) out of the session's texts; no condition of its own. -/
import Derived.RowKit
import Derived.Test.YteigbokklclmbaaGreatDoorProg
import Derived.KernelRfl
import Derived.Below
import Derived.Deep.Draws
import Derived.Deep.AppendLies
import Derived.Maps.AppendAt
import Derived.OwnWalk
import Derived.Laws.BytesArg
import Derived.Laws.MakeOwn
import Derived.Laws.OwnMore
import Derived.Deep.OwnRows
import Derived.Tactics
import Derived.Lib.ConvBytes
import Derived.Laws.Slices
import Derived.WalkKit
import Derived.RowKit3
import Derived.Deep.LoopGhost
import Derived.Deep.QuietTactic
import Derived.BigQuiet
import Derived.WideLaws
import Derived.Deep.DeepCutAuto
import Derived.Deep.CutBlock
import Derived.Deep.RegionHeld3
import Derived.Laws.Rows
import Derived.Lib.AppendStr
import Derived.ArgAppend
import Derived.Laws.IdiomCopy
import Derived.OrdersHeld
import Derived.Laws.BitsLemmas
import Derived.Deep.Cut
import Derived.Test.YteigbokklclmbaaGreatDoorRpxa
import Derived.Test.YteigbokklclmbaaGreatDoorRpxb
import Derived.Test.YteigbokklclmbaaGreatDoorRpxc
import Derived.Test.YteigbokklclmbaaGreatDoorRpxd
set_option linter.unusedVariables false
set_option linter.unusedSimpArgs false
set_option maxRecDepth 100000
set_option maxHeartbeats 8000000
section
namespace Go.Proofs.YteigbokklclmbaaGreatDoor.Z.Y.V
open Go.RowKit Go.Proofs.YteigbokklclmbaaGreatDoor.Given Go.Proofs.YteigbokklclmbaaGreatDoorW.PrintWords Go.Proofs.YteigbokklclmbaaGreatDoorW.PrintLast Go.Proofs.YteigbokklclmbaaGreatDoorW.PrintMore
attribute [local go_sem] max2_int min2_int max_two min_two max_three min_three max_four min_four

def manorboyref02_Nat_Cmp.l0 : Nat → List Int → List Int → Int → Option (Int)
 | 0, _, _, _ => none
 | k + 1, x0, x1, x5 => if x5 ≥ 0 then (if 0 ≤ x5 then (if x5 < (x0.length : Int) then (if x5 < (x1.length : Int) then (if (rd x0 x5) < (rd x1 x5) then (some (-1)) else (if (rd x0 x5) > (rd x1 x5) then (some 1) else (manorboyref02_Nat_Cmp.l0 k x0 x1 (wrap64 (x5 - 1))))) else (none)) else (none)) else (none)) else (some 0)
def manorboyref02_Nat_Cmp.f (k : Nat) (l0 : List Int) (l1 : List Int) : Option (Int) := if (l0.length : Int) < (l1.length : Int) then (some (-1)) else (if (l0.length : Int) > (l1.length : Int) then (some 1) else (manorboyref02_Nat_Cmp.l0 k l0 l1 (wrap64 ((l0.length : Int) - 1))))
theorem manorboyref02_Nat_Cmp.calls (k : Nat) (A0 : Option Addr) (c0 : Nat) (l0 : List Int) (A1 : Option Addr) (c1 : Nat) (l1 : List Int) (r : Int) (w : World) (hr0 : Kd.C (Kd.int .i64) w A0 l0.length l0) (hc0 : l0.length ≤ c0) (hr1 : Kd.C (Kd.int .i64) w A1 l1.length l1) (hc1 : l1.length ≤ c1) (h : manorboyref02_Nat_Cmp.f k l0 l1 = some r) :
  Calls Tryz.prog 104 #[.slice A0 l0.length c0, .slice A1 l1.length c1] w fun e w' => e = .returned (.int .i64 r) ∧ Drawn0 w w' := by
 have HR0 := Aside0.mk hr0
 have HC0 := Aside0.mk hc0
 clear hr0 hc0
 have HR1 := Aside0.mk hr1
 have HC1 := Aside0.mk hc1
 clear hr1 hc1
 have H := h; unfold manorboyref02_Nat_Cmp.f at H; clear h
 by_cases c3 : (l0.length : Int) < (l1.length : Int)
 ·rw [if_pos c3] at H
  have c3b0 : decide ((l0.length : Int) < (l1.length : Int)) = true := decide_eq_true c3
  have c3b1 : decide (l0.length < l1.length) = true := decide_eq_true (Int.ofNat_lt.mp c3)
  clear c3
  obtain rfl := Option.some.inj H
  go_enter Tryz.func104, Tryz.ntmps104
  go_wp2
  repeat (go_quiet (fail); try go_wp2)
  go_ret
  exact ⟨by first | rfl | (simp; done) | (simp [*]; done) | (exfalso; simp at *; done), by repeat (first | exact Drawn0.refl _ | apply Drawn0.step)⟩
 ·rw [if_neg c3] at H
  have c3b0 : decide ((l0.length : Int) < (l1.length : Int)) = false := decide_eq_false c3
  have c3b1 : decide (l0.length < l1.length) = false := decide_eq_false (fun h => c3 (Int.ofNat_lt.mpr h))
  clear c3
  by_cases c4 : (l0.length : Int) > (l1.length : Int)
  ·rw [if_pos c4] at H
   have c4b0 : decide ((l1.length : Int) < (l0.length : Int)) = true := decide_eq_true c4
   have c4b1 : decide (l1.length < l0.length) = true := decide_eq_true (Int.ofNat_lt.mp c4)
   clear c4
   obtain rfl := Option.some.inj H
   go_enter Tryz.func104, Tryz.ntmps104
   go_wp2
   repeat (go_quiet (fail); try go_wp2)
   go_ret
   exact ⟨by first | rfl | (simp; done) | (simp [*]; done) | (exfalso; simp at *; done), by repeat (first | exact Drawn0.refl _ | apply Drawn0.step)⟩
  ·rw [if_neg c4] at H
   have c4b0 : decide ((l1.length : Int) < (l0.length : Int)) = false := decide_eq_false c4
   have c4b1 : decide (l1.length < l0.length) = false := decide_eq_false (fun h => c4 (Int.ofNat_lt.mpr h))
   clear c4
   have H' := Aside0.mk H
   clear H
   go_enter Tryz.func104, Tryz.ntmps104
   go_wp2
   repeat (go_quiet (fail); try go_wp2)
   go_loopg [5] k (fun kq v5 w' => ∃ (x5_1 : Int), v5 = .int .i64 x5_1 ∧ Aside0 (manorboyref02_Nat_Cmp.l0 kq l0 l1 x5_1 = some r) ∧ Aside0 (kq ≤ k) ∧ Drawn0 w w')
   case atStart => exact ⟨(wrap64 ((l0.length : Int) - 1)), (by first | rfl | (simp; done) | (simp [*]; done)), H', ⟨Nat.le_refl _⟩, by repeat (first | exact Drawn0.refl _ | apply Drawn0.step)⟩
   case round =>
    clear H'
    try clear c1
    try clear c3
    try clear c3b0
    try clear c3b1
    try clear c4
    try clear c4b0
    try clear c4b1
    obtain ⟨x5_1, rfl, HA, HK1, ⟨m1, rfl⟩⟩ := hrel
    cases gk with
    | zero => exact absurd HA.out (by simp [manorboyref02_Nat_Cmp.l0])
    | succ k1 =>
     have H := HA.out
     clear HA
     simp only [manorboyref02_Nat_Cmp.l0] at H
     by_cases c5 : x5_1 ≥ 0
     ·rw [if_pos c5] at H
      have c5b0 : decide (0 ≤ x5_1) = true := decide_eq_true c5
      clear c5
      by_cases c6 : 0 ≤ x5_1
      ·rw [if_pos c6] at H
       have c6b0 : decide (0 ≤ x5_1) = true := decide_eq_true c6
       clear c6
       by_cases c7 : x5_1 < (l0.length : Int)
       ·rw [if_pos c7] at H
        have c7b0 : decide (x5_1 < (l0.length : Int)) = true := decide_eq_true c7
        clear c7
        by_cases c8 : x5_1 < (l1.length : Int)
        ·rw [if_pos c8] at H
         have c8b0 : decide (x5_1 < (l1.length : Int)) = true := decide_eq_true c8
         clear c8
         by_cases c9 : (rd l0 x5_1) < (rd l1 x5_1)
         ·rw [if_pos c9] at H
          have c9b0 : decide ((rd l0 x5_1) < (rd l1 x5_1)) = true := decide_eq_true c9
          clear c9
          obtain rfl := Option.some.inj H
          have p126 : 0 ≤ (x5_1 : Int) := oda
          have q126 : x5_1 < (l0.length : Int) := oda
          obtain ⟨ad126, e126, hx126_0⟩ := Kd.at_int HR0.out x5_1 p126 q126
          cases e126
          replace p126 := eq_true p126
          replace q126 := eq_true q126
          have p127 : 0 ≤ (x5_1 : Int) := oda
          have q127 : x5_1 < (l1.length : Int) := oda
          obtain ⟨ad127, e127, hx127_0⟩ := Kd.at_int HR1.out x5_1 p127 q127
          cases e127
          replace p127 := eq_true p127
          replace q127 := eq_true q127
          go_wp2
          repeat (go_quiet (fail); try go_wp2)
          go_ret
          exact ⟨by first | rfl | (simp; done) | (simp [*]; done) | (exfalso; simp at *; done), by repeat (first | exact Drawn0.refl _ | apply Drawn0.step)⟩
         ·rw [if_neg c9] at H
          have c9b0 : decide ((rd l0 x5_1) < (rd l1 x5_1)) = false := decide_eq_false c9
          clear c9
          by_cases c10 : (rd l0 x5_1) > (rd l1 x5_1)
          ·rw [if_pos c10] at H
           have c10b0 : decide ((rd l1 x5_1) < (rd l0 x5_1)) = true := decide_eq_true c10
           clear c10
           obtain rfl := Option.some.inj H
           have p126 : 0 ≤ (x5_1 : Int) := oda
           have q126 : x5_1 < (l0.length : Int) := oda
           obtain ⟨ad126, e126, hx126_0⟩ := Kd.at_int HR0.out x5_1 p126 q126
           cases e126
           replace p126 := eq_true p126
           replace q126 := eq_true q126
           have p127 : 0 ≤ (x5_1 : Int) := oda
           have q127 : x5_1 < (l1.length : Int) := oda
           obtain ⟨ad127, e127, hx127_0⟩ := Kd.at_int HR1.out x5_1 p127 q127
           cases e127
           replace p127 := eq_true p127
           replace q127 := eq_true q127
           have p128 : 0 ≤ (x5_1 : Int) := oda
           have q128 : x5_1 < (l0.length : Int) := oda
           obtain ⟨ad128, e128, hx128_0⟩ := Kd.at_int HR0.out x5_1 p128 q128
           obtain rfl : ad126 = ad128 := (by injection e128)
           replace p128 := eq_true p128
           replace q128 := eq_true q128
           have p129 : 0 ≤ (x5_1 : Int) := oda
           have q129 : x5_1 < (l1.length : Int) := oda
           obtain ⟨ad129, e129, hx129_0⟩ := Kd.at_int HR1.out x5_1 p129 q129
           obtain rfl : ad127 = ad129 := (by injection e129)
           replace p129 := eq_true p129
           replace q129 := eq_true q129
           go_wp2
           repeat (go_quiet (fail); try go_wp2)
           go_ret
           exact ⟨by first | rfl | (simp; done) | (simp [*]; done) | (exfalso; simp at *; done), by repeat (first | exact Drawn0.refl _ | apply Drawn0.step)⟩
          ·rw [if_neg c10] at H
           have c10b0 : decide ((rd l1 x5_1) < (rd l0 x5_1)) = false := decide_eq_false c10
           clear c10
           have H' := Aside0.mk H
           clear H
           have p126 : 0 ≤ (x5_1 : Int) := oda
           have q126 : x5_1 < (l0.length : Int) := oda
           obtain ⟨ad126, e126, hx126_0⟩ := Kd.at_int HR0.out x5_1 p126 q126
           cases e126
           replace p126 := eq_true p126
           replace q126 := eq_true q126
           have p127 : 0 ≤ (x5_1 : Int) := oda
           have q127 : x5_1 < (l1.length : Int) := oda
           obtain ⟨ad127, e127, hx127_0⟩ := Kd.at_int HR1.out x5_1 p127 q127
           cases e127
           replace p127 := eq_true p127
           replace q127 := eq_true q127
           have p128 : 0 ≤ (x5_1 : Int) := oda
           have q128 : x5_1 < (l0.length : Int) := oda
           obtain ⟨ad128, e128, hx128_0⟩ := Kd.at_int HR0.out x5_1 p128 q128
           obtain rfl : ad126 = ad128 := (by injection e128)
           replace p128 := eq_true p128
           replace q128 := eq_true q128
           have p129 : 0 ≤ (x5_1 : Int) := oda
           have q129 : x5_1 < (l1.length : Int) := oda
           obtain ⟨ad129, e129, hx129_0⟩ := Kd.at_int HR1.out x5_1 p129 q129
           obtain rfl : ad127 = ad129 := (by injection e129)
           replace p129 := eq_true p129
           replace q129 := eq_true q129
           go_wp2
           repeat (go_quiet (fail); try go_wp2)
           go_roundg k1
           case measure => have := HK1.out; omega
           case rel => exact ⟨(wrap64 (x5_1 - 1)), (by first | rfl | (simp; done) | (simp [*]; done)), H', ⟨by have := HK1.out; omega⟩, by repeat (first | exact Drawn0.refl _ | apply Drawn0.step)⟩
        ·rw [if_neg c8] at H
         exact absurd H (by simp)
       ·rw [if_neg c7] at H
        exact absurd H (by simp)
      ·rw [if_neg c6] at H
       exact absurd H (by simp)
     ·rw [if_neg c5] at H
      have c5b0 : decide (0 ≤ x5_1) = false := decide_eq_false c5
      clear c5
      obtain rfl := Option.some.inj H
      go_wp2
      repeat (go_quiet (fail); try go_wp2)
      go_ret
      exact ⟨by first | rfl | (simp; done) | (simp [*]; done) | (exfalso; simp at *; done), by repeat (first | exact Drawn0.refl _ | apply Drawn0.step)⟩

def manorboyref02_Two.f (a0 : Int) : Option (List Int) := if 0 ≤ (wrap64 ((wrap64 (Int.tdiv a0 15)) + 1)) then (if (wrap64 ((wrap64 (Int.tdiv a0 15)) + 1) : Int).toNat ≤ 35184372088832 then ((some (List.replicate (wrap64 ((wrap64 (Int.tdiv a0 15)) + 1) : Int).toNat 0 : List Int)).bind fun y130 => (if 0 ≤ (Int.tmod a0 15) then (if 0 ≤ (wrap64 (Int.tdiv a0 15)) then (if (wrap64 (Int.tdiv a0 15)) < (y130.length : Int) then (some (y130.set ((wrap64 (Int.tdiv a0 15)) : Int).toNat (shl .i64 1 (Int.tmod a0 15)))) else (none)) else (none)) else (none))) else (none)) else (none)
theorem manorboyref02_Two.calls (a0 : Int) (r : List Int) (w : World) (h : manorboyref02_Two.f a0 = some r) :
  Calls Tryz.prog 107 #[.int .i64 a0] w fun e w' => ∃ v0_ : Value, e = .returned (v0_) ∧ Kd.R (Kd.int .i64) 3 w' w.heap.size (fun _ => True) v0_ r ∧ Below w.heap.size w w' := by
 have HB := Aside0.mk (Below.refl w.heap.size w)
 have H := h; unfold manorboyref02_Two.f at H; clear h
 obtain ⟨ji2, hji2⟩ : ∃ j_ : Int, (wrap64 ((wrap64 (Int.tdiv a0 15)) + 1)) = j_ := ⟨_, rfl⟩
 first | rw [hji2] at H | simp only [hji2] at H
 have hji2w : (IntKind.i64.wrap ((wrap64 (Int.tdiv a0 15)) + 1)) = ji2 := (i64_w _).trans hji2
 by_cases c3 : 0 ≤ (ji2)
 ·rw [if_pos c3] at H
  have c3b0 := eq_true c3
  have c3b1 : decide (0 ≤ (ji2)) = true := decide_eq_true c3
  clear c3
  by_cases c4 : (ji2 : Int).toNat ≤ 35184372088832
  ·rw [if_pos c4] at H
   have c4b0 := eq_true c4
   have c4b1 : decide ((ji2 : Int).toNat ≤ 35184372088832) = true := decide_eq_true c4
   clear c4
   obtain ⟨y130, hy130⟩ : ∃ y_ : List Int, y_ = (List.replicate (ji2 : Int).toNat 0) := ⟨_, rfl⟩
   replace H : (if 0 ≤ (Int.tmod a0 15) then (if 0 ≤ (wrap64 (Int.tdiv a0 15)) then (if (wrap64 (Int.tdiv a0 15)) < (y130.length : Int) then (some (y130.set ((wrap64 (Int.tdiv a0 15)) : Int).toNat (shl .i64 1 (Int.tmod a0 15)))) else (none)) else (none)) else (none)) = some r := by first | (rw [hy130]; with_reducible exact H) | (have H2_ := (Option.bind_some _ _).symm.trans H; rw [hy130]; with_reducible exact H2_) | (have H2_ := (Option.bind_some _ _).symm.trans H; with_reducible exact H2_) | with_reducible exact H | (rw [hy130]; exact H) | exact H
   have Ny130 := Aside0.mk hy130
   clear hy130
   obtain ⟨ji5, hji5⟩ : ∃ j_ : Int, (Int.tmod a0 15) = j_ := ⟨_, rfl⟩
   first | rw [hji5] at H | simp only [hji5] at H
   by_cases c6 : 0 ≤ (ji5)
   ·rw [if_pos c6] at H
    have c6b0 := eq_true c6
    have c6b1 : decide (0 ≤ (ji5)) = true := decide_eq_true c6
    clear c6
    obtain ⟨ji7, hji7⟩ : ∃ j_ : Int, (shl .i64 1 (ji5)) = j_ := ⟨_, rfl⟩
    first | rw [hji7] at H | simp only [hji7] at H
    have hji7_ : (IntKind.i64.wrap (1 * 2 ^ min (ji5).toNat 64)) = ji7 := hji7
    have hji7z : (ji5) ≤ 64 → (IntKind.i64.wrap (1 * 2 ^ (ji5).toNat)) = ji7 := shl_small hji7
    have hji7u : (IntKind.i64.wrap (2 ^ min (ji5).toNat 64)) = ji7 := by have h_ := hji7_; rw [Int.one_mul] at h_; exact h_
    have hji7v : (ji5) ≤ 64 → (IntKind.i64.wrap (2 ^ (ji5).toNat)) = ji7 := fun hle_ => by have h_ := hji7z hle_; rw [Int.one_mul] at h_; exact h_
    have hji7y : (wrap64 (1 * 2 ^ min (ji5).toNat 64)) = ji7 := (i64_w _).symm.trans hji7_
    have hji7x : (ji5) ≤ 64 → (wrap64 (1 * 2 ^ (ji5).toNat)) = ji7 := fun h_ => (i64_w _).symm.trans (hji7z h_)
    obtain ⟨ji8, hji8⟩ : ∃ j_ : Int, (wrap64 (Int.tdiv a0 15)) = j_ := ⟨_, rfl⟩
    first | rw [hji8] at H | simp only [hji8] at H
    have hji8w : (IntKind.i64.wrap (Int.tdiv a0 15)) = ji8 := (i64_w _).trans hji8
    by_cases c9 : 0 ≤ (ji8)
    ·rw [if_pos c9] at H
     have c9b0 : decide (0 ≤ (ji8)) = true := decide_eq_true c9
     clear c9
     by_cases c10 : (ji8) < (y130.length : Int)
     ·rw [if_pos c10] at H
      have c10b0 : decide ((ji8) < (y130.length : Int)) = true := decide_eq_true c10
      clear c10
      obtain ⟨y133, hy133⟩ : ∃ y_ : List Int, y_ = (y130.set ((ji8) : Int).toNat (ji7)) := ⟨_, rfl⟩
      replace H : (some y133) = some r := by first | (rw [hy133]; with_reducible exact H) | (have H2_ := (Option.bind_some _ _).symm.trans H; rw [hy133]; with_reducible exact H2_) | (have H2_ := (Option.bind_some _ _).symm.trans H; with_reducible exact H2_) | with_reducible exact H | (rw [hy133]; exact H) | exact H
      have Ny133 := Aside0.mk hy133
      clear hy133
      obtain rfl := Option.some.inj H
      have hji28_ : wrap64 (ji8 + 1) = ji2 := by rw [← hji8]; exact hji2
      have hji28w_ : IntKind.i64.wrap (ji8 + 1) = ji2 := by rw [← hji8]; exact hji2w
      go_enter Tryz.func107, Tryz.ntmps107
      go_wp2_with (first | ((with_reducible refine gate_dst (N := 7) rfl ?_); refine Kd.R_make (Kd.int .i64) _ 3 rfl (N := 7) rfl 96 _ _ rfl ji2 rfl rfl Tryz.underlying96 (.int .i64 0) 8 info3 rfl (by decide) (by omega) 0 (ok := fun _ => True) (okp := fun _ => True) rfl (fun _ hk => hk) trivial (oda) (Nat.le_trans (Nat.mul_le_mul_right _ (of_decide_eq_true (by first | (with_reducible assumption) | assumption) : ji2.toNat ≤ 35184372088832)) (by omega)) (Below.refl _ _) (Nat.le_refl _) ?_; intro v131 w12 ho13 hb hg_ hnew_; clear hg_ hnew_; (first | rw [← Ny130.out] at ho13 | (simp only [Int.reduceToNat] at ho13; rw [← Ny130.out] at ho13)); have HO132 := Aside0.mk (Kd.R_lower ho13 (below_size bz)); replace HB := bs hb; clear hb ho13; have p11 : 0 ≤ ((ji8) : Int) := oda; have q11 : ((ji8) : Int) < ((y130.length : Int) : Int) := oda; obtain ⟨go11, co11, eo11, gb11, gl11, cl11, HG11⟩ := Kd.R_form HO132.out (by omega); (first | cases eo11 | (injection eo11 with ea_ en_ ec_; (first | subst ea_ | (injection ea_ with ea_; subst ea_)); subst ec_; clear en_)); have GB11 := Aside0.mk gb11; have GG11 := Aside0.mk HG11; clear gb11 gl11 HG11; obtain ⟨hx11_0, hf11_0⟩ := Kd.R_celln 0 HO132.out ((ji8) : Int) p11 q11; replace p11 := eq_true p11; replace q11 := eq_true q11; obtain ⟨hy14_, hz14_⟩ := Kd.R_celln 0 HO132.out ((ji8) : Int) (oda) (oda); have HP14 := Kd.R_putg HO132.out ((ji8) : Int) ji7) | ((with_reducible refine gate_store (t := 3) (p := 14) rfl ?_); refine store_event (t := 3) (p := 14) (v := ?vo_w15) (w1 := (w12.setCell ⟨go11, ((ji8) : Int).toNat, none⟩ (.int .i64 ji7))) ?hg ?ho ?hn ?hr ?_; (case ho => rfl); (case hg => rfl); (case hn => rfl); (case hr => first | (go_simp; done) | (go_simp; rfl)); intro w15 hw; have hg : w12.grownBy w15 (some go11) := (by rw [hw]; exact HP14.2); have hp_ : Kd.R (Kd.int .i64) 3 w15 w.heap.size (fun _ => True) (.slice (some ⟨go11, 0, none⟩) y130.length co11) y133 := (by rw [hw, Ny133.out]; exact HP14.1); clear HP14; replace HO132 := Aside0.mk (hp_); replace HB := Aside0.mk ((by rw [hw]; exact below_set (HB.out) GB11.out : Below w.heap.size w w15)); clear hg hw hp_))
      go_ret
      exact ⟨_, by first | rfl | (simp [errW_none, errW_some] <;> rfl) | (simp only [← hji2, ← hji5, ← hji7, ← hji8]; first | rfl | (simp [errW_none, errW_some] <;> rfl)) | (simp [*, errW_none, errW_some] <;> rfl), by (with_reducible repeat (first | apply Kd.R_alloc | apply Kd.R_drewN | apply Kd.R_drew)); exact HO132.out, bz⟩
     ·rw [if_neg c10] at H
      exact absurd H (by simp)
    ·rw [if_neg c9] at H
     exact absurd H (by simp)
   ·rw [if_neg c6] at H
    exact absurd H (by simp)
  ·rw [if_neg c4] at H
   exact absurd H (by simp)
 ·rw [if_neg c3] at H
  exact absurd H (by simp)

def manorboyref02_Small.l0 : Nat → Int → List Int → Option (List Int)
 | 0, _, _ => none
 | k + 1, x0, x3 => if x0 > 0 then (if x3.length < 17592186044416 then (manorboyref02_Small.l0 k (wrap64 (Int.tdiv x0 32768)) (x3 ++ [Int.tmod x0 32768])) else (none)) else (some x3)
def manorboyref02_Small.f (k : Nat) (a0 : Int) : Option (List Int) := manorboyref02_Small.l0 k a0 ([] : List Int)
theorem manorboyref02_Small.calls (k : Nat) (a0 : Int) (r : List Int) (w : World) (h : manorboyref02_Small.f k a0 = some r) :
  Calls Tryz.prog 85 #[.int .i64 a0] w fun e w' => ∃ v0_ : Value, e = .returned (v0_) ∧ Kd.R (Kd.int .i64) 3 w' w.heap.size (fun _ => True) v0_ r ∧ Below w.heap.size w w' := by
 have HB := Aside0.mk (Below.refl w.heap.size w)
 have H := h; unfold manorboyref02_Small.f at H; clear h
 have H' := Aside0.mk H
 clear H
 go_enter Tryz.func85, Tryz.ntmps85
 go_wp2
 go_loopg [0, 3] k (fun kq v0 v3 w' => ∃ (x0_1 : Int) (x3_1 : List Int), v0 = .int .i64 x0_1 ∧ Aside0 (manorboyref02_Small.l0 kq x0_1 x3_1 = some r) ∧ Aside0 (kq ≤ k) ∧ Aside0 (Kd.R (Kd.int .i64) 3 w' w.heap.size (fun _ => True) v3 x3_1) ∧ Aside0 (Below w.heap.size w w'))
 case atStart => exact ⟨(a0), (([] : List Int)), (by first | rfl | (simp; done) | (simp [*]; done)), H', ⟨Nat.le_refl _⟩, ⟨by first | exact Kd.R_nil _ _ _ _ _ | exact Kd.N_nil _ _ _ _ _ | exact Kd.V_nil _ _ _ _ _ | exact Kd.Q_nil _ _ _ _ _ | exact Kd.S_nil _ _ _ _ _⟩, ⟨bz⟩⟩
 case round =>
  clear H'
  obtain ⟨x0_1, x3_1, rfl, HA, HK1, HO_3, HB⟩ := hrel
  cases gk with
  | zero => exact absurd HA.out (by simp [manorboyref02_Small.l0])
  | succ k1 =>
   have H := HA.out
   clear HA
   simp only [manorboyref02_Small.l0] at H
   by_cases c2 : x0_1 > 0
   ·rw [if_pos c2] at H
    have c2b0 : decide (0 < x0_1) = true := decide_eq_true c2
    clear c2
    by_cases c3 : x3_1.length < 17592186044416
    ·rw [if_pos c3] at H
     have LMc3 := Aside0.mk c3
     clear c3
     obtain ⟨y134, hy134⟩ : ∃ y_ : List Int, y_ = (x3_1 ++ [Int.tmod x0_1 32768]) := ⟨_, rfl⟩
     replace H : (manorboyref02_Small.l0 k1 (wrap64 (Int.tdiv x0_1 32768)) y134) = some r := by first | (rw [hy134]; with_reducible exact H) | (have H2_ := (Option.bind_some _ _).symm.trans H; rw [hy134]; with_reducible exact H2_) | (have H2_ := (Option.bind_some _ _).symm.trans H; with_reducible exact H2_) | with_reducible exact H | (rw [hy134]; exact H) | exact H
     have Ny134 := Aside0.mk hy134
     clear hy134
     have H' := Aside0.mk H
     clear H
     go_wp2_with (first | ((with_reducible refine gate_builtin (b := .append) (xs := #[.tmp 6, .tmp 9]) rfl ?_); at_builtin; refine Kd.R_append (Kd.int .i64) (w0 := w) w.heap.size rfl (.tmp 6) (.tmp 9) 96 3 (.int .i64 0) 8 rfl Tryz.underlying96 info3 rfl (by decide) (by omega) u3 x3_1 (Int.tmod x0_1 32768) [.int .i64 (Int.tmod x0_1 32768)] (fun _ => True) (fun _ => False) rfl rfl ?aP (fun _ hk => hk.elim) ?aF ?aO ?aB ?aS ?aL ?_; (case aP => exact rfl); (case aB => exact bz); (case aF => exact (fun _ _ => trivial)); (case aO => exact (rz HO_3)); (case aS => exact (below_size bz)); (case aL => have := LMc3.out; omega); intro v135 w4 ho hb hg hat; rw [← Ny134.out] at ho; have HO136 := Aside0.mk (ho); replace HB := Aside0.mk (hb); clear HO_3; clear ho hb hg hat))
     go_roundg k1
     case measure => have := HK1.out; omega
     case rel => exact ⟨(wrap64 (Int.tdiv x0_1 32768)), (y134), (by first | rfl | (simp; done) | (simp [*]; done)), H', ⟨by have := HK1.out; omega⟩, ⟨rz HO136⟩, ⟨bz⟩⟩
    ·rw [if_neg c3] at H
     exact absurd H (by simp)
   ·rw [if_neg c2] at H
    have c2b0 : decide (0 < x0_1) = false := decide_eq_false c2
    clear c2
    obtain rfl := Option.some.inj H
    go_wp2
    go_ret
    exact ⟨_, by first | rfl | (simp [errW_none, errW_some] <;> rfl) | (simp [*, errW_none, errW_some] <;> rfl), by (with_reducible repeat (first | apply Kd.R_alloc | apply Kd.R_drewN | apply Kd.R_drew)); exact HO_3.out, bz⟩

end Go.Proofs.YteigbokklclmbaaGreatDoor.Z.Y.V
end
section
namespace Go.Proofs.YteigbokklclmbaaGreatDoor.M
open Go Go.RowKit Go.Proofs.YteigbokklclmbaaGreatDoor.Given Go.Proofs.YteigbokklclmbaaGreatDoorW.PrintWords Go.Proofs.YteigbokklclmbaaGreatDoorW.PrintLast Go.Proofs.YteigbokklclmbaaGreatDoorW.PrintMore Go.Proofs.YteigbokklclmbaaGreatDoor.Z Go.Proofs.YteigbokklclmbaaGreatDoor.Z.Y Go.Proofs.YteigbokklclmbaaGreatDoor.Z.Y.V
abbrev B15 : Nat := 32768
abbrev E (n : Nat) : List Int := dg B15 n
theorem C2 : 2 ≤ B15 := by decide
theorem pow15 (n : Nat) : B15 ^ n = 2 ^ (15 * n) := by rw [Nat.pow_mul]
/-- A number of modest size: at most 8000 digits. -/
def Se (n : Nat) : Prop := (E n).length ≤ 8000
theorem Se.of {n : Nat} (h : bl n ≤ 15 * 8000) : Se n := by
  have key : ∀ L : Nat, bl n ≤ 15 * L → (E n).length ≤ L := fun L hL => by
    refine dg_len_le C2 L n ?_
    rw [pow15]
    exact bl_le_iff.1 hL
  exact key 8000 h
theorem rd15 {l : List Int} (h : InB B15 l) (i : Nat) : 0 ≤ rd l (i : Int) ∧ rd l (i : Int) < 32768 := by
  rw [rd_nat]; exact h.getD (by decide) i
theorem E_in (n : Nat) : InB B15 (E n) := InB_dg C2 n
theorem E_val (n : Nat) : val B15 (E n) = n := val_dg C2 n
theorem E_lt (n : Nat) : n < B15 ^ (E n).length := dg_lt_pow C2 n
theorem E_ge {n : Nat} (h : 0 < n) : B15 ^ ((E n).length - 1) ≤ n := dg_ge_pow C2 h
/-- A row of the right length is the row of its value. -/
theorem dg_of_len {B : Nat} (hB : 2 ≤ B) {l : List Int} {n : Nat} (h : InB B l) (hl : l.length = n + 1) (hv : B ^ n ≤ val B l) : dg B (val B l) = l := by
  refine dg_val hB h (fun hne hz => ?_)
  rw [List.getLast_eq_getElem] at hz
  have h1 := val_split (B := B) (l := l) (i := n) (by omega)
  have h2 := val_drop (B := B) l n
  rw [val_drop_ge (show l.length ≤ n + 1 by omega), List.getD_eq_getElem?_getD, List.getElem?_eq_getElem (by omega)] at h2
  have e : l.length - 1 = n := by omega
  simp only [e] at hz
  rw [Option.getD_some, hz] at h2
  have h3 := val_lt (h.take n)
  rw [List.length_take, Nat.min_eq_left (by omega)] at h3
  simp only [Int.toNat_zero, Nat.mul_zero, Nat.add_zero] at h2
  rw [h2, Nat.mul_zero, Nat.add_zero] at h1
  omega
theorem cut_l0 (l : List Int) (h : InB B15 l) (hl : l.length ≤ 100000) (V : Nat) : ∀ m : Nat, m ≤ l.length → val B15 (l.take m) = V → Ev (fun k => manorboyref02_cut.l0 k l (m : Int)) (E V)
  | 0, hm, hv => by
    refine Ev.step (f := fun _ => some []) (fun k => by rw [manorboyref02_cut.l0, if_neg (by omega), if_pos (by omega), if_pos (by omega)]; rfl) ?_
    rw [List.take_zero, val_nil] at hv
    subst hv
    rw [show E 0 = [] from dg_zero]; exact Ev.now _
  | m + 1, hm, hv => by
    have w : wrap64 (((m + 1 : Nat) : Int) - 1) = (m : Int) := by rw [w64 _ (by omega) (by omega)]; omega
    have hs : l.take (m + 1) = l.take m ++ [rd l (m : Int)] := by
      rw [List.take_succ_eq_append_getElem (by omega), rd_nat, List.getD_eq_getElem?_getD, List.getElem?_eq_getElem (by omega), Option.getD_some]
    by_cases h0 : rd l (m : Int) = 0
    · refine Ev.step (fun k => by rw [manorboyref02_cut.l0, w, if_pos (by omega), if_pos (Int.natCast_nonneg _), if_pos (by omega), if_pos h0]) (cut_l0 l h hl V m (by omega) ?_)
      rw [hs, val_snoc, h0] at hv
      simpa using hv
    · refine Ev.step (f := fun _ => some (l.take (m + 1))) (fun k => by rw [manorboyref02_cut.l0, w, if_pos (by omega), if_pos (Int.natCast_nonneg _), if_pos (by omega), if_neg h0, if_pos (Int.natCast_nonneg _), if_pos (by omega), Int.toNat_natCast]) ?_
      have e : E (val B15 (l.take (m + 1))) = l.take (m + 1) := dg_val C2 (h.take _) (fun hne hz => by
        simp only [hs, List.getLast_concat] at hz; exact h0 hz)
      rw [← hv, e]; exact Ev.now _
theorem cut_ev {l : List Int} (h : InB B15 l) (hl : l.length ≤ 100000) {n : Nat} (hn : val B15 l = n) : Ev (fun k => manorboyref02_cut.f k l) (E n) := by
  have := cut_l0 l h hl n l.length (Nat.le_refl _) (by rw [List.take_length]; exact hn)
  exact Ev.congr (fun k => by unfold manorboyref02_cut.f; rfl) this
theorem small_l0' : ∀ (d n : Nat) (x : List Int), n < 2 ^ d → d ≤ 64 → n < 9223372036854775808 → x.length + d ≤ 1000 → Ev (fun k => manorboyref02_Small.l0 k (n : Int) x) (x ++ E n)
  | d, 0, x, _, _, _, _ => by
    refine Ev.step (f := fun _ => some x) (fun k => by rw [manorboyref02_Small.l0, if_neg (by omega)]) ?_
    rw [show E 0 = [] from dg_zero, List.append_nil]; exact Ev.now _
  | 0, n + 1, x, h, _, _, _ => by simp at h
  | d + 1, n + 1, x, h, hd, hn, hx => by
    have e1 : Int.tdiv ((n + 1 : Nat) : Int) 32768 = (((n + 1) / 32768 : Nat) : Int) := by rw [Int.tdiv_eq_ediv_of_nonneg (by omega)]; omega
    have e2 : Int.tmod ((n + 1 : Nat) : Int) 32768 = (((n + 1) % 32768 : Nat) : Int) := by rw [Int.tmod_eq_emod_of_nonneg (by omega)]; omega
    have e3 : wrap64 (((n + 1) / 32768 : Nat) : Int) = (((n + 1) / 32768 : Nat) : Int) := w64 _ (by omega) (by omega)
    refine Ev.step (f := fun k => manorboyref02_Small.l0 k (((n + 1) / 32768 : Nat) : Int) (x ++ [(((n + 1) % 32768 : Nat) : Int)])) (fun k => by rw [manorboyref02_Small.l0, if_pos (by omega), if_pos (by omega), e1, e2, e3]) ?_
    have ih := small_l0' d ((n + 1) / 32768) (x ++ [(((n + 1) % 32768 : Nat) : Int)]) (by
      rw [Nat.pow_succ] at h; omega) (by omega) (by omega) (by simp; omega)
    have e4 : E (n + 1) = (((n + 1) % 32768 : Nat) : Int) :: E ((n + 1) / 32768) := dg_pos C2 (by omega)
    rw [e4]
    rw [List.append_assoc] at ih
    exact ih
theorem smallE_ev {n : Nat} (h : n < 9223372036854775808) : Ev (fun k => manorboyref02_Small.f k (n : Int)) (E n) := by
  have := small_l0' 63 n [] (by omega) (by omega) h (by simp)
  rw [List.nil_append] at this
  exact Ev.congr (fun k => by unfold manorboyref02_Small.f; rfl) this
theorem cmpE_l0 (a b : List Int) (ha : InB B15 a) (hb : InB B15 b) (hl : a.length = b.length) (hlen : a.length ≤ 1000000) : ∀ m : Nat, m ≤ a.length → a.drop m = b.drop m → Ev (fun k => manorboyref02_Nat_Cmp.l0 k a b ((m : Int) - 1)) (cmpN (val B15 a) (val B15 b))
  | 0, _, he => by
    refine Ev.step (f := fun _ => some 0) (fun k => by rw [manorboyref02_Nat_Cmp.l0, if_neg (by omega)]) ?_
    have : a = b := by simpa using he
    rw [this]; unfold cmpN; rw [if_neg (by omega), if_pos rfl]; exact Ev.now _
  | m + 1, hm, he => by
    have hw : ((m + 1 : Nat) : Int) - 1 = (m : Int) := by omega
    have hw2 : wrap64 ((m : Int) - 1) = (m : Int) - 1 := w64 _ (by omega) (by omega)
    rw [hw]
    by_cases h1 : rd a (m : Int) < rd b (m : Int)
    · refine Ev.step (f := fun k => some (-1)) (fun k => by rw [manorboyref02_Nat_Cmp.l0, if_pos (by omega), if_pos (by omega), if_pos (by omega), if_pos (by omega), if_pos h1]) ?_
      have := val_lt_of_drop ha hb (show m < a.length by omega) (by omega) he (by rw [← rd_nat, ← rd_nat]; exact h1)
      unfold cmpN; rw [if_pos this]; exact Ev.now _
    · by_cases h2 : rd a (m : Int) > rd b (m : Int)
      · refine Ev.step (f := fun k => some 1) (fun k => by rw [manorboyref02_Nat_Cmp.l0, if_pos (by omega), if_pos (by omega), if_pos (by omega), if_pos (by omega), if_neg h1, if_pos h2]) ?_
        have := val_lt_of_drop hb ha (show m < b.length by omega) (by omega) he.symm (by rw [← rd_nat, ← rd_nat]; omega)
        unfold cmpN; rw [if_neg (by omega), if_neg (by omega)]; exact Ev.now _
      · refine Ev.step (f := fun k => manorboyref02_Nat_Cmp.l0 k a b ((m : Int) - 1)) (fun k => by rw [manorboyref02_Nat_Cmp.l0, if_pos (by omega), if_pos (by omega), if_pos (by omega), if_pos (by omega), if_neg h1, if_neg h2, hw2]) ?_
        refine cmpE_l0 a b ha hb hl hlen m (by omega) ?_
        have ea : a.drop m = rd a (m : Int) :: a.drop (m + 1) := by
          rw [rd_nat, List.drop_eq_getElem_cons (by omega), List.getD_eq_getElem?_getD, List.getElem?_eq_getElem (by omega)]; rfl
        have eb : b.drop m = rd b (m : Int) :: b.drop (m + 1) := by
          rw [rd_nat, List.drop_eq_getElem_cons (by omega), List.getD_eq_getElem?_getD, List.getElem?_eq_getElem (by omega)]; rfl
        rw [ea, eb, show rd a (m : Int) = rd b (m : Int) by omega, he]
theorem cmpE_ev {a b : Nat} (ha : Se a) (hb : Se b) : Ev (fun k => manorboyref02_Nat_Cmp.f k (E a) (E b)) (cmpN a b) := by
  unfold Se at ha hb
  have hla := E_lt a
  have hlb := E_lt b
  have h00 : (E 0).length = 0 := by rw [show E 0 = [] from dg_zero]; rfl
  by_cases h1 : (E a).length < (E b).length
  · refine Ev.congr (f := fun k => some (-1)) (fun k => by unfold manorboyref02_Nat_Cmp.f; rw [if_pos (by omega)]) ?_
    have hb0 : 0 < b := by
      rcases Nat.eq_zero_or_pos b with h | h
      · subst h; omega
      · exact h
    have h2 := E_ge hb0
    have h3 := Nat.pow_le_pow_right (show 0 < B15 by decide) (show (E a).length ≤ (E b).length - 1 by omega)
    unfold cmpN; rw [if_pos (by omega)]; exact Ev.now _
  · by_cases h2 : (E a).length > (E b).length
    · refine Ev.congr (f := fun k => some 1) (fun k => by unfold manorboyref02_Nat_Cmp.f; rw [if_neg (by omega), if_pos (by omega)]) ?_
      have ha0 : 0 < a := by
        rcases Nat.eq_zero_or_pos a with h | h
        · subst h; omega
        · exact h
      have h2 := E_ge ha0
      have h3 := Nat.pow_le_pow_right (show 0 < B15 by decide) (show (E b).length ≤ (E a).length - 1 by omega)
      unfold cmpN; rw [if_neg (by omega), if_neg (by omega)]; exact Ev.now _
    · have hl : (E a).length = (E b).length := by omega
      have hw : wrap64 (((E a).length : Int) - 1) = ((E a).length : Int) - 1 := w64 _ (by omega) (by omega)
      refine Ev.congr (f := fun k => manorboyref02_Nat_Cmp.l0 k (E a) (E b) (((E a).length : Int) - 1)) (fun k => by unfold manorboyref02_Nat_Cmp.f; rw [if_neg (by omega), if_neg (by omega), hw]) ?_
      have := cmpE_l0 (E a) (E b) (E_in a) (E_in b) hl (by omega) (E a).length (Nat.le_refl _) (by rw [List.drop_eq_nil_of_le (Nat.le_refl _), List.drop_eq_nil_of_le (by omega)])
      rw [E_val, E_val] at this
      exact this
theorem two_ev (n : Nat) (h : n ≤ 100000) : manorboyref02_Two.f (n : Int) = some (E (2 ^ n)) := by
  have t : Int.tdiv (n : Int) 15 = ((n / 15 : Nat) : Int) := by rw [Int.tdiv_eq_ediv_of_nonneg (by omega)]; omega
  have m : Int.tmod (n : Int) 15 = ((n % 15 : Nat) : Int) := by rw [Int.tmod_eq_emod_of_nonneg (by omega)]; omega
  have w1 : wrap64 ((n / 15 : Nat) : Int) = ((n / 15 : Nat) : Int) := w64 _ (by omega) (by omega)
  have w2 : wrap64 (((n / 15 : Nat) : Int) + 1) = ((n / 15 + 1 : Nat) : Int) := by rw [w64 _ (by omega) (by omega)]; omega
  have hp : (2 : Nat) ^ (n % 15) ≤ 16384 := by
    have := Nat.pow_le_pow_right (show 0 < 2 by decide) (show n % 15 ≤ 14 by omega); exact this
  have hp0 := Nat.two_pow_pos (n % 15)
  have hs : shl .i64 1 ((n % 15 : Nat) : Int) = ((2 ^ (n % 15) : Nat) : Int) := by
    unfold shl
    rw [Int.toNat_natCast, Nat.min_eq_left (show n % 15 ≤ IntKind.i64.bits by show n % 15 ≤ 64; omega), Int.one_mul]
    have : (2 : Int) ^ (n % 15) = ((2 ^ (n % 15) : Nat) : Int) := by rw [Int.natCast_pow]; rfl
    rw [this, i64_w]
    exact w64 _ (by omega) (by omega)
  unfold manorboyref02_Two.f
  rw [t, m, w1, w2, if_pos (Int.natCast_nonneg _), Int.toNat_natCast, if_pos (by omega), Option.bind_some, if_pos (Int.natCast_nonneg _), if_pos (Int.natCast_nonneg _), if_pos (by rw [List.length_replicate]; omega), Int.toNat_natCast, hs]
  have hI : InB B15 ((List.replicate (n / 15 + 1) (0 : Int)).set (n / 15) ((2 ^ (n % 15) : Nat) : Int)) := (InB.replicate (by decide) _).set _ (by show _ ∧ _ < (32768 : Int); omega)
  have hv := val_set (B := B15) (List.replicate (n / 15 + 1) (0 : Int)) (n / 15) ((2 ^ (n % 15) : Nat) : Int) (by rw [List.length_replicate]; omega)
  have hz : (List.replicate (n / 15 + 1) (0 : Int)).getD (n / 15) 0 = 0 := by
    rw [List.getD_eq_getElem?_getD]
    rcases e : (List.replicate (n / 15 + 1) (0 : Int))[n / 15]? with _ | v
    · rfl
    · exact List.eq_of_mem_replicate (List.mem_of_getElem? e)
  rw [hz, val_replicate, Int.toNat_natCast, Int.toNat_zero, Nat.mul_zero, Nat.add_zero, Nat.zero_add] at hv
  have hv2 : val B15 ((List.replicate (n / 15 + 1) (0 : Int)).set (n / 15) ((2 ^ (n % 15) : Nat) : Int)) = 2 ^ n := by
    rw [hv, pow15, ← Nat.pow_add]; congr 1; omega
  have := dg_of_len C2 hI (n := n / 15) (by rw [List.length_set, List.length_replicate]) (by rw [hv]; exact Nat.le_mul_of_pos_right _ hp0)
  rw [hv2] at this
  rw [← this]
theorem two_Ev (n : Nat) (h : n ≤ 100000) : Ev (fun _ => manorboyref02_Two.f (n : Int)) (E (2 ^ n)) := by
  rw [two_ev n h]; exact Ev.now _
theorem mulE_l1 (B : Nat) (hB : B = B15) (a b : List Int) (ha : InB B a) (hb : InB B b) (i : Nat) (hi : i < a.length) (hal : a.length ≤ 9000) (hbl : b.length ≤ 9000) {r : List Int} (T : Nat) :
    ∀ (d j : Nat) (x5 : List Int) (c : Nat), b.length = j + d → x5.length = a.length + b.length → InB B x5 → c < B → Aside0 (val B x5 + B ^ (i + j) * (c + (rd a (i : Int)).toNat * val B (b.drop j)) = T) → (∀ q : Nat, i + b.length ≤ q → rd x5 (q : Int) = 0) →
    (∀ x6 : List Int, x6.length = a.length + b.length → InB B x6 → val B x6 = T → (∀ q : Nat, i + b.length < q → rd x6 (q : Int) = 0) → Ev (fun k => manorboyref02_Nat_Mul.l0 k a b x6 ((i + 1 : Nat) : Int)) r) →
    Ev (fun k => manorboyref02_Nat_Mul.l1 k a b x5 (i : Int) (c : Int) (j : Int)) r
  | 0, j, x5, c, hd, hl, hI, hc, hT, hz, hk => by
    have hj : j = b.length := by omega
    subst hj
    have w2 : Aside0 (wrap64 ((i : Int) + 1) = ((i + 1 : Nat) : Int)) := Aside0.mk (by rw [w64 _ (by omega) (by omega)]; omega)
    replace hT := hT.out
    rw [val_drop_ge (Nat.le_refl _), Nat.mul_zero, Nat.add_zero] at hT
    by_cases h0 : (c : Int) > 0
    · have hB' : B = 32768 := hB
      have w1 : Aside0 (wrap64 ((i : Int) + (b.length : Int)) = ((i + b.length : Nat) : Int)) := Aside0.mk (by rw [w64 _ (by omega) (by omega)]; omega)
      have w3 : Aside0 (wrap64 ((b.length : Int) + 1) = ((b.length + 1 : Nat) : Int)) := Aside0.mk (by rw [w64 _ (by omega) (by omega)]; omega)
      have hr : rd x5 ((i + b.length : Nat) : Int) = 0 := hz _ (Nat.le_refl _)
      have w4 : Aside0 (wrap64 ((c : Int) + 0) = (c : Int)) := Aside0.mk (by rw [Int.add_zero]; exact w64 _ (by omega) (by omega))
      have e1 : Aside0 (Int.tmod (c : Int) 32768 = (c : Int)) := Aside0.mk (by rw [Int.tmod_eq_emod_of_nonneg (by omega)]; omega)
      have e2 : Aside0 (wrap64 (Int.tdiv (c : Int) 32768) = 0) := Aside0.mk (by rw [Int.tdiv_eq_ediv_of_nonneg (by omega), show (c : Int) / 32768 = 0 by omega]; exact w64 0 (by omega) (by omega))
      have ht : (decide ((c : Int) > 0)) = true := decide_eq_true h0
      have hix : ((i + b.length : Nat) : Int) < (x5.length : Int) := by omega
      refine Ev.step (f := fun k => manorboyref02_Nat_Mul.j2 k a b x5 (i : Int) (c : Int) (b.length : Int) true) (fun k => by rw [manorboyref02_Nat_Mul.l1, if_neg (by omega), ht]) ?_
      refine Ev.step (f := fun k => manorboyref02_Nat_Mul.l1 k a b (x5.set (i + b.length) (c : Int)) (i : Int) 0 ((b.length + 1 : Nat) : Int)) (fun k => by rw [manorboyref02_Nat_Mul.j2, if_pos rfl, w1.out, if_pos (Int.natCast_nonneg _), if_pos hix, if_neg (by omega), hr, w4.out, e1.out, e2.out, w3.out, Int.toNat_natCast]) ?_
      refine Ev.step (f := fun k => manorboyref02_Nat_Mul.j2 k a b (x5.set (i + b.length) (c : Int)) (i : Int) 0 ((b.length + 1 : Nat) : Int) false) (fun k => by rw [manorboyref02_Nat_Mul.l1, if_neg (by omega)]; rfl) ?_
      refine Ev.step (f := fun k => manorboyref02_Nat_Mul.l0 k a b (x5.set (i + b.length) (c : Int)) ((i + 1 : Nat) : Int)) (fun k => by rw [manorboyref02_Nat_Mul.j2, if_neg (by decide), w2.out]) ?_
      refine hk _ (by rw [List.length_set]; exact hl) (hI.set _ (by omega)) ?_ ?_
      · have f := val_set (B := B) x5 (i + b.length) (c : Int) (by omega)
        rw [← rd_nat, hr, Int.toNat_natCast, Int.toNat_zero, Nat.mul_zero, Nat.add_zero] at f
        omega
      · intro q hq
        have := hz q (by omega)
        rw [rd_nat] at this ⊢
        rw [List.getD_eq_getElem?_getD, List.getElem?_set_ne (by omega), ← List.getD_eq_getElem?_getD]; exact this
    · have c0 : c = 0 := by omega
      subst c0
      refine Ev.step (f := fun k => manorboyref02_Nat_Mul.j2 k a b x5 (i : Int) ((0 : Nat) : Int) (b.length : Int) false) (fun k => by rw [manorboyref02_Nat_Mul.l1, if_neg (by omega)]; rfl) ?_
      refine Ev.step (f := fun k => manorboyref02_Nat_Mul.l0 k a b x5 ((i + 1 : Nat) : Int)) (fun k => by rw [manorboyref02_Nat_Mul.j2, if_neg (by decide), w2.out]) ?_
      exact hk _ hl hI (by simpa using hT) (fun q hq => hz q (by omega))
  | d + 1, j, x5, c, hd, hl, hI, hc, hT, hz, hk => by
    have hB' : B = 32768 := hB
    have w1 : Aside0 (wrap64 ((i : Int) + (j : Int)) = ((i + j : Nat) : Int)) := Aside0.mk (by rw [w64 _ (by omega) (by omega)]; omega)
    have w2 : Aside0 (wrap64 ((j : Int) + 1) = ((j + 1 : Nat) : Int)) := Aside0.mk (by rw [w64 _ (by omega) (by omega)]; omega)
    have hra := rd15 (hB ▸ ha) i
    have hrb := rd15 (hB ▸ hb) j
    have hr5 := rd15 (hB ▸ hI) (i + j)
    obtain ⟨x', hx⟩ : ∃ x' : Nat, rd a (i : Int) = x' := ⟨(rd a (i : Int)).toNat, by omega⟩
    obtain ⟨y, hy⟩ : ∃ y : Nat, rd b (j : Int) = y := ⟨(rd b (j : Int)).toNat, by omega⟩
    obtain ⟨o, ho⟩ : ∃ o : Nat, rd x5 ((i + j : Nat) : Int) = o := ⟨(rd x5 ((i + j : Nat) : Int)).toNat, by omega⟩
    have hm : x' * y ≤ 32767 * 32767 := Nat.mul_le_mul (by omega) (by omega)
    have u1 : Aside0 (wrap64 ((x' : Int) * (y : Int)) = ((x' * y : Nat) : Int)) := Aside0.mk (by rw [← Int.natCast_mul, w64 _ (by omega) (by omega)])
    have u2 : Aside0 (wrap64 ((c : Int) + (o : Int)) = ((c + o : Nat) : Int)) := Aside0.mk (by rw [w64 _ (by omega) (by omega)]; omega)
    have u3 : Aside0 (wrap64 (((c + o : Nat) : Int) + ((x' * y : Nat) : Int)) = ((c + o + x' * y : Nat) : Int)) := Aside0.mk (by rw [w64 _ (by omega) (by omega)]; omega)
    have e1 : Aside0 (Int.tmod ((c + o + x' * y : Nat) : Int) 32768 = (((c + o + x' * y) % 32768 : Nat) : Int)) := Aside0.mk (by rw [Int.tmod_eq_emod_of_nonneg (by omega)]; omega)
    have e2 : Aside0 (wrap64 (Int.tdiv ((c + o + x' * y : Nat) : Int) 32768) = (((c + o + x' * y) / 32768 : Nat) : Int)) := Aside0.mk (by rw [Int.tdiv_eq_ediv_of_nonneg (by omega), w64 _ (by omega) (by omega)]; omega)
    have hix : ((i + j : Nat) : Int) < (x5.length : Int) := by omega
    refine Ev.step (f := fun k => manorboyref02_Nat_Mul.j2 k a b x5 (i : Int) (c : Int) (j : Int) true) (fun k => by rw [manorboyref02_Nat_Mul.l1, if_pos (by omega)]) ?_
    refine Ev.step (f := fun k => manorboyref02_Nat_Mul.l1 k a b (x5.set (i + j) (((c + o + x' * y) % 32768 : Nat) : Int)) (i : Int) (((c + o + x' * y) / 32768 : Nat) : Int) ((j + 1 : Nat) : Int)) (fun k => by
      rw [manorboyref02_Nat_Mul.j2, if_pos rfl, w1.out, if_pos (Int.natCast_nonneg _), if_pos hix, if_pos (by omega), if_pos (Int.natCast_nonneg _), if_pos (by omega), if_pos (Int.natCast_nonneg _), hx, hy, ho, u1.out, u2.out, u3.out, e1.out, e2.out, w2.out, Int.toNat_natCast]) ?_
    refine mulE_l1 B hB a b ha hb i hi hal hbl T d (j + 1) _ _ (by omega) (by rw [List.length_set]; exact hl) (hI.set _ (by omega)) (by omega) (Aside0.mk ?_) ?_ hk
    · replace hT := hT.out
      have f := val_set (B := B) x5 (i + j) (((c + o + x' * y) % 32768 : Nat) : Int) (by omega)
      rw [← rd_nat, ho, Int.toNat_natCast, Int.toNat_natCast] at f
      have g := val_drop (B := B) b j
      rw [← rd_nat, hy, Int.toNat_natCast] at g
      rw [g, hx, Int.toNat_natCast] at hT
      rw [← hT, show i + (j + 1) = (i + j) + 1 by omega, Nat.pow_succ, Nat.mul_assoc, hx]
      generalize B ^ (i + j) = P at *
      generalize val B (b.drop (j + 1)) = R at *
      rw [Int.toNat_natCast]
      refine Nat.add_right_cancel (m := P * o) ?_
      rw [Nat.add_right_comm, f, Nat.add_assoc (val B x5), Nat.add_assoc (val B x5), ← Nat.mul_add, ← Nat.mul_add]
      congr 2
      rw [hB']
      have : x' * (y + 32768 * R) = x' * y + 32768 * (x' * R) := by rw [Nat.mul_add, ← Nat.mul_assoc, Nat.mul_comm x' 32768, Nat.mul_assoc]
      rw [this, Nat.mul_add]
      generalize x' * R = Z
      generalize x' * y = W at *
      clear hT f g hm u1 u2 u3 e1 e2
      omega
    · intro q hq
      have := hz q (by omega)
      rw [rd_nat] at this ⊢
      rw [List.getD_eq_getElem?_getD, List.getElem?_set_ne (by omega), ← List.getD_eq_getElem?_getD]; exact this
theorem mulE_l0 (B : Nat) (hB : B = B15) (a b : List Int) (ha : InB B a) (hb : InB B b) (hla : a.length ≤ 9000) (hlb : b.length ≤ 9000) : ∀ (d i : Nat) (x5 : List Int), a.length = i + d → x5.length = a.length + b.length → InB B x5 → Aside0 (val B x5 + B ^ i * (val B (a.drop i) * val B b) = val B a * val B b) → (∀ q : Nat, i + b.length ≤ q → rd x5 (q : Int) = 0) →
    Ev (fun k => manorboyref02_Nat_Mul.l0 k a b x5 (i : Int)) (E (val B a * val B b))
  | 0, i, x5, hd, hl, hI, hT, hz => by
    replace hT := hT.out
    refine Ev.step (f := fun k => (manorboyref02_cut.f k x5).bind fun t => some t) (fun k => by rw [manorboyref02_Nat_Mul.l0, if_neg (by omega)]) ?_
    subst hB
    refine some_back (cut_ev hI (by omega) ?_)
    rw [val_drop_ge (by omega)] at hT
    simpa using hT
  | d + 1, i, x5, hd, hl, hI, hT, hz => by
    have hB' : B = 32768 := hB
    refine Ev.step (f := fun k => manorboyref02_Nat_Mul.l1 k a b x5 (i : Int) ((0 : Nat) : Int) ((0 : Nat) : Int)) (fun k => by rw [manorboyref02_Nat_Mul.l0, if_pos (by omega)]; rfl) ?_
    have g := val_drop (B := B) a i
    rw [← rd_nat] at g
    refine mulE_l1 B hB a b ha hb i (by omega) (by omega) (by omega) (val B x5 + B ^ i * ((rd a i).toNat * val B b)) b.length 0 x5 0 (by omega) hl hI (by omega) (Aside0.mk (by rw [Nat.add_zero, Nat.zero_add, List.drop_zero])) hz ?_
    intro x6 hl6 hI6 hv6 hz6
    refine mulE_l0 B hB a b ha hb hla hlb d (i + 1) x6 (by omega) hl6 hI6 (Aside0.mk ?_) (fun q hq => hz6 q (by omega))
    replace hT := hT.out
    rw [hv6, ← hT, g, Nat.pow_succ, Nat.mul_assoc, Nat.add_assoc, ← Nat.mul_add]
    congr 2
    rw [Nat.add_mul, Nat.mul_assoc]
theorem mulE_ev {a b : Nat} (ha : Se a) (hb : Se b) : Ev (fun k => manorboyref02_Nat_Mul.f k (E a) (E b)) (E (a * b)) := by
  unfold Se at ha hb
  have w : wrap64 (((E a).length : Int) + ((E b).length : Int)) = (((E a).length + (E b).length : Nat) : Int) := by rw [w64 _ (by omega) (by omega)]; omega
  refine Ev.congr (f := fun k => manorboyref02_Nat_Mul.l0 k (E a) (E b) (List.replicate ((E a).length + (E b).length) 0) ((0 : Nat) : Int)) (fun k => by unfold manorboyref02_Nat_Mul.f; rw [w, if_pos (Int.natCast_nonneg _), Int.toNat_natCast, if_pos (by omega)]; rfl) ?_
  have := mulE_l0 B15 rfl (E a) (E b) (E_in a) (E_in b) (by omega) (by omega) (E a).length 0 (List.replicate ((E a).length + (E b).length) 0) (by omega) (by simp) (InB.replicate (by decide) _) (Aside0.mk (by rw [val_replicate, Nat.pow_zero, List.drop_zero]; omega)) (fun q _ => by
    rw [rd_nat, List.getD_eq_getElem?_getD]
    rcases e : (List.replicate ((E a).length + (E b).length) (0 : Int))[q]? with _ | v
    · rfl
    · exact List.eq_of_mem_replicate (List.mem_of_getElem? e))
  rw [E_val, E_val] at this
  exact this
end Go.Proofs.YteigbokklclmbaaGreatDoor.M
end
section
namespace Go.Proofs.YteigbokklclmbaaGreatDoor.M
/-- The exponent (above the least one) and the mantissa of the real with an index. -/
def sh (i : Nat) : Nat := i / 8388608 - 1
def man (i : Nat) : Nat := i - sh i * 8388608
/-- The real with an index, in units of 2^-150. -/
def G (i : Nat) : Nat := man i * 2 ^ sh i
/-- The middle of two neighbours, in units of 2^-151. -/
def H (i : Nat) : Nat := G i + G (i + 1)
theorem G_succ (i : Nat) : G (i + 1) = G i + 2 ^ sh i := by
  have hs : (sh (i + 1) = sh i ∧ man (i + 1) = man i + 1) ∨ (sh (i + 1) = sh i + 1 ∧ man i = 16777215 ∧ man (i + 1) = 8388608) := by
    unfold man sh; omega
  unfold G
  rcases hs with ⟨h1, h2⟩ | ⟨h1, h2, h3⟩
  · rw [h1, h2, Nat.add_mul, Nat.one_mul]
  · rw [h1, h2, h3, Nat.pow_succ]; omega
theorem G_zero : G 0 = 0 := by unfold G man sh; rfl
theorem G_lt_succ (i : Nat) : G i < G (i + 1) := by
  rw [G_succ]; have := Nat.two_pow_pos (sh i); omega
theorem G_lt {i j : Nat} (h : i < j) : G i < G j := by
  induction h with
  | refl => exact G_lt_succ i
  | step _ ih => exact Nat.lt_trans ih (G_lt_succ _)
theorem G_le {i j : Nat} (h : i ≤ j) : G i ≤ G j := by
  rcases Nat.lt_or_ge i j with h' | h'
  · exact Nat.le_of_lt (G_lt h')
  · rw [Nat.le_antisymm h h']; exact Nat.le_refl _
theorem H_lt {i j : Nat} (h : i < j) : H i < H j := by
  unfold H; have h1 := G_lt h; have h2 := G_lt (show i + 1 < j + 1 by omega); omega
theorem H_le {i j : Nat} (h : i ≤ j) : H i ≤ H j := by
  rcases Nat.lt_or_ge i j with h' | h'
  · exact Nat.le_of_lt (H_lt h')
  · rw [Nat.le_antisymm h h']; exact Nat.le_refl _
theorem H_inj {i j : Nat} (h : H i = H j) : i = j := by
  rcases Nat.lt_trichotomy i j with h' | h' | h'
  · have := H_lt h'; omega
  · exact h'
  · have := H_lt h'; omega
theorem H_eq (i : Nat) : H i = (2 * man i + 1) * 2 ^ sh i := by
  unfold H; rw [G_succ]; unfold G
  rw [Nat.add_mul, Nat.one_mul, Nat.mul_assoc]; omega
theorem H_pos (i : Nat) : 0 < H i := by
  unfold H; have := G_lt_succ i; omega
/-- A mantissa and an exponent, also where the mantissa is one too great. -/
theorem G_at (m u : Nat) (hm : m ≤ 16777216) (hu : u = 0 ∨ 8388608 ≤ m) : G (m + u * 8388608) = m * 2 ^ u := by
  unfold G
  rcases Nat.lt_or_ge m 16777216 with h | h
  · have h1 : sh (m + u * 8388608) = u := by unfold sh; omega
    have h2 : man (m + u * 8388608) = m := by unfold man; rw [h1]; omega
    rw [h1, h2]
  · have e : m = 16777216 := by omega
    subst e
    have h1 : sh (16777216 + u * 8388608) = u + 1 := by unfold sh; omega
    have h2 : man (16777216 + u * 8388608) = 8388608 := by unfold man; rw [h1]; omega
    rw [h1, h2, Nat.pow_succ]; omega
/-- I is the index of the rounded value of N / D, which is in units of 2^-150: to the nearest, on the middle to the even one. -/
def Rd (N D I : Nat) : Prop := (I = 0 ∨ (H (I - 1) * D ≤ 2 * N ∧ (H (I - 1) * D = 2 * N → I % 2 = 0))) ∧ 2 * N ≤ H I * D ∧ (2 * N = H I * D → I % 2 = 0)
theorem Rd.mono {N D I N' D' J : Nat} (hD : 0 < D) (hD' : 0 < D') (h : Rd N D I) (h' : Rd N' D' J) (hle : N * D' ≤ N' * D) : I ≤ J := by
  rcases Nat.lt_or_ge J I with hlt | hge
  · exfalso
    obtain ⟨h1, _⟩ := h
    obtain ⟨_, h2, h3⟩ := h'
    rcases h1 with h1 | ⟨h1, h4⟩
    · omega
    · have hH : H J ≤ H (I - 1) := H_le (by omega)
      -- H (I-1) * D * D' ≤ 2 N D' ≤ 2 N' D ≤ H J * D' * D
      have a1 : H (I - 1) * D * D' ≤ 2 * N * D' := Nat.mul_le_mul_right _ h1
      have a2 : 2 * N' * D ≤ H J * D' * D := Nat.mul_le_mul_right _ h2
      have a3 : H J * D' * D ≤ H (I - 1) * D' * D := Nat.mul_le_mul_right _ (Nat.mul_le_mul_right _ hH)
      have e1 : H (I - 1) * D' * D = H (I - 1) * D * D' := by rw [Nat.mul_assoc, Nat.mul_comm D' D, ← Nat.mul_assoc]
      have e2 : 2 * N * D' = 2 * (N * D') := Nat.mul_assoc _ _ _
      have e3 : 2 * N' * D = 2 * (N' * D) := Nat.mul_assoc _ _ _
      have b1 : H (I - 1) * D * D' = 2 * N * D' := by omega
      have b2 : 2 * N' * D = H J * D' * D := by omega
      have b3 : H J * D' * D = H (I - 1) * D' * D := by omega
      have c1 := Nat.eq_of_mul_eq_mul_right hD' b1
      have c2 := Nat.eq_of_mul_eq_mul_right hD b2
      have c3 := Nat.eq_of_mul_eq_mul_right hD' (Nat.eq_of_mul_eq_mul_right hD b3)
      have := h4 c1
      have := h3 c2
      have := H_inj c3
      omega
  · exact hge
theorem Rd.only {N D I N' D' J : Nat} (hD : 0 < D) (hD' : 0 < D') (h : Rd N D I) (h' : Rd N' D' J) (he : N * D' = N' * D) : I = J :=
  Nat.le_antisymm (h.mono hD hD' h' (Nat.le_of_eq he)) (h'.mono hD' hD h (Nat.le_of_eq he.symm))
theorem Rd.exact (I D : Nat) (hD : 0 < D) : Rd (G I * D) D I := by
  have h1 : 2 * (G I * D) = 2 * G I * D := (Nat.mul_assoc _ _ _).symm
  refine ⟨?_, ?_, ?_⟩
  · rcases Nat.eq_zero_or_pos I with h | h
    · exact .inl h
    · right
      have : H (I - 1) < 2 * G I := by
        unfold H; rw [show I - 1 + 1 = I by omega]; have := G_lt (show I - 1 < I by omega); omega
      have := Nat.mul_lt_mul_of_pos_right this hD
      rw [h1]
      exact ⟨Nat.le_of_lt this, fun e => by omega⟩
  · rw [h1]; refine Nat.mul_le_mul_right _ ?_
    unfold H; have := G_lt_succ I; omega
  · intro e
    rw [h1] at e
    have := Nat.eq_of_mul_eq_mul_right hD e
    unfold H at this; have := G_lt_succ I; omega
/-- The same fraction, the same index. -/
theorem Rd.congr {N D I N' D' : Nat} (hD : 0 < D) (hD' : 0 < D') (h : Rd N D I) (he : N * D' = N' * D) : Rd N' D' I := by
  have key : ∀ X : Nat, (X * D ≤ 2 * N ↔ X * D' ≤ 2 * N') ∧ (X * D = 2 * N ↔ X * D' = 2 * N') ∧ (2 * N ≤ X * D ↔ 2 * N' ≤ X * D') := by
    intro X
    have e1 : X * D * D' = X * D' * D := by rw [Nat.mul_assoc, Nat.mul_comm D D', ← Nat.mul_assoc]
    have e2 : 2 * N * D' = 2 * N' * D := by rw [Nat.mul_assoc, he, ← Nat.mul_assoc]
    refine ⟨?_, ?_, ?_⟩
    · rw [← Nat.mul_le_mul_right_iff hD', e1, e2, Nat.mul_le_mul_right_iff hD]
    · constructor
      · intro h; exact Nat.eq_of_mul_eq_mul_right hD (by rw [← e1, ← e2, h])
      · intro h; exact Nat.eq_of_mul_eq_mul_right hD' (by rw [e1, e2, h])
    · rw [← Nat.mul_le_mul_right_iff hD', e1, e2, Nat.mul_le_mul_right_iff hD]
  obtain ⟨h1, h2, h3⟩ := h
  refine ⟨?_, (key _).2.2.1 h2, fun e => h3 ((key _).2.1.2 e.symm).symm⟩
  rcases h1 with h1 | ⟨h1, h4⟩
  · exact .inl h1
  · exact .inr ⟨(key _).1.1 h1, fun e => h4 ((key _).2.1.2 e)⟩
/-- What the rounding by hand comes to: of n / d in units of 2^(u - 150), with a quotient of at most 24 bits, is rounded so. -/
theorem Rd.of_quo (n d u : Nat) (hd : 0 < d) (hq : n / d < 16777216) (hu : u = 0 ∨ 8388608 ≤ n / d) :
    Rd (n * 2 ^ u) d ((n / d + if d < 2 * (n % d) ∨ (d = 2 * (n % d) ∧ n / d % 2 = 1) then 1 else 0) + u * 8388608) := by
  have hn := Nat.div_add_mod n d
  have hr := Nat.mod_lt n hd
  generalize n / d = m at *
  generalize n % d = r at *
  have hP := Nat.two_pow_pos u
  have hG := G_at m u (by omega) hu
  have hG1 : G (m + u * 8388608 + 1) = (m + 1) * 2 ^ u := by
    have := G_at (m + 1) u (by omega) (by omega)
    rw [← this]; congr 1; omega
  have hH : H (m + u * 8388608) = (2 * m + 1) * 2 ^ u := by
    unfold H; rw [hG, hG1, ← Nat.add_mul]; congr 1; omega
  have hpar : (m + u * 8388608) % 2 = m % 2 := by omega
  have e1 : 2 * (n * 2 ^ u) = 2 * n * 2 ^ u := (Nat.mul_assoc _ _ _).symm
  have e2 : (2 * m + 1) * 2 ^ u * d = (2 * m + 1) * d * 2 ^ u := by rw [Nat.mul_assoc, Nat.mul_comm (2 ^ u) d, ← Nat.mul_assoc]
  have e3 : (2 * m + 1) * d = 2 * (d * m) + d := by rw [Nat.add_mul, Nat.one_mul, Nat.mul_assoc, Nat.mul_comm m d]
  have hlow : ∀ J, J = m + u * 8388608 → J = 0 ∨ (H (J - 1) * d ≤ 2 * (n * 2 ^ u) ∧ (H (J - 1) * d = 2 * (n * 2 ^ u) → J % 2 = 0)) := by
    intro J hJ
    rcases Nat.eq_zero_or_pos J with h | h
    · exact .inl h
    · right
      have h1 : H (J - 1) < 2 * (m * 2 ^ u) := by
        unfold H; rw [show J - 1 + 1 = J by omega]
        have h2 := G_lt (show J - 1 < J by omega)
        have h3 : G J = m * 2 ^ u := by rw [hJ, hG]
        omega
      have h2 := Nat.mul_lt_mul_of_pos_right h1 hd
      have h3 : 2 * (m * 2 ^ u) * d ≤ 2 * (n * 2 ^ u) := by
        rw [Nat.mul_assoc]
        refine Nat.mul_le_mul_left _ ?_
        rw [Nat.mul_assoc, Nat.mul_comm (2 ^ u) d, ← Nat.mul_assoc]
        refine Nat.mul_le_mul_right _ ?_
        rw [Nat.mul_comm m d]; omega
      exact ⟨by omega, fun e => by omega⟩
  split
  · rename_i hc
    have hI : m + 1 + u * 8388608 = m + u * 8388608 + 1 := by omega
    rw [hI]
    refine ⟨.inr ?_, ?_, ?_⟩
    · rw [Nat.add_sub_cancel, hH, e1, e2]
      constructor
      · refine Nat.mul_le_mul_right _ ?_
        omega
      · intro e
        have := Nat.eq_of_mul_eq_mul_right hP e
        omega
    · have : 2 * ((m + 1) * 2 ^ u) ≤ H (m + u * 8388608 + 1) := by
        unfold H; rw [hG1]; have := G_lt_succ (m + u * 8388608 + 1); rw [hG1] at this; omega
      have h2 := Nat.mul_le_mul_right d this
      have h3 : 2 * (n * 2 ^ u) ≤ 2 * ((m + 1) * 2 ^ u) * d := by
        rw [Nat.mul_assoc]
        refine Nat.mul_le_mul_left _ ?_
        rw [Nat.mul_assoc, Nat.mul_comm (2 ^ u) d, ← Nat.mul_assoc]
        refine Nat.mul_le_mul_right _ ?_
        rw [Nat.add_mul, Nat.one_mul, Nat.mul_comm m d]; omega
      omega
    · intro e
      exfalso
      have : 2 * ((m + 1) * 2 ^ u) < H (m + u * 8388608 + 1) := by
        unfold H; rw [hG1]; have := G_lt_succ (m + u * 8388608 + 1); rw [hG1] at this; omega
      have h2 := Nat.mul_lt_mul_of_pos_right this hd
      have h3 : 2 * (n * 2 ^ u) ≤ 2 * ((m + 1) * 2 ^ u) * d := by
        rw [Nat.mul_assoc]
        refine Nat.mul_le_mul_left _ ?_
        rw [Nat.mul_assoc, Nat.mul_comm (2 ^ u) d, ← Nat.mul_assoc]
        refine Nat.mul_le_mul_right _ ?_
        rw [Nat.add_mul, Nat.one_mul, Nat.mul_comm m d]; omega
      omega
  · rename_i hc
    rw [Nat.add_zero]
    refine ⟨hlow _ rfl, ?_, ?_⟩
    · rw [hH, e1, e2]
      refine Nat.mul_le_mul_right _ ?_
      omega
    · rw [hH, e1, e2]
      intro e
      have := Nat.eq_of_mul_eq_mul_right hP e
      omega
/-- A fraction num * 2^e / den, as a fraction in units of 2^x. -/
def nx (e x : Int) (num : Nat) : Nat := if x ≤ e then num * 2 ^ (e - x).toNat else num
def dx (e x : Int) (den : Nat) : Nat := if x ≤ e then den else den * 2 ^ (x - e).toNat
theorem dx_pos {e x : Int} {den : Nat} (h : 0 < den) : 0 < dx e x den := by
  unfold dx; split
  · exact h
  · exact Nat.mul_pos h (Nat.two_pow_pos _)
theorem frac_step (e x : Int) (num den : Nat) : nx e x num * dx e (x + 1) den = 2 * (nx e (x + 1) num * dx e x den) := by
  unfold nx dx
  rcases Int.lt_trichotomy x e with h | h | h
  · rw [if_pos (by omega), if_pos (by omega), if_pos (by omega), if_pos (by omega), show (e - x).toNat = (e - (x + 1)).toNat + 1 by omega, Nat.pow_succ]
    rw [← Nat.mul_assoc, Nat.mul_comm (num * 2 ^ _) 2, Nat.mul_assoc 2]
  · subst h
    rw [if_pos (by omega), if_neg (by omega), if_neg (by omega), if_pos (by omega), show (x - x).toNat = 0 by omega, show (x + 1 - x).toNat = 1 by omega, Nat.pow_zero, Nat.mul_one, Nat.pow_one]
    rw [← Nat.mul_assoc, Nat.mul_comm _ 2]
  · rw [if_neg (by omega), if_neg (by omega), if_neg (by omega), if_neg (by omega), show (x + 1 - e).toNat = (x - e).toNat + 1 by omega, Nat.pow_succ]
    rw [← Nat.mul_assoc, ← Nat.mul_assoc, Nat.mul_comm _ 2, Nat.mul_assoc]
theorem frac_at (e : Int) (num den : Nat) (hden : 0 < den) : ∀ u : Nat, nx e (-150 + u) num * 2 ^ u * dx e (-150) den = nx e (-150) num * dx e (-150 + u) den
  | 0 => by simp
  | u + 1 => by
    have ih := frac_at e num den hden u
    have hs := frac_step e (-150 + u) num den
    have hx : (-150 + (u : Int) + 1) = (-150 + ((u + 1 : Nat) : Int)) := by omega
    rw [hx] at hs
    have hp : 0 < dx e (-150 + u) den := dx_pos hden
    refine Nat.eq_of_mul_eq_mul_right hp ?_
    -- n' * 2^(u+1) * D * d = N * d' * d ; n * d' = 2 n' d ; n 2^u D = N d
    generalize nx e (-150 + u) num = n at *
    generalize nx e (-150 + ((u + 1 : Nat) : Int)) num = n' at *
    generalize dx e (-150 + u) den = d at *
    generalize dx e (-150 + ((u + 1 : Nat) : Int)) den = d' at *
    generalize nx e (-150) num = N at *
    generalize dx e (-150) den = D at *
    have h1 : n' * 2 ^ (u + 1) * D * d = 2 * (n' * d) * (2 ^ u * D) := by
      rw [Nat.pow_succ]; ac_rfl
    rw [h1, ← hs]
    have h2 : n * d' * (2 ^ u * D) = n * 2 ^ u * D * d' := by ac_rfl
    rw [h2, ih]; ac_rfl
end Go.Proofs.YteigbokklclmbaaGreatDoor.M
end
section
namespace Go.Proofs.YteigbokklclmbaaGreatDoor.M
open Go Go.RowKit Go.Proofs.YteigbokklclmbaaGreatDoor.Given Go.Proofs.YteigbokklclmbaaGreatDoorW.PrintWords Go.Proofs.YteigbokklclmbaaGreatDoorW.PrintLast Go.Proofs.YteigbokklclmbaaGreatDoorW.PrintMore Go.Proofs.YteigbokklclmbaaGreatDoor.Z
/-- The real with an index, and what rounding to it answers (1000 in the exponent's place: it panics). -/
def atI (I : Nat) : Int × Int := if I = 0 then (0, 0) else ((man I : Int), (sh I : Int) - 150)
def rres (I : Nat) : Int × Int := if 2533359615 < I then (0, 1000) else atI I
theorem rounded_j4 (x m : Int) : Ev (fun k => real_rounded.j4 k x m) (if x > 150 then (0, 1000) else if m = 0 then (0, 0) else (m, x)) := by
  refine Ev.step (f := fun _ => some (if x > 150 then (0, 1000) else if m = 0 then (0, 0) else (m, x))) (fun k => ?_) (Ev.now _)
  rw [real_rounded.j4]
  split
  · rfl
  · split <;> rfl
theorem rounded_j3 (u m : Nat) (hu : u ≤ 60000) (hm : m ≤ 16777216) (hc : u = 0 ∨ 8388608 ≤ m) : Ev (fun k => real_rounded.j3 k (-150 + (u : Int)) (m : Int)) (rres (m + u * 8388608)) := by
  have w : wrap64 (-150 + (u : Int) + 1) = -150 + (u : Int) + 1 := w64 _ (by omega) (by omega)
  by_cases h : (m : Int) = 16777216
  · refine Ev.step (f := fun k => real_rounded.j4 k (-150 + (u : Int) + 1) 8388608) (fun k => by rw [real_rounded.j3, if_pos h, w]) ?_
    have := rounded_j4 (-150 + (u : Int) + 1) 8388608
    have e : (if -150 + (u : Int) + 1 > 150 then ((0 : Int), (1000 : Int)) else if (8388608 : Int) = 0 then (0, 0) else (8388608, -150 + (u : Int) + 1)) = rres (m + u * 8388608) := by
      unfold rres atI
      have hs : sh (m + u * 8388608) = u + 1 := by unfold sh; omega
      have hmn : man (m + u * 8388608) = 8388608 := by unfold man; rw [hs]; omega
      rw [hs, hmn]
      by_cases hg : -150 + (u : Int) + 1 > 150
      · rw [if_pos hg, if_pos (by omega)]
      · rw [if_neg hg, if_neg (by omega), if_neg (by omega), if_neg (by omega)]
        congr 1; omega
    rw [← e]; exact this
  · refine Ev.step (f := fun k => real_rounded.j4 k (-150 + (u : Int)) (m : Int)) (fun k => by rw [real_rounded.j3, if_neg h]) ?_
    have := rounded_j4 (-150 + (u : Int)) (m : Int)
    have e : (if -150 + (u : Int) > 150 then ((0 : Int), (1000 : Int)) else if (m : Int) = 0 then (0, 0) else ((m : Int), -150 + (u : Int))) = rres (m + u * 8388608) := by
      unfold rres atI
      have hs : sh (m + u * 8388608) = u := by unfold sh; omega
      have hmn : man (m + u * 8388608) = m := by unfold man; rw [hs]; omega
      rw [hs, hmn]
      by_cases hg : -150 + (u : Int) > 150
      · rw [if_pos hg, if_pos (by omega)]
      · by_cases hz : (m : Int) = 0
        · rw [if_neg hg, if_pos hz, if_neg (by omega), if_pos (by omega)]
        · rw [if_neg hg, if_neg hz, if_neg (by omega), if_neg (by omega)]
          congr 1 <;> omega
    rw [← e]; exact this
theorem rounded_j2 (u m : Nat) (b : Bool) (hu : u ≤ 60000) (hm : m < 16777216) (hc : u = 0 ∨ 8388608 ≤ m) : Ev (fun k => real_rounded.j2 k (-150 + (u : Int)) (m : Int) b) (rres ((m + if b = true then 1 else 0) + u * 8388608)) := by
  by_cases h : b = true
  · have w : wrap64 ((m : Int) + 1) = ((m + 1 : Nat) : Int) := by rw [w64 _ (by omega) (by omega)]; omega
    rw [if_pos h]
    refine Ev.step (fun k => by rw [real_rounded.j2, if_pos h, w]) (rounded_j3 u (m + 1) hu (by omega) (by omega))
  · rw [if_neg h, Nat.add_zero]
    exact Ev.step (fun k => by rw [real_rounded.j2, if_neg h]) (rounded_j3 u m hu (by omega) hc)
/-- Where the quotient has at most 24 bits. -/
theorem rounded_stop (num den n d u : Nat) (e : Int) (hd : 0 < d) (hn : bl n ≤ 30000) (hdd : bl d ≤ 29990) (hu : u ≤ 60000) (hq : n / d < 16777216) (hc : u = 0 ∨ 8388608 ≤ n / d) :
    Ev (fun k => real_rounded.j1 k (D num) e (D den) (-150 + (u : Int)) (D n) (D d)) (rres ((n / d + if d < 2 * (n % d) ∨ (d = 2 * (n % d) ∧ n / d % 2 = 1) then 1 else 0) + u * 8388608)) := by
  have hr := Nat.mod_lt n hd
  have b1 := bl_mono (Nat.le_of_lt hr)
  have b2 := bl_shift (n % d) 1
  rw [Nat.pow_one] at b2
  have b3 : bl (n / d) ≤ 24 := bl_le_iff.2 hq
  have hdiv := div_ev hd hn (show bl d ≤ 30000 by omega)
  clear hn
  generalize n / d = q at *
  generalize n % d = r at *
  have sq : Sm q := Sm.bl (by omega)
  have sr : Sm (r) := Sm.bl (by omega)
  have sr2 : Sm (r * 2) := Sm.bl (by omega)
  have sd : Sm d := Sm.bl (by omega)
  have hsh : Ev (fun k => real_nat_shl.f k (D (r)) 1) (D (r * 2)) := by
    have := shl_ev sr 1 (by decide)
    rw [Nat.pow_one] at this; exact this
  have hbl : ¬ ((bl (q) : Int) > 24) := by
    omega
  have w : wrap64 ((q : Nat) : Int) = ((q : Nat) : Int) := w64 _ (by omega) (by omega)
  refine Ev.step (fun k => by rw [real_rounded.j1]) ?_
  refine Ev.bind hdiv (Ev.bind (bits_ev sq) ?_)
  dsimp only
  refine Ev.congr (f := fun k => (real_nat_small.f k (D (q))).bind fun t195 => (real_nat_shl.f k (D (r)) 1).bind fun t196 => (real_nat_cmp.f k t196 (D d)).bind fun t199 => if t199 > 0 then real_rounded.j2 k (-150 + (u : Int)) (wrap64 t195) true else if t199 = 0 then real_rounded.j2 k (-150 + (u : Int)) (wrap64 t195) ((Int.tmod (wrap64 t195) 2) == 1) else real_rounded.j2 k (-150 + (u : Int)) (wrap64 t195) false) (fun k => by rw [if_neg hbl]) ?_
  refine Ev.bind (small_ev (by omega)) (Ev.bind hsh (Ev.bind (cmp_ev sr2 sd) ?_))
  rw [w]
  by_cases h1 : d < 2 * (r)
  · have e1 : cmpN (r * 2) d = 1 := by unfold cmpN; rw [if_neg (by omega), if_neg (by omega)]
    rw [e1, if_pos (Or.inl h1)]
    have := rounded_j2 u (q) true hu hq hc
    rw [if_pos rfl] at this
    exact Ev.congr (fun k => by rw [if_pos (by omega)]) this
  · by_cases h2 : d = 2 * (r)
    · have e1 : cmpN (r * 2) d = 0 := by unfold cmpN; rw [if_neg (by omega), if_pos (by omega)]
      rw [e1]
      have ht : (Int.tmod ((q : Nat) : Int) 2 == 1) = decide (q % 2 = 1) := by
        rw [Int.tmod_eq_emod_of_nonneg (by omega)]
        by_cases h : q % 2 = 1
        · rw [decide_eq_true h, beq_iff_eq]; omega
        · rw [decide_eq_false h, beq_eq_false_iff_ne]; omega
      have := rounded_j2 u (q) (decide (q % 2 = 1)) hu hq hc
      have e2 : (if decide (q % 2 = 1) = true then 1 else 0) = (if d < 2 * (r) ∨ (d = 2 * (r) ∧ q % 2 = 1) then 1 else 0) := by
        by_cases h : q % 2 = 1
        · rw [if_pos (by simpa using h), if_pos (Or.inr ⟨h2, h⟩)]
        · rw [if_neg (by simpa using h), if_neg (by rintro (h' | h') <;> omega)]
      rw [e2] at this
      exact Ev.congr (fun k => by rw [if_neg (by omega), if_pos rfl, ht]) this
    · have e1 : cmpN (r * 2) d = -1 := by unfold cmpN; rw [if_pos (by omega)]
      rw [e1, if_neg (by rintro (h' | h') <;> omega)]
      have := rounded_j2 u (q) false hu hq hc
      rw [if_neg (by decide)] at this
      exact Ev.congr (fun k => by rw [if_neg (by omega), if_neg (by omega)]) this
/-- The state of a round: how great the fraction's parts are, and how the shifts come to them. -/
theorem go_ (num den : Nat) (e : Int) (hnum : bl num ≤ 10000) (hden : 0 < den) (hden2 : bl den ≤ 10000) (he0 : -10000 ≤ e) (he1 : e ≤ 10000) (u : Nat) (hx : (-150 + (u : Int)) - e ≤ 10100) :
    bl (nx e (-150 + u) num) ≤ 30000 ∧ bl (dx e (-150 + u) den) ≤ 29990 ∧ ∀ r, Ev (fun k => real_rounded.j1 k (D num) e (D den) (-150 + (u : Int)) (D (nx e (-150 + u) num)) (D (dx e (-150 + u) den))) r → Ev (fun k => real_rounded.l0 k (D num) e (D den) (-150 + (u : Int))) r := by
  have sn : Sm num := Sm.bl (by omega)
  have sd : Sm den := Sm.bl (by omega)
  unfold nx dx
  by_cases h : -150 + (u : Int) ≤ e
  · rw [if_pos h, if_pos h]
    refine ⟨?_, by omega, fun r hr => ?_⟩
    · have := bl_shift num (e - (-150 + (u : Int))).toNat; omega
    · have w : wrap64 (e - (-150 + (u : Int))) = ((e - (-150 + (u : Int))).toNat : Int) := by rw [w64 _ (by omega) (by omega)]; omega
      refine Ev.step (f := fun k => (real_nat_shl.f k (D num) ((e - (-150 + (u : Int))).toNat : Int)).bind fun t => real_rounded.j1 k (D num) e (D den) (-150 + (u : Int)) t (D den)) (fun k => by rw [real_rounded.l0, if_pos (by omega), w]) ?_
      exact Ev.bind (shl_ev sn _ (by omega)) hr
  · rw [if_neg h, if_neg h]
    refine ⟨by omega, ?_, fun r hr => ?_⟩
    · have := bl_shift den ((-150 + (u : Int)) - e).toNat; omega
    · have w : wrap64 ((-150 + (u : Int)) - e) = (((-150 + (u : Int)) - e).toNat : Int) := by rw [w64 _ (by omega) (by omega)]; omega
      refine Ev.step (f := fun k => (real_nat_shl.f k (D den) (((-150 + (u : Int)) - e).toNat : Int)).bind fun t => real_rounded.j1 k (D num) e (D den) (-150 + (u : Int)) (D num) t) (fun k => by rw [real_rounded.l0, if_neg (by omega), w]) ?_
      exact Ev.bind (shl_ev sd _ (by omega)) hr
theorem stop_ (num den : Nat) (e : Int) (hnum : bl num ≤ 10000) (hden : 0 < den) (hden2 : bl den ≤ 10000) (he0 : -10000 ≤ e) (he1 : e ≤ 10000) (u : Nat) (hx : (-150 + (u : Int)) - e ≤ 10100)
    (hq : nx e (-150 + u) num / dx e (-150 + u) den < 16777216) (hge : u = 0 ∨ 8388608 * dx e (-150 + u) den ≤ nx e (-150 + u) num) :
    ∃ I, Rd (nx e (-150) num) (dx e (-150) den) I ∧ Ev (fun k => real_rounded.l0 k (D num) e (D den) (-150 + (u : Int))) (rres I) := by
  have hdp : 0 < dx e (-150 + u) den := dx_pos hden
  have hgo := go_ num den e hnum hden hden2 he0 he1 u hx
  have hc : u = 0 ∨ 8388608 ≤ nx e (-150 + u) num / dx e (-150 + u) den := by
    rcases hge with h | h
    · exact .inl h
    · right; rw [Nat.le_div_iff_mul_le hdp]; exact h
  refine ⟨_, Rd.congr hdp (dx_pos hden) (Rd.of_quo _ _ u hdp hq hc) (frac_at e num den hden u), hgo.2.2 _ ?_⟩
  exact rounded_stop num den _ _ u e hdp hgo.1 hgo.2.1 (by omega) hq hc
theorem rounded_l0 (num den : Nat) (e : Int) (hnum : bl num ≤ 10000) (hden : 0 < den) (hden2 : bl den ≤ 10000) (he0 : -10000 ≤ e) (he1 : e ≤ 10000) :
    ∀ (j u : Nat), (-150 + (u : Int)) - e + j ≤ 10100 → nx e (-150 + u) num < 2 ^ (24 + j) * dx e (-150 + u) den → (u = 0 ∨ 8388608 * dx e (-150 + u) den ≤ nx e (-150 + u) num) →
    ∃ I, Rd (nx e (-150) num) (dx e (-150) den) I ∧ Ev (fun k => real_rounded.l0 k (D num) e (D den) (-150 + (u : Int))) (rres I) := by
  intro j
  induction j with
  | zero => 
    intro u hx hlt hge
    rw [show (2 : Nat) ^ (24 + 0) = 16777216 by decide] at hlt
    exact stop_ num den e hnum hden hden2 he0 he1 u (by omega) (by rw [Nat.div_lt_iff_lt_mul (dx_pos hden)]; exact hlt) hge
  | succ j ih =>
    intro u hx hlt hge
    have hdp : 0 < dx e (-150 + u) den := dx_pos hden
    by_cases hq : nx e (-150 + u) num / dx e (-150 + u) den < 16777216
    · exact stop_ num den e hnum hden hden2 he0 he1 u (by omega) hq hge
    · have hq' : 16777216 * dx e (-150 + u) den ≤ nx e (-150 + u) num := by
        rw [← Nat.le_div_iff_mul_le hdp]; omega
      have hs := frac_step e (-150 + u) num den
      have hxx : (-150 + (u : Int) + 1) = (-150 + ((u + 1 : Nat) : Int)) := by omega
      rw [hxx] at hs
      have hdp' : 0 < dx e (-150 + ((u + 1 : Nat) : Int)) den := dx_pos hden
      have up : nx e (-150 + ((u + 1 : Nat) : Int)) num < 2 ^ (24 + j) * dx e (-150 + ((u + 1 : Nat) : Int)) den := by
        have h1 := Nat.mul_lt_mul_of_pos_right hlt hdp'
        rw [hs, show 24 + (j + 1) = (24 + j) + 1 from rfl, Nat.pow_succ] at h1
        clear hlt hge hq hq' hs ih
        generalize (2 : Nat) ^ (24 + j) = P at *
        generalize nx e (-150 + ((u + 1 : Nat) : Int)) num = n' at *
        generalize dx e (-150 + ((u + 1 : Nat) : Int)) den = d' at *
        generalize dx e (-150 + (u : Int)) den = d at *
        have h2 : P * 2 * d * d' = 2 * (P * d' * d) := by ac_rfl
        rw [h2] at h1
        exact Nat.lt_of_mul_lt_mul_right (a := d) (Nat.lt_of_mul_lt_mul_left (a := 2) h1)
      have low : 8388608 * dx e (-150 + ((u + 1 : Nat) : Int)) den ≤ nx e (-150 + ((u + 1 : Nat) : Int)) num := by
        have h1 := Nat.mul_le_mul_right (dx e (-150 + ((u + 1 : Nat) : Int)) den) hq'
        rw [hs] at h1
        clear hlt hge hq hq' hs ih up
        generalize nx e (-150 + ((u + 1 : Nat) : Int)) num = n' at *
        generalize dx e (-150 + ((u + 1 : Nat) : Int)) den = d' at *
        generalize dx e (-150 + (u : Int)) den = d at *
        have h2 : 16777216 * d * d' = 2 * (8388608 * d' * d) := by
          rw [show (16777216 : Nat) = 2 * 8388608 by decide]; ac_rfl
        rw [h2] at h1
        exact Nat.le_of_mul_le_mul_right (Nat.le_of_mul_le_mul_left h1 (by decide)) hdp
      obtain ⟨I, hR, hE⟩ := ih (u + 1) (by omega) up (.inr low)
      refine ⟨I, hR, ?_⟩
      have hgo := go_ num den e hnum hden hden2 he0 he1 u (by omega)
      have sq : Sm (nx e (-150 + u) num / dx e (-150 + u) den) := Sm.bl (by have := bl_mono (Nat.div_le_self (nx e (-150 + u) num) (dx e (-150 + u) den)); have := hgo.1; omega)
      have hbl : (bl (nx e (-150 + u) num / dx e (-150 + u) den) : Int) > 24 := by
        have : ¬ bl (nx e (-150 + u) num / dx e (-150 + u) den) ≤ 24 := fun h => hq (bl_le_iff.1 h)
        omega
      have w : wrap64 (-150 + (u : Int) + 1) = -150 + ((u + 1 : Nat) : Int) := by rw [w64 _ (by omega) (by omega)]; omega
      refine hgo.2.2 _ (Ev.step (fun k => by rw [real_rounded.j1]) ?_)
      refine Ev.bind (div_ev hdp hgo.1 (by have := hgo.2.1; omega)) (Ev.bind (bits_ev sq) ?_)
      dsimp only
      exact Ev.congr (fun k => by rw [if_pos hbl, w]) hE
theorem rounded_ev (num den : Nat) (e : Int) (hnum : bl num ≤ 10000) (hden : 0 < den) (hden2 : bl den ≤ 10000) (he0 : -10000 ≤ e) (he1 : e ≤ 10000) :
    ∃ I, Rd (nx e (-150) num) (dx e (-150) den) I ∧ Ev (fun k => real_rounded.f k (D num) e (D den)) (rres I) := by
  rcases Nat.eq_zero_or_pos num with h0 | h0
  · subst h0
    refine ⟨0, ⟨.inl rfl, ?_, fun _ => rfl⟩, ?_⟩
    · have : nx e (-150) 0 = 0 := by unfold nx; split <;> simp
      rw [this]; omega
    · refine Ev.congr (f := fun _ => some (0, 0)) (fun k => by rw [show D 0 = [] from dg_zero]; rfl) ?_
      exact Ev.now _
  · have sn : Sm num := Sm.bl (by omega)
    have sd : Sm den := Sm.bl (by omega)
    have hne : (D num).length ≠ 0 := fun e => by
      have := (dg_nil (n := num) B2).1 (List.eq_nil_of_length_eq_zero e); omega
    have w1 : wrap64 ((bl num : Int) - (bl den : Int)) = (bl num : Int) - (bl den : Int) := w64 _ (by omega) (by omega)
    have w2 : wrap64 ((bl num : Int) - (bl den : Int) + e) = (bl num : Int) - (bl den : Int) + e := w64 _ (by omega) (by omega)
    have w3 : wrap64 ((bl num : Int) - (bl den : Int) + e - 24) = (bl num : Int) - (bl den : Int) + e - 24 := w64 _ (by omega) (by omega)
    have w4 : wrap64 ((bl num : Int) - (bl den : Int) + e - 24 - 1) = (bl num : Int) - (bl den : Int) + e - 24 - 1 := w64 _ (by omega) (by omega)
    obtain ⟨u, hu⟩ : ∃ u : Nat, mx (-150) ((bl num : Int) - (bl den : Int) + e - 24 - 1) = -150 + (u : Int) := ⟨(mx (-150) ((bl num : Int) - (bl den : Int) + e - 24 - 1) + 150).toNat, by unfold mx; split <;> omega⟩
    have hu1 : (bl num : Int) - (bl den : Int) + e - 25 ≤ -150 + (u : Int) := by unfold mx at hu; split at hu <;> omega
    have hu2 : u = 0 ∨ (bl num : Int) - (bl den : Int) + e - 25 = -150 + (u : Int) := by unfold mx at hu; split at hu <;> omega
    have p1 := bl_pos' h0
    have p2 := bl_pos' hden
    obtain ⟨I, hR, hE⟩ := rounded_l0 num den e hnum hden hden2 he0 he1 2 u (by omega) (by
      have a1 := bl_lt num
      have a2 := bl_ge hden
      unfold nx dx
      by_cases h : -150 + (u : Int) ≤ e
      · rw [if_pos h, if_pos h]
        have c1 := Nat.mul_lt_mul_of_pos_right a1 (Nat.two_pow_pos (e - (-150 + (u : Int))).toNat)
        rw [← Nat.pow_add] at c1
        have c2 := Nat.mul_le_mul_left (2 ^ (24 + 2)) a2
        rw [← Nat.pow_add] at c2
        have c3 : 2 ^ (bl num + (e - (-150 + (u : Int))).toNat) ≤ 2 ^ (24 + 2 + (bl den - 1)) := Nat.pow_le_pow_right (by decide) (by omega)
        exact Nat.lt_of_lt_of_le c1 (Nat.le_trans c3 c2)
      · rw [if_neg h, if_neg h]
        have c2 := Nat.mul_le_mul_left (2 ^ (24 + 2)) (Nat.mul_le_mul_right (2 ^ ((-150 + (u : Int)) - e).toNat) a2)
        rw [← Nat.pow_add, ← Nat.pow_add] at c2
        have c3 : 2 ^ (bl num) ≤ 2 ^ (24 + 2 + (bl den - 1 + ((-150 + (u : Int)) - e).toNat)) := Nat.pow_le_pow_right (by decide) (by omega)
        exact Nat.lt_of_lt_of_le a1 (Nat.le_trans c3 c2)) (by
      rcases hu2 with hu2 | hu2
      · exact .inl hu2
      · right
        have a1 := bl_ge h0
        have a2 := bl_lt den
        unfold nx dx
        by_cases h : -150 + (u : Int) ≤ e
        · rw [if_pos h, if_pos h]
          have c1 := Nat.mul_le_mul_right (2 ^ (e - (-150 + (u : Int))).toNat) a1
          rw [← Nat.pow_add] at c1
          have c2 := Nat.mul_le_mul_left (2 ^ 23) (Nat.le_of_lt a2)
          rw [← Nat.pow_add] at c2
          have c3 : 2 ^ (23 + bl den) ≤ 2 ^ (bl num - 1 + (e - (-150 + (u : Int))).toNat) := Nat.pow_le_pow_right (by decide) (by omega)
          exact Nat.le_trans c2 (Nat.le_trans c3 c1)
        · rw [if_neg h, if_neg h]
          have c2 := Nat.mul_le_mul_left (2 ^ 23) (Nat.mul_le_mul_right (2 ^ ((-150 + (u : Int)) - e).toNat) (Nat.le_of_lt a2))
          rw [← Nat.pow_add, ← Nat.pow_add] at c2
          have c3 : 2 ^ (23 + (bl den + ((-150 + (u : Int)) - e).toNat)) ≤ 2 ^ (bl num - 1) := Nat.pow_le_pow_right (by decide) (by omega)
          exact Nat.le_trans c2 (Nat.le_trans c3 a1))
    refine ⟨I, hR, ?_⟩
    refine Ev.congr (f := fun k => (real_nat_bits.f k (D num)).bind fun t180 => (real_nat_bits.f k (D den)).bind fun t181 => real_rounded.l0 k (D num) e (D den) (mx (-150) (wrap64 (wrap64 (wrap64 (wrap64 (t180 - t181) + e) - 24) - 1)))) (fun k => by unfold real_rounded.f; rw [if_neg (by omega)]) ?_
    refine Ev.bind (bits_ev sn) (Ev.bind (bits_ev sd) ?_)
    rw [w1, w2, w3, w4, hu]
    exact hE
end Go.Proofs.YteigbokklclmbaaGreatDoor.M
end
section
namespace Go.Proofs.YteigbokklclmbaaGreatDoor.Z.Y.V
open Go.RowKit Go.Proofs.YteigbokklclmbaaGreatDoor.Given Go.Proofs.YteigbokklclmbaaGreatDoorW.PrintWords Go.Proofs.YteigbokklclmbaaGreatDoorW.PrintLast Go.Proofs.YteigbokklclmbaaGreatDoorW.PrintMore
attribute [local go_sem] max2_int min2_int max_two min_two max_three min_three max_four min_four

def manorboyref02_half.j0 : Nat → Int → Int → Int → Option (List Int)
 | 0, _, _, _ => none
 | k + 1, x4, x140000, x140001 => (manorboyref02_Small.f k (wrap64 ((wrap64 (2 * x140000)) + 1))).bind fun t140 => ((manorboyref02_Two.f (wrap64 (x4 + 150))).bind fun t143 => ((manorboyref02_Nat_Mul.f k t140 t143).bind fun t146 => (some t146)))
def manorboyref02_half.f (k : Nat) (a0 : Int) : Option (List Int) := (manorboyref02_At.f k a0).bind fun bt137 => (if a0 = 0 then (manorboyref02_half.j0 k (-150) bt137.1 bt137.2) else (manorboyref02_half.j0 k bt137.2 bt137.1 bt137.2))
theorem manorboyref02_half.calls (k : Nat) (a0 : Int) (r : List Int) (w : World) (h : manorboyref02_half.f k a0 = some r) :
  Calls Tryz.prog 108 #[.int .i64 a0] w fun e w' => ∃ v0_ : Value, e = .returned (v0_) ∧ Kd.R (Kd.int .i64) 3 w' w.heap.size (fun _ => True) v0_ r ∧ Below w.heap.size w w' := by
 have hu23 := Tryz.underlying23
 have HB := Aside0.mk (Below.refl w.heap.size w)
 have H := h; unfold manorboyref02_half.f at H; clear h
 replace H := Option.bind_eq_some_iff.mp H
 obtain ⟨⟨t137, t138⟩, A20, H⟩ := H
 try dsimp only at H
 have A2 := Aside0.mk A20
 clear A20
 have HC3 := Aside0.mk H
 clear H
 go_enter Tryz.func108, Tryz.ntmps108
 go_upto_if 10 with (first | ((with_reducible refine gate_callee (f := 56) rfl ?_); refine gL 6 Tryz.func56 #[.int .i64 a0] ?_; (with_reducible refine (manorboyref02_At.calls k a0 t137 t138 _ A2.out).mono ?_); rintro e w4 ⟨rfl, hb⟩; refine ⟨_, rfl, ?_⟩; replace HB := bs hb; (try clear hb); (try clear hk)) | ((with_reducible refine gate_dst (N := 3) rfl ?_); refine bxe 3 #[.int .i64 0, .int .i64 0] 23 ?_; intro gb139 hg w5 hbox hb; have BK139 := Aside0.mk hbox; have GW139 := ge hg; have GE139 := ge hg; replace HB := bs hb; clear hb hbox hg; have hcz6_0 := c20 BK139; have hcz6_1 := c21 BK139; have hfz6_0 := blk_frozen BK139.out 0; have hfz6_1 := blk_frozen BK139.out 1))
 (try simp only [Act.put, List.setIfInBounds_toArray, List.set_cons_zero, List.set_cons_succ])
 go_cut [4] (fun v4 wc => ∃ (kq : Nat) (x4_2 : Int), v4 = .int .i64 x4_2 ∧ Aside0 (manorboyref02_half.j0 kq x4_2 t137 t138 = some r) ∧ Aside0 (kq ≤ k) ∧ Aside0 (wc.heap[gb139]? = some (.cells #[.int .i64 t137, .int .i64 t138] 23 (0, 0))) ∧ Aside0 (Below w.heap.size w wc))
 case first => as_aux_lemma =>
  have H := HC3.out
  clear HC3
  by_cases c7 : a0 = 0
  ·rw [if_pos c7] at H
   have c7b0 : (a0 == 0) = true := beq_iff_eq.mpr c7
   have c7b1 : (a0 != 0) = false := bne_eq_false_iff_eq.mpr c7
   clear c7
   (first | rw [c7b0] | (simp only [i64_w, i32_w]; rw [c7b0]) | skip)
   have H' := Aside0.mk H
   clear H
   go_wp2
   go_meet
   case rel => exact ⟨_, ((-150)), (by first | rfl | (simp; done) | (simp [*]; done)), H', ⟨by first | omega | exact Nat.le_refl _⟩, ⟨by (with_reducible repeat (first | refine blk_drewN ?_ _ | refine blk_drew ?_ | refine blk_alloc ?_ _)); refine blk_put (cs := #[.int .i64 t137, .int .i64 0]) ?_ 1 _ rfl; (with_reducible repeat (first | refine blk_drewN ?_ _ | refine blk_drew ?_ | refine blk_alloc ?_ _)); refine blk_put (cs := #[.int .i64 0, .int .i64 0]) ?_ 0 _ rfl; (with_reducible repeat (first | refine blk_drewN ?_ _ | refine blk_drew ?_ | refine blk_alloc ?_ _)); exact BK139.out⟩, ⟨bz⟩⟩
  ·rw [if_neg c7] at H
   have c7b0 : (a0 == 0) = false := beq_eq_false_iff_ne.mpr c7
   have c7b1 : (a0 != 0) = true := bne_iff_ne.mpr c7
   (first | rw [c7b0] | (simp only [i64_w, i32_w]; rw [c7b0]) | skip)
   have H' := Aside0.mk H
   clear H
   go_wp2
   go_meet
   case rel => exact ⟨_, (t138), (by first | rfl | (simp; done) | (simp [*]; done)), H', ⟨by first | omega | exact Nat.le_refl _⟩, ⟨by (with_reducible repeat (first | refine blk_drewN ?_ _ | refine blk_drew ?_ | refine blk_alloc ?_ _)); refine blk_put (cs := #[.int .i64 t137, .int .i64 0]) ?_ 1 _ rfl; (with_reducible repeat (first | refine blk_drewN ?_ _ | refine blk_drew ?_ | refine blk_alloc ?_ _)); refine blk_put (cs := #[.int .i64 0, .int .i64 0]) ?_ 0 _ rfl; (with_reducible repeat (first | refine blk_drewN ?_ _ | refine blk_drew ?_ | refine blk_alloc ?_ _)); exact BK139.out⟩, ⟨bz⟩⟩
 case rest => as_aux_lemma =>
  clear HC3
  try clear c7
  try clear c7b0
  try clear c7b1
  try clear hcz6_0
  try clear hcz6_1
  try clear hfz6_0
  try clear hfz6_1
  obtain ⟨kq, x4_2, rfl, HA, HJ2, BK139, HB⟩ := hcut
  cases kq with
  | zero => exact absurd HA.out (by simp [manorboyref02_half.j0])
  | succ kj2 =>
   have H := HA.out
   clear HA
   simp only [manorboyref02_half.j0] at H
   replace H := Option.bind_eq_some_iff.mp H
   obtain ⟨t140, A80, H⟩ := H
   try dsimp only at H
   have A8 := Aside0.mk A80
   clear A80
   replace H := Option.bind_eq_some_iff.mp H
   obtain ⟨t143, A90, H⟩ := H
   try dsimp only at H
   have A9 := Aside0.mk A90
   clear A90
   replace H := Option.bind_eq_some_iff.mp H
   obtain ⟨t146, A100, H⟩ := H
   try dsimp only at H
   have A10 := Aside0.mk A100
   clear A100
   obtain rfl := Option.some.inj H
   have hcz11_0 := c20 BK139
   have hcz11_1 := c21 BK139
   have hfz11_0 := blk_frozen BK139.out 0
   have hfz11_1 := blk_frozen BK139.out 1
   go_wp2_with (first | ((with_reducible refine gate_callee (f := 85) rfl ?_); refine gL 15 Tryz.func85 #[.int .i64 (wrap64 ((wrap64 (2 * t137)) + 1))] ?_; (with_reducible refine (manorboyref02_Small.calls kj2 (wrap64 ((wrap64 (2 * t137)) + 1)) t140 _ A8.out).mono ?_); rintro e w12 ⟨v141, rfl, ho0, hb⟩; refine ⟨_, rfl, ?_⟩; have HO142 := Aside0.mk (Kd.R_lower ho0 (below_size bz)); replace BK139 := kb BK139 hb; replace HB := bs hb; (try clear hb); (try clear hk); (try clear ho0)) | ((with_reducible refine gate_callee (f := 107) rfl ?_); refine gL 18 Tryz.func107 #[.int .i64 (wrap64 (x4_2 + 150))] ?_; (with_reducible refine (manorboyref02_Two.calls (wrap64 (x4_2 + 150)) t143 _ A9.out).mono ?_); rintro e w13 ⟨v144, rfl, ho0, hb⟩; refine ⟨_, rfl, ?_⟩; have HO145 := Aside0.mk (Kd.R_lower (Kd.R_new' ho0 (Kd.R_lt (rz HO142))) (below_size bz)); replace HO142 := Aside0.mk (Kd.R_elder' (rz HO142) (Kd.R_base ho0) hb); replace BK139 := kb BK139 hb; replace HB := bs hb; (try clear hb); (try clear hk); (try clear ho0); obtain ⟨Ao14, co14, eo14⟩ := Kd.R_slice HO142.out; subst eo14; obtain ⟨Ao15, co15, eo15⟩ := Kd.R_slice HO145.out; subst eo15) | ((with_reducible refine gate_callee (f := 86) rfl ?_); refine gL 19 Tryz.func86 #[.slice Ao14 t140.length co14, .slice Ao15 t143.length co15] ?_; (with_reducible refine (manorboyref02_Nat_Mul.calls kj2 _ _ t140 _ _ t143 t146 _ ?side1 ?side2 ?side3 ?side4 A10.out).mono ?_); (case side1 => exact ccz (Kd.R_reads' HO142.out).2.2); (case side2 => exact (Kd.R_reads' HO142.out).2.1); (case side3 => exact ccz (Kd.R_reads' HO145.out).2.2); (case side4 => exact (Kd.R_reads' HO145.out).2.1); rintro e w16 ⟨v147, rfl, ho0, hb⟩; refine ⟨_, rfl, ?_⟩; have HO148 := Aside0.mk (Kd.R_lower (Kd.R_new' (Kd.R_new' ho0 (Kd.R_lt (rz HO142))) (Kd.R_lt (rz HO145))) (below_size bz)); replace HO142 := Aside0.mk (Kd.R_elder' (rz HO142) (Kd.R_base ho0) hb); replace HO145 := Aside0.mk (Kd.R_elder' (rz HO145) (Kd.R_base ho0) hb); replace BK139 := kb BK139 hb; replace HB := bs hb; (try clear hb); (try clear hk); (try clear ho0)))
   go_ret
   exact ⟨_, by first | rfl | (simp [errW_none, errW_some] <;> rfl) | (simp [*, errW_none, errW_some] <;> rfl), by (with_reducible repeat (first | apply Kd.R_alloc | apply Kd.R_drewN | apply Kd.R_drew)); exact Kd.R_mono HO148.out (fun _ hk => trivial), bz⟩

end Go.Proofs.YteigbokklclmbaaGreatDoor.Z.Y.V
end
section
namespace Go.Proofs.YteigbokklclmbaaGreatDoor.Given
open Go
theorem field23_0 (a b : Int) (w : World) : Sem.run Tryz.prog (Instr.field 23 (Value.agg #[Value.int .i64 a, Value.int .i64 b]) 0) w = .ok (Value.int .i64 a) w := by kernel_rfl
theorem field23_1 (a b : Int) (w : World) : Sem.run Tryz.prog (Instr.field 23 (Value.agg #[Value.int .i64 a, Value.int .i64 b]) 1) w = .ok (Value.int .i64 b) w := by kernel_rfl
theorem field50_0 (a b : Int) (c : Bool) (w : World) : Sem.run Tryz.prog (Instr.field 50 (Value.agg #[Value.int .i64 a, Value.int .i64 b, Value.bool c]) 0) w = .ok (Value.agg #[Value.int .i64 a, Value.int .i64 b]) w := by kernel_rfl
theorem field50_1 (a b : Int) (c : Bool) (w : World) : Sem.run Tryz.prog (Instr.field 50 (Value.agg #[Value.int .i64 a, Value.int .i64 b, Value.bool c]) 1) w = .ok (Value.bool c) w := by kernel_rfl
end Go.Proofs.YteigbokklclmbaaGreatDoor.Given
end
section
namespace Go.Proofs.YteigbokklclmbaaGreatDoor.Z.Y.V
open Go.RowKit Go.Proofs.YteigbokklclmbaaGreatDoor.Given Go.Proofs.YteigbokklclmbaaGreatDoorW.PrintWords Go.Proofs.YteigbokklclmbaaGreatDoorW.PrintLast Go.Proofs.YteigbokklclmbaaGreatDoorW.PrintMore
attribute [local go_sem] max2_int min2_int max_two min_two max_three min_three max_four min_four
attribute [local go_sem high] field23_0 field23_1

mutual
def manorboyref02_Quotient_Round.l0 : Nat → List Int → Int → Int → Bool → List Int → List Int → Option (Int × Int × Bool)
 | 0, _, _, _, _, _, _ => none
 | k + 1, x3, x4, x5, x150000, x150001, x150002 => if x4 < x5 then ((manorboyref02_half.f k (wrap64 (Int.tdiv (wrap64 (x4 + x5)) 2))).bind fun t157 => ((manorboyref02_Nat_Mul.f k t157 x150002).bind fun t160 => ((manorboyref02_Nat_Cmp.f k t160 x3).bind fun t163 => (if t163 ≥ 0 then (manorboyref02_Quotient_Round.l0 k x3 x4 (wrap64 (Int.tdiv (wrap64 (x4 + x5)) 2)) x150000 x150001 x150002) else (manorboyref02_Quotient_Round.l0 k x3 (wrap64 ((wrap64 (Int.tdiv (wrap64 (x4 + x5)) 2)) + 1)) x5 x150000 x150001 x150002))))) else (if x4 > 2533359615 then (some (0, 0, false)) else ((manorboyref02_half.f k x4).bind fun t164 => ((manorboyref02_Nat_Mul.f k t164 x150002).bind fun t167 => ((manorboyref02_Nat_Cmp.f k t167 x3).bind fun t170 => (if t170 = 0 then ((manorboyref02_At.f k x4).bind fun bt171 => (manorboyref02_Quotient_Round.j1 k x4 ((Int.tmod bt171.1 2) != 0) x150000 x150001 x150002)) else (manorboyref02_Quotient_Round.j1 k x4 false x150000 x150001 x150002))))))
def manorboyref02_Quotient_Round.j1 : Nat → Int → Bool → Bool → List Int → List Int → Option (Int × Int × Bool)
 | 0, _, _, _, _, _ => none
 | k + 1, x4, x47, x150000, x150001, x150002 => if x47 = true then (manorboyref02_Quotient_Round.j2 k (wrap64 (x4 + 1)) x150000 x150001 x150002) else (manorboyref02_Quotient_Round.j2 k x4 x150000 x150001 x150002)
def manorboyref02_Quotient_Round.j2 : Nat → Int → Bool → List Int → List Int → Option (Int × Int × Bool)
 | 0, _, _, _, _ => none
 | k + 1, x4, x150000, x150001, x150002 => if x4 > 2533359615 then (some (0, 0, false)) else ((manorboyref02_At.f k x4).bind fun bt173 => (if x150000 = true then ((manorboyref02_At.f k (wrap64 (-x4))).bind fun bt176 => (some (bt176.1, bt176.2, true))) else (some (bt173.1, bt173.2, true))))
end
def manorboyref02_Quotient_Round.f (k : Nat) (a0_0 : Bool) (l0_1 : List Int) (l0_2 : List Int) : Option (Int × Int × Bool) := (manorboyref02_Two.f 151).bind fun t151 => ((manorboyref02_Nat_Mul.f k l0_1 t151).bind fun t154 => (manorboyref02_Quotient_Round.l0 k t154 0 2533359616 a0_0 l0_1 l0_2))
def manorboyref02_Quotient_Round.T6 : Bool × List (List Nat × List Nat) := (true, [([], []), ([0], [0]), ([], []), ([2], [2]), ([1, 3, 1], [1, 3]), ([], []), ([4, 5, 4], [4, 5]), ([6], [6])])
def manorboyref02_Quotient_Round.B6 : List Nat := [0, 1, 0, 4, 15, 0, 63, 127]
theorem manorboyref02_Quotient_Round.tab6 : rtab .any (opsOf Tryz.f88 6) = manorboyref02_Quotient_Round.T6 := by kernel_rfl
theorem manorboyref02_Quotient_Round.bits6 : waitsOk manorboyref02_Quotient_Round.T6.2 manorboyref02_Quotient_Round.B6 = true := by kernel_rfl
def manorboyref02_Quotient_Round.T11 : Bool × List (List Nat × List Nat) := (true, [([], []), ([0], [0]), ([], []), ([2], [2]), ([1, 3, 1], [1, 3]), ([], []), ([4, 5, 4], [4, 5]), ([6], [6]), ([7, 6], [7]), ([8], [8]), ([9, 8, 8], [8, 9]), ([10, 8], [8, 10]), ([11, 8], [8, 11]), ([12, 8], [8, 12]), ([8, 13], [8, 13])])
def manorboyref02_Quotient_Round.B11 : List Nat := [0, 1, 0, 4, 15, 0, 63, 127, 255, 511, 1023, 2047, 4095, 8191, 16383]
theorem manorboyref02_Quotient_Round.tab11 : rtab .any (opsOf Tryz.f88 11) = manorboyref02_Quotient_Round.T11 := by kernel_rfl
theorem manorboyref02_Quotient_Round.bits11 : waitsOk manorboyref02_Quotient_Round.T11.2 manorboyref02_Quotient_Round.B11 = true := by kernel_rfl
theorem manorboyref02_Quotient_Round.calls (k : Nat) (a0_0 : Bool) (A0_1 : Option Addr) (c0_1 : Nat) (l0_1 : List Int) (A0_2 : Option Addr) (c0_2 : Nat) (l0_2 : List Int) (r1 : Int) (r2 : Int) (r3 : Bool) (w : World) (hr0_1 : Kd.C (Kd.int .i64) w A0_1 l0_1.length l0_1) (hc0_1 : l0_1.length ≤ c0_1) (hr0_2 : Kd.C (Kd.int .i64) w A0_2 l0_2.length l0_2) (hc0_2 : l0_2.length ≤ c0_2) (h : manorboyref02_Quotient_Round.f k a0_0 l0_1 l0_2 = some (r1, r2, r3)) :
  Calls Tryz.prog 88 #[.agg #[.bool a0_0, .slice A0_1 l0_1.length c0_1, .slice A0_2 l0_2.length c0_2]] w fun e w' => e = .returned (.agg #[.int .i64 r1, .int .i64 r2, .bool r3]) ∧ Below w.heap.size w w' := by
 have hu102 := Tryz.underlying102
 have hu50 := Tryz.underlying50
 have hu23 := Tryz.underlying23
 have HR0_1 := Aside0.mk hr0_1
 have HC0_1 := Aside0.mk hc0_1
 clear hr0_1 hc0_1
 have HR0_2 := Aside0.mk hr0_2
 have HC0_2 := Aside0.mk hc0_2
 clear hr0_2 hc0_2
 have HB := Aside0.mk (Below.refl w.heap.size w)
 have H := h; unfold manorboyref02_Quotient_Round.f at H; clear h
 replace H := Option.bind_eq_some_iff.mp H
 obtain ⟨t151, A20, H⟩ := H
 try dsimp only at H
 have A2 := Aside0.mk A20
 clear A20
 replace H := Option.bind_eq_some_iff.mp H
 obtain ⟨t154, A30, H⟩ := H
 try dsimp only at H
 have A3 := Aside0.mk A30
 clear A30
 have H' := Aside0.mk H
 clear H
 go_enter Tryz.func88, Tryz.ntmps88
 try go_wp2_with (first | ((with_reducible refine gate_dst (N := 1) rfl ?_); refine bxe 1 #[.bool a0_0, .slice A0_1 l0_1.length c0_1, .slice A0_2 l0_2.length c0_2] 102 ?_; intro gb149 hg w4 hbox hb; have BK149 := Aside0.mk hbox; have GW149 := ge hg; have GE149 := ge hg; replace HB := bs hb; clear hb hbox hg) | ((with_reducible refine gate_dst (N := 2) rfl ?_); refine bxe 2 #[.int .i64 0, .int .i64 0, .bool false] 50 ?_; intro gb150 hg w5 hbox hb; have BK150 := Aside0.mk hbox; have GW150 := ge hg; have GE150 := ge hg; have NB149_150 := nl BK149 hg; have NB150_149 := nr BK149 hg; replace BK149 := kb BK149 hb; replace HB := bs hb; clear hb hbox hg))
 replace BK149 := Aside0.mk (blk_drew BK149.out)
 replace BK150 := Aside0.mk (blk_drew BK150.out)
 replace HB := Aside0.mk (below_drew1 HB.out)
 refine start_ (n := 5) (S := fun w' => w'.cell? ⟨gb149, 0, none⟩ = some (.bool a0_0) ∧ w'.cell? ⟨gb149, 1, none⟩ = some (.slice A0_1 l0_1.length c0_1) ∧ w'.cell? ⟨gb149, 2, none⟩ = some (.slice A0_2 l0_2.length c0_2)) (ds := []) #[ff,ff,ff,ff,ff] (by kernel_rfl) rfl rfl ⟨bc 0 BK149, bc 1 BK149, bc 2 BK149⟩ (fun hHeld => ?_)
 generalize w5.drew = w6 at BK149 BK150 HB hHeld ⊢
 refine pure_ (i := 0) (N := some 8) (v := ?_) (a' := ?_) #[true, false, false, false, false] rfl rfl (by kernel_rfl) (fun _ _ _ h => h) (Or.inl ⟨by rfl, ?_⟩) ?_ ?_
 rotate_left
 ·intro w'
  go_simp
  with_reducible rfl
 rotate_left
 ·simp only [Act.put, List.setIfInBounds_toArray, List.set_cons_zero, List.set_cons_succ, i64_w, i32_w]
  rfl
 refine take_ (i := 1) (N := some 9) (v := ?_) (a' := ?_) #[true, true, false, false, false] rfl rfl (by kernel_rfl) (fun _ _ _ h => h) (Or.inl ⟨by rfl, ?_⟩) hHeld ?_ ?_
 rotate_left
 ·rintro w' ⟨s0, s1, s2⟩
  go_simp
  with_reducible rfl
 rotate_left
 ·simp only [Act.put, List.setIfInBounds_toArray, List.set_cons_zero, List.set_cons_succ, i64_w, i32_w]
  rfl
 refine one_ (i := 2) (N := some 10) #[true, true, true, false, false] rfl rfl (by kernel_rfl) (by decide) (fun K hK => ?_)
 refine goes_ Tryz.func107 (by kernel_rfl) rfl #[.int .i64 151] (by rfl) rfl rfl az ?_
 with_reducible refine (manorboyref02_Two.calls 151 t151 _ A2.out).mono ?_
 rintro e w7 ⟨v152, rfl, ho0, hb⟩
 refine ⟨_, rfl, ?_⟩
 have HO153 := Aside0.mk (Kd.R_lower ho0 (below_size bz))
 replace BK149 := kb BK149 hb
 replace BK150 := kb BK150 hb
 replace HB := bs hb
 (try clear hb)
 (try clear hk)
 (try clear ho0)
 obtain ⟨Ao8, co8, eo8⟩ := Kd.R_slice HO153.out
 (first | subst eo8 | (injection eo8 with f1_ f2_ f3_; have f4_ := f1_.symm; have f5_ := f3_.symm; clear f1_ f2_ f3_; subst f4_; subst f5_))
 refine hK.out _ _ ⟨bc 0 BK149, bc 1 BK149, bc 2 BK149⟩ (fun hHeld => ?_)
 clear hK K
 refine nrm (some 10) ?_
 refine one_ (i := 3) (N := some 11) #[true, true, true, true, false] rfl rfl (by kernel_rfl) (by decide) (fun K hK => ?_)
 refine goes_ Tryz.func86 (by kernel_rfl) rfl #[.slice A0_1 l0_1.length c0_1, .slice Ao8 t151.length co8] (by rfl) rfl rfl az ?_
 with_reducible refine (manorboyref02_Nat_Mul.calls k _ _ l0_1 _ _ t151 t154 _ ?side1 ?side2 ?side3 ?side4 A3.out).mono ?_
 (case side1 => exact ccz (Kd.C_below HR0_1.out HB.out))
 (case side2 => exact HC0_1.out)
 (case side3 => exact ccz (Kd.R_reads' HO153.out).2.2)
 (case side4 => exact (Kd.R_reads' HO153.out).2.1)
 rintro e w9 ⟨v155, rfl, ho0, hb⟩
 refine ⟨_, rfl, ?_⟩
 have HO156 := Aside0.mk (Kd.R_lower (Kd.R_new' ho0 (Kd.R_lt (rz HO153))) (below_size bz))
 replace HO153 := Aside0.mk (Kd.R_elder' (rz HO153) (Kd.R_base ho0) hb)
 replace BK149 := kb BK149 hb
 replace BK150 := kb BK150 hb
 replace HB := bs hb
 (try clear hb)
 (try clear hk)
 (try clear ho0)
 refine hK.out _ _ ⟨bc 0 BK149, bc 1 BK149, bc 2 BK149⟩ (fun hHeld => ?_)
 clear hK K
 refine nrm (some 11) ?_
 refine pure_ (i := 4) (N := some 3) (v := ?_) (a' := ?_) #[true, true, true, true, true] rfl rfl (by kernel_rfl) (fun _ _ _ h => h) (Or.inl ⟨by rfl, ?_⟩) ?_ ?_
 rotate_left
 ·intro w'
  go_simp
  with_reducible rfl
 rotate_left
 ·simp only [Act.put, List.setIfInBounds_toArray, List.set_cons_zero, List.set_cons_succ, i64_w, i32_w]
  rfl
 refine done_ (by kernel_rfl) ?_
 try go_wp2
 go_loopg [4, 5] k (fun kq v4 v5 w' => ∃ (x4_1 : Int) (x5_1 : Int), v4 = .int .i64 x4_1 ∧ v5 = .int .i64 x5_1 ∧ Aside0 (manorboyref02_Quotient_Round.l0 kq t154 x4_1 x5_1 a0_0 l0_1 l0_2 = some (r1, r2, r3)) ∧ Aside0 (kq ≤ k) ∧ Aside0 (Kd.R (Kd.int .i64) 3 w' w.heap.size (fun _ => True) v155 t154) ∧ Aside0 (w'.heap[gb149]? = some (.cells #[.bool a0_0, (.slice A0_1 l0_1.length c0_1), (.slice A0_2 l0_2.length c0_2)] 102 (0, 0))) ∧ Aside0 (w'.heap[gb150]? = some (.cells #[.int .i64 0, .int .i64 0, .bool false] 50 (0, 0))) ∧ Aside0 (Below w.heap.size w w'))
 case atStart => exact ⟨(0), (2533359616), (by first | rfl | (simp; done) | (simp [*]; done)), (by first | rfl | (simp; done) | (simp [*]; done)), H', ⟨Nat.le_refl _⟩, ⟨by (with_reducible repeat (first | apply Kd.R_alloc | apply Kd.R_drewN | apply Kd.R_drew)); exact Kd.R_mono HO156.out (fun _ hk => trivial)⟩, ⟨kz BK149⟩, ⟨kz BK150⟩, ⟨bz⟩⟩
 case round =>
  clear H'
  obtain ⟨x4_1, x5_1, rfl, rfl, HA, HK1, HO_3, BK149, BK150, HB⟩ := hrel
  cases gk with
  | zero => exact absurd HA.out (by simp [manorboyref02_Quotient_Round.l0])
  | succ k1 =>
   have H := HA.out
   clear HA
   simp only [manorboyref02_Quotient_Round.l0] at H
   by_cases c10 : x4_1 < x5_1
   ·rw [if_pos c10] at H
    have c10b0 : decide (x4_1 < x5_1) = true := decide_eq_true c10
    clear c10
    replace H := Option.bind_eq_some_iff.mp H
    obtain ⟨t157, A110, H⟩ := H
    try dsimp only at H
    have A11 := Aside0.mk A110
    clear A110
    replace H := Option.bind_eq_some_iff.mp H
    obtain ⟨t160, A120, H⟩ := H
    try dsimp only at H
    have A12 := Aside0.mk A120
    clear A120
    replace H := Option.bind_eq_some_iff.mp H
    obtain ⟨t163, A130, H⟩ := H
    try dsimp only at H
    have A13 := Aside0.mk A130
    clear A130
    try go_wp2
    replace HO_3 := Aside0.mk (Kd.R_drew HO_3.out)
    replace BK149 := Aside0.mk (blk_drew BK149.out)
    replace BK150 := Aside0.mk (blk_drew BK150.out)
    replace HB := Aside0.mk (below_drew1 HB.out)
    refine start_ (n := 8) (S := fun w' => w'.cell? ⟨gb149, 0, none⟩ = some (.bool a0_0) ∧ w'.cell? ⟨gb149, 1, none⟩ = some (.slice A0_1 l0_1.length c0_1) ∧ w'.cell? ⟨gb149, 2, none⟩ = some (.slice A0_2 l0_2.length c0_2)) (ds := []) #[ff,ff,ff,ff,ff,ff,ff,ff] (by kernel_rfl) rfl rfl ⟨bc 0 BK149, bc 1 BK149, bc 2 BK149⟩ (fun hHeld => ?_); refine with_tabW manorboyref02_Quotient_Round.tab6 manorboyref02_Quotient_Round.bits6 (fun HT_ HW_ => ?_)
    generalize wr.drew = w15 at HO_3 BK149 BK150 HB hHeld ⊢
    refine pur 0 (some 19) #[tt,ff,ff,ff,ff,ff,ff,ff] ?_
    refine pur 2 (some 21) #[tt,ff,tt,ff,ff,ff,ff,ff] ?_
    refine pur 5 (some 24) #[tt,ff,tt,ff,ff,tt,ff,ff] ?_
    refine take_ (i := 3) (N := some 22) (v := ?_) (a' := ?_) #[true, false, true, true, false, true, false, false] rfl rfl (take_ofW HT_.out HW_.out (by kernel_rfl)) (fun _ _ _ h => h) (Or.inl ⟨by rfl, ?_⟩) hHeld ?_ ?_
    rotate_left
    ·rintro w' ⟨s0, s1, s2⟩
     go_simp
     with_reducible rfl
    rotate_left
    ·simp only [Act.put, List.setIfInBounds_toArray, List.set_cons_zero, List.set_cons_succ, i64_w, i32_w]
     rfl
    refine on1 1 (some 20) #[tt,tt,tt,tt,ff,tt,ff,ff] (fun K hK => ?_)
    refine goes_ Tryz.func108 (by kernel_rfl) rfl #[.int .i64 (wrap64 (Int.tdiv (wrap64 (x4_1 + x5_1)) 2))] (by rfl) rfl rfl az ?_
    with_reducible refine (manorboyref02_half.calls k1 (wrap64 (Int.tdiv (wrap64 (x4_1 + x5_1)) 2)) t157 _ A11.out).mono ?_
    rintro e w16 ⟨v158, rfl, ho0, hb⟩
    refine ⟨_, rfl, ?_⟩
    have HO159 := Aside0.mk (Kd.R_lower (Kd.R_new' ho0 (Kd.R_lt (rz HO_3))) (below_size bz))
    replace HO_3 := Aside0.mk (Kd.R_elder' (rz HO_3) (Kd.R_base ho0) hb)
    replace BK149 := kb BK149 hb
    replace BK150 := kb BK150 hb
    replace HB := bs hb
    (try clear hb)
    (try clear hk)
    (try clear ho0)
    obtain ⟨Ao17, co17, eo17⟩ := Kd.R_slice HO159.out
    (first | subst eo17 | (injection eo17 with f1_ f2_ f3_; have f4_ := f1_.symm; have f5_ := f3_.symm; clear f1_ f2_ f3_; subst f4_; subst f5_))
    refine hK.out _ _ ⟨bc 0 BK149, bc 1 BK149, bc 2 BK149⟩ (fun hHeld => ?_)
    clear hK K
    refine nrm (some 20) ?_
    refine on1 4 (some 23) #[tt,tt,tt,tt,tt,tt,ff,ff] (fun K hK => ?_)
    refine goes_ Tryz.func86 (by kernel_rfl) rfl #[.slice Ao17 t157.length co17, .slice A0_2 l0_2.length c0_2] (by rfl) rfl rfl az ?_
    with_reducible refine (manorboyref02_Nat_Mul.calls k1 _ _ t157 _ _ l0_2 t160 _ ?side1 ?side2 ?side3 ?side4 A12.out).mono ?_
    (case side1 => exact ccz (Kd.R_reads' HO159.out).2.2)
    (case side2 => exact (Kd.R_reads' HO159.out).2.1)
    (case side3 => exact ccz (Kd.C_below HR0_2.out HB.out))
    (case side4 => exact HC0_2.out)
    rintro e w18 ⟨v161, rfl, ho0, hb⟩
    refine ⟨_, rfl, ?_⟩
    have HO162 := Aside0.mk (Kd.R_lower (Kd.R_new' (Kd.R_new' ho0 (Kd.R_lt (rz HO_3))) (Kd.R_lt (rz HO159))) (below_size bz))
    replace HO_3 := Aside0.mk (Kd.R_elder' (rz HO_3) (Kd.R_base ho0) hb)
    replace HO159 := Aside0.mk (Kd.R_elder' (rz HO159) (Kd.R_base ho0) hb)
    replace BK149 := kb BK149 hb
    replace BK150 := kb BK150 hb
    replace HB := bs hb
    (try clear hb)
    (try clear hk)
    (try clear ho0)
    obtain ⟨Ao19, co19, eo19⟩ := Kd.R_slice HO162.out
    (first | subst eo19 | (injection eo19 with f1_ f2_ f3_; have f4_ := f1_.symm; have f5_ := f3_.symm; clear f1_ f2_ f3_; subst f4_; subst f5_))
    obtain ⟨Ao20, co20, eo20⟩ := Kd.R_slice HO_3.out
    (first | subst eo20 | (injection eo20 with f1_ f2_ f3_; have f4_ := f1_.symm; have f5_ := f3_.symm; clear f1_ f2_ f3_; subst f4_; subst f5_))
    refine hK.out _ _ ⟨bc 0 BK149, bc 1 BK149, bc 2 BK149⟩ (fun hHeld => ?_)
    clear hK K
    refine nrm (some 23) ?_
    refine on1 6 (some 25) #[tt,tt,tt,tt,tt,tt,tt,ff] (fun K hK => ?_)
    refine goes_ Tryz.func104 (by kernel_rfl) rfl #[.slice Ao19 t160.length co19, .slice Ao20 t154.length co20] (by rfl) rfl rfl az ?_
    with_reducible refine (manorboyref02_Nat_Cmp.calls k1 _ _ t160 _ _ t154 t163 _ ?side1 ?side2 ?side3 ?side4 A13.out).mono ?_
    (case side1 => exact ccz (Kd.R_reads' HO162.out).2.2)
    (case side2 => exact (Kd.R_reads' HO162.out).2.1)
    (case side3 => exact ccz (Kd.R_reads' HO_3.out).2.2)
    (case side4 => exact (Kd.R_reads' HO_3.out).2.1)
    rintro e w' ⟨rfl, ⟨nd, rfl⟩⟩
    refine ⟨_, rfl, ?_⟩
    refine hK.out _ _ ⟨bc 0 BK149, bc 1 BK149, bc 2 BK149⟩ (fun hHeld => ?_)
    clear hK K
    refine nrm (some 25) ?_
    refine pur 7 (some 26) #[tt,tt,tt,tt,tt,tt,tt,tt] ?_
    refine done_ (done_of HT_.out (by kernel_rfl)) ?_
    by_cases c14 : t163 ≥ 0
    ·rw [if_pos c14] at H
     have c14b0 : decide (0 ≤ t163) = true := decide_eq_true c14
     clear c14
     have H' := Aside0.mk H
     clear H
     (first | rw [c14b0] | (simp only [i64_w, i32_w]; rw [c14b0]) | skip)
     try go_wp2
     go_roundg k1
     case measure => have := HK1.out; omega
     case rel => exact ⟨(x4_1), (wrap64 (Int.tdiv (wrap64 (x4_1 + x5_1)) 2)), (by first | rfl | (simp; done) | (simp [*]; done)), (by first | rfl | (simp; done) | (simp [*]; done)), H', ⟨by have := HK1.out; omega⟩, ⟨by (with_reducible repeat (first | apply Kd.R_alloc | apply Kd.R_drewN | apply Kd.R_drew)); exact Kd.R_mono HO_3.out (fun _ hk => trivial)⟩, ⟨kz BK149⟩, ⟨kz BK150⟩, ⟨bz⟩⟩
    ·rw [if_neg c14] at H
     have c14b0 : decide (0 ≤ t163) = false := decide_eq_false c14
     clear c14
     have H' := Aside0.mk H
     clear H
     (first | rw [c14b0] | (simp only [i64_w, i32_w]; rw [c14b0]) | skip)
     try go_wp2
     go_roundg k1
     case measure => have := HK1.out; omega
     case rel => exact ⟨(wrap64 ((wrap64 (Int.tdiv (wrap64 (x4_1 + x5_1)) 2)) + 1)), (x5_1), (by first | rfl | (simp; done) | (simp [*]; done)), (by first | rfl | (simp; done) | (simp [*]; done)), H', ⟨by have := HK1.out; omega⟩, ⟨by (with_reducible repeat (first | apply Kd.R_alloc | apply Kd.R_drewN | apply Kd.R_drew)); exact Kd.R_mono HO_3.out (fun _ hk => trivial)⟩, ⟨kz BK149⟩, ⟨kz BK150⟩, ⟨bz⟩⟩
   ·rw [if_neg c10] at H
    have c10b0 : decide (x4_1 < x5_1) = false := decide_eq_false c10
    clear c10
    by_cases c27 : x4_1 > 2533359615
    ·rw [if_pos c27] at H
     have c27b0 : decide (2533359615 < x4_1) = true := decide_eq_true c27
     clear c27
     simp only [Option.some.injEq, Prod.mk.injEq] at H
     obtain ⟨rfl, rfl, rfl⟩ := H
     have hnb28 := NB150_149.out
     have hnc28 := NB149_150.out
     have hcz29_0 : wr.cell? ⟨gb150, 0, none⟩ = some (.int .i64 0) := (blk_cell BK150.out 0).trans rfl
     have hcz29_1 : wr.cell? ⟨gb150, 1, none⟩ = some (.int .i64 0) := (blk_cell BK150.out 1).trans rfl
     have hcz29_2 : wr.cell? ⟨gb150, 2, none⟩ = some (.bool false) := (blk_cell BK150.out 2).trans rfl
     have hfz29_0 := blk_frozen BK150.out 0
     have hfz29_1 := blk_frozen BK150.out 1
     have hfz29_2 := blk_frozen BK150.out 2
     go_wp2
     refine bodyPost_ret (results_cell_row rfl _ _ gb150 50 #[.int .i64 0, .int .i64 0, .bool false] (0, 0) _ rfl (by (with_reducible repeat (first | refine blk_drewN ?_ _ | refine blk_drew ?_ | refine blk_alloc ?_ _)); refine blk_put (cs := #[.int .i64 0, .int .i64 0, .bool false]) ?_ 2 _ rfl; (with_reducible repeat (first | refine blk_drewN ?_ _ | refine blk_drew ?_ | refine blk_alloc ?_ _)); refine blk_put (cs := #[.int .i64 0, .int .i64 0, .bool false]) ?_ 1 _ rfl; (with_reducible repeat (first | refine blk_drewN ?_ _ | refine blk_drew ?_ | refine blk_alloc ?_ _)); refine blk_put (cs := #[.int .i64 0, .int .i64 0, .bool false]) ?_ 0 _ rfl; (with_reducible repeat (first | refine blk_drewN ?_ _ | refine blk_drew ?_ | refine blk_alloc ?_ _)); exact BK150.out) Tryz.underlying50 rfl (by kernel_rfl)) rfl ?_
     exact ⟨by first | rfl | (simp [errW_none, errW_some] <;> rfl) | (simp [*, errW_none, errW_some] <;> rfl), bz⟩
    ·rw [if_neg c27] at H
     have c27b0 : decide (2533359615 < x4_1) = false := decide_eq_false c27
     clear c27
     have HC30 := Aside0.mk H
     clear H
     go_upto_region 11 with (fail)
     go_cut [47] (fun v47 wc => ∃ (kq : Nat) (x47_29 : Bool), v47 = .bool x47_29 ∧ Aside0 (manorboyref02_Quotient_Round.j1 kq x4_1 x47_29 a0_0 l0_1 l0_2 = some (r1, r2, r3)) ∧ Aside0 (kq ≤ k1) ∧ Aside0 (wc.heap[gb149]? = some (.cells #[.bool a0_0, (.slice A0_1 l0_1.length c0_1), (.slice A0_2 l0_2.length c0_2)] 102 (0, 0))) ∧ Aside0 (wc.heap[gb150]? = some (.cells #[.int .i64 0, .int .i64 0, .bool false] 50 (0, 0))) ∧ Aside0 (Below w.heap.size w wc))
     case first => as_aux_lemma =>
      have H := HC30.out
      clear HC30
      replace H := Option.bind_eq_some_iff.mp H
      obtain ⟨t164, A310, H⟩ := H
      try dsimp only at H
      have A31 := Aside0.mk A310
      clear A310
      replace H := Option.bind_eq_some_iff.mp H
      obtain ⟨t167, A320, H⟩ := H
      try dsimp only at H
      have A32 := Aside0.mk A320
      clear A320
      replace H := Option.bind_eq_some_iff.mp H
      obtain ⟨t170, A330, H⟩ := H
      try dsimp only at H
      have A33 := Aside0.mk A330
      clear A330
      by_cases c34 : t170 = 0
      ·rw [if_pos c34] at H
       have c34b0 : (t170 == 0) = true := beq_iff_eq.mpr c34
       have c34b1 : (t170 != 0) = false := bne_eq_false_iff_eq.mpr c34
       clear c34
       (first | rw [c34b0] | (simp only [i64_w, i32_w]; rw [c34b0]) | skip)
       replace H := Option.bind_eq_some_iff.mp H
       obtain ⟨⟨t171, t172⟩, A350, H⟩ := H
       try dsimp only at H
       have A35 := Aside0.mk A350
       clear A350
       have H' := Aside0.mk H
       clear H
       try go_wp2
       replace HO_3 := Aside0.mk (Kd.R_drew HO_3.out)
       replace BK149 := Aside0.mk (blk_drew BK149.out)
       replace BK150 := Aside0.mk (blk_drew BK150.out)
       replace HB := Aside0.mk (below_drew1 HB.out)
       refine start_ (n := 15) (S := fun w' => w'.cell? ⟨gb149, 0, none⟩ = some (.bool a0_0) ∧ w'.cell? ⟨gb149, 1, none⟩ = some (.slice A0_1 l0_1.length c0_1) ∧ w'.cell? ⟨gb149, 2, none⟩ = some (.slice A0_2 l0_2.length c0_2)) (ds := []) #[ff,ff,ff,ff,ff,ff,ff,ff,ff,ff,ff,ff,ff,ff,ff] (by kernel_rfl) rfl rfl ⟨bc 0 BK149, bc 1 BK149, bc 2 BK149⟩ (fun hHeld => ?_); refine with_tabW manorboyref02_Quotient_Round.tab11 manorboyref02_Quotient_Round.bits11 (fun HT_ HW_ => ?_)
       generalize wr.drew = w36 at HO_3 BK149 BK150 HB hHeld ⊢
       refine pur 0 (some 33) #[tt,ff,ff,ff,ff,ff,ff,ff,ff,ff,ff,ff,ff,ff,ff] ?_
       refine pur 2 (some 35) #[tt,ff,tt,ff,ff,ff,ff,ff,ff,ff,ff,ff,ff,ff,ff] ?_
       refine pur 5 (some 38) #[tt,ff,tt,ff,ff,tt,ff,ff,ff,ff,ff,ff,ff,ff,ff] ?_
       refine take_ (i := 3) (N := some 36) (v := ?_) (a' := ?_) #[true, false, true, true, false, true, false, false, false, false, false, false, false, false, false] rfl rfl (take_ofW HT_.out HW_.out (by kernel_rfl)) (fun _ _ _ h => h) (Or.inl ⟨by rfl, ?_⟩) hHeld ?_ ?_
       rotate_left
       ·rintro w' ⟨s0, s1, s2⟩
        go_simp
        with_reducible rfl
       rotate_left
       ·simp only [Act.put, List.setIfInBounds_toArray, List.set_cons_zero, List.set_cons_succ, i64_w, i32_w]
        rfl
       refine on1 1 (some 34) #[tt,tt,tt,tt,ff,tt,ff,ff,ff,ff,ff,ff,ff,ff,ff] (fun K hK => ?_)
       refine goes_ Tryz.func108 (by kernel_rfl) rfl #[.int .i64 x4_1] (by rfl) rfl rfl az ?_
       with_reducible refine (manorboyref02_half.calls k1 x4_1 t164 _ A31.out).mono ?_
       rintro e w37 ⟨v165, rfl, ho0, hb⟩
       refine ⟨_, rfl, ?_⟩
       have HO166 := Aside0.mk (Kd.R_lower (Kd.R_new' ho0 (Kd.R_lt (rz HO_3))) (below_size bz))
       replace HO_3 := Aside0.mk (Kd.R_elder' (rz HO_3) (Kd.R_base ho0) hb)
       replace BK149 := kb BK149 hb
       replace BK150 := kb BK150 hb
       replace HB := bs hb
       (try clear hb)
       (try clear hk)
       (try clear ho0)
       obtain ⟨Ao38, co38, eo38⟩ := Kd.R_slice HO166.out
       (first | subst eo38 | (injection eo38 with f1_ f2_ f3_; have f4_ := f1_.symm; have f5_ := f3_.symm; clear f1_ f2_ f3_; subst f4_; subst f5_))
       refine hK.out _ _ ⟨bc 0 BK149, bc 1 BK149, bc 2 BK149⟩ (fun hHeld => ?_)
       clear hK K
       refine nrm (some 34) ?_
       refine on1 4 (some 37) #[tt,tt,tt,tt,tt,tt,ff,ff,ff,ff,ff,ff,ff,ff,ff] (fun K hK => ?_)
       refine goes_ Tryz.func86 (by kernel_rfl) rfl #[.slice Ao38 t164.length co38, .slice A0_2 l0_2.length c0_2] (by rfl) rfl rfl az ?_
       with_reducible refine (manorboyref02_Nat_Mul.calls k1 _ _ t164 _ _ l0_2 t167 _ ?side1 ?side2 ?side3 ?side4 A32.out).mono ?_
       (case side1 => exact ccz (Kd.R_reads' HO166.out).2.2)
       (case side2 => exact (Kd.R_reads' HO166.out).2.1)
       (case side3 => exact ccz (Kd.C_below HR0_2.out HB.out))
       (case side4 => exact HC0_2.out)
       rintro e w39 ⟨v168, rfl, ho0, hb⟩
       refine ⟨_, rfl, ?_⟩
       have HO169 := Aside0.mk (Kd.R_lower (Kd.R_new' (Kd.R_new' ho0 (Kd.R_lt (rz HO_3))) (Kd.R_lt (rz HO166))) (below_size bz))
       replace HO_3 := Aside0.mk (Kd.R_elder' (rz HO_3) (Kd.R_base ho0) hb)
       replace HO166 := Aside0.mk (Kd.R_elder' (rz HO166) (Kd.R_base ho0) hb)
       replace BK149 := kb BK149 hb
       replace BK150 := kb BK150 hb
       replace HB := bs hb
       (try clear hb)
       (try clear hk)
       (try clear ho0)
       obtain ⟨Ao40, co40, eo40⟩ := Kd.R_slice HO169.out
       (first | subst eo40 | (injection eo40 with f1_ f2_ f3_; have f4_ := f1_.symm; have f5_ := f3_.symm; clear f1_ f2_ f3_; subst f4_; subst f5_))
       obtain ⟨Ao41, co41, eo41⟩ := Kd.R_slice HO_3.out
       (first | subst eo41 | (injection eo41 with f1_ f2_ f3_; have f4_ := f1_.symm; have f5_ := f3_.symm; clear f1_ f2_ f3_; subst f4_; subst f5_))
       refine hK.out _ _ ⟨bc 0 BK149, bc 1 BK149, bc 2 BK149⟩ (fun hHeld => ?_)
       clear hK K
       refine nrm (some 37) ?_
       refine on1 6 (some 39) #[tt,tt,tt,tt,tt,tt,tt,ff,ff,ff,ff,ff,ff,ff,ff] (fun K hK => ?_)
       refine goes_ Tryz.func104 (by kernel_rfl) rfl #[.slice Ao40 t167.length co40, .slice Ao41 t154.length co41] (by rfl) rfl rfl az ?_
       with_reducible refine (manorboyref02_Nat_Cmp.calls k1 _ _ t167 _ _ t154 t170 _ ?side1 ?side2 ?side3 ?side4 A33.out).mono ?_
       (case side1 => exact ccz (Kd.R_reads' HO169.out).2.2)
       (case side2 => exact (Kd.R_reads' HO169.out).2.1)
       (case side3 => exact ccz (Kd.R_reads' HO_3.out).2.2)
       (case side4 => exact (Kd.R_reads' HO_3.out).2.1)
       rintro e w' ⟨rfl, ⟨nd, rfl⟩⟩
       refine ⟨_, rfl, ?_⟩
       refine hK.out _ _ ⟨bc 0 BK149, bc 1 BK149, bc 2 BK149⟩ (fun hHeld => ?_)
       clear hK K
       refine nrm (some 39) ?_
       refine pur 7 (some 40) #[tt,tt,tt,tt,tt,tt,tt,tt,ff,ff,ff,ff,ff,ff,ff] ?_
       refine pur 8 (some 41) #[tt,tt,tt,tt,tt,tt,tt,tt,tt,ff,ff,ff,ff,ff,ff] ?_
       refine pur 9 (some 42) #[tt,tt,tt,tt,tt,tt,tt,tt,tt,tt,ff,ff,ff,ff,ff] ?_
       refine on1 10 (some 43) #[tt,tt,tt,tt,tt,tt,tt,tt,tt,tt,tt,ff,ff,ff,ff] (fun K hK => ?_)
       refine goes_ Tryz.func56 (by kernel_rfl) rfl #[.int .i64 x4_1] (by rfl) rfl rfl az ?_
       with_reducible refine (manorboyref02_At.calls k1 x4_1 t171 t172 _ A35.out).mono ?_
       rintro e w42 ⟨rfl, hb⟩
       refine ⟨_, rfl, ?_⟩
       replace HO_3 := rb HO_3 hb
       replace HO166 := rb HO166 hb
       replace HO169 := rb HO169 hb
       replace BK149 := kb BK149 hb
       replace BK150 := kb BK150 hb
       replace HB := bs hb
       (try clear hb)
       (try clear hk)
       refine hK.out _ _ ⟨bc 0 BK149, bc 1 BK149, bc 2 BK149⟩ (fun hHeld => ?_)
       clear hK K
       refine nrm (some 43) ?_
       refine pur 11 (some 44) #[tt,tt,tt,tt,tt,tt,tt,tt,tt,tt,tt,tt,ff,ff,ff] ?_
       refine pur 12 (some 45) #[tt,tt,tt,tt,tt,tt,tt,tt,tt,tt,tt,tt,tt,ff,ff] ?_
       refine pur 13 (some 46) #[tt,tt,tt,tt,tt,tt,tt,tt,tt,tt,tt,tt,tt,tt,ff] ?_
       refine pur 14 (some 47) #[tt,tt,tt,tt,tt,tt,tt,tt,tt,tt,tt,tt,tt,tt,tt] ?_
       refine done_ (done_of HT_.out (by kernel_rfl)) ?_
       try go_wp2
       go_meet
       case rel => exact ⟨_, (((Int.tmod t171 2) != 0)), (by first | rfl | (simp; done) | (simp [*]; done)), H', ⟨by have := HK1.out; first | omega | exact Nat.le_refl _⟩, ⟨kz BK149⟩, ⟨kz BK150⟩, ⟨bz⟩⟩
      ·rw [if_neg c34] at H
       have c34b0 : (t170 == 0) = false := beq_eq_false_iff_ne.mpr c34
       have c34b1 : (t170 != 0) = true := bne_iff_ne.mpr c34
       (first | rw [c34b0] | (simp only [i64_w, i32_w]; rw [c34b0]) | skip)
       have H' := Aside0.mk H
       clear H
       try go_wp2
       replace HO_3 := Aside0.mk (Kd.R_drew HO_3.out)
       replace BK149 := Aside0.mk (blk_drew BK149.out)
       replace BK150 := Aside0.mk (blk_drew BK150.out)
       replace HB := Aside0.mk (below_drew1 HB.out)
       refine start_ (n := 15) (S := fun w' => w'.cell? ⟨gb149, 0, none⟩ = some (.bool a0_0) ∧ w'.cell? ⟨gb149, 1, none⟩ = some (.slice A0_1 l0_1.length c0_1) ∧ w'.cell? ⟨gb149, 2, none⟩ = some (.slice A0_2 l0_2.length c0_2)) (ds := []) #[ff,ff,ff,ff,ff,ff,ff,ff,ff,ff,ff,ff,ff,ff,ff] (by kernel_rfl) rfl rfl ⟨bc 0 BK149, bc 1 BK149, bc 2 BK149⟩ (fun hHeld => ?_); refine with_tabW manorboyref02_Quotient_Round.tab11 manorboyref02_Quotient_Round.bits11 (fun HT_ HW_ => ?_)
       generalize wr.drew = w43 at HO_3 BK149 BK150 HB hHeld ⊢
       refine pur 0 (some 33) #[tt,ff,ff,ff,ff,ff,ff,ff,ff,ff,ff,ff,ff,ff,ff] ?_
       refine pur 2 (some 35) #[tt,ff,tt,ff,ff,ff,ff,ff,ff,ff,ff,ff,ff,ff,ff] ?_
       refine pur 5 (some 38) #[tt,ff,tt,ff,ff,tt,ff,ff,ff,ff,ff,ff,ff,ff,ff] ?_
       refine take_ (i := 3) (N := some 36) (v := ?_) (a' := ?_) #[true, false, true, true, false, true, false, false, false, false, false, false, false, false, false] rfl rfl (take_ofW HT_.out HW_.out (by kernel_rfl)) (fun _ _ _ h => h) (Or.inl ⟨by rfl, ?_⟩) hHeld ?_ ?_
       rotate_left
       ·rintro w' ⟨s0, s1, s2⟩
        go_simp
        with_reducible rfl
       rotate_left
       ·simp only [Act.put, List.setIfInBounds_toArray, List.set_cons_zero, List.set_cons_succ, i64_w, i32_w]
        rfl
       refine on1 1 (some 34) #[tt,tt,tt,tt,ff,tt,ff,ff,ff,ff,ff,ff,ff,ff,ff] (fun K hK => ?_)
       refine goes_ Tryz.func108 (by kernel_rfl) rfl #[.int .i64 x4_1] (by rfl) rfl rfl az ?_
       with_reducible refine (manorboyref02_half.calls k1 x4_1 t164 _ A31.out).mono ?_
       rintro e w44 ⟨v165, rfl, ho0, hb⟩
       refine ⟨_, rfl, ?_⟩
       have HO166 := Aside0.mk (Kd.R_lower (Kd.R_new' ho0 (Kd.R_lt (rz HO_3))) (below_size bz))
       replace HO_3 := Aside0.mk (Kd.R_elder' (rz HO_3) (Kd.R_base ho0) hb)
       replace BK149 := kb BK149 hb
       replace BK150 := kb BK150 hb
       replace HB := bs hb
       (try clear hb)
       (try clear hk)
       (try clear ho0)
       obtain ⟨Ao45, co45, eo45⟩ := Kd.R_slice HO166.out
       (first | subst eo45 | (injection eo45 with f1_ f2_ f3_; have f4_ := f1_.symm; have f5_ := f3_.symm; clear f1_ f2_ f3_; subst f4_; subst f5_))
       refine hK.out _ _ ⟨bc 0 BK149, bc 1 BK149, bc 2 BK149⟩ (fun hHeld => ?_)
       clear hK K
       refine nrm (some 34) ?_
       refine on1 4 (some 37) #[tt,tt,tt,tt,tt,tt,ff,ff,ff,ff,ff,ff,ff,ff,ff] (fun K hK => ?_)
       refine goes_ Tryz.func86 (by kernel_rfl) rfl #[.slice Ao45 t164.length co45, .slice A0_2 l0_2.length c0_2] (by rfl) rfl rfl az ?_
       with_reducible refine (manorboyref02_Nat_Mul.calls k1 _ _ t164 _ _ l0_2 t167 _ ?side1 ?side2 ?side3 ?side4 A32.out).mono ?_
       (case side1 => exact ccz (Kd.R_reads' HO166.out).2.2)
       (case side2 => exact (Kd.R_reads' HO166.out).2.1)
       (case side3 => exact ccz (Kd.C_below HR0_2.out HB.out))
       (case side4 => exact HC0_2.out)
       rintro e w46 ⟨v168, rfl, ho0, hb⟩
       refine ⟨_, rfl, ?_⟩
       have HO169 := Aside0.mk (Kd.R_lower (Kd.R_new' (Kd.R_new' ho0 (Kd.R_lt (rz HO_3))) (Kd.R_lt (rz HO166))) (below_size bz))
       replace HO_3 := Aside0.mk (Kd.R_elder' (rz HO_3) (Kd.R_base ho0) hb)
       replace HO166 := Aside0.mk (Kd.R_elder' (rz HO166) (Kd.R_base ho0) hb)
       replace BK149 := kb BK149 hb
       replace BK150 := kb BK150 hb
       replace HB := bs hb
       (try clear hb)
       (try clear hk)
       (try clear ho0)
       obtain ⟨Ao47, co47, eo47⟩ := Kd.R_slice HO169.out
       (first | subst eo47 | (injection eo47 with f1_ f2_ f3_; have f4_ := f1_.symm; have f5_ := f3_.symm; clear f1_ f2_ f3_; subst f4_; subst f5_))
       obtain ⟨Ao48, co48, eo48⟩ := Kd.R_slice HO_3.out
       (first | subst eo48 | (injection eo48 with f1_ f2_ f3_; have f4_ := f1_.symm; have f5_ := f3_.symm; clear f1_ f2_ f3_; subst f4_; subst f5_))
       refine hK.out _ _ ⟨bc 0 BK149, bc 1 BK149, bc 2 BK149⟩ (fun hHeld => ?_)
       clear hK K
       refine nrm (some 37) ?_
       refine on1 6 (some 39) #[tt,tt,tt,tt,tt,tt,tt,ff,ff,ff,ff,ff,ff,ff,ff] (fun K hK => ?_)
       refine goes_ Tryz.func104 (by kernel_rfl) rfl #[.slice Ao47 t167.length co47, .slice Ao48 t154.length co48] (by rfl) rfl rfl az ?_
       with_reducible refine (manorboyref02_Nat_Cmp.calls k1 _ _ t167 _ _ t154 t170 _ ?side1 ?side2 ?side3 ?side4 A33.out).mono ?_
       (case side1 => exact ccz (Kd.R_reads' HO169.out).2.2)
       (case side2 => exact (Kd.R_reads' HO169.out).2.1)
       (case side3 => exact ccz (Kd.R_reads' HO_3.out).2.2)
       (case side4 => exact (Kd.R_reads' HO_3.out).2.1)
       rintro e w' ⟨rfl, ⟨nd, rfl⟩⟩
       refine ⟨_, rfl, ?_⟩
       refine hK.out _ _ ⟨bc 0 BK149, bc 1 BK149, bc 2 BK149⟩ (fun hHeld => ?_)
       clear hK K
       refine nrm (some 39) ?_
       refine pur 7 (some 40) #[tt,tt,tt,tt,tt,tt,tt,tt,ff,ff,ff,ff,ff,ff,ff] ?_
       refine pur 8 (some 41) #[tt,tt,tt,tt,tt,tt,tt,tt,tt,ff,ff,ff,ff,ff,ff] ?_
       refine pure_ (i := 9) (N := some 42) (v := undef) (a' := ?_) #[true, true, true, true, true, true, true, true, true, true, false, false, false, false, false] rfl rfl (any_of HT_.out (by kernel_rfl)) (fun _ _ _ h => h) (Or.inr ⟨by rfl, rfl⟩) ?_ ?_
       rotate_left
       ·simp only [Act.put, List.setIfInBounds_toArray, List.set_cons_zero, List.set_cons_succ, i64_w, i32_w]
        rfl
       refine pure_ (i := 10) (N := some 43) (v := undef) (a' := ?_) #[true, true, true, true, true, true, true, true, true, true, true, false, false, false, false] rfl rfl (any_of HT_.out (by kernel_rfl)) (fun _ _ _ h => h) (Or.inr ⟨by rfl, rfl⟩) ?_ ?_
       rotate_left
       ·simp only [Act.put, List.setIfInBounds_toArray, List.set_cons_zero, List.set_cons_succ, i64_w, i32_w]
        rfl
       refine pure_ (i := 11) (N := some 44) (v := undef) (a' := ?_) #[true, true, true, true, true, true, true, true, true, true, true, true, false, false, false] rfl rfl (any_of HT_.out (by kernel_rfl)) (fun _ _ _ h => h) (Or.inr ⟨by rfl, rfl⟩) ?_ ?_
       rotate_left
       ·simp only [Act.put, List.setIfInBounds_toArray, List.set_cons_zero, List.set_cons_succ, i64_w, i32_w]
        rfl
       refine pure_ (i := 12) (N := some 45) (v := undef) (a' := ?_) #[true, true, true, true, true, true, true, true, true, true, true, true, true, false, false] rfl rfl (any_of HT_.out (by kernel_rfl)) (fun _ _ _ h => h) (Or.inr ⟨by rfl, rfl⟩) ?_ ?_
       rotate_left
       ·simp only [Act.put, List.setIfInBounds_toArray, List.set_cons_zero, List.set_cons_succ, i64_w, i32_w]
        rfl
       refine pure_ (i := 13) (N := some 46) (v := undef) (a' := ?_) #[true, true, true, true, true, true, true, true, true, true, true, true, true, true, false] rfl rfl (any_of HT_.out (by kernel_rfl)) (fun _ _ _ h => h) (Or.inr ⟨by rfl, rfl⟩) ?_ ?_
       rotate_left
       ·simp only [Act.put, List.setIfInBounds_toArray, List.set_cons_zero, List.set_cons_succ, i64_w, i32_w]
        rfl
       refine pur 14 (some 47) #[tt,tt,tt,tt,tt,tt,tt,tt,tt,tt,tt,tt,tt,tt,tt] ?_
       refine done_ (done_of HT_.out (by kernel_rfl)) ?_
       try go_wp2
       go_meet
       case rel => exact ⟨_, (false), (by first | rfl | (simp; done) | (simp [*]; done)), H', ⟨by have := HK1.out; first | omega | exact Nat.le_refl _⟩, ⟨kz BK149⟩, ⟨kz BK150⟩, ⟨bz⟩⟩
     case rest => as_aux_lemma =>
      clear HC30
      try clear c10
      try clear c10b0
      try clear c27
      try clear c27b0
      try clear c34
      try clear c34b0
      try clear c34b1
      try clear hcz29_0
      try clear hcz29_1
      try clear hcz29_2
      try clear hfz29_0
      try clear hfz29_1
      try clear hfz29_2
      obtain ⟨kq, x47_29, rfl, HA, HJ29, BK149, BK150, HB⟩ := hcut
      cases kq with
      | zero => exact absurd HA.out (by simp [manorboyref02_Quotient_Round.j1])
      | succ kj29 =>
       have H := HA.out
       clear HA
       simp only [manorboyref02_Quotient_Round.j1] at H
       have HC49 := Aside0.mk H
       clear H
       go_upto_if 47 with (fail)
       go_cut [4] (fun v4 wc => ∃ (kq : Nat) (x4_48 : Int), v4 = .int .i64 x4_48 ∧ Aside0 (manorboyref02_Quotient_Round.j2 kq x4_48 a0_0 l0_1 l0_2 = some (r1, r2, r3)) ∧ Aside0 (kq ≤ kj29) ∧ Aside0 (wc.heap[gb149]? = some (.cells #[.bool a0_0, (.slice A0_1 l0_1.length c0_1), (.slice A0_2 l0_2.length c0_2)] 102 (0, 0))) ∧ Aside0 (wc.heap[gb150]? = some (.cells #[.int .i64 0, .int .i64 0, .bool false] 50 (0, 0))) ∧ Aside0 (Below w.heap.size w wc))
       case first => as_aux_lemma =>
        have H := HC49.out
        clear HC49
        by_cases c50 : x47_29 = true
        ·subst c50
         rw [if_pos rfl] at H
         have H' := Aside0.mk H
         clear H
         go_wp2
         go_meet
         case rel => exact ⟨_, (wrap64 (x4_1 + 1)), (by first | rfl | (simp; done) | (simp [*]; done)), H', ⟨by have := HK1.out; have := HJ29.out; first | omega | exact Nat.le_refl _⟩, ⟨kz BK149⟩, ⟨kz BK150⟩, ⟨bz⟩⟩
        ·replace c50 := Bool.eq_false_iff.mpr c50
         subst c50
         rw [if_neg (show ¬ (false = true) by decide)] at H
         have H' := Aside0.mk H
         clear H
         go_wp2
         go_meet
         case rel => exact ⟨_, (x4_1), (by first | rfl | (simp; done) | (simp [*]; done)), H', ⟨by have := HK1.out; have := HJ29.out; first | omega | exact Nat.le_refl _⟩, ⟨kz BK149⟩, ⟨kz BK150⟩, ⟨bz⟩⟩
       case rest => as_aux_lemma =>
        clear HC49
        try clear c10
        try clear c10b0
        try clear c27
        try clear c27b0
        try clear c34
        try clear c34b0
        try clear c34b1
        try clear c50
        try clear hcz29_0
        try clear hcz29_1
        try clear hcz29_2
        try clear hfz29_0
        try clear hfz29_1
        try clear hfz29_2
        obtain ⟨kq, x4_48, rfl, HA, HJ48, BK149, BK150, HB⟩ := hcut
        cases kq with
        | zero => exact absurd HA.out (by simp [manorboyref02_Quotient_Round.j2])
        | succ kj48 =>
         have H := HA.out
         clear HA
         simp only [manorboyref02_Quotient_Round.j2] at H
         by_cases c51 : x4_48 > 2533359615
         ·rw [if_pos c51] at H
          have c51b0 : decide (2533359615 < x4_48) = true := decide_eq_true c51
          clear c51
          simp only [Option.some.injEq, Prod.mk.injEq] at H
          obtain ⟨rfl, rfl, rfl⟩ := H
          have hnb52 := NB150_149.out
          have hnc52 := NB149_150.out
          have hcz53_0 : wc.cell? ⟨gb150, 0, none⟩ = some (.int .i64 0) := (blk_cell BK150.out 0).trans rfl
          have hcz53_1 : wc.cell? ⟨gb150, 1, none⟩ = some (.int .i64 0) := (blk_cell BK150.out 1).trans rfl
          have hcz53_2 : wc.cell? ⟨gb150, 2, none⟩ = some (.bool false) := (blk_cell BK150.out 2).trans rfl
          have hfz53_0 := blk_frozen BK150.out 0
          have hfz53_1 := blk_frozen BK150.out 1
          have hfz53_2 := blk_frozen BK150.out 2
          go_wp2
          refine bodyPost_ret (results_cell_row rfl _ _ gb150 50 #[.int .i64 0, .int .i64 0, .bool false] (0, 0) _ rfl (by (with_reducible repeat (first | refine blk_drewN ?_ _ | refine blk_drew ?_ | refine blk_alloc ?_ _)); refine blk_put (cs := #[.int .i64 0, .int .i64 0, .bool false]) ?_ 2 _ rfl; (with_reducible repeat (first | refine blk_drewN ?_ _ | refine blk_drew ?_ | refine blk_alloc ?_ _)); refine blk_put (cs := #[.int .i64 0, .int .i64 0, .bool false]) ?_ 1 _ rfl; (with_reducible repeat (first | refine blk_drewN ?_ _ | refine blk_drew ?_ | refine blk_alloc ?_ _)); refine blk_put (cs := #[.int .i64 0, .int .i64 0, .bool false]) ?_ 0 _ rfl; (with_reducible repeat (first | refine blk_drewN ?_ _ | refine blk_drew ?_ | refine blk_alloc ?_ _)); exact BK150.out) Tryz.underlying50 rfl (by kernel_rfl)) rfl ?_
          exact ⟨by first | rfl | (simp [errW_none, errW_some] <;> rfl) | (simp [*, errW_none, errW_some] <;> rfl), bz⟩
         ·rw [if_neg c51] at H
          have c51b0 : decide (2533359615 < x4_48) = false := decide_eq_false c51
          clear c51
          replace H := Option.bind_eq_some_iff.mp H
          obtain ⟨⟨t173, t174⟩, A540, H⟩ := H
          try dsimp only at H
          have A54 := Aside0.mk A540
          clear A540
          by_cases c55 : a0_0 = true
          ·subst c55
           rw [if_pos rfl] at H
           replace H := Option.bind_eq_some_iff.mp H
           obtain ⟨⟨t176, t177⟩, A560, H⟩ := H
           try dsimp only at H
           have A56 := Aside0.mk A560
           clear A560
           simp only [Option.some.injEq, Prod.mk.injEq] at H
           obtain ⟨rfl, rfl, rfl⟩ := H
           go_wp2_with (first | ((with_reducible refine gate_callee (f := 56) rfl ?_); refine gL 54 Tryz.func56 #[.int .i64 x4_48] ?_; (with_reducible refine (manorboyref02_At.calls kj48 x4_48 t173 t174 _ A54.out).mono ?_); rintro e w57 ⟨rfl, hb⟩; refine ⟨_, rfl, ?_⟩; replace BK149 := kb BK149 hb; replace BK150 := kb BK150 hb; replace HB := bs hb; (try clear hb); (try clear hk)) | ((with_reducible refine gate_dst (N := 7) rfl ?_); refine bxe 7 #[.int .i64 0, .int .i64 0] 23 ?_; intro gb175 hg w58 hbox hb; have BK175 := Aside0.mk hbox; have GW175 := ge hg; have GE175 := ge hg; have NB149_175 := nl BK149 hg; have NB175_149 := nr BK149 hg; have NB150_175 := nl BK150 hg; have NB175_150 := nr BK150 hg; replace BK149 := kb BK149 hb; replace BK150 := kb BK150 hb; replace HB := bs hb; clear hb hbox hg; have hnb59 := NB175_149.out; have hnc59 := NB149_175.out; have hnb60 := NB175_150.out; have hnc60 := NB150_175.out; have hcz61_0 := c20 BK175; have hcz61_1 := c21 BK175; have hfz61_0 := blk_frozen BK175.out 0; have hfz61_1 := blk_frozen BK175.out 1; have hnb62 := NB149_150.out; have hnc62 := NB150_149.out; have hcz63_0 : w58.cell? ⟨gb149, 0, none⟩ = some (.bool true) := (blk_cell BK149.out 0).trans rfl; have hcz63_1 : w58.cell? ⟨gb149, 1, none⟩ = some (.slice A0_1 l0_1.length c0_1) := (blk_cell BK149.out 1).trans rfl; have hcz63_2 : w58.cell? ⟨gb149, 2, none⟩ = some (.slice A0_2 l0_2.length c0_2) := (blk_cell BK149.out 2).trans rfl; have hfz63_0 := blk_frozen BK149.out 0; have hfz63_1 := blk_frozen BK149.out 1; have hfz63_2 := blk_frozen BK149.out 2) | ((with_reducible refine gate_callee (f := 56) rfl ?_); refine gL 59 Tryz.func56 #[.int .i64 (wrap64 (-x4_48))] ?_; (with_reducible refine (manorboyref02_At.calls kj48 (wrap64 (-x4_48)) t176 t177 _ A56.out).mono ?_); rintro e w64 ⟨rfl, hb⟩; refine ⟨_, rfl, ?_⟩; replace BK149 := Aside0.mk (blk_below (g := gb149) (o := .cells #[.bool true, .slice A0_1 l0_1.length c0_1, .slice A0_2 l0_2.length c0_2] 102 (0, 0)) (by (with_reducible repeat (first | refine blk_drewN ?_ _ | refine blk_drew ?_ | refine blk_alloc ?_ _)); refine blk_far ?_ NB149_175.out _; (with_reducible repeat (first | refine blk_drewN ?_ _ | refine blk_drew ?_ | refine blk_alloc ?_ _)); refine blk_far ?_ NB149_175.out _; (with_reducible repeat (first | refine blk_drewN ?_ _ | refine blk_drew ?_ | refine blk_alloc ?_ _)); exact BK149.out) hb); replace BK150 := Aside0.mk (blk_below (g := gb150) (o := .cells #[.int .i64 0, .int .i64 0, .bool false] 50 (0, 0)) (by (with_reducible repeat (first | refine blk_drewN ?_ _ | refine blk_drew ?_ | refine blk_alloc ?_ _)); refine blk_far ?_ NB150_175.out _; (with_reducible repeat (first | refine blk_drewN ?_ _ | refine blk_drew ?_ | refine blk_alloc ?_ _)); refine blk_far ?_ NB150_175.out _; (with_reducible repeat (first | refine blk_drewN ?_ _ | refine blk_drew ?_ | refine blk_alloc ?_ _)); exact BK150.out) hb); replace BK175 := Aside0.mk (blk_below (g := gb175) (o := .cells #[.int .i64 t173, .int .i64 t174] 23 (0, 0)) (by (with_reducible repeat (first | refine blk_drewN ?_ _ | refine blk_drew ?_ | refine blk_alloc ?_ _)); refine blk_put (cs := #[.int .i64 t173, .int .i64 0]) ?_ 1 _ rfl; (with_reducible repeat (first | refine blk_drewN ?_ _ | refine blk_drew ?_ | refine blk_alloc ?_ _)); refine blk_put (cs := #[.int .i64 0, .int .i64 0]) ?_ 0 _ rfl; (with_reducible repeat (first | refine blk_drewN ?_ _ | refine blk_drew ?_ | refine blk_alloc ?_ _)); exact BK175.out) hb); replace HB := bs hb; (try clear hb); (try clear hk); have hcz65_0 := c20 BK175; have hcz65_1 := c21 BK175; have hfz65_0 := blk_frozen BK175.out 0; have hfz65_1 := blk_frozen BK175.out 1; have hcz66_0 : w64.cell? ⟨gb150, 0, none⟩ = some (.int .i64 0) := (blk_cell BK150.out 0).trans rfl; have hcz66_1 : w64.cell? ⟨gb150, 1, none⟩ = some (.int .i64 0) := (blk_cell BK150.out 1).trans rfl; have hcz66_2 : w64.cell? ⟨gb150, 2, none⟩ = some (.bool false) := (blk_cell BK150.out 2).trans rfl; have hfz66_0 := blk_frozen BK150.out 0; have hfz66_1 := blk_frozen BK150.out 1; have hfz66_2 := blk_frozen BK150.out 2))
           refine bodyPost_ret (results_cell_row rfl _ _ gb150 50 #[.int .i64 t176, .int .i64 t177, .bool true] (0, 0) _ rfl (by (with_reducible repeat (first | refine blk_drewN ?_ _ | refine blk_drew ?_ | refine blk_alloc ?_ _)); refine blk_put (cs := #[.int .i64 t176, .int .i64 t177, .bool false]) ?_ 2 _ rfl; (with_reducible repeat (first | refine blk_drewN ?_ _ | refine blk_drew ?_ | refine blk_alloc ?_ _)); refine blk_put (cs := #[.int .i64 t176, .int .i64 0, .bool false]) ?_ 1 _ rfl; (with_reducible repeat (first | refine blk_drewN ?_ _ | refine blk_drew ?_ | refine blk_alloc ?_ _)); refine blk_put (cs := #[.int .i64 0, .int .i64 0, .bool false]) ?_ 0 _ rfl; (with_reducible repeat (first | refine blk_drewN ?_ _ | refine blk_drew ?_ | refine blk_alloc ?_ _)); refine blk_far ?_ NB150_175.out _; (with_reducible repeat (first | refine blk_drewN ?_ _ | refine blk_drew ?_ | refine blk_alloc ?_ _)); refine blk_far ?_ NB150_175.out _; (with_reducible repeat (first | refine blk_drewN ?_ _ | refine blk_drew ?_ | refine blk_alloc ?_ _)); exact BK150.out) Tryz.underlying50 rfl (by kernel_rfl)) rfl ?_
           exact ⟨by first | rfl | (simp [errW_none, errW_some] <;> rfl) | (simp [*, errW_none, errW_some] <;> rfl), bz⟩
          ·replace c55 := Bool.eq_false_iff.mpr c55
           subst c55
           rw [if_neg (show ¬ (false = true) by decide)] at H
           simp only [Option.some.injEq, Prod.mk.injEq] at H
           obtain ⟨rfl, rfl, rfl⟩ := H
           go_wp2_with (first | ((with_reducible refine gate_callee (f := 56) rfl ?_); refine gL 54 Tryz.func56 #[.int .i64 x4_48] ?_; (with_reducible refine (manorboyref02_At.calls kj48 x4_48 t173 t174 _ A54.out).mono ?_); rintro e w67 ⟨rfl, hb⟩; refine ⟨_, rfl, ?_⟩; replace BK149 := kb BK149 hb; replace BK150 := kb BK150 hb; replace HB := bs hb; (try clear hb); (try clear hk)) | ((with_reducible refine gate_dst (N := 7) rfl ?_); refine bxe 7 #[.int .i64 0, .int .i64 0] 23 ?_; intro gb175 hg w68 hbox hb; have BK175 := Aside0.mk hbox; have GW175 := ge hg; have GE175 := ge hg; have NB149_175 := nl BK149 hg; have NB175_149 := nr BK149 hg; have NB150_175 := nl BK150 hg; have NB175_150 := nr BK150 hg; replace BK149 := kb BK149 hb; replace BK150 := kb BK150 hb; replace HB := bs hb; clear hb hbox hg; have hnb69 := NB175_149.out; have hnc69 := NB149_175.out; have hnb70 := NB175_150.out; have hnc70 := NB150_175.out; have hcz71_0 := c20 BK175; have hcz71_1 := c21 BK175; have hfz71_0 := blk_frozen BK175.out 0; have hfz71_1 := blk_frozen BK175.out 1; have hnb72 := NB149_150.out; have hnc72 := NB150_149.out; have hcz73_0 : w68.cell? ⟨gb149, 0, none⟩ = some (.bool false) := (blk_cell BK149.out 0).trans rfl; have hcz73_1 : w68.cell? ⟨gb149, 1, none⟩ = some (.slice A0_1 l0_1.length c0_1) := (blk_cell BK149.out 1).trans rfl; have hcz73_2 : w68.cell? ⟨gb149, 2, none⟩ = some (.slice A0_2 l0_2.length c0_2) := (blk_cell BK149.out 2).trans rfl; have hfz73_0 := blk_frozen BK149.out 0; have hfz73_1 := blk_frozen BK149.out 1; have hfz73_2 := blk_frozen BK149.out 2; have hcz74_0 : w68.cell? ⟨gb150, 0, none⟩ = some (.int .i64 0) := (blk_cell BK150.out 0).trans rfl; have hcz74_1 : w68.cell? ⟨gb150, 1, none⟩ = some (.int .i64 0) := (blk_cell BK150.out 1).trans rfl; have hcz74_2 : w68.cell? ⟨gb150, 2, none⟩ = some (.bool false) := (blk_cell BK150.out 2).trans rfl; have hfz74_0 := blk_frozen BK150.out 0; have hfz74_1 := blk_frozen BK150.out 1; have hfz74_2 := blk_frozen BK150.out 2))
           refine bodyPost_ret (results_cell_row rfl _ _ gb150 50 #[.int .i64 t173, .int .i64 t174, .bool true] (0, 0) _ rfl (by (with_reducible repeat (first | refine blk_drewN ?_ _ | refine blk_drew ?_ | refine blk_alloc ?_ _)); refine blk_put (cs := #[.int .i64 t173, .int .i64 t174, .bool false]) ?_ 2 _ rfl; (with_reducible repeat (first | refine blk_drewN ?_ _ | refine blk_drew ?_ | refine blk_alloc ?_ _)); refine blk_put (cs := #[.int .i64 t173, .int .i64 0, .bool false]) ?_ 1 _ rfl; (with_reducible repeat (first | refine blk_drewN ?_ _ | refine blk_drew ?_ | refine blk_alloc ?_ _)); refine blk_put (cs := #[.int .i64 0, .int .i64 0, .bool false]) ?_ 0 _ rfl; (with_reducible repeat (first | refine blk_drewN ?_ _ | refine blk_drew ?_ | refine blk_alloc ?_ _)); refine blk_far ?_ NB150_175.out _; (with_reducible repeat (first | refine blk_drewN ?_ _ | refine blk_drew ?_ | refine blk_alloc ?_ _)); refine blk_far ?_ NB150_175.out _; (with_reducible repeat (first | refine blk_drewN ?_ _ | refine blk_drew ?_ | refine blk_alloc ?_ _)); exact BK150.out) Tryz.underlying50 rfl (by kernel_rfl)) rfl ?_
           exact ⟨by first | rfl | (simp [errW_none, errW_some] <;> rfl) | (simp [*, errW_none, errW_some] <;> rfl), bz⟩

end Go.Proofs.YteigbokklclmbaaGreatDoor.Z.Y.V
end
section
namespace Go.Proofs.YteigbokklclmbaaGreatDoor.Z.Y.V
open Go.RowKit Go.Proofs.YteigbokklclmbaaGreatDoor.Given Go.Proofs.YteigbokklclmbaaGreatDoorW.PrintWords Go.Proofs.YteigbokklclmbaaGreatDoorW.PrintLast Go.Proofs.YteigbokklclmbaaGreatDoorW.PrintMore
attribute [local go_sem] max2_int min2_int max_two min_two max_three min_three max_four min_four

mutual
def manorboyref02_Of.j0 : Nat → Int → Int → Int → Option (Bool × List Int × List Int)
 | 0, _, _, _ => none
 | k + 1, x3, x179000, x179001 => if x3 = 0 then (manorboyref02_Of.j1 k x3 (-150) x179000 x179001) else (manorboyref02_Of.j1 k x3 x179001 x179000 x179001)
def manorboyref02_Of.j1 : Nat → Int → Int → Int → Int → Option (Bool × List Int × List Int)
 | 0, _, _, _, _ => none
 | k + 1, x3, x4, x179000, x179001 => (manorboyref02_Small.f k x3).bind fun t180 => ((manorboyref02_Two.f (wrap64 (x4 + 150))).bind fun t183 => ((manorboyref02_Nat_Mul.f k t180 t183).bind fun t186 => ((manorboyref02_Two.f 150).bind fun t189 => (some (decide (x179000 < 0), t186, t189)))))
end
def manorboyref02_Of.f (k : Nat) (a0_0 : Int) (a0_1 : Int) : Option (Bool × List Int × List Int) := if a0_0 < 0 then (manorboyref02_Of.j0 k (wrap64 (-a0_0)) a0_0 a0_1) else (manorboyref02_Of.j0 k a0_0 a0_0 a0_1)
def manorboyref02_Of.T7 : Bool × List (List Nat × List Nat) := (true, [([], []), ([0], [0]), ([1], [1]), ([], []), ([3], [3]), ([], []), ([5], [5]), ([6, 4], [6]), ([4, 7, 7], [4, 7]), ([8], []), ([2, 8, 9], [2, 8, 9]), ([10, 9, 0, 1, 2, 3, 4, 5, 6, 7, 8, 9, 10], [10])])
def manorboyref02_Of.B7 : List Nat := [0, 1, 3, 0, 8, 0, 32, 120, 248, 504, 1023, 2047]
theorem manorboyref02_Of.tab7 : rtab .any (opsOf Tryz.f102 7) = manorboyref02_Of.T7 := by kernel_rfl
theorem manorboyref02_Of.bits7 : waitsOk manorboyref02_Of.T7.2 manorboyref02_Of.B7 = true := by kernel_rfl
theorem manorboyref02_Of.calls (k : Nat) (a0_0 : Int) (a0_1 : Int) (r1 : Bool) (r2 : List Int) (r3 : List Int) (w : World) (h : manorboyref02_Of.f k a0_0 a0_1 = some (r1, r2, r3)) :
  Calls Tryz.prog 102 #[.agg #[.int .i64 a0_0, .int .i64 a0_1]] w fun e w' => ∃ v1_ v2_ : Value, e = .returned (.agg #[.bool r1, v1_, v2_]) ∧ Kd.R (Kd.int .i64) 3 w' w.heap.size (fun k_ => some k_ ≠ (v2_ : Value).ownBlock) v1_ r2 ∧ Kd.R (Kd.int .i64) 3 w' w.heap.size (fun k_ => some k_ ≠ (v1_ : Value).ownBlock) v2_ r3 ∧ Below w.heap.size w w' := by
 have hu23 := Tryz.underlying23
 have hu102 := Tryz.underlying102
 have HB := Aside0.mk (Below.refl w.heap.size w)
 have H := h; unfold manorboyref02_Of.f at H; clear h
 have HC2 := Aside0.mk H
 clear H
 go_enter Tryz.func102, Tryz.ntmps102
 go_upto_if 8 with (first | ((with_reducible refine gate_dst (N := 1) rfl ?_); refine bxe 1 #[.int .i64 a0_0, .int .i64 a0_1] 23 ?_; intro gb178 hg w3 hbox hb; have BK178 := Aside0.mk hbox; have GW178 := ge hg; have GE178 := ge hg; replace HB := bs hb; clear hb hbox hg) | ((with_reducible refine gate_dst (N := 2) rfl ?_); refine bxe 2 #[.bool false, .slice none 0 0, .slice none 0 0] 102 ?_; intro gb179 hg w4 hbox hb; have BK179 := Aside0.mk hbox; have GW179 := ge hg; have GE179 := ge hg; have NB178_179 := nl BK178 hg; have NB179_178 := nr BK178 hg; replace BK178 := kb BK178 hb; replace HB := bs hb; clear hb hbox hg; have hnb5 := NB178_179.out; have hnc5 := NB179_178.out; have hcz6_0 := c20 BK178; have hcz6_1 := c21 BK178; have hfz6_0 := blk_frozen BK178.out 0; have hfz6_1 := blk_frozen BK178.out 1))
 (try simp only [Act.put, List.setIfInBounds_toArray, List.set_cons_zero, List.set_cons_succ])
 go_cut [3] (fun v3 wc => ∃ (kq : Nat) (x3_1 : Int), v3 = .int .i64 x3_1 ∧ Aside0 (manorboyref02_Of.j0 kq x3_1 a0_0 a0_1 = some (r1, r2, r3)) ∧ Aside0 (kq ≤ k) ∧ Aside0 (wc.heap[gb178]? = some (.cells #[.int .i64 a0_0, .int .i64 a0_1] 23 (0, 0))) ∧ Aside0 (wc.heap[gb179]? = some (.cells #[.bool false, (.slice none 0 0), (.slice none 0 0)] 102 (0, 0))) ∧ Aside0 (Below w.heap.size w wc))
 case first => as_aux_lemma =>
  have H := HC2.out
  clear HC2
  by_cases c7 : a0_0 < 0
  ·rw [if_pos c7] at H
   have c7b0 : decide (a0_0 < 0) = true := decide_eq_true c7
   clear c7
   (first | rw [c7b0] | (simp only [i64_w, i32_w]; rw [c7b0]) | skip)
   have H' := Aside0.mk H
   clear H
   go_wp2
   go_meet
   case rel => exact ⟨_, (wrap64 (-a0_0)), (by first | rfl | (simp; done) | (simp [*]; done)), H', ⟨by first | omega | exact Nat.le_refl _⟩, ⟨kz BK178⟩, ⟨kz BK179⟩, ⟨bz⟩⟩
  ·rw [if_neg c7] at H
   have c7b0 : decide (a0_0 < 0) = false := decide_eq_false c7
   clear c7
   (first | rw [c7b0] | (simp only [i64_w, i32_w]; rw [c7b0]) | skip)
   have H' := Aside0.mk H
   clear H
   go_wp2
   go_meet
   case rel => exact ⟨_, (a0_0), (by first | rfl | (simp; done) | (simp [*]; done)), H', ⟨by first | omega | exact Nat.le_refl _⟩, ⟨kz BK178⟩, ⟨kz BK179⟩, ⟨bz⟩⟩
 case rest => as_aux_lemma =>
  clear HC2
  try clear c7
  try clear c7b0
  try clear hcz6_0
  try clear hcz6_1
  try clear hfz6_0
  try clear hfz6_1
  obtain ⟨kq, x3_1, rfl, HA, HJ1, BK178, BK179, HB⟩ := hcut
  cases kq with
  | zero => exact absurd HA.out (by simp [manorboyref02_Of.j0])
  | succ kj1 =>
   have H := HA.out
   clear HA
   simp only [manorboyref02_Of.j0] at H
   have HC8 := Aside0.mk H
   clear H
   have hnb9 := NB178_179.out
   have hnc9 := NB179_178.out
   have hcz10_0 := c20 BK178
   have hcz10_1 := c21 BK178
   have hfz10_0 := blk_frozen BK178.out 0
   have hfz10_1 := blk_frozen BK178.out 1
   go_upto_if 14 with (fail)
   go_cut [4] (fun v4 wc => ∃ (kq : Nat) (x4_7 : Int), v4 = .int .i64 x4_7 ∧ Aside0 (manorboyref02_Of.j1 kq x3_1 x4_7 a0_0 a0_1 = some (r1, r2, r3)) ∧ Aside0 (kq ≤ kj1) ∧ Aside0 (wc.heap[gb178]? = some (.cells #[.int .i64 a0_0, .int .i64 a0_1] 23 (0, 0))) ∧ Aside0 (wc.heap[gb179]? = some (.cells #[.bool false, (.slice none 0 0), (.slice none 0 0)] 102 (0, 0))) ∧ Aside0 (Below w.heap.size w wc))
   case first => as_aux_lemma =>
    have H := HC8.out
    clear HC8
    by_cases c11 : x3_1 = 0
    ·rw [if_pos c11] at H
     have c11b0 : (x3_1 == 0) = true := beq_iff_eq.mpr c11
     have c11b1 : (x3_1 != 0) = false := bne_eq_false_iff_eq.mpr c11
     clear c11
     (first | rw [c11b0] | (simp only [i64_w, i32_w]; rw [c11b0]) | skip)
     have H' := Aside0.mk H
     clear H
     go_wp2
     go_meet
     case rel => exact ⟨_, ((-150)), (by first | rfl | (simp; done) | (simp [*]; done)), H', ⟨by have := HJ1.out; first | omega | exact Nat.le_refl _⟩, ⟨kz BK178⟩, ⟨kz BK179⟩, ⟨bz⟩⟩
    ·rw [if_neg c11] at H
     have c11b0 : (x3_1 == 0) = false := beq_eq_false_iff_ne.mpr c11
     have c11b1 : (x3_1 != 0) = true := bne_iff_ne.mpr c11
     (first | rw [c11b0] | (simp only [i64_w, i32_w]; rw [c11b0]) | skip)
     have H' := Aside0.mk H
     clear H
     go_wp2
     go_meet
     case rel => exact ⟨_, (a0_1), (by first | rfl | (simp; done) | (simp [*]; done)), H', ⟨by have := HJ1.out; first | omega | exact Nat.le_refl _⟩, ⟨kz BK178⟩, ⟨kz BK179⟩, ⟨bz⟩⟩
   case rest => as_aux_lemma =>
    clear HC8
    try clear c7
    try clear c7b0
    try clear c11
    try clear c11b0
    try clear c11b1
    try clear hcz10_0
    try clear hcz10_1
    try clear hcz6_0
    try clear hcz6_1
    try clear hfz10_0
    try clear hfz10_1
    try clear hfz6_0
    try clear hfz6_1
    obtain ⟨kq, x4_7, rfl, HA, HJ7, BK178, BK179, HB⟩ := hcut
    cases kq with
    | zero => exact absurd HA.out (by simp [manorboyref02_Of.j1])
    | succ kj7 =>
     have H := HA.out
     clear HA
     simp only [manorboyref02_Of.j1] at H
     replace H := Option.bind_eq_some_iff.mp H
     obtain ⟨t180, A120, H⟩ := H
     try dsimp only at H
     have A12 := Aside0.mk A120
     clear A120
     replace H := Option.bind_eq_some_iff.mp H
     obtain ⟨t183, A130, H⟩ := H
     try dsimp only at H
     have A13 := Aside0.mk A130
     clear A130
     replace H := Option.bind_eq_some_iff.mp H
     obtain ⟨t186, A140, H⟩ := H
     try dsimp only at H
     have A14 := Aside0.mk A140
     clear A140
     replace H := Option.bind_eq_some_iff.mp H
     obtain ⟨t189, A150, H⟩ := H
     try dsimp only at H
     have A15 := Aside0.mk A150
     clear A150
     simp only [Option.some.injEq, Prod.mk.injEq] at H
     obtain ⟨rfl, rfl, rfl⟩ := H
     try go_wp2
     replace BK178 := Aside0.mk (blk_drew BK178.out)
     replace BK179 := Aside0.mk (blk_drew BK179.out)
     replace HB := Aside0.mk (below_drew1 HB.out)
     refine start_ (n := 12) (S := fun w' => w'.cell? ⟨gb178, 0, none⟩ = some (.int .i64 a0_0) ∧ w'.cell? ⟨gb178, 1, none⟩ = some (.int .i64 a0_1)) (ds := []) #[ff,ff,ff,ff,ff,ff,ff,ff,ff,ff,ff,ff] (by kernel_rfl) rfl rfl ⟨bc 0 BK178, bc 1 BK178⟩ (fun hHeld => ?_); refine with_tabW manorboyref02_Of.tab7 manorboyref02_Of.bits7 (fun HT_ HW_ => ?_)
     generalize wc.drew = w16 at BK178 BK179 HB hHeld ⊢
     refine pur 0 (some 15) #[tt,ff,ff,ff,ff,ff,ff,ff,ff,ff,ff,ff] ?_
     refine pur 3 (some 18) #[tt,ff,ff,tt,ff,ff,ff,ff,ff,ff,ff,ff] ?_
     refine pur 5 (some 20) #[tt,ff,ff,tt,ff,tt,ff,ff,ff,ff,ff,ff] ?_
     refine pur 6 (some 21) #[tt,ff,ff,tt,ff,tt,tt,ff,ff,ff,ff,ff] ?_
     refine tk2 1 (some 16) #[tt,tt,ff,tt,ff,tt,tt,ff,ff,ff,ff,ff] ?_
     refine pur 2 (some 17) #[tt,tt,tt,tt,ff,tt,tt,ff,ff,ff,ff,ff] ?_
     refine on1 4 (some 19) #[tt,tt,tt,tt,tt,tt,tt,ff,ff,ff,ff,ff] (fun K hK => ?_)
     refine goes_ Tryz.func85 (by kernel_rfl) rfl #[.int .i64 x3_1] (by rfl) rfl rfl az ?_
     with_reducible refine (manorboyref02_Small.calls kj7 x3_1 t180 _ A12.out).mono ?_
     rintro e w17 ⟨v181, rfl, ho0, hb⟩
     refine ⟨_, rfl, ?_⟩
     have HO182 := Aside0.mk (Kd.R_lower ho0 (below_size bz))
     replace BK178 := kb BK178 hb
     replace BK179 := kb BK179 hb
     replace HB := bs hb
     (try clear hb)
     (try clear hk)
     (try clear ho0)
     refine hK.out _ _ ⟨bc 0 BK178, bc 1 BK178⟩ (fun hHeld => ?_)
     clear hK K
     refine nrm (some 19) ?_
     refine on1 7 (some 22) #[tt,tt,tt,tt,tt,tt,tt,tt,ff,ff,ff,ff] (fun K hK => ?_)
     refine goes_ Tryz.func107 (by kernel_rfl) rfl #[.int .i64 (wrap64 (x4_7 + 150))] (by rfl) rfl rfl az ?_
     with_reducible refine (manorboyref02_Two.calls (wrap64 (x4_7 + 150)) t183 _ A13.out).mono ?_
     rintro e w18 ⟨v184, rfl, ho0, hb⟩
     refine ⟨_, rfl, ?_⟩
     have HO185 := Aside0.mk (Kd.R_lower (Kd.R_new' ho0 (Kd.R_lt (rz HO182))) (below_size bz))
     replace HO182 := Aside0.mk (Kd.R_elder' (rz HO182) (Kd.R_base ho0) hb)
     replace BK178 := kb BK178 hb
     replace BK179 := kb BK179 hb
     replace HB := bs hb
     (try clear hb)
     (try clear hk)
     (try clear ho0)
     obtain ⟨Ao19, co19, eo19⟩ := Kd.R_slice HO182.out
     (first | subst eo19 | (injection eo19 with f1_ f2_ f3_; have f4_ := f1_.symm; have f5_ := f3_.symm; clear f1_ f2_ f3_; subst f4_; subst f5_))
     obtain ⟨Ao20, co20, eo20⟩ := Kd.R_slice HO185.out
     (first | subst eo20 | (injection eo20 with f1_ f2_ f3_; have f4_ := f1_.symm; have f5_ := f3_.symm; clear f1_ f2_ f3_; subst f4_; subst f5_))
     refine hK.out _ _ ⟨bc 0 BK178, bc 1 BK178⟩ (fun hHeld => ?_)
     clear hK K
     refine nrm (some 22) ?_
     refine on1 8 (some 23) #[tt,tt,tt,tt,tt,tt,tt,tt,tt,ff,ff,ff] (fun K hK => ?_)
     refine goes_ Tryz.func86 (by kernel_rfl) rfl #[.slice Ao19 t180.length co19, .slice Ao20 t183.length co20] (by rfl) rfl rfl az ?_
     with_reducible refine (manorboyref02_Nat_Mul.calls kj7 _ _ t180 _ _ t183 t186 _ ?side1 ?side2 ?side3 ?side4 A14.out).mono ?_
     (case side1 => exact ccz (Kd.R_reads' HO182.out).2.2)
     (case side2 => exact (Kd.R_reads' HO182.out).2.1)
     (case side3 => exact ccz (Kd.R_reads' HO185.out).2.2)
     (case side4 => exact (Kd.R_reads' HO185.out).2.1)
     rintro e w21 ⟨v187, rfl, ho0, hb⟩
     refine ⟨_, rfl, ?_⟩
     have HO188 := Aside0.mk (Kd.R_lower (Kd.R_new' (Kd.R_new' ho0 (Kd.R_lt (rz HO182))) (Kd.R_lt (rz HO185))) (below_size bz))
     replace HO182 := Aside0.mk (Kd.R_elder' (rz HO182) (Kd.R_base ho0) hb)
     replace HO185 := Aside0.mk (Kd.R_elder' (rz HO185) (Kd.R_base ho0) hb)
     replace BK178 := kb BK178 hb
     replace BK179 := kb BK179 hb
     replace HB := bs hb
     (try clear hb)
     (try clear hk)
     (try clear ho0)
     refine hK.out _ _ ⟨bc 0 BK178, bc 1 BK178⟩ (fun hHeld => ?_)
     clear hK K
     refine nrm (some 23) ?_
     refine on1 9 (some 24) #[tt,tt,tt,tt,tt,tt,tt,tt,tt,tt,ff,ff] (fun K hK => ?_)
     refine goes_ Tryz.func107 (by kernel_rfl) rfl #[.int .i64 150] (by rfl) rfl rfl az ?_
     with_reducible refine (manorboyref02_Two.calls 150 t189 _ A15.out).mono ?_
     rintro e w22 ⟨v190, rfl, ho0, hb⟩
     refine ⟨_, rfl, ?_⟩
     have HO191 := Aside0.mk (Kd.R_lower (Kd.R_new' (Kd.R_new' (Kd.R_new' ho0 (Kd.R_lt (rz HO182))) (Kd.R_lt (rz HO185))) (Kd.R_lt (rz HO188))) (below_size bz))
     replace HO182 := Aside0.mk (Kd.R_elder' (rz HO182) (Kd.R_base ho0) hb)
     replace HO185 := Aside0.mk (Kd.R_elder' (rz HO185) (Kd.R_base ho0) hb)
     replace HO188 := Aside0.mk (Kd.R_elder' (rz HO188) (Kd.R_base ho0) hb)
     replace BK178 := kb BK178 hb
     replace BK179 := kb BK179 hb
     replace HB := bs hb
     (try clear hb)
     (try clear hk)
     (try clear ho0)
     obtain ⟨Ao23, co23, eo23⟩ := Kd.R_slice HO191.out
     (first | subst eo23 | (injection eo23 with f1_ f2_ f3_; have f4_ := f1_.symm; have f5_ := f3_.symm; clear f1_ f2_ f3_; subst f4_; subst f5_))
     obtain ⟨Ao24, co24, eo24⟩ := Kd.R_slice HO188.out
     (first | subst eo24 | (injection eo24 with f1_ f2_ f3_; have f4_ := f1_.symm; have f5_ := f3_.symm; clear f1_ f2_ f3_; subst f4_; subst f5_))
     refine hK.out _ _ ⟨bc 0 BK178, bc 1 BK178⟩ (fun hHeld => ?_)
     clear hK K
     refine nrm (some 24) ?_
     refine pur 10 (some 25) #[tt,tt,tt,tt,tt,tt,tt,tt,tt,tt,tt,ff] ?_
     refine on1 11 (none) #[tt,tt,tt,tt,tt,tt,tt,tt,tt,tt,tt,tt] (fun K hK => ?_)
     have hs25 : w22.cell? ⟨gb179, 0, none⟩ = some (.bool false) := (blk_cell BK179.out 0).trans rfl
     have hfs25 := blk_frozen BK179.out 0
     have hns25_0 := NB178_179.out
     have hms25_0 := NB179_178.out
     have hs26 : w22.cell? ⟨gb179, 1, none⟩ = some (.slice none 0 0) := (blk_cell BK179.out 1).trans rfl
     have hfs26 := blk_frozen BK179.out 1
     have hns26_0 := NB178_179.out
     have hms26_0 := NB179_178.out
     have hs27 : w22.cell? ⟨gb179, 2, none⟩ = some (.slice none 0 0) := (blk_cell BK179.out 2).trans rfl
     have hfs27 := blk_frozen BK179.out 2
     have hns27_0 := NB178_179.out
     have hms27_0 := NB179_178.out
     refine skip_ (w1 := ?_) (by rfl) rfl ?_ ?_
     rotate_left
     ·go_simp
      rfl
     refine hK.out _ _ ⟨((cell_far (p := ⟨gb179, _, none⟩) NB178_179.out _).trans (((cell_far (p := ⟨gb179, _, none⟩) NB178_179.out _).trans (((cell_far (p := ⟨gb179, _, none⟩) NB178_179.out _).trans (hHeld.1)))))), ((cell_far (p := ⟨gb179, _, none⟩) NB178_179.out _).trans (((cell_far (p := ⟨gb179, _, none⟩) NB178_179.out _).trans (((cell_far (p := ⟨gb179, _, none⟩) NB178_179.out _).trans (hHeld.2))))))⟩ (fun hHeld => ?_)
     clear hK K
     refine done_ (done_of HT_.out (by kernel_rfl)) ?_
     try go_wp2
     refine bodyPost_ret (results_cell_row rfl _ _ gb179 102 #[.bool (decide (a0_0 < 0)), .slice Ao24 t186.length co24, .slice Ao23 t189.length co23] (0, 0) _ rfl (by (with_reducible repeat (first | refine blk_drewN ?_ _ | refine blk_drew ?_ | refine blk_alloc ?_ _)); refine blk_put (cs := #[.bool (decide (a0_0 < 0)), .slice Ao24 t186.length co24, .slice none 0 0]) ?_ 2 _ rfl; (with_reducible repeat (first | refine blk_drewN ?_ _ | refine blk_drew ?_ | refine blk_alloc ?_ _)); refine blk_put (cs := #[.bool (decide (a0_0 < 0)), .slice none 0 0, .slice none 0 0]) ?_ 1 _ rfl; (with_reducible repeat (first | refine blk_drewN ?_ _ | refine blk_drew ?_ | refine blk_alloc ?_ _)); refine blk_put (cs := #[.bool false, .slice none 0 0, .slice none 0 0]) ?_ 0 _ rfl; (with_reducible repeat (first | refine blk_drewN ?_ _ | refine blk_drew ?_ | refine blk_alloc ?_ _)); exact BK179.out) Tryz.underlying102 rfl (by kernel_rfl)) rfl ?_
     exact ⟨_, _, by first | rfl | (simp [errW_none, errW_some] <;> rfl) | (simp [*, errW_none, errW_some] <;> rfl), by (with_reducible repeat (first | apply Kd.R_alloc | apply Kd.R_drewN | apply Kd.R_drew)); exact Kd.R_mono (Kd.R_far (p := ⟨gb179, 2, none⟩) (Kd.R_far (p := ⟨gb179, 1, none⟩) (Kd.R_far (p := ⟨gb179, 0, none⟩) (Kd.R_types HO188.out BK179.out (by decide)) (fun _ hk => hk.2) (.bool (decide (a0_0 < 0)))) (fun _ hk => hk.2) (.slice Ao24 t186.length co24)) (fun _ hk => hk.2) (.slice Ao23 t189.length co23)) (fun _ hk => hk.1.2), by (with_reducible repeat (first | apply Kd.R_alloc | apply Kd.R_drewN | apply Kd.R_drew)); exact Kd.R_mono (Kd.R_far (p := ⟨gb179, 2, none⟩) (Kd.R_far (p := ⟨gb179, 1, none⟩) (Kd.R_far (p := ⟨gb179, 0, none⟩) (Kd.R_types HO191.out BK179.out (by decide)) (fun _ hk => hk.2) (.bool (decide (a0_0 < 0)))) (fun _ hk => hk.2) (.slice Ao24 t186.length co24)) (fun _ hk => hk.2) (.slice Ao23 t189.length co23)) (fun _ hk => hk.1.2), bz⟩

end Go.Proofs.YteigbokklclmbaaGreatDoor.Z.Y.V
end
section
namespace Go.Proofs.YteigbokklclmbaaGreatDoor.M
open Go Go.RowKit Go.Proofs.YteigbokklclmbaaGreatDoor.Given Go.Proofs.YteigbokklclmbaaGreatDoorW.PrintWords Go.Proofs.YteigbokklclmbaaGreatDoorW.PrintLast Go.Proofs.YteigbokklclmbaaGreatDoorW.PrintMore Go.Proofs.YteigbokklclmbaaGreatDoor.Z Go.Proofs.YteigbokklclmbaaGreatDoor.Z.Y Go.Proofs.YteigbokklclmbaaGreatDoor.Z.Y.V
/-- A sign laid on a real. -/
def sgn (neg : Bool) (p : Int × Int) : Int × Int := (if neg = true then -p.1 else p.1, p.2)
theorem bl_two (s : Nat) : bl (2 ^ s) ≤ s + 1 := bl_le_iff.2 (Nat.pow_lt_pow_right (by decide) (by omega))
theorem man_bd (I : Nat) : man I < 16777216 := by unfold man sh; omega
theorem atE_ev (I : Nat) (h : I ≤ 2533359616) : Ev (fun k => manorboyref02_At.f k (I : Int)) (atI I) := by
  have hn : ¬ ((I : Int) < 0) := by omega
  refine Ev.step (f := fun _ => some (atI I)) (fun k => ?_) (Ev.now _)
  rw [manorboyref02_At.f, if_neg hn]
  unfold atI
  by_cases h1 : (I : Int) < 16777216
  · rw [if_pos h1]
    by_cases h0 : (I : Int) = 0
    · rw [if_pos h0, if_pos (by omega)]
    · rw [if_neg h0, if_neg (by omega)]
      have h2 : sh I = 0 := by unfold sh; omega
      have h3 : man I = I := by unfold man; rw [h2]; omega
      rw [h2, h3]; rfl
  · rw [if_neg h1, if_neg (by omega)]
    have e1 : wrap64 ((I : Int) / 8388608 - 1) = ((sh I : Nat) : Int) := by
      rw [w64 _ (by omega) (by omega)]; unfold sh; omega
    have e2 : wrap64 (((sh I : Nat) : Int) * 8388608) = ((sh I : Nat) : Int) * 8388608 := w64 _ (by unfold sh; omega) (by unfold sh; omega)
    have e3 : wrap64 ((I : Int) - ((sh I : Nat) : Int) * 8388608) = ((man I : Nat) : Int) := by
      rw [w64 _ (by unfold sh; omega) (by unfold sh; omega)]; unfold man sh; omega
    have e4 : wrap64 (((sh I : Nat) : Int) - 150) = ((sh I : Nat) : Int) - 150 := w64 _ (by unfold sh; omega) (by unfold sh; omega)
    rw [e1, e2, e3, e4]
theorem atN_ev (I : Nat) (h : I ≤ 2533359616) : Ev (fun k => manorboyref02_At.f k (-(I : Int))) (sgn true (atI I)) := by
  rcases Nat.eq_zero_or_pos I with h0 | h0
  · subst h0
    exact atE_ev 0 (by omega)
  · have w : wrap64 (- -(I : Int)) = (I : Int) := by rw [w64 _ (by omega) (by omega)]; omega
    refine Ev.step (f := fun k => (manorboyref02_At.f k (I : Int)).bind fun bt => some (wrap64 (-bt.1), bt.2)) (fun k => by rw [manorboyref02_At.f, if_pos (by omega), w]) ?_
    refine Ev.bind (atE_ev I h) ?_
    have hm := man_bd I
    have e : wrap64 (-(atI I).1) = -(atI I).1 := by
      unfold atI; rw [if_neg (by omega)]; exact w64 _ (by show -9223372036854775808 ≤ -((man I : Nat) : Int); omega) (by show -((man I : Nat) : Int) ≤ _; omega)
    rw [e]
    unfold sgn
    rw [if_pos rfl]; exact Ev.now _
theorem half_ev (I : Nat) (h : I ≤ 2533359616) : Ev (fun k => manorboyref02_half.f k (I : Int)) (E (H I)) := by
  have hm := man_bd I
  have hs : sh I ≤ 302 := by unfold sh; omega
  have w1 : wrap64 (2 * ((man I : Nat) : Int)) = ((2 * man I : Nat) : Int) := by rw [w64 _ (by omega) (by omega)]; omega
  have w2 : wrap64 (((2 * man I : Nat) : Int) + 1) = ((2 * man I + 1 : Nat) : Int) := by rw [w64 _ (by omega) (by omega)]; omega
  have key : ∀ (x4 b : Int), x4 = ((sh I : Nat) : Int) - 150 → Ev (fun k => manorboyref02_half.j0 k x4 ((man I : Nat) : Int) b) (E (H I)) := by
    intro x4 b hx
    have w3 : wrap64 (x4 + 150) = ((sh I : Nat) : Int) := by rw [w64 _ (by omega) (by omega)]; omega
    refine Ev.step (f := fun k => (manorboyref02_Small.f k ((2 * man I + 1 : Nat) : Int)).bind fun t140 => (manorboyref02_Two.f ((sh I : Nat) : Int)).bind fun t143 => (manorboyref02_Nat_Mul.f k t140 t143).bind fun t146 => some t146) (fun k => by rw [manorboyref02_half.j0, w1, w2, w3]) ?_
    refine Ev.bind (smallE_ev (by omega)) (Ev.bind (two_Ev _ (by omega)) ?_)
    have b1 : bl (2 * man I + 1) ≤ 25 := bl_le_iff.2 (by omega)
    have b2 := bl_two (sh I)
    have := mulE_ev (a := 2 * man I + 1) (b := 2 ^ sh I) (Se.of (by omega)) (Se.of (by omega))
    rw [← H_eq] at this
    exact some_back this
  refine Ev.congr (f := fun k => (manorboyref02_At.f k (I : Int)).bind fun bt137 => if (I : Int) = 0 then manorboyref02_half.j0 k (-150) bt137.1 bt137.2 else manorboyref02_half.j0 k bt137.2 bt137.1 bt137.2) (fun k => rfl) ?_
  refine Ev.bind (atE_ev I h) ?_
  rcases Nat.eq_zero_or_pos I with h0 | h0
  · subst h0
    exact Ev.congr (fun k => if_pos rfl) (key (-150) _ (by have : sh 0 = 0 := rfl; rw [this]; rfl))
  · have e : atI I = (((man I : Nat) : Int), ((sh I : Nat) : Int) - 150) := by unfold atI; rw [if_neg (by omega)]
    rw [e]
    exact Ev.congr (fun k => if_neg (by omega)) (key _ _ rfl)
theorem bl_H (I : Nat) (h : I ≤ 2533359616) : bl (H I) ≤ 328 := by
  have hm := man_bd I
  have hs : sh I ≤ 302 := by unfold sh; omega
  rw [H_eq]
  have b1 : bl (2 * man I + 1) ≤ 25 := bl_le_iff.2 (by omega)
  have := bl_shift (2 * man I + 1) (sh I)
  omega
theorem H_odd (I : Nat) : man I % 2 = I % 2 := by unfold man sh; omega
/-- What the specification's rounding answers. -/
def rref (neg : Bool) (I : Nat) : Int × Int × Bool := if 2533359615 < I then (0, 0, false) else ((sgn neg (atI I)).1, (sgn neg (atI I)).2, true)
theorem round_j2 (neg : Bool) (a b : List Int) (I : Nat) (h : I ≤ 2533359616) : Ev (fun k => manorboyref02_Quotient_Round.j2 k (I : Int) neg a b) (rref neg I) := by
  unfold rref
  by_cases hI : (I : Int) > 2533359615
  · rw [if_pos (by omega)]
    exact Ev.step (fun k => by rw [manorboyref02_Quotient_Round.j2, if_pos hI]) (Ev.now _)
  · rw [if_neg (by omega)]
    have w : wrap64 (-(I : Int)) = -(I : Int) := w64 _ (by omega) (by omega)
    refine Ev.step (f := fun k => (manorboyref02_At.f k (I : Int)).bind fun bt173 => if neg = true then (manorboyref02_At.f k (-(I : Int))).bind fun bt176 => some (bt176.1, bt176.2, true) else some (bt173.1, bt173.2, true)) (fun k => by rw [manorboyref02_Quotient_Round.j2, if_neg hI, w]) ?_
    refine Ev.bind (atE_ev I h) ?_
    by_cases hn : neg = true
    · subst hn
      exact Ev.congr (fun k => if_pos rfl) (Ev.bind (atN_ev I h) (Ev.now _))
    · have hn' : neg = false := by simpa using hn
      subst hn'
      exact Ev.congr (fun k => if_neg (by decide)) (Ev.now _)
theorem round_go (neg : Bool) (x3 a b : List Int) (lo hi mid : Nat) (hlt : lo < hi) (hhi : hi ≤ 2533359616) (hmid : mid = (lo + hi) / 2) (k : Nat) :
    manorboyref02_Quotient_Round.l0 (k + 1) x3 (lo : Int) (hi : Int) neg a b = (manorboyref02_half.f k (mid : Int)).bind fun t157 => (manorboyref02_Nat_Mul.f k t157 b).bind fun t160 => (manorboyref02_Nat_Cmp.f k t160 x3).bind fun t163 => if t163 ≥ 0 then manorboyref02_Quotient_Round.l0 k x3 (lo : Int) (mid : Int) neg a b else manorboyref02_Quotient_Round.l0 k x3 ((mid + 1 : Nat) : Int) (hi : Int) neg a b := by
  have w1 : wrap64 ((lo : Int) + (hi : Int)) = ((lo + hi : Nat) : Int) := by rw [w64 _ (by omega) (by omega)]; omega
  have w2 : wrap64 (Int.tdiv ((lo + hi : Nat) : Int) 2) = (mid : Int) := by rw [Int.tdiv_eq_ediv_of_nonneg (by omega), w64 _ (by omega) (by omega)]; omega
  have w3 : wrap64 ((mid : Int) + 1) = ((mid + 1 : Nat) : Int) := by rw [w64 _ (by omega) (by omega)]; omega
  rw [manorboyref02_Quotient_Round.l0, if_pos (by omega), w1, w2, w3]
theorem round_end (neg : Bool) (x3 a b : List Int) (lo : Nat) (hlo : lo ≤ 2533359615) (k : Nat) :
    manorboyref02_Quotient_Round.l0 (k + 1) x3 (lo : Int) (lo : Int) neg a b = (manorboyref02_half.f k (lo : Int)).bind fun t164 => (manorboyref02_Nat_Mul.f k t164 b).bind fun t167 => (manorboyref02_Nat_Cmp.f k t167 x3).bind fun t170 => if t170 = 0 then (manorboyref02_At.f k (lo : Int)).bind fun bt171 => manorboyref02_Quotient_Round.j1 k (lo : Int) ((Int.tmod bt171.1 2) != 0) neg a b else manorboyref02_Quotient_Round.j1 k (lo : Int) false neg a b := by
  rw [manorboyref02_Quotient_Round.l0, if_neg (by omega), if_neg (by omega)]
theorem round_over (neg : Bool) (x3 a b : List Int) (lo : Nat) (hlo : 2533359615 < lo) (k : Nat) : manorboyref02_Quotient_Round.l0 (k + 1) x3 (lo : Int) (lo : Int) neg a b = some (0, 0, false) := by
  rw [manorboyref02_Quotient_Round.l0, if_neg (by omega), if_pos (by omega)]
theorem round_j1 (neg : Bool) (a b : List Int) (lo : Nat) (h : lo ≤ 2533359615) (fl : Bool) (I : Nat) (he : I = lo + if fl = true then 1 else 0) : Ev (fun k => manorboyref02_Quotient_Round.j1 k (lo : Int) fl neg a b) (rref neg I) := by
  have w4 : wrap64 ((lo : Int) + 1) = ((lo + 1 : Nat) : Int) := by rw [w64 _ (by omega) (by omega)]; omega
  rw [he]
  by_cases hf : fl = true
  · rw [if_pos hf]
    exact Ev.step (fun k => by rw [manorboyref02_Quotient_Round.j1, if_pos hf, w4]) (round_j2 neg a b (lo + 1) (by omega))
  · rw [if_neg hf, Nat.add_zero]
    exact Ev.step (fun k => by rw [manorboyref02_Quotient_Round.j1, if_neg hf]) (round_j2 neg a b lo (by omega))
theorem at_par (lo : Nat) : ((Int.tmod (atI lo).1 2) != 0) = decide (lo % 2 = 1) := by
  have h1 := H_odd lo
  unfold atI
  rcases Nat.eq_zero_or_pos lo with h | h
  · subst h; rfl
  · rw [if_neg (by omega)]
    show (Int.tmod ((man lo : Nat) : Int) 2 != 0) = _
    rw [Int.tmod_eq_emod_of_nonneg (by omega)]
    by_cases hp : lo % 2 = 1
    · rw [decide_eq_true hp, bne_iff_ne]; omega
    · rw [decide_eq_false hp, bne_eq_false_iff_eq]; omega
theorem cmp_neg {x y : Nat} (h : x < y) : ¬ cmpN x y ≥ 0 := by unfold cmpN; rw [if_pos h]; decide
theorem cmp_nn {x y : Nat} (h : ¬ x < y) : cmpN x y ≥ 0 := by unfold cmpN; rw [if_neg h]; split <;> decide
theorem cmp_eq {x y : Nat} (h : x = y) : cmpN x y = 0 := by unfold cmpN; rw [if_neg (by omega), if_pos h]
theorem cmp_gt {x y : Nat} (h : y < x) : ¬ cmpN x y = 0 := by unfold cmpN; rw [if_neg (by omega), if_neg (by omega)]; decide
/-- Which index the search ends with. -/
theorem Rd.at_low {N D lo : Nat} (hD : 0 < D) (hlow : lo = 0 ∨ H (lo - 1) * D < 2 * N) (hge : 2 * N ≤ H lo * D) : Rd N D (lo + if decide (2 * N = H lo * D ∧ lo % 2 = 1) = true then 1 else 0) := by
  by_cases heq : 2 * N = H lo * D
  · by_cases hp : lo % 2 = 1
    · rw [if_pos (decide_eq_true ⟨heq, hp⟩)]
      have h1 := Nat.mul_lt_mul_of_pos_right (H_lt (show lo < lo + 1 by omega)) hD
      refine ⟨.inr ⟨?_, fun _ => by omega⟩, ?_, fun e => ?_⟩
      · rw [Nat.add_sub_cancel]; omega
      · omega
      · omega
    · rw [if_neg (by rw [decide_eq_true_eq]; rintro ⟨_, h⟩; exact hp h), Nat.add_zero]
      refine ⟨?_, hge, fun _ => by omega⟩
      rcases hlow with h | h
      · exact .inl h
      · exact .inr ⟨Nat.le_of_lt h, fun e => by omega⟩
  · rw [if_neg (by rw [decide_eq_true_eq]; rintro ⟨h, _⟩; exact heq h), Nat.add_zero]
    refine ⟨?_, hge, fun e => absurd e heq⟩
    rcases hlow with h | h
    · exact .inl h
    · exact .inr ⟨Nat.le_of_lt h, fun e => by omega⟩
theorem round_l0 (neg : Bool) (N D : Nat) (hD : 0 < D) (hN : bl (2 * N) ≤ 100000) (hDb : bl D ≤ 50000) (a : List Int) (I : Nat) (hR : Rd N D I) : ∀ (m lo hi : Nat), hi - lo < m → lo ≤ hi → hi ≤ 2533359616 →
    (∀ i, i < lo → H i * D < 2 * N) → (∀ i, hi ≤ i → i ≤ 2533359615 → 2 * N ≤ H i * D) → Ev (fun k => manorboyref02_Quotient_Round.l0 k (E (2 * N)) (lo : Int) (hi : Int) neg a (E D)) (rref neg I)
  | 0, lo, hi, hm, _, _, _, _ => by omega
  | m + 1, lo, hi, hm, hle, hhi, hlow, hup => by
    have sD : Se D := Se.of (by omega)
    have sN : Se (2 * N) := Se.of (by omega)
    have hmul : ∀ i : Nat, i ≤ 2533359616 → Ev (fun k => manorboyref02_Nat_Mul.f k (E (H i)) (E D)) (E (H i * D)) ∧ Se (H i * D) := fun i hi => by
      have b1 := bl_H i hi
      have b2 := bl_mul (H i) D
      exact ⟨mulE_ev (Se.of (by omega)) sD, Se.of (by omega)⟩
    by_cases hlt : lo < hi
    · obtain ⟨mid, hmid⟩ : ∃ mid, mid = (lo + hi) / 2 := ⟨_, rfl⟩
      have hm1 : mid < hi := by omega
      have hm2 : lo ≤ mid := by omega
      refine Ev.step (fun k => round_go neg _ a _ lo hi mid hlt hhi hmid k) ?_
      obtain ⟨hm3, hm4⟩ := hmul mid (by omega)
      refine Ev.bind (half_ev mid (by omega)) (Ev.bind hm3 (Ev.bind (cmpE_ev hm4 sN) ?_))
      by_cases hc : H mid * D < 2 * N
      · refine Ev.congr (fun k => if_neg (cmp_neg hc)) (round_l0 neg N D hD hN hDb a I hR m (mid + 1) hi (by omega) (by omega) hhi (fun i hi' => ?_) hup)
        exact Nat.lt_of_le_of_lt (Nat.mul_le_mul_right D (H_le (show i ≤ mid by omega))) hc
      · refine Ev.congr (fun k => if_pos (cmp_nn hc)) (round_l0 neg N D hD hN hDb a I hR m lo mid (by omega) (by omega) (by omega) hlow (fun i hi' hi2 => ?_))
        exact Nat.le_trans (Nat.le_of_not_lt hc) (Nat.mul_le_mul_right D (H_le hi'))
    · have hlh : hi = lo := by omega
      subst hlh
      by_cases hov : 2533359615 < hi
      · refine Ev.step (fun k => round_over neg _ a _ hi hov k) ?_
        have : rref neg I = (0, 0, false) := by
          unfold rref
          rw [if_pos]
          rcases Nat.lt_or_ge 2533359615 I with h | h
          · exact h
          · have h1 := hlow I (by omega)
            have h2 := hR.2.1
            omega
        rw [this]; exact Ev.now _
      · have hge := hup hi (Nat.le_refl _) (by omega)
        obtain ⟨hm3, hm4⟩ := hmul hi (by omega)
        refine Ev.step (fun k => round_end neg _ a _ hi (by omega) k) ?_
        refine Ev.bind (half_ev hi (by omega)) (Ev.bind hm3 (Ev.bind (cmpE_ev hm4 sN) ?_))
        have hlo2 : hi = 0 ∨ H (hi - 1) * D < 2 * N := by
          rcases Nat.eq_zero_or_pos hi with h | h
          · exact .inl h
          · exact .inr (hlow (hi - 1) (by omega))
        have hI := hR.only hD hD (Rd.at_low hD hlo2 hge) rfl
        by_cases heq : 2 * N = H hi * D
        · refine Ev.congr (fun k => if_pos (cmp_eq heq.symm)) ?_
          refine Ev.bind (atE_ev hi (by omega)) ?_
          rw [at_par]
          refine round_j1 neg a _ hi (by omega) _ I ?_
          rw [hI]
          congr 2
          rw [Bool.decide_and, decide_eq_true heq, Bool.true_and]
        · refine Ev.congr (fun k => if_neg (cmp_gt (by omega))) (round_j1 neg a _ hi (by omega) false I ?_)
          rw [hI]
          congr 2
          rw [Bool.decide_and, decide_eq_false heq, Bool.false_and]
/-- The specification's rounding of num / den. -/
theorem round_ev (neg : Bool) (num den I : Nat) (hD : 0 < den) (hN : bl num ≤ 90000) (hDb : bl den ≤ 50000) (hR : Rd (num * 2 ^ 150) den I) : Ev (fun k => manorboyref02_Quotient_Round.f k neg (E num) (E den)) (rref neg I) := by
  have b1 := bl_shift num 151
  have e2 : num * 2 ^ 151 = 2 * (num * 2 ^ 150) := by
    rw [show (151 : Nat) = 150 + 1 from rfl, Nat.pow_succ]; ac_rfl
  have b3 := bl_two 151
  refine Ev.congr (f := fun k => (manorboyref02_Two.f ((151 : Nat) : Int)).bind fun t151 => (manorboyref02_Nat_Mul.f k (E num) t151).bind fun t154 => manorboyref02_Quotient_Round.l0 k t154 ((0 : Nat) : Int) ((2533359616 : Nat) : Int) neg (E num) (E den)) (fun k => rfl) ?_
  refine Ev.bind (two_Ev 151 (by decide)) (Ev.bind (mulE_ev (Se.of (by omega)) (Se.of (by omega))) ?_)
  rw [e2] at b1 ⊢
  exact round_l0 neg (num * 2 ^ 150) den hD (by omega) hDb (E num) I hR (2533359616 + 1) 0 2533359616 (by omega) (by omega) (by omega) (fun i hi => by omega) (fun i hi hi2 => by omega)
end Go.Proofs.YteigbokklclmbaaGreatDoor.M
end
section
namespace Go.Proofs.YteigbokklclmbaaGreatDoor.Z.Y
open Go Go.RowKit Go.Proofs.YteigbokklclmbaaGreatDoor.Given Go.Proofs.YteigbokklclmbaaGreatDoorW.PrintWords Go.Proofs.YteigbokklclmbaaGreatDoorW.PrintLast Go.Proofs.YteigbokklclmbaaGreatDoorW.PrintMore
/-- What a valid real is. -/
def VR (a b : Int) : Prop := (a = 0 ∧ b = 0) ∨ (1 ≤ mx a (wrap64 (-a)) ∧ mx a (wrap64 (-a)) < 16777216 ∧ (b = -150 ∨ (8388608 ≤ mx a (wrap64 (-a)) ∧ -150 < b ∧ b ≤ 150)))
instance (a b : Int) : Decidable (VR a b) := by unfold VR; infer_instance
theorem valid_real (a b : Int) : real_Valid.f a b = some (decide (VR a b)) := by
  unfold real_Valid.f
  have hd : ∀ (p q : Prop) [Decidable p] [Decidable q], (p ↔ q) → decide p = decide q := fun p q _ _ h => by simp [h]
  have hv : VR a b ↔ ((a = 0 ∧ b = 0) ∨ (1 ≤ mx a (wrap64 (-a)) ∧ mx a (wrap64 (-a)) < 16777216 ∧ (b = -150 ∨ (8388608 ≤ mx a (wrap64 (-a)) ∧ -150 < b ∧ b ≤ 150)))) := Iff.rfl
  generalize mx a (wrap64 (-a)) = m at *
  by_cases h0 : a = 0 ∧ b = 0
  · have : decide (VR a b) = true := decide_eq_true (hv.2 (.inl h0))
    rw [this, if_pos (by simp [h0.1, h0.2])]
  · have h0' : ¬ ((a == 0 && (b == 0)) = true) := by simpa using h0
    rw [if_neg h0']
    by_cases h1 : m < 1
    · rw [if_pos h1]; congr 1; symm; rw [decide_eq_false_iff_not, hv]; rintro (h | h); exact h0 h; omega
    rw [if_neg h1]
    by_cases h2 : m ≥ 16777216
    · rw [if_pos h2]; congr 1; symm; rw [decide_eq_false_iff_not, hv]; rintro (h | h); exact h0 h; omega
    rw [if_neg h2]
    by_cases h3 : b = -150
    · rw [if_pos h3]; congr 1; symm; rw [decide_eq_true_eq, hv]; exact .inr ⟨by omega, by omega, .inl h3⟩
    rw [if_neg h3]
    by_cases h4 : m ≥ 8388608
    · rw [if_pos h4]
      by_cases h5 : b > -150
      · rw [if_pos h5]; congr 1; apply hd; rw [hv]
        constructor
        · intro h; exact .inr ⟨by omega, by omega, .inr ⟨h4, h5, h⟩⟩
        · rintro (h | h)
          · exact absurd h h0
          · omega
      · rw [if_neg h5]; congr 1; symm; rw [decide_eq_false_iff_not, hv]; rintro (h | h); exact h0 h; omega
    · rw [if_neg h4]; congr 1; symm; rw [decide_eq_false_iff_not, hv]; rintro (h | h); exact h0 h; omega
theorem VR_abs {a b : Int} (hw : -9223372036854775808 ≤ a ∧ a ≤ 9223372036854775807) (h : VR a b) : -16777216 < a ∧ a < 16777216 ∧ -150 ≤ b ∧ b ≤ 150 ∧ (b > -150 → a ≠ 0 → a ≤ -8388608 ∨ 8388608 ≤ a) := by
  unfold VR mx wrap64 at h
  rcases h with ⟨rfl, rfl⟩ | h
  · omega
  · split at h <;> omega
theorem valid_ref (a b : Int) (hw : -9223372036854775808 ≤ a ∧ a ≤ 9223372036854775807) : manorboyref02_Valid.f 3 a b = some (decide (VR a b)) := by
  have key : ∀ m : Int, m = (if a < 0 then wrap64 (-a) else a) → manorboyref02_Valid.j0 3 m a b = some (decide (VR a b)) := by
    intro m hm
    have hmx : (0 ≤ m → mx a (wrap64 (-a)) = m) ∧ (m < 0 → mx a (wrap64 (-a)) < 1) := by
      unfold mx wrap64; unfold wrap64 at hm; split at hm <;> split <;> omega
    have hm0 : m = 0 ↔ a = 0 := by unfold wrap64 at hm; split at hm <;> omega
    have hv : VR a b ↔ ((a = 0 ∧ b = 0) ∨ (1 ≤ mx a (wrap64 (-a)) ∧ mx a (wrap64 (-a)) < 16777216 ∧ (b = -150 ∨ (8388608 ≤ mx a (wrap64 (-a)) ∧ -150 < b ∧ b ≤ 150)))) := Iff.rfl
    rw [manorboyref02_Valid.j0]
    by_cases h0 : m = 0
    · rw [if_pos h0]
      have ha : a = 0 := hm0.1 h0
      rw [if_pos ha]
      have := hmx.1 (by omega)
      by_cases hb : b = 0
      · have : decide (VR a b) = true := decide_eq_true (hv.2 (.inl ⟨ha, hb⟩))
        rw [this, hb]; rfl
      · have hf : (b == 0) = false := by simpa using hb
        rw [hf]; congr 1; symm; rw [decide_eq_false_iff_not, hv]; rintro (h | h) <;> omega
    rw [if_neg h0]
    have ha : a ≠ 0 := fun e => h0 (hm0.2 e)
    have j1t : manorboyref02_Valid.j1 2 m true a b = some false := by rw [manorboyref02_Valid.j1, if_pos rfl]
    by_cases h1 : m < 0
    · rw [if_pos h1, j1t]; have := hmx.2 h1; congr 1; symm; rw [decide_eq_false_iff_not, hv]; rintro (h | h) <;> omega
    rw [if_neg h1]
    have e := hmx.1 (by omega)
    rw [e] at hv
    by_cases h2 : m ≥ 16777216
    · rw [if_pos h2, j1t]; congr 1; symm; rw [decide_eq_false_iff_not, hv]; rintro (h | h) <;> omega
    rw [if_neg h2]
    by_cases h3 : b < -150
    · rw [if_pos h3, j1t]; congr 1; symm; rw [decide_eq_false_iff_not, hv]; rintro (h | h) <;> omega
    rw [if_neg h3, manorboyref02_Valid.j1]
    by_cases h4 : b > 150
    · rw [if_pos (by simpa using h4)]; congr 1; symm; rw [decide_eq_false_iff_not, hv]; rintro (h | h) <;> omega
    rw [if_neg (by simpa using h4)]
    by_cases h5 : m ≥ 8388608
    · rw [if_pos h5]; congr 1; symm; rw [decide_eq_true_eq, hv]; refine .inr ⟨by omega, by omega, ?_⟩; omega
    rw [if_neg h5]
    by_cases h6 : b = -150
    · have : (b == -150) = true := by simpa using h6
      rw [this]; congr 1; symm; rw [decide_eq_true_eq, hv]; exact .inr ⟨by omega, by omega, .inl h6⟩
    · have : (b == -150) = false := by simpa using h6
      rw [this]; congr 1; symm; rw [decide_eq_false_iff_not, hv]; rintro (h | h) <;> omega
  unfold manorboyref02_Valid.f
  by_cases h : a < 0
  · rw [if_pos h]; exact key _ (by rw [if_pos h])
  · rw [if_neg h]; exact key _ (by rw [if_neg h])
def fl (a b : Int) : Int := if 0 ≤ b then a * 2 ^ b.toNat else a / 2 ^ (-b).toNat
end Go.Proofs.YteigbokklclmbaaGreatDoor.Z.Y
end
section
namespace Go.Proofs.YteigbokklclmbaaGreatDoor.Z.Y.V
open Go.RowKit Go.Proofs.YteigbokklclmbaaGreatDoor.Given Go.Proofs.YteigbokklclmbaaGreatDoorW.PrintWords Go.Proofs.YteigbokklclmbaaGreatDoorW.PrintLast Go.Proofs.YteigbokklclmbaaGreatDoorW.PrintMore
attribute [local go_sem] max2_int min2_int max_two min_two max_three min_three max_four min_four

def manorboyref02_Add.T4 : Bool × List (List Nat × List Nat) := (true, [([], []), ([0], [0]), ([], []), ([2], [2]), ([], []), ([4], [4]), ([3, 5], [3, 5]), ([], []), ([7], [7]), ([1, 6, 8], [1, 6, 8]), ([9, 6], [9]), ([10, 10, 0, 1, 2, 3, 4, 5, 6, 7, 8, 9, 10], [10])])
def manorboyref02_Add.B4 : List Nat := [0, 1, 0, 4, 0, 16, 60, 0, 128, 511, 1023, 2047]
theorem manorboyref02_Add.tab4 : rtab .any (opsOf Tryz.f36 4) = manorboyref02_Add.T4 := by kernel_rfl
theorem manorboyref02_Add.bits4 : waitsOk manorboyref02_Add.T4.2 manorboyref02_Add.B4 = true := by kernel_rfl
def manorboyref02_Add.T6 : Bool × List (List Nat × List Nat) := (true, [([], []), ([0], [0]), ([], []), ([2], [2]), ([], []), ([4], [4]), ([3, 5], [3, 5]), ([], []), ([7], [7]), ([1, 6, 8], [1, 6, 8]), ([9, 6], [9]), ([10, 10, 0, 1, 2, 3, 4, 5, 6, 7, 8, 9, 10], [10])])
def manorboyref02_Add.B6 : List Nat := [0, 1, 0, 4, 0, 16, 60, 0, 128, 511, 1023, 2047]
theorem manorboyref02_Add.tab6 : rtab .any (opsOf Tryz.f36 6) = manorboyref02_Add.T6 := by kernel_rfl
theorem manorboyref02_Add.bits6 : waitsOk manorboyref02_Add.T6.2 manorboyref02_Add.B6 = true := by kernel_rfl
def manorboyref02_Add.T7 : Bool × List (List Nat × List Nat) := (true, [([], []), ([0], [0]), ([], []), ([2], [2]), ([], []), ([4], [4]), ([3, 5], [3, 5]), ([], []), ([7], [7]), ([1, 6, 8], [1, 6, 8]), ([9, 6], [9]), ([10, 10, 0, 1, 2, 3, 4, 5, 6, 7, 8, 9, 10], [10])])
def manorboyref02_Add.B7 : List Nat := [0, 1, 0, 4, 0, 16, 60, 0, 128, 511, 1023, 2047]
theorem manorboyref02_Add.tab7 : rtab .any (opsOf Tryz.f36 7) = manorboyref02_Add.T7 := by kernel_rfl
theorem manorboyref02_Add.bits7 : waitsOk manorboyref02_Add.T7.2 manorboyref02_Add.B7 = true := by kernel_rfl
end Go.Proofs.YteigbokklclmbaaGreatDoor.Z.Y.V
end
section
namespace Go.Proofs.YteigbokklclmbaaGreatDoor.M
open Go Go.RowKit Go.Proofs.YteigbokklclmbaaGreatDoor.Given Go.Proofs.YteigbokklclmbaaGreatDoorW.PrintWords Go.Proofs.YteigbokklclmbaaGreatDoorW.PrintLast Go.Proofs.YteigbokklclmbaaGreatDoorW.PrintMore Go.Proofs.YteigbokklclmbaaGreatDoor.Z Go.Proofs.YteigbokklclmbaaGreatDoor.Z.Y Go.Proofs.YteigbokklclmbaaGreatDoor.Z.Y.V
/-- The range of an int. -/
def I64 (a : Int) : Prop := -9223372036854775808 ≤ a ∧ a ≤ 9223372036854775807
/-- What is known of the parts of a real. -/
def RC (a b : Int) : Prop := a.natAbs < 16777216 ∧ -150 ≤ b ∧ b ≤ 150
theorem VR.rc {a b : Int} (hw : I64 a) (h : VR a b) : RC a b := by
  obtain ⟨h1, h2, h3, h4, _⟩ := VR_abs hw h
  exact ⟨by omega, h3, h4⟩
/-- The index of a real's magnitude. -/
def ix (a b : Int) : Nat := if a = 0 then 0 else a.natAbs + (b + 150).toNat * 8388608
theorem VR.norm {a b : Int} (hw : I64 a) (h : VR a b) : (a = 0 ∧ b = 0) ∨ (a ≠ 0 ∧ ((b + 150).toNat = 0 ∨ 8388608 ≤ a.natAbs)) := by
  obtain ⟨h1, h2, h3, h4, h5⟩ := VR_abs hw h
  rcases h with ⟨h6, h7⟩ | h
  · exact .inl ⟨h6, h7⟩
  · right
    have ha : a ≠ 0 := by
      rintro rfl
      have : mx 0 (wrap64 (-0)) = 0 := by unfold mx wrap64; split <;> omega
      omega
    refine ⟨ha, ?_⟩
    by_cases hb : b > -150
    · right; have := h5 hb ha; omega
    · left; omega
theorem ix_G {a b : Int} (hw : I64 a) (h : VR a b) : G (ix a b) = a.natAbs * 2 ^ (b + 150).toNat := by
  unfold ix
  have hr := VR.rc hw h
  rcases VR.norm hw h with ⟨h1, h2⟩ | ⟨h1, h2⟩
  · rw [if_pos h1, G_zero, h1]; simp
  · rw [if_neg h1]; exact G_at _ _ (by have := hr.1; omega) h2
theorem ix_le {a b : Int} (hw : I64 a) (h : VR a b) : ix a b ≤ 2533359615 := by
  unfold ix; have hr := VR.rc hw h; obtain ⟨h1, h2, h3⟩ := hr; split <;> omega
/-- What an operation of the program answers: a real, or overflow. -/
def res3 (neg : Bool) (I : Nat) : Int × Int × Int := if 2533359615 < I then (0, 0, 3) else ((sgn neg (atI I)).1, (sgn neg (atI I)).2, 0)
/-- The same ahead of 'caught'. -/
def sgnr (neg : Bool) (I : Nat) : Int × Int := (if neg = true then wrap64 (-(rres I).1) else (rres I).1, (rres I).2)
theorem signed_is (neg : Bool) (p : Int × Int) : real_signed.f neg p.1 p.2 = some (if neg = true then wrap64 (-p.1) else p.1, p.2) := by
  unfold real_signed.f; split <;> rfl
theorem signed_back (neg : Bool) (I : Nat) : ((real_signed.f neg (rres I).1 (rres I).2).bind fun bt => some (bt.1, bt.2)) = some (sgnr neg I) := by
  rw [signed_is]; rfl
theorem atI_bd (I : Nat) (h : I ≤ 2533359615) : 0 ≤ (atI I).1 ∧ (atI I).1 < 16777216 ∧ -150 ≤ (atI I).2 ∧ (atI I).2 ≤ 150 := by
  have hm := man_bd I
  unfold atI
  split
  · show (0 : Int) ≤ 0 ∧ (0 : Int) < 16777216 ∧ -150 ≤ (0 : Int) ∧ (0 : Int) ≤ 150; omega
  · show (0 : Int) ≤ ((man I : Nat) : Int) ∧ ((man I : Nat) : Int) < 16777216 ∧ -150 ≤ ((sh I : Nat) : Int) - 150 ∧ ((sh I : Nat) : Int) - 150 ≤ 150
    unfold sh; omega
theorem rres_in {I : Nat} (h : I ≤ 2533359615) : rres I = atI I := by unfold rres; rw [if_neg (by omega)]
theorem sgnr_in {neg : Bool} {I : Nat} (h : I ≤ 2533359615) : sgnr neg I = sgn neg (atI I) := by
  have hb := atI_bd I h
  have hw : wrap64 (-(atI I).1) = -(atI I).1 := w64 _ (by omega) (by omega)
  unfold sgnr sgn
  rw [rres_in h, hw]
theorem caught_is (neg : Bool) (I : Nat) : caughtS (sgnr neg I).1 (sgnr neg I).2 = res3 neg I := by
  unfold caughtS res3
  by_cases h : 2533359615 < I
  · rw [if_pos h, if_pos]
    unfold sgnr rres; rw [if_pos h]
  · rw [if_neg h, sgnr_in (by omega), if_neg]
    have := atI_bd I (by omega)
    show ¬ (atI I).2 = 1000
    omega
theorem one_D : D 1 = [1] := dg_small B2 (by decide) (by decide)
theorem of_ev {a b : Int} (wa : I64 a) (h : VR a b) : Ev (fun k => manorboyref02_Of.f k a b) (decide (a < 0), E (G (ix a b)), E (2 ^ 150)) := by
  have hr := VR.rc wa h
  obtain ⟨h1, h2, h3⟩ := hr
  have hG := ix_G wa h
  have b1 : bl a.natAbs ≤ 24 := bl_le_iff.2 h1
  have key : ∀ x4 : Int, (x4 = b ∨ (a = 0 ∧ x4 = -150)) → Ev (fun k => manorboyref02_Of.j1 k ((a.natAbs : Nat) : Int) x4 a b) (decide (a < 0), E (G (ix a b)), E (2 ^ 150)) := by
    intro x4 hx
    have w : wrap64 (x4 + 150) = (((x4 + 150).toNat : Nat) : Int) := by rw [w64 _ (by omega) (by omega)]; omega
    refine Ev.step (f := fun k => (manorboyref02_Small.f k ((a.natAbs : Nat) : Int)).bind fun t180 => (manorboyref02_Two.f (((x4 + 150).toNat : Nat) : Int)).bind fun t183 => (manorboyref02_Nat_Mul.f k t180 t183).bind fun t186 => (manorboyref02_Two.f ((150 : Nat) : Int)).bind fun t189 => some (decide (a < 0), t186, t189)) (fun k => by rw [manorboyref02_Of.j1, w]; rfl) ?_
    have b2 := bl_two (x4 + 150).toNat
    have hm := mulE_ev (a := a.natAbs) (b := 2 ^ (x4 + 150).toNat) (Se.of (by omega)) (Se.of (by omega))
    have e : a.natAbs * 2 ^ (x4 + 150).toNat = G (ix a b) := by
      rw [hG]
      rcases hx with rfl | ⟨h0, _⟩
      · rfl
      · rw [h0]; simp
    rw [e] at hm
    exact Ev.bind (smallE_ev (by omega)) (Ev.bind (two_Ev _ (by omega)) (Ev.bind hm (Ev.bind (two_Ev 150 (by decide)) (Ev.now _))))
  have j0 : Ev (fun k => manorboyref02_Of.j0 k ((a.natAbs : Nat) : Int) a b) (decide (a < 0), E (G (ix a b)), E (2 ^ 150)) := by
    by_cases h0 : ((a.natAbs : Nat) : Int) = 0
    · exact Ev.step (fun k => by rw [manorboyref02_Of.j0, if_pos h0]) (key (-150) (.inr ⟨by omega, rfl⟩))
    · exact Ev.step (fun k => by rw [manorboyref02_Of.j0, if_neg h0]) (key b (.inl rfl))
  by_cases hn : a < 0
  · have w : wrap64 (-a) = ((a.natAbs : Nat) : Int) := by rw [w64 _ (by omega) (by omega)]; omega
    exact Ev.congr (fun k => by unfold manorboyref02_Of.f; rw [if_pos hn, w]) j0
  · have e : a = ((a.natAbs : Nat) : Int) := by omega
    refine Ev.congr (fun k => ?_) j0
    unfold manorboyref02_Of.f; rw [if_neg hn]
    conv => lhs; rw [show manorboyref02_Of.j0 k a a b = manorboyref02_Of.j0 k ((a.natAbs : Nat) : Int) a b by rw [← e]]
theorem bl_G {I : Nat} (h : I ≤ 2533359615) : bl (G I) ≤ 326 := by
  have hm := man_bd I
  have hs : sh I ≤ 301 := by unfold sh; omega
  have b1 : bl (man I) ≤ 24 := bl_le_iff.2 hm
  have := bl_shift (man I) (sh I)
  unfold G; omega
theorem sanity_ev : Ev (fun k => manorboylaw02_sanity.f k) true := Ev.of (fun k => manorboylaw02_sanity.mono k) sanity_ok
theorem valid_ev (a b : Int) (hw : I64 a) : Ev (fun k => manorboyref02_Valid.f k a b) (decide (VR a b)) := Ev.of (fun k => manorboyref02_Valid.mono _ _ _) (valid_ref a b hw)
theorem nx_prod (a b : Nat) (x y : Int) (hx : -150 ≤ x) (hy : -150 ≤ y) : nx (x + y) (-150) (a * b) * 2 ^ 150 = a * 2 ^ (x + 150).toNat * (b * 2 ^ (y + 150).toNat) * dx (x + y) (-150) 1 := by
  have e0 : a * 2 ^ (x + 150).toNat * (b * 2 ^ (y + 150).toNat) = a * b * 2 ^ ((x + 150).toNat + (y + 150).toNat) := by rw [Nat.pow_add]; ac_rfl
  rw [e0]
  unfold nx dx
  by_cases h : (-150 : Int) ≤ x + y
  · rw [if_pos h, if_pos h, Nat.mul_one, Nat.mul_assoc, ← Nat.pow_add]; congr 2; omega
  · rw [if_neg h, if_neg h, Nat.one_mul, Nat.mul_assoc (a * b), ← Nat.pow_add]; congr 2; omega
theorem nx_quo (a b : Nat) (x y : Int) (hx : -150 ≤ x) (hy : -150 ≤ y) : nx (x - y) (-150) a * (b * 2 ^ (y + 150).toNat) = a * 2 ^ (x + 150).toNat * 2 ^ 150 * dx (x - y) (-150) b := by
  unfold nx dx
  by_cases h : (-150 : Int) ≤ x - y
  · rw [if_pos h, if_pos h]
    have e : 2 ^ (x - y - -150).toNat * 2 ^ (y + 150).toNat = 2 ^ (x + 150).toNat * 2 ^ 150 := by rw [← Nat.pow_add, ← Nat.pow_add]; congr 1; omega
    calc a * 2 ^ (x - y - -150).toNat * (b * 2 ^ (y + 150).toNat) = a * b * (2 ^ (x - y - -150).toNat * 2 ^ (y + 150).toNat) := by ac_rfl
      _ = a * b * (2 ^ (x + 150).toNat * 2 ^ 150) := by rw [e]
      _ = _ := by ac_rfl
  · rw [if_neg h, if_neg h]
    have e : 2 ^ (y + 150).toNat = 2 ^ (x + 150).toNat * 2 ^ 150 * 2 ^ (-150 - (x - y)).toNat := by rw [← Nat.pow_add, ← Nat.pow_add]; congr 1; omega
    rw [e]; ac_rfl
theorem real_product_ev {x0 x1 y0 y1 : Int} (hx : RC x0 x1) (hy : RC y0 y1) :
    ∃ I, Rd (x0.natAbs * 2 ^ (x1 + 150).toNat * (y0.natAbs * 2 ^ (y1 + 150).toNat)) (2 ^ 150) I ∧ Ev (fun k => real_product.f k x0 x1 y0 y1) (sgnr ((decide (x0 < 0)) != (decide (y0 < 0))) I) := by
  obtain ⟨hx1, hx2, hx3⟩ := hx
  obtain ⟨hy1, hy2, hy3⟩ := hy
  have bx : bl x0.natAbs ≤ 24 := bl_le_iff.2 hx1
  have by_ : bl y0.natAbs ≤ 24 := bl_le_iff.2 hy1
  have bp := bl_mul x0.natAbs y0.natAbs
  have we : wrap64 (x1 + y1) = x1 + y1 := w64 _ (by omega) (by omega)
  obtain ⟨I, hR, hE⟩ := rounded_ev (x0.natAbs * y0.natAbs) 1 (x1 + y1) (by omega) (by decide) (by rw [bl_one]; decide) (by omega) (by omega)
  refine ⟨I, Rd.congr (dx_pos (by decide)) (Nat.two_pow_pos _) hR (nx_prod _ _ _ _ hx2 hy2), ?_⟩
  rw [one_D] at hE
  refine Ev.congr (f := fun k => (real_magnitude.f k x0).bind fun t223 => ((real_magnitude.f k y0).bind fun t226 => ((real_nat_mul.f k t223 t226).bind fun t229 => ((real_rounded.f k t229 (x1 + y1) (([1] : List Int))).bind fun bt235 => _)))) (fun k => by unfold real_product.f; rw [we]) ?_
  refine Ev.bind (magnitude_ev x0 (by omega) (by omega)) (Ev.bind (magnitude_ev y0 (by omega) (by omega)) (Ev.bind (mul_ev (Sm.bl (by omega)) (Sm.bl (by omega))) (Ev.bind hE ?_)))
  exact Ev.congr (fun k => signed_back _ I) (Ev.now _)
theorem real_quotient_ev {x0 x1 y0 y1 : Int} (hx : RC x0 x1) (hy : RC y0 y1) (hy0 : y0 ≠ 0) :
    ∃ I, Rd (x0.natAbs * 2 ^ (x1 + 150).toNat * 2 ^ 150) (y0.natAbs * 2 ^ (y1 + 150).toNat) I ∧ Ev (fun k => real_quotient.f k x0 x1 y0 y1) (sgnr ((decide (x0 < 0)) != (decide (y0 < 0))) I) := by
  obtain ⟨hx1, hx2, hx3⟩ := hx
  obtain ⟨hy1, hy2, hy3⟩ := hy
  have bx : bl x0.natAbs ≤ 24 := bl_le_iff.2 hx1
  have by_ : bl y0.natAbs ≤ 24 := bl_le_iff.2 hy1
  have hyp : 0 < y0.natAbs := by omega
  have we : wrap64 (x1 - y1) = x1 - y1 := w64 _ (by omega) (by omega)
  obtain ⟨I, hR, hE⟩ := rounded_ev x0.natAbs y0.natAbs (x1 - y1) (by omega) hyp (by omega) (by omega) (by omega)
  refine ⟨I, Rd.congr (dx_pos hyp) (Nat.mul_pos hyp (Nat.two_pow_pos _)) hR (nx_quo _ _ _ _ hx2 hy2), ?_⟩
  refine Ev.congr (f := fun k => (real_magnitude.f k x0).bind fun t305 => ((real_magnitude.f k y0).bind fun t308 => ((real_rounded.f k t305 (x1 - y1) t308).bind fun bt311 => _))) (fun k => by unfold real_quotient.f; rw [we]) ?_
  refine Ev.bind (magnitude_ev x0 (by omega) (by omega)) (Ev.bind (magnitude_ev y0 (by omega) (by omega)) (Ev.bind hE ?_))
  exact Ev.congr (fun k => signed_back _ I) (Ev.now _)
/-- The program's Mul of two reals. -/
theorem real_Mul_ev {x0 x1 y0 y1 : Int} (wx : I64 x0) (wy : I64 y0) (hx : VR x0 x1) (hy : VR y0 y1) :
    ∃ I, Rd (G (ix x0 x1) * G (ix y0 y1)) (2 ^ 150) I ∧ Ev (fun k => real_Mul.f k x0 x1 y0 y1) (res3 ((decide (x0 < 0)) != (decide (y0 < 0))) I) := by
  obtain ⟨I, hR, hE⟩ := real_product_ev (VR.rc wx hx) (VR.rc wy hy)
  rw [← ix_G wx hx, ← ix_G wy hy] at hR
  refine ⟨I, hR, ?_⟩
  rw [← caught_is]
  refine Ev.congr (f := fun k => (real_product.f k x0 x1 y0 y1).bind fun r => some (caughtS r.1 r.2)) (fun k => by
    unfold real_Mul.f; rw [valid_real, valid_real, decide_eq_true hx, decide_eq_true hy]; rfl) ?_
  exact Ev.bind hE (Ev.now _)
/-- The program's Div of two reals. -/
theorem real_Div_ev {x0 x1 y0 y1 : Int} (wx : I64 x0) (wy : I64 y0) (hx : VR x0 x1) (hy : VR y0 y1) (hy0 : y0 ≠ 0) :
    ∃ I, Rd (G (ix x0 x1) * 2 ^ 150) (G (ix y0 y1)) I ∧ Ev (fun k => real_Div.f k x0 x1 y0 y1) (res3 ((decide (x0 < 0)) != (decide (y0 < 0))) I) := by
  obtain ⟨I, hR, hE⟩ := real_quotient_ev (VR.rc wx hx) (VR.rc wy hy) hy0
  rw [← ix_G wx hx, ← ix_G wy hy] at hR
  refine ⟨I, hR, ?_⟩
  rw [← caught_is]
  refine Ev.congr (f := fun k => (real_quotient.f k x0 x1 y0 y1).bind fun r => some (caughtS r.1 r.2)) (fun k => by
    unfold real_Div.f; rw [valid_real, valid_real, decide_eq_true hx, decide_eq_true hy]; simp only [Option.bind_some, Bool.and_self, if_true, if_neg hy0]) ?_
  exact Ev.bind hE (Ev.now _)
end Go.Proofs.YteigbokklclmbaaGreatDoor.M
end
section
namespace Go.Proofs.YteigbokklclmbaaGreatDoor.Z.Y.Q
open Go.RowKit Go.Proofs.YteigbokklclmbaaGreatDoor.Given Go.Proofs.YteigbokklclmbaaGreatDoorW.PrintWords Go.Proofs.YteigbokklclmbaaGreatDoorW.PrintLast Go.Proofs.YteigbokklclmbaaGreatDoorW.PrintMore
attribute [local go_sem] max2_int min2_int max_two min_two max_three min_three max_four min_four



def errW : Option Int → Value
  | none => .nilIface
  | some c => .iface 0 (.int .i64 c)
theorem errW_none : errW none = .nilIface := rfl
theorem errW_some (c : Int) : errW (some c) = .iface 0 (.int .i64 c) := rfl

-- the values' own types

def real_Cmp.T3 : Bool × List (List Nat × List Nat) := (true, [([], []), ([0], [0]), ([], []), ([2, 1], [2]), ([1, 3], [1, 3]), ([4, 3], [4]), ([5, 5, 0, 1, 2, 3, 4, 5], [5]), ([6, 0, 1, 2, 3, 4, 5, 6], [])])
def real_Cmp.B3 : List Nat := [0, 1, 0, 7, 15, 31, 63, 127]
theorem real_Cmp.tab3 : rtab .any (opsOf Tryz.f48 3) = real_Cmp.T3 := by kernel_rfl
theorem real_Cmp.bits3 : waitsOk real_Cmp.T3.2 real_Cmp.B3 = true := by kernel_rfl
end Go.Proofs.YteigbokklclmbaaGreatDoor.Z.Y.Q
end
section
namespace Go.Proofs.YteigbokklclmbaaGreatDoor.M
open Go Go.RowKit Go.Proofs.YteigbokklclmbaaGreatDoor.Given Go.Proofs.YteigbokklclmbaaGreatDoorW.PrintWords Go.Proofs.YteigbokklclmbaaGreatDoorW.PrintLast Go.Proofs.YteigbokklclmbaaGreatDoorW.PrintMore Go.Proofs.YteigbokklclmbaaGreatDoor.Z Go.Proofs.YteigbokklclmbaaGreatDoor.Z.Y Go.Proofs.YteigbokklclmbaaGreatDoor.Z.Y.Q
/-- The range of the indices. -/
def IR (n : Int) : Prop := -2533359615 ≤ n ∧ n ≤ 2533359615
/-- The real with a signed index. -/
def rl (n : Int) : Int × Int := sgn (decide (n < 0)) (atI n.natAbs)
theorem rl_bd {n : Int} (h : IR n) : -16777216 < (rl n).1 ∧ (rl n).1 < 16777216 ∧ -150 ≤ (rl n).2 ∧ (rl n).2 ≤ 150 := by
  obtain ⟨h0, h1⟩ := h
  have := atI_bd n.natAbs (by omega)
  unfold rl sgn; split <;> (dsimp only; omega)
theorem rl_64 {n : Int} (h : IR n) : I64 (rl n).1 := by have := rl_bd h; exact ⟨by omega, by omega⟩
theorem rl_abs {n : Int} (h : IR n) : ((rl n).1.natAbs : Int) = (atI n.natAbs).1 ∧ (rl n).2 = (atI n.natAbs).2 := by
  obtain ⟨h0, h1⟩ := h
  have := atI_bd n.natAbs (by omega)
  unfold rl sgn; split <;> (dsimp only; omega)
theorem rl_VR {n : Int} (h : IR n) : VR (rl n).1 (rl n).2 := by
  have hb := rl_bd h
  have ha := rl_abs h
  obtain ⟨h0, h1⟩ := h
  unfold VR
  rw [mag_abs (rl n).1 (by omega) (by omega), ha.1, ha.2]
  unfold atI
  have hm := man_bd n.natAbs
  by_cases hz : n.natAbs = 0
  · left
    have hn : n = 0 := by omega
    subst hn
    exact ⟨rfl, rfl⟩
  · right
    rw [if_neg hz]
    show 1 ≤ ((man n.natAbs : Nat) : Int) ∧ ((man n.natAbs : Nat) : Int) < 16777216 ∧ (((sh n.natAbs : Nat) : Int) - 150 = -150 ∨ (8388608 ≤ ((man n.natAbs : Nat) : Int) ∧ -150 < ((sh n.natAbs : Nat) : Int) - 150 ∧ ((sh n.natAbs : Nat) : Int) - 150 ≤ 150))
    have hN : n.natAbs ≤ 2533359615 := by omega
    clear ha
    generalize n.natAbs = N at *
    unfold man sh
    omega
theorem ix_rl {n : Int} (h : IR n) : ix (rl n).1 (rl n).2 = n.natAbs := by
  have hb := rl_bd h
  have ha := rl_abs h
  obtain ⟨h0, h1⟩ := h
  unfold ix
  by_cases hz : n.natAbs = 0
  · have hn : n = 0 := by omega
    subst hn; rfl
  · have e5 : atI n.natAbs = (((man n.natAbs : Nat) : Int), ((sh n.natAbs : Nat) : Int) - 150) := by unfold atI; rw [if_neg hz]
    rw [e5] at ha
    obtain ⟨h2, h3⟩ := ha
    have h2 : ((rl n).1.natAbs : Int) = ((man n.natAbs : Nat) : Int) := h2
    have h3 : (rl n).2 = ((sh n.natAbs : Nat) : Int) - 150 := h3
    have hm : man n.natAbs ≠ 0 := by unfold man sh; omega
    rw [if_neg (by omega), h3]
    have : man n.natAbs + sh n.natAbs * 8388608 = n.natAbs := by unfold man sh; omega
    omega
theorem Valid_ev {a b : Int} (h : VR a b) : real_Valid.f a b = some true := by rw [valid_real, decide_eq_true h]
/-- A signed number. -/
def sval (neg : Bool) (n : Nat) : Int := if neg = true then -(n : Int) else (n : Int)
theorem H_two (I : Nat) : H I = G I + G (I + 1) := rfl
/-- The rounded value is a nearest one among those above 0. -/
theorem Rd.near {N I : Nat} (h : Rd N 1 I) (K : Nat) : ((G I : Int) - N).natAbs ≤ ((G K : Int) - N).natAbs := by
  obtain ⟨h1, h2, h3⟩ := h
  rw [Nat.mul_one] at h2 h3
  rcases Nat.lt_trichotomy K I with hk | hk | hk
  · rcases h1 with h1 | ⟨h1, _⟩
    · omega
    · rw [Nat.mul_one] at h1
      have h4 := G_le (show K ≤ I - 1 by omega)
      have h5 := H_two (I - 1)
      rw [show I - 1 + 1 = I by omega] at h5
      have h6 := G_lt (show I - 1 < I by omega)
      omega
  · rw [hk]; exact Nat.le_refl _
  · have h4 := G_le (show I + 1 ≤ K by omega)
    have h5 := H_two I
    have h6 := G_lt_succ I
    omega
/-- .. and among all. -/
theorem Rd.nearest {N I : Nat} (h : Rd N 1 I) (neg σ : Bool) (K : Nat) : (sval neg (G I) - sval neg N).natAbs ≤ (sval σ (G K) - sval neg N).natAbs := by
  have h1 := Rd.near h K
  have h0 := Rd.near h 0
  rw [G_zero] at h0
  unfold sval
  cases neg <;> cases σ <;> simp only [if_true, if_false, Bool.false_eq_true] <;> omega
end Go.Proofs.YteigbokklclmbaaGreatDoor.M
end
section
namespace Go.Proofs.YteigbokklclmbaaGreatDoor.M
open Go Go.RowKit Go.Proofs.YteigbokklclmbaaGreatDoor.Given Go.Proofs.YteigbokklclmbaaGreatDoorW.PrintWords Go.Proofs.YteigbokklclmbaaGreatDoorW.PrintLast Go.Proofs.YteigbokklclmbaaGreatDoorW.PrintMore Go.Proofs.YteigbokklclmbaaGreatDoor.Z Go.Proofs.YteigbokklclmbaaGreatDoor.Z.Y Go.Proofs.YteigbokklclmbaaGreatDoor.Z.Y.V Go.Proofs.YteigbokklclmbaaGreatDoor.Z.Y.Q
theorem sgn_zero (b : Bool) : sgn b (atI 0) = (0, 0) := by cases b <;> rfl
end Go.Proofs.YteigbokklclmbaaGreatDoor.M
end
section
namespace Go.Proofs.YteigbokklclmbaaGreatDoor.M
open Go Go.RowKit Go.Proofs.YteigbokklclmbaaGreatDoor.Given Go.Proofs.YteigbokklclmbaaGreatDoorW.PrintWords Go.Proofs.YteigbokklclmbaaGreatDoorW.PrintLast Go.Proofs.YteigbokklclmbaaGreatDoorW.PrintMore Go.Proofs.YteigbokklclmbaaGreatDoor.Z Go.Proofs.YteigbokklclmbaaGreatDoor.Z.Y Go.Proofs.YteigbokklclmbaaGreatDoor.Z.Y.Q
theorem sgn_rl (neg : Bool) (I : Nat) : sgn neg (atI I) = rl (if neg = true then -((I : Nat) : Int) else ((I : Nat) : Int)) := by
  unfold rl
  rcases Nat.eq_zero_or_pos I with h | h
  · subst h; cases neg <;> rfl
  · cases neg
    · simp only [if_false, Bool.false_eq_true, Int.natAbs_natCast]; rw [decide_eq_false (by omega)]
    · simp only [if_true, Int.natAbs_neg, Int.natAbs_natCast]; rw [decide_eq_true (by omega)]
theorem res_VR {neg : Bool} {I : Nat} (h : I ≤ 2533359615) : VR (sgn neg (atI I)).1 (sgn neg (atI I)).2 ∧ I64 (sgn neg (atI I)).1 := by
  rw [sgn_rl]
  have : IR (if neg = true then -((I : Nat) : Int) else ((I : Nat) : Int)) := ⟨by split <;> omega, by split <;> omega⟩
  exact ⟨rl_VR this, rl_64 this⟩
end Go.Proofs.YteigbokklclmbaaGreatDoor.M
end
section
namespace Go.Proofs.YteigbokklclmbaaGreatDoor.Z
open Go Go.RowKit Go.Proofs.YteigbokklclmbaaGreatDoor.Given Go.Proofs.YteigbokklclmbaaGreatDoorW.PrintWords Go.Proofs.YteigbokklclmbaaGreatDoorW.PrintLast Go.Proofs.YteigbokklclmbaaGreatDoorW.PrintMore
/-- The blocks of the walk: e, the result; below them all is as it was. -/
structure SqI (w : World) (be bz : Nat) (e : Int) (w' : World) : Prop where
  ke : w'.heap[be]? = some (.cells #[.int .i64 e] 3 (0, 0))
  kz : w'.heap[bz]? = some (.cells #[.int .i64 0, .int .i64 0] 23 (0, 0))
  hB : Below w.heap.size w w'
  le : w.heap.size ≤ be
  lz : w.heap.size ≤ bz
  ne : bz ≠ be
theorem SqI.step {w : World} {be bz : Nat} {e : Int} {w' w'' : World} (h : SqI w be bz e w') (hb : Below w'.heap.size w' w'') : SqI w be bz e w'' :=
  { ke := blk_below h.ke hb, kz := blk_below h.kz hb, hB := h.hB.trans (hb.mono h.hB.size), le := h.le, lz := h.lz, ne := h.ne }
theorem SqI.put {w : World} {be bz : Nat} {e : Int} {w' : World} (h : SqI w be bz e w') (e' : Int) : SqI w be bz e' (w'.setCell ⟨be, 0, none⟩ (.int .i64 e')) :=
  { ke := heap_setCell_same w' be 0 _ _ (.int .i64 e') h.ke, kz := (heap_setCell_other _ _ _ _ h.ne).trans h.kz, hB := h.hB.setCell h.le _, le := h.le, lz := h.lz, ne := h.ne }
theorem SqI.drew {w : World} {be bz : Nat} {e : Int} {w' : World} (h : SqI w be bz e w') : SqI w be bz e w'.drew := h.step (below_drew1 (Below.refl _ _))
structure SqJ (w : World) (be bz : Nat) (e : Int) (br : Nat) (r : Int) (w' : World) : Prop extends SqI w be bz e w' where
  kr : w'.heap[br]? = some (.cells #[.int .u64 r] 72 (0, 0))
  lr : w.heap.size ≤ br
  n1 : be ≠ br
  n2 : bz ≠ br
theorem SqJ.step {w : World} {be bz : Nat} {e : Int} {br : Nat} {r : Int} {w' w'' : World} (h : SqJ w be bz e br r w') (hb : Below w'.heap.size w' w'') : SqJ w be bz e br r w'' :=
  { h.toSqI.step hb with kr := blk_below h.kr hb, lr := h.lr, n1 := h.n1, n2 := h.n2 }
theorem SqJ.put {w : World} {be bz : Nat} {e : Int} {br : Nat} {r : Int} {w' : World} (h : SqJ w be bz e br r w') (r' : Int) : SqJ w be bz e br r' (w'.setCell ⟨br, 0, none⟩ (.int .u64 r')) :=
  { ke := (heap_setCell_other _ _ _ _ h.n1).trans h.ke, kz := (heap_setCell_other _ _ _ _ h.n2).trans h.kz, hB := h.hB.setCell h.lr _, le := h.le, lz := h.lz, ne := h.ne, kr := heap_setCell_same w' br 0 _ _ (.int .u64 r') h.kr, lr := h.lr, n1 := h.n1, n2 := h.n2 }
theorem SqI.box {w : World} {be bz : Nat} {e : Int} {w' : World} (h : SqI w be bz e w') (r : Int) : SqJ w be bz e w'.heap.size r (w'.alloc (.cells #[.int .u64 r] 72)) :=
  { h.step ((Below.refl _ w').alloc (Nat.le_refl _) _) with kr := blk_new _ _, lr := h.hB.size, n1 := by have := blk_lt h.ke; omega, n2 := by have := blk_lt h.kz; omega }
end Go.Proofs.YteigbokklclmbaaGreatDoor.Z
end
section
namespace Go.Proofs.YteigbokklclmbaaGreatDoor.M
open Go Go.RowKit Go.Proofs.YteigbokklclmbaaGreatDoor.Given Go.Proofs.YteigbokklclmbaaGreatDoorW.PrintWords Go.Proofs.YteigbokklclmbaaGreatDoorW.PrintLast Go.Proofs.YteigbokklclmbaaGreatDoorW.PrintMore Go.Proofs.YteigbokklclmbaaGreatDoor.Z Go.Proofs.YteigbokklclmbaaGreatDoor.Z.Y Go.Proofs.YteigbokklclmbaaGreatDoor.Z.Y.V Go.Proofs.YteigbokklclmbaaGreatDoor.Z.Y.Q
theorem Rd.nil {D I : Nat} (hD : 0 < D) (h : Rd 0 D I) : I = 0 := by
  rcases h.1 with h | ⟨h, _⟩
  · exact h
  · have := Nat.mul_pos (H_pos (I - 1)) hD
    omega
/-- What Sqrt comes to: M times a power of four, its whole root, and a bit for the rest. -/
structure SqR (V : Int) (M R s a I : Nat) : Prop where
  hV : V * 2 ^ 150 = ((4 * M * 4 ^ a : Nat) : Int)
  hM : M = 0 ∨ (2 ^ 58 ≤ M ∧ M < 2 ^ 60)
  hR : R * R ≤ M ∧ M < (R + 1) * (R + 1)
  hs : (R * R = M ∧ s = 0) ∨ (¬ R * R = M ∧ s = 1)
  hI : Rd ((2 * R + s) * 2 ^ a) 1 I
theorem SqR.mono {V W : Int} {M R s a I N S t b J : Nat} (h : SqR V M R s a I) (h' : SqR W N S t b J) (hle : V ≤ W) : I ≤ J := by
  refine h.hI.mono (by decide) (by decide) h'.hI ?_
  rw [Nat.mul_one, Nat.mul_one]
  have hle2 : 4 * M * 4 ^ a ≤ 4 * N * 4 ^ b := by
    have h1 : V * 2 ^ 150 ≤ W * 2 ^ 150 := Int.mul_le_mul_of_nonneg_right hle (Int.le_of_lt (Int.pow_pos (by decide)))
    rw [h.hV, h'.hV] at h1
    exact Int.ofNat_le.1 h1
  rw [Nat.mul_assoc, Nat.mul_assoc] at hle2
  have hle3 : M * 4 ^ a ≤ N * 4 ^ b := Nat.le_of_mul_le_mul_left hle2 (by decide)
  have pa : 0 < 4 ^ a := Nat.pow_pos (by decide)
  have pb : 0 < 4 ^ b := Nat.pow_pos (by decide)
  have hs := h.hs
  have ht := h'.hs
  have hR := h.hR
  have hS := h'.hR
  rcases h.hM with hM | ⟨hM1, hM2⟩
  · have hR0 : R = 0 := by
      rcases Nat.eq_zero_or_pos R with h | h
      · exact h
      · have := Nat.mul_pos h h; omega
    subst hR0 hM
    rcases hs with ⟨_, rfl⟩ | ⟨h, _⟩
    · simp
    · exact absurd rfl h
  · rcases h'.hM with hN | ⟨hN1, hN2⟩
    · rw [hN, Nat.zero_mul] at hle3
      have := Nat.mul_pos (show 0 < M by omega) pa
      omega
    · have big : ∀ {M R : Nat}, 2 ^ 58 ≤ M → M < 2 ^ 60 → R * R ≤ M → M < (R + 1) * (R + 1) → 2 ^ 29 ≤ R ∧ R < 2 ^ 30 := by
        intro M R h1 h2 h3 h4
        constructor
        · rcases Nat.lt_or_ge R (2 ^ 29) with h | h
          · have : (R + 1) * (R + 1) ≤ 2 ^ 29 * 2 ^ 29 := Nat.mul_le_mul h h
            omega
          · exact h
        · rcases Nat.lt_or_ge R (2 ^ 30) with h | h
          · exact h
          · have : 2 ^ 30 * 2 ^ 30 ≤ R * R := Nat.mul_le_mul h h
            omega
      obtain ⟨r1, r2⟩ := big hM1 hM2 hR.1 hR.2
      obtain ⟨s1, s2⟩ := big hN1 hN2 hS.1 hS.2
      rcases Nat.lt_trichotomy a b with hab | hab | hab
      · have e1 : 2 ^ (a + 1) ≤ 2 ^ b := Nat.pow_le_pow_right (by decide) hab
        calc (2 * R + s) * 2 ^ a ≤ 2 ^ 31 * 2 ^ a := Nat.mul_le_mul_right _ (by omega)
          _ = 2 ^ 30 * 2 ^ (a + 1) := by rw [Nat.pow_succ 2 a]; omega
          _ ≤ 2 ^ 30 * 2 ^ b := Nat.mul_le_mul_left _ e1
          _ ≤ (2 * S + t) * 2 ^ b := Nat.mul_le_mul_right _ (by omega)
      · subst hab
        have hMN : M ≤ N := Nat.le_of_mul_le_mul_right hle3 pa
        refine Nat.mul_le_mul_right _ ?_
        rcases Nat.lt_trichotomy R S with hRS | hRS | hRS
        · omega
        · subst hRS
          rcases hs with ⟨_, rfl⟩ | ⟨h1, rfl⟩ <;> rcases ht with ⟨h2, rfl⟩ | ⟨h2, rfl⟩ <;> omega
        · have : (S + 1) * (S + 1) ≤ R * R := Nat.mul_le_mul hRS hRS
          omega
      · exfalso
        have e1 : 4 ^ (b + 1) ≤ 4 ^ a := Nat.pow_le_pow_right (by decide) hab
        have e2 : 2 ^ 58 * 4 ^ (b + 1) ≤ M * 4 ^ a := Nat.mul_le_mul hM1 e1
        have e3 : N * 4 ^ b < 2 ^ 60 * 4 ^ b := Nat.mul_lt_mul_of_pos_right hN2 pb
        rw [Nat.pow_succ] at e2
        omega
end Go.Proofs.YteigbokklclmbaaGreatDoor.M
end
section
namespace Go.Proofs.YteigbokklclmbaaGreatDoor.Z
open Go Go.RowKit Go.Proofs.YteigbokklclmbaaGreatDoor.Given Go.Proofs.YteigbokklclmbaaGreatDoorW.PrintWords Go.Proofs.YteigbokklclmbaaGreatDoorW.PrintLast Go.Proofs.YteigbokklclmbaaGreatDoorW.PrintMore
theorem real_one.calls (w : World) : Calls Tryz.prog 69 #[] w fun e w' => e = .returned (.agg #[.int .i64 8388608, .int .i64 (-23)]) ∧ Below w.heap.size w w' := by
  go_enter Tryz.func69, Tryz.ntmps69
  go_wp2_with fail
  refine (real_FromIntN.calls 60 1 8388608 (-23) _ (by kernel_rfl)).mono ?_
  rintro e w1 ⟨rfl, hb⟩
  have hz : w1.heap[w.heap.size]? = some (.cells #[.int .i64 0, .int .i64 0] 23 (0, 0)) := blk_below (new_at _ _ _ rfl) hb
  have hB : Below w.heap.size w w1 := ((Below.refl _ w).alloc (Nat.le_refl _) _).trans (hb.mono (by simp))
  have z0 : w1.cell? ⟨w.heap.size, 0, none⟩ = some (.int .i64 0) := (blk_cell hz 0).trans rfl
  have z1 : w1.cell? ⟨w.heap.size, 1, none⟩ = some (.int .i64 0) := (blk_cell hz 1).trans rfl
  have f0 := blk_frozen hz 0
  have f1 := blk_frozen hz 1
  have lz := blk_lt hz
  clear hb
  go_wp2
  have fz := heap_setCell_same (w1.setCell ⟨w.heap.size, 0, none⟩ (.int .i64 8388608)) w.heap.size 1 _ _ (.int .i64 (-23)) (heap_setCell_same w1 w.heap.size 0 _ _ (.int .i64 8388608) hz)
  refine bodyPost_ret (results_cell_row rfl _ _ w.heap.size 23 #[.int .i64 8388608, .int .i64 (-23)] (0, 0) _ rfl fz Tryz.underlying23 rfl (by kernel_rfl)) rfl ?_
  exact ⟨rfl, (hB.setCell (Nat.le_refl _) _).setCell (Nat.le_refl _) _⟩
def real_power.f : Nat → Int → Int → Int → Option (Int × Int)
  | 0, _, _, _ => none
  | k + 1, x0, x1, n => if n = 0 then some (8388608, -23) else if n % 2 = 1 then (real_power.f k x0 x1 (n - 1)).bind fun y => if y.2 = 1000 then some y else real_product.f k x0 x1 y.1 y.2
    else (real_power.f k x0 x1 (n / 2)).bind fun y => if y.2 = 1000 then some y else real_product.f k y.1 y.2 y.1 y.2
def real_power.T4 : Bool × List (List Nat × List Nat) := (true, [([], []), ([], []), ([], []), ([2], [2]), ([1, 3], [1, 3]), ([0, 4, 4], [0, 4]), ([5, 5, 0, 1, 2, 3, 4, 5], [5])])
def real_power.B4 : List Nat := [0, 0, 0, 4, 14, 31, 63]
theorem real_power.tab4 : rtab .any (opsOf Tryz.f66 4) = real_power.T4 := by kernel_rfl
theorem real_power.bits4 : waitsOk real_power.T4.2 real_power.B4 = true := by kernel_rfl
theorem real_power.calls : ∀ (k : Nat) (x0 x1 n r1 r2 : Int) (w : World), real_power.f k x0 x1 n = some (r1, r2) → 0 ≤ n → n < 18446744073709551616 →
    Calls Tryz.prog 66 #[.agg #[.int .i64 x0, .int .i64 x1], .int .u64 n] w fun e w' => e = ending r1 r2 ∧ Below w.heap.size w w' := by
  intro k
  induction k with
  | zero => intro x0 x1 n r1 r2 w h; exact absurd h (by simp [real_power.f])
  | succ k ih =>
    intro x0 x1 n r1 r2 w h hn hn2
    have IH := Lib.hid ih
    clear ih
    rw [real_power.f] at h
    by_cases c0 : n = 0
    · rw [if_pos c0] at h
      cases h
      subst c0
      go_enter Tryz.func66, Tryz.ntmps66
      go_wp2_with fail
      refine (real_one.calls _).mono ?_
      rintro e w1 ⟨rfl, hb⟩
      have hz : w1.heap[w.heap.size + 1]? = some (.cells #[.int .i64 0, .int .i64 0] 23 (0, 0)) := blk_below (new_at _ _ _ (by simp only [World.size_alloc])) hb
      have hB : Below w.heap.size w w1 := (((Below.refl _ w).alloc (Nat.le_refl _) _).alloc (by simp only [World.size_alloc]; omega) _).trans (hb.mono (by simp only [World.size_alloc]; omega))
      have z0 : w1.cell? ⟨w.heap.size + 1, 0, none⟩ = some (.int .i64 0) := (blk_cell hz 0).trans rfl
      have z1 : w1.cell? ⟨w.heap.size + 1, 1, none⟩ = some (.int .i64 0) := (blk_cell hz 1).trans rfl
      have f0 := blk_frozen hz 0
      have f1 := blk_frozen hz 1
      have lz := blk_lt hz
      clear hb
      go_wp2
      have fz := heap_setCell_same (w1.setCell ⟨w.heap.size + 1, 0, none⟩ (.int .i64 8388608)) (w.heap.size + 1) 1 _ _ (.int .i64 (-23)) (heap_setCell_same w1 (w.heap.size + 1) 0 _ _ (.int .i64 8388608) hz)
      refine bodyPost_ret (results_cell_row rfl _ _ (w.heap.size + 1) 23 #[.int .i64 8388608, .int .i64 (-23)] (0, 0) _ rfl fz Tryz.underlying23 rfl (by kernel_rfl)) rfl ?_
      exact ⟨rfl, (hB.setCell (by simp only; omega) _).setCell (by simp only; omega) _⟩
    · rw [if_neg c0] at h
      have c0b : (n == 0) = false := beq_eq_false_iff_ne.mpr c0
      by_cases c1 : n % 2 = 1
      · rw [if_pos c1] at h
        obtain ⟨⟨y1, y2⟩, hy, h⟩ := Option.bind_eq_some_iff.mp h
        have HY := Lib.hid hy
        have H := Lib.hid h
        clear h hy
        have hn1 : 0 ≤ n - 1 := by omega
        have hn3 : n - 1 < 18446744073709551616 := by omega
        have u1 : IntKind.u64.wrap (n - 1) = n - 1 := by simp [IntKind.wrap, IntKind.bits, IntKind.signed]; omega
        go_enter Tryz.func66, Tryz.ntmps66
        go_wp2_with fail
        have kx : ((w.alloc (.cells #[.int .i64 x0, .int .i64 x1] 23)).alloc (.cells #[.int .i64 0, .int .i64 0] 23)).drew.heap[w.heap.size]? = some (.cells #[.int .i64 x0, .int .i64 x1] 23 (0, 0)) := blk_drew (blk_alloc (new_at _ _ _ rfl) _)
        have kz : ((w.alloc (.cells #[.int .i64 x0, .int .i64 x1] 23)).alloc (.cells #[.int .i64 0, .int .i64 0] 23)).drew.heap[w.heap.size + 1]? = some (.cells #[.int .i64 0, .int .i64 0] 23 (0, 0)) := blk_drew (new_at _ _ _ (by simp only [World.size_alloc]))
        have hB := below_drew1 (((Below.refl _ w).alloc (Nat.le_refl _) (.cells #[.int .i64 x0, .int .i64 x1] 23)).alloc (by simp only [World.size_alloc]; omega) (.cells #[.int .i64 0, .int .i64 0] 23))
        refine start_ (n := 7) (S := fun w' => w'.cell? ⟨w.heap.size, 0, none⟩ = some (.int .i64 x0) ∧ w'.cell? ⟨w.heap.size, 1, none⟩ = some (.int .i64 x1)) (ds := []) #[ff,ff,ff,ff,ff,ff,ff] (by kernel_rfl) rfl rfl ⟨(blk_cell kx 0).trans rfl, (blk_cell kx 1).trans rfl⟩ (fun hHeld => ?_); refine with_tabW real_power.tab4 real_power.bits4 (fun HT_ HW_ => ?_)
        generalize ((w.alloc (.cells #[.int .i64 x0, .int .i64 x1] 23)).alloc (.cells #[.int .i64 0, .int .i64 0] 23)).drew = w1 at kx kz hB hHeld ⊢
        have KX := Lib.hid kx
        have KZ := Lib.hid kz
        have HB := Lib.hid hB
        clear kx kz hB
        refine pur 2 (some 14) #[ff,ff,tt,ff,ff,ff,ff] ?_
        refine pur 3 (some 15) #[ff,ff,tt,tt,ff,ff,ff] ?_
        refine tk2 0 (some 12) #[tt,ff,tt,tt,ff,ff,ff] ?_
        refine tk2 1 (some 13) #[tt,tt,tt,tt,ff,ff,ff] ?_
        refine on1 4 (some 16) #[tt,tt,tt,tt,tt,ff,ff] (fun K hK => ?_)
        refine goesP_ Tryz.func66 (by kernel_rfl) rfl #[.agg #[.int .i64 x0, .int .i64 x1], .int .u64 (n - 1)] (by rfl) rfl rfl ay ?_
        with_reducible refine (IH.out x0 x1 (n - 1) y1 y2 _ HY.out hn1 hn3).mono ?_
        rintro e w3 ⟨he_, hb⟩
        refine ends_ he_ (fun p1_ => And.intro rfl (And.intro ?_ (HB.out.trans (hb.mono HB.out.size)))) (fun hpn_ => ?_)
        · have h := H.out
          simp only [if_pos p1_, Option.some.injEq, Prod.mk.injEq] at h
          exact code_direct (h.2 ▸ p1_)
        have h := H.out
        simp only [if_neg hpn_] at h
        have kx := blk_below KX.out hb
        have kz := blk_below KZ.out hb
        have hB := HB.out.trans (hb.mono HB.out.size)
        refine hK.out _ _ ⟨(blk_cell kx 0).trans rfl, (blk_cell kx 1).trans rfl⟩ (fun hHeld => ?_)
        clear hK K H HB KX KZ hb
        refine nrm (some 16) ?_
        refine on1 5 (some 17) #[tt,tt,tt,tt,tt,tt,ff] (fun K hK => ?_)
        refine goesP_ Tryz.func96 (by kernel_rfl) rfl #[.agg #[.int .i64 x0, .int .i64 x1], .agg #[.int .i64 y1, .int .i64 y2]] (by rfl) rfl rfl ay ?_
        with_reducible refine (real_product.calls k x0 x1 y1 y2 r1 r2 _ h).mono ?_
        rintro e w4 ⟨he_, hb⟩
        refine ends_ he_ (fun p1_ => And.intro rfl (And.intro (code_direct p1_) (hB.trans (hb.mono hB.size)))) (fun hpn2_ => ?_)
        replace kx := blk_below kx hb
        replace kz := blk_below kz hb
        replace hB := hB.trans (hb.mono hB.size)
        refine hK.out _ _ ⟨(blk_cell kx 0).trans rfl, (blk_cell kx 1).trans rfl⟩ (fun hHeld => ?_)
        clear hK K hb
        refine nrm (some 17) ?_
        refine on1 6 (none) #[tt,tt,tt,tt,tt,tt,tt] (fun K hK => ?_)
        have z0 : w4.cell? ⟨w.heap.size + 1, 0, none⟩ = some (.int .i64 0) := (blk_cell kz 0).trans rfl
        have z1 : w4.cell? ⟨w.heap.size + 1, 1, none⟩ = some (.int .i64 0) := (blk_cell kz 1).trans rfl
        have f0 := blk_frozen kz 0
        have f1 := blk_frozen kz 1
        have hne : w.heap.size ≠ w.heap.size + 1 := by omega
        refine skip_ (w1 := ?_) (by rfl) rfl ?_ ?_
        rotate_left
        · go_simp
          rfl
        refine hK.out _ _ ⟨((cell_far (p := ⟨w.heap.size + 1, _, none⟩) hne _).trans ((cell_far (p := ⟨w.heap.size + 1, _, none⟩) hne _).trans hHeld.1)), ((cell_far (p := ⟨w.heap.size + 1, _, none⟩) hne _).trans ((cell_far (p := ⟨w.heap.size + 1, _, none⟩) hne _).trans hHeld.2))⟩ (fun hHeld => ?_)
        clear hK K
        refine done_ (done_of HT_.out (by kernel_rfl)) ?_
        try go_wp2
        have fz := heap_setCell_same (w4.setCell ⟨w.heap.size + 1, 0, none⟩ (.int .i64 r1)) (w.heap.size + 1) 1 _ _ (.int .i64 r2) (heap_setCell_same w4 (w.heap.size + 1) 0 _ _ (.int .i64 r1) kz)
        refine bodyPost_ret (results_cell_row rfl _ _ (w.heap.size + 1) 23 #[.int .i64 r1, .int .i64 r2] (0, 0) _ rfl fz Tryz.underlying23 rfl (by kernel_rfl)) rfl ?_
        exact ⟨(ending_at hpn2_).symm, (hB.setCell (by simp only; omega) _).setCell (by simp only; omega) _⟩
      · rw [if_neg c1] at h
        obtain ⟨⟨y1, y2⟩, hy, h⟩ := Option.bind_eq_some_iff.mp h
        have HY := Lib.hid hy
        have H := Lib.hid h
        clear h hy
        have hn1 : 0 ≤ n / 2 := by omega
        have hn3 : n / 2 < 18446744073709551616 := by omega
        by_cases hp : y2 = 1000
        · have e1 : ending y1 y2 = .panicked chain := by unfold ending; rw [if_pos hp]
          have e2 : y1 = r1 ∧ y2 = r2 := by have h := H.out; rw [if_pos hp] at h; simpa using h
          obtain ⟨rfl, rfl⟩ := e2
          go_enter Tryz.func66, Tryz.ntmps66
          go_wp2_with fail
          refine (IH.out x0 x1 (n / 2) y1 y2 _ HY.out hn1 hn3).mono ?_
          rintro e w3 ⟨rfl, hb⟩
          have hB : Below w.heap.size w w3 := (((Below.refl _ w).alloc (Nat.le_refl _) _).alloc (by simp only [World.size_alloc]; omega) _).trans (hb.mono (by simp only [World.size_alloc]; omega))
          rw [e1]
          exact ⟨rfl, by rw [e1], hB⟩
        · have e1 : ending y1 y2 = .returned (.agg #[.int .i64 y1, .int .i64 y2]) := ending_at hp
          have h := H.out
          simp only [if_neg hp] at h
          have H2 := Lib.hid h
          clear h H
          go_enter Tryz.func66, Tryz.ntmps66
          go_wp2_with fail
          refine (IH.out x0 x1 (n / 2) y1 y2 _ HY.out hn1 hn3).mono ?_
          rintro e w3 ⟨rfl, hb⟩
          have hz : w3.heap[w.heap.size + 1]? = some (.cells #[.int .i64 0, .int .i64 0] 23 (0, 0)) := blk_below (new_at _ _ _ (by simp only [World.size_alloc])) hb
          have hB : Below w.heap.size w w3 := (((Below.refl _ w).alloc (Nat.le_refl _) _).alloc (by simp only [World.size_alloc]; omega) _).trans (hb.mono (by simp only [World.size_alloc]; omega))
          have HZ := Lib.hid hz
          have HB := Lib.hid hB
          clear hb hz hB
          rw [e1]
          go_wp2_with fail
          refine (real_product.calls k y1 y2 y1 y2 r1 r2 _ H2.out).mono ?_
          rintro e w4 ⟨rfl, hb⟩
          have hz := blk_below (blk_alloc HZ.out (.cells #[.int .i64 y1, .int .i64 y2] 23)) hb
          have hB : Below w.heap.size w w4 := (HB.out.alloc HB.out.size _).trans (hb.mono (by simp only [World.size_alloc]; exact Nat.le_succ_of_le HB.out.size))
          by_cases hq : r2 = 1000
          · have e2 : ending r1 r2 = .panicked chain := by unfold ending; rw [if_pos hq]
            rw [e2]
            exact ⟨rfl, by rw [e2], hB⟩
          · have e2 : ending r1 r2 = .returned (.agg #[.int .i64 r1, .int .i64 r2]) := ending_at hq
            rw [e2]
            have z0 : w4.cell? ⟨w.heap.size + 1, 0, none⟩ = some (.int .i64 0) := (blk_cell hz 0).trans rfl
            have z1 : w4.cell? ⟨w.heap.size + 1, 1, none⟩ = some (.int .i64 0) := (blk_cell hz 1).trans rfl
            have f0 := blk_frozen hz 0
            have f1 := blk_frozen hz 1
            have lz := blk_lt hz
            clear hb
            go_wp2
            have fz := heap_setCell_same (w4.setCell ⟨w.heap.size + 1, 0, none⟩ (.int .i64 r1)) (w.heap.size + 1) 1 _ _ (.int .i64 r2) (heap_setCell_same w4 (w.heap.size + 1) 0 _ _ (.int .i64 r1) hz)
            refine bodyPost_ret (results_cell_row rfl _ _ (w.heap.size + 1) 23 #[.int .i64 r1, .int .i64 r2] (0, 0) _ rfl fz Tryz.underlying23 rfl (by kernel_rfl)) rfl ?_
            exact ⟨e2.symm, (hB.setCell (by simp only; omega) _).setCell (by simp only; omega) _⟩
theorem u64_of {n : Int} (h0 : 0 ≤ n) (h1 : n < 9223372036854775808) : IntKind.u64.wrap n = n := by simp [IntKind.wrap, IntKind.bits, IntKind.signed]; omega
theorem u64_neg {n : Int} (h0 : n < 0) (h1 : -9223372036854775808 ≤ n) : IntKind.u64.wrap (-(IntKind.u64.wrap n)) = -n := by simp [IntKind.wrap, IntKind.bits, IntKind.signed]; omega
theorem pow1_c (k : Nat) (b c : Nat) (x0 x1 n m x : Int) (hp : real_power.f k x0 x1 n = some (m, x)) (hn : 0 ≤ n) (hn2 : n < 9223372036854775808) (w : World)
    (hb : w.heap[b]? = some (.cells #[.int .i64 x0, .int .i64 x1] 23 (0, 0))) (hc : w.heap[c]? = some (.cells #[.int .i64 n] 3 (0, 0))) :
    Calls Tryz.prog 65 #[.pointer (some ⟨b, 0, none⟩), .pointer (some ⟨c, 0, none⟩)] w fun e w' => e = ending m x ∧ Below w.heap.size w w' := by
  have HP := Lib.hid hp
  have b0 : w.cell? ⟨b, 0, none⟩ = some (.int .i64 x0) := (blk_cell hb 0).trans rfl
  have b1 : w.cell? ⟨b, 1, none⟩ = some (.int .i64 x1) := (blk_cell hb 1).trans rfl
  have c0 : w.cell? ⟨c, 0, none⟩ = some (.int .i64 n) := (blk_cell hc 0).trans rfl
  have lb := blk_lt hb
  have lc := blk_lt hc
  have hu := u64_of hn hn2
  have hn3 : n < 18446744073709551616 := by omega
  clear hp hb hc
  by_cases hx : x = 1000
  · have e1 : ending m x = .panicked chain := by unfold ending; rw [if_pos hx]
    go_enter Tryz.func65, Tryz.ntmps65
    go_wp2_with fail
    refine (real_power.calls k x0 x1 n m x _ HP.out hn hn3).mono ?_
    rintro e w3 ⟨rfl, hb⟩
    have hB : Below w.heap.size w w3 := ((Below.refl _ w).alloc (Nat.le_refl _) _).trans (hb.mono (by simp))
    rw [e1]
    exact ⟨rfl, by rw [e1], hB⟩
  · have e1 : ending m x = .returned (.agg #[.int .i64 m, .int .i64 x]) := ending_at hx
    rw [e1]
    go_enter Tryz.func65, Tryz.ntmps65
    go_wp2_with fail
    refine (real_power.calls k x0 x1 n m x _ HP.out hn hn3).mono ?_
    rintro e w3 ⟨rfl, hb⟩
    have hB : Below w.heap.size w w3 := ((Below.refl _ w).alloc (Nat.le_refl _) _).trans (hb.mono (by simp))
    have hz : w3.heap[w.heap.size]? = some (.cells #[.int .i64 0, .int .i64 0] 23 (0, 0)) := blk_below (blk_new _ _) hb
    have z0 : w3.cell? ⟨w.heap.size, 0, none⟩ = some (.int .i64 0) := (blk_cell hz 0).trans rfl
    have z1 : w3.cell? ⟨w.heap.size, 1, none⟩ = some (.int .i64 0) := (blk_cell hz 1).trans rfl
    have f0 := blk_frozen hz 0
    have f1 := blk_frozen hz 1
    have lz := blk_lt hz
    clear hb
    rw [e1]
    go_wp2
    have fz := heap_setCell_same (w3.setCell ⟨w.heap.size, 0, none⟩ (.int .i64 m)) w.heap.size 1 _ _ (.int .i64 x) (heap_setCell_same w3 w.heap.size 0 _ _ (.int .i64 m) hz)
    refine bodyPost_ret (results_cell_row rfl _ _ w.heap.size 23 #[.int .i64 m, .int .i64 x] (0, 0) _ rfl fz Tryz.underlying23 rfl (by kernel_rfl)) rfl ?_
    exact ⟨rfl, (hB.setCell (Nat.le_refl _) _).setCell (Nat.le_refl _) _⟩
def real_pow2.f (k : Nat) (x0 x1 n : Int) : Option (Int × Int) := (real_power.f k x0 x1 (-n)).bind fun y => if y.2 = 1000 then some y else if y.1 = 0 then some (0, 1000) else real_quotient.f k 8388608 (-23) y.1 y.2
def real_pow2.T4 : Bool × List (List Nat × List Nat) := (true, [([], []), ([], []), ([0, 1, 0], [0, 1]), ([2, 2, 0, 1, 2], [2])])
def real_pow2.B4 : List Nat := [0, 0, 3, 7]
theorem real_pow2.tab4 : rtab .any (opsOf Tryz.f67 4) = real_pow2.T4 := by kernel_rfl
theorem real_pow2.bits4 : waitsOk real_pow2.T4.2 real_pow2.B4 = true := by kernel_rfl
theorem pow2_c (k : Nat) (b c : Nat) (x0 x1 n m x : Int) (hp : real_pow2.f k x0 x1 n = some (m, x)) (hn : n < 0) (hn2 : -9223372036854775808 ≤ n) (w : World)
    (hb : w.heap[b]? = some (.cells #[.int .i64 x0, .int .i64 x1] 23 (0, 0))) (hc : w.heap[c]? = some (.cells #[.int .i64 n] 3 (0, 0))) :
    Calls Tryz.prog 67 #[.pointer (some ⟨b, 0, none⟩), .pointer (some ⟨c, 0, none⟩)] w fun e w' => e = ending m x ∧ Below w.heap.size w w' := by
  unfold real_pow2.f at hp
  obtain ⟨⟨y1, y2⟩, hy, hp⟩ := Option.bind_eq_some_iff.mp hp
  have HY := Lib.hid hy
  have HP := Lib.hid hp
  have b0 : w.cell? ⟨b, 0, none⟩ = some (.int .i64 x0) := (blk_cell hb 0).trans rfl
  have b1 : w.cell? ⟨b, 1, none⟩ = some (.int .i64 x1) := (blk_cell hb 1).trans rfl
  have c0 : w.cell? ⟨c, 0, none⟩ = some (.int .i64 n) := (blk_cell hc 0).trans rfl
  have lb := blk_lt hb
  have lc := blk_lt hc
  have hu := u64_neg hn hn2
  have hn3 : -n < 18446744073709551616 := by omega
  have hn4 : 0 ≤ -n := by omega
  clear hp hy hb hc
  by_cases hx : y2 = 1000
  · have e1 : ending y1 y2 = .panicked chain := by unfold ending; rw [if_pos hx]
    have e2 : y1 = m ∧ y2 = x := by have h := HP.out; simp only [if_pos hx] at h; simpa using h
    obtain ⟨rfl, rfl⟩ := e2
    go_enter Tryz.func67, Tryz.ntmps67
    go_wp2_with fail
    refine (real_power.calls k x0 x1 (-n) y1 y2 _ HY.out hn4 hn3).mono ?_
    rintro e w3 ⟨rfl, hb⟩
    have hB : Below w.heap.size w w3 := ((Below.refl _ w).alloc (Nat.le_refl _) _).trans (hb.mono (by simp))
    rw [e1]
    exact ⟨rfl, by rw [e1], hB⟩
  · have e1 : ending y1 y2 = .returned (.agg #[.int .i64 y1, .int .i64 y2]) := ending_at hx
    have h := HP.out
    simp only [if_neg hx] at h
    have H := Lib.hid h
    clear HP h
    by_cases hy0 : y1 = 0
    · have e2 : 0 = m ∧ 1000 = x := by have h := H.out; rw [if_pos hy0] at h; simpa using h
      obtain ⟨rfl, rfl⟩ := e2
      subst hy0
      go_enter Tryz.func67, Tryz.ntmps67
      go_wp2_with fail
      refine (real_power.calls k x0 x1 (-n) 0 y2 _ HY.out hn4 hn3).mono ?_
      rintro e w3 ⟨rfl, hb⟩
      have hB : Below w.heap.size w w3 := ((Below.refl _ w).alloc (Nat.le_refl _) _).trans (hb.mono (by simp))
      rw [e1]
      clear hb
      go_wp2_with fail
      rw [panics77]
      exact ⟨rfl, rfl, hB.alloc hB.size _⟩
    · have h := H.out
      simp only [if_neg hy0] at h
      have HQ := Lib.hid h
      clear H h
      have y0b : (y1 == 0) = false := beq_eq_false_iff_ne.mpr hy0
      go_enter Tryz.func67, Tryz.ntmps67
      go_wp2_with fail
      refine (real_power.calls k x0 x1 (-n) y1 y2 _ HY.out hn4 hn3).mono ?_
      rintro e w3 ⟨rfl, hb⟩
      have hB : Below w.heap.size w w3 := ((Below.refl _ w).alloc (Nat.le_refl _) _).trans (hb.mono (by simp))
      have hz : w3.heap[w.heap.size]? = some (.cells #[.int .i64 0, .int .i64 0] 23 (0, 0)) := blk_below (blk_new _ _) hb
      rw [e1]
      have lz := blk_lt hz
      have HZ := Lib.hid hz
      have HB := Lib.hid hB
      clear hb hz hB
      go_wp2_with fail
      have ky : (w3.alloc (.cells #[.int .i64 y1, .int .i64 y2] 23)).drew.heap[w3.heap.size]? = some (.cells #[.int .i64 y1, .int .i64 y2] 23 (0, 0)) := blk_drew (blk_new _ _)
      have kz : (w3.alloc (.cells #[.int .i64 y1, .int .i64 y2] 23)).drew.heap[w.heap.size]? = some (.cells #[.int .i64 0, .int .i64 0] 23 (0, 0)) := blk_drew (blk_alloc HZ.out _)
      have hB := below_drew1 (HB.out.alloc HB.out.size (.cells #[.int .i64 y1, .int .i64 y2] 23))
      refine start_ (n := 4) (S := fun w' => w'.cell? ⟨w3.heap.size, 0, none⟩ = some (.int .i64 y1) ∧ w'.cell? ⟨w3.heap.size, 1, none⟩ = some (.int .i64 y2)) (ds := []) #[ff,ff,ff,ff] (by kernel_rfl) rfl rfl ⟨(blk_cell ky 0).trans rfl, (blk_cell ky 1).trans rfl⟩ (fun hHeld => ?_); refine with_tabW real_pow2.tab4 real_pow2.bits4 (fun HT_ HW_ => ?_)
      clear HB HZ
      generalize (w3.alloc (.cells #[.int .i64 y1, .int .i64 y2] 23)).drew = w4 at ky kz hB hHeld ⊢
      refine tk2 1 (some 15) #[ff,tt,ff,ff] ?_
      refine on1 0 (some 14) #[tt,tt,ff,ff] (fun K hK => ?_)
      refine gsz Tryz.func69 #[] ?_
      with_reducible refine (real_one.calls _).mono ?_
      rintro e w5 ⟨rfl, hb⟩
      refine ⟨_, rfl, ?_⟩
      replace ky := blk_below ky hb
      replace kz := blk_below kz hb
      replace hB := hB.trans (hb.mono hB.size)
      refine hK.out _ _ ⟨(blk_cell ky 0).trans rfl, (blk_cell ky 1).trans rfl⟩ (fun hHeld => ?_)
      clear hK K hb
      refine nrm (some 14) ?_
      refine on1 2 (some 16) #[tt,tt,tt,ff] (fun K hK => ?_)
      refine goesP_ Tryz.func68 (by kernel_rfl) rfl #[.agg #[.int .i64 8388608, .int .i64 (-23)], .agg #[.int .i64 y1, .int .i64 y2]] (by rfl) rfl rfl ay ?_
      with_reducible refine (real_quotient.calls k 8388608 (-23) y1 y2 m x _ HQ.out).mono ?_
      rintro e w6 ⟨he_, hb⟩
      refine ends_ he_ (fun p1_ => And.intro rfl (And.intro (code_direct p1_) (hB.trans (hb.mono hB.size)))) (fun hpn2_ => ?_)
      replace ky := blk_below ky hb
      replace kz := blk_below kz hb
      replace hB := hB.trans (hb.mono hB.size)
      refine hK.out _ _ ⟨(blk_cell ky 0).trans rfl, (blk_cell ky 1).trans rfl⟩ (fun hHeld => ?_)
      clear hK K hb
      refine nrm (some 16) ?_
      refine on1 3 (none) #[tt,tt,tt,tt] (fun K hK => ?_)
      have z0 : w6.cell? ⟨w.heap.size, 0, none⟩ = some (.int .i64 0) := (blk_cell kz 0).trans rfl
      have z1 : w6.cell? ⟨w.heap.size, 1, none⟩ = some (.int .i64 0) := (blk_cell kz 1).trans rfl
      have f0 := blk_frozen kz 0
      have f1 := blk_frozen kz 1
      have hne : w3.heap.size ≠ w.heap.size := by omega
      refine skip_ (w1 := ?_) (by rfl) rfl ?_ ?_
      rotate_left
      · go_simp
        rfl
      refine hK.out _ _ ⟨((cell_far (p := ⟨w.heap.size, _, none⟩) hne _).trans ((cell_far (p := ⟨w.heap.size, _, none⟩) hne _).trans hHeld.1)), ((cell_far (p := ⟨w.heap.size, _, none⟩) hne _).trans ((cell_far (p := ⟨w.heap.size, _, none⟩) hne _).trans hHeld.2))⟩ (fun hHeld => ?_)
      clear hK K
      refine done_ (done_of HT_.out (by kernel_rfl)) ?_
      try go_wp2
      have fz := heap_setCell_same (w6.setCell ⟨w.heap.size, 0, none⟩ (.int .i64 m)) w.heap.size 1 _ _ (.int .i64 x) (heap_setCell_same w6 w.heap.size 0 _ _ (.int .i64 m) kz)
      refine bodyPost_ret (results_cell_row rfl _ _ w.heap.size 23 #[.int .i64 m, .int .i64 x] (0, 0) _ rfl fz Tryz.underlying23 rfl (by kernel_rfl)) rfl ?_
      exact ⟨(ending_at hpn2_).symm, (hB.setCell (Nat.le_refl _) _).setCell (Nat.le_refl _) _⟩
def real_Pow.f (k : Nat) (x0 x1 n : Int) : Option (Int × Int × Int) := (real_Valid.f x0 x1).bind fun v => if v = true then (if x0 = 0 ∧ n < 0 then some (0, 0, 5) else if 0 ≤ n then (real_power.f k x0 x1 n).bind fun r => some (caughtS r.1 r.2) else (real_pow2.f k x0 x1 n).bind fun r => some (caughtS r.1 r.2)) else some (0, 0, 1)
theorem real_Pow.calls (k : Nat) (a0_0 a0_1 a1 r1 r2 r3 : Int) (w : World) (h : real_Pow.f k a0_0 a0_1 a1 = some (r1, r2, r3)) (hlo : -9223372036854775808 ≤ a1) (hhi : a1 < 9223372036854775808) :
    Calls Tryz.prog 17 #[.agg #[.int .i64 a0_0, .int .i64 a0_1], .int .i64 a1] w fun e w' => e = .returned (.tuple #[.agg #[.int .i64 r1, .int .i64 r2], .int .i64 r3]) ∧ Below w.heap.size w w' := by
  unfold real_Pow.f at h
  obtain ⟨v, hv, h⟩ := Option.bind_eq_some_iff.mp h
  have HV := Lib.hid hv
  have H := Lib.hid h
  clear hv h
  go_enter Tryz.func17, Tryz.ntmps17
  go_wp2_with fail
  refine (real_Valid.calls a0_0 a0_1 v _ HV.out).mono ?_
  rintro e w1 ⟨rfl, hb⟩
  have hz : w1.heap[w.heap.size + 1 + 1]? = some (.cells #[.int .i64 0, .int .i64 0] 23 (0, 0)) := blk_below (new_at _ _ _ (by simp only [World.size_alloc])) hb
  have kx : w1.heap[w.heap.size]? = some (.cells #[.int .i64 a0_0, .int .i64 a0_1] 23 (0, 0)) := blk_below (blk_alloc (blk_alloc (new_at _ _ _ rfl) _) _) hb
  have kn : w1.heap[w.heap.size + 1]? = some (.cells #[.int .i64 a1] 3 (0, 0)) := blk_below (blk_alloc (new_at _ _ _ (by simp only [World.size_alloc])) _) hb
  have hB : Below w.heap.size w w1 := ((((Below.refl _ w).alloc (Nat.le_refl _) _).alloc (by simp only [World.size_alloc]; omega) _).alloc (by simp only [World.size_alloc]; omega) _).trans (hb.mono (by simp only [World.size_alloc]; omega))
  have x0 : w1.cell? ⟨w.heap.size, 0, none⟩ = some (.int .i64 a0_0) := (blk_cell kx 0).trans rfl
  have x1 : w1.cell? ⟨w.heap.size, 1, none⟩ = some (.int .i64 a0_1) := (blk_cell kx 1).trans rfl
  have n0 : w1.cell? ⟨w.heap.size + 1, 0, none⟩ = some (.int .i64 a1) := (blk_cell kn 0).trans rfl
  have z0 : w1.cell? ⟨w.heap.size + 1 + 1, 0, none⟩ = some (.int .i64 0) := (blk_cell hz 0).trans rfl
  have z1 : w1.cell? ⟨w.heap.size + 1 + 1, 1, none⟩ = some (.int .i64 0) := (blk_cell hz 1).trans rfl
  have f0 := blk_frozen hz 0
  have f1 := blk_frozen hz 1
  have lz := blk_lt hz
  have lx := blk_lt kx
  have ln := blk_lt kn
  have HZ := Lib.hid hz
  have KX := Lib.hid kx
  have KN := Lib.hid kn
  have HB := Lib.hid hB
  clear hb hz kx kn hB
  have h := H.out
  clear H
  by_cases c1 : v = true
  · subst c1
    rw [if_pos rfl] at h
    by_cases c2 : a0_0 = 0 ∧ a1 < 0
    · rw [if_pos c2] at h
      cases h
      obtain ⟨rfl, hn⟩ := c2
      go_wp2
      have fz := heap_setCell_same (w1.setCell ⟨w.heap.size + 1 + 1, 0, none⟩ (.int .i64 0)) (w.heap.size + 1 + 1) 1 _ _ (.int .i64 0) (heap_setCell_same w1 (w.heap.size + 1 + 1) 0 _ _ (.int .i64 0) HZ.out)
      refine bodyPost_ret (results_ct rfl _ _ (w.heap.size + 1 + 1) 23 #[.int .i64 0, .int .i64 0] (0, 0) _ rfl fz Tryz.underlying23 rfl (by kernel_rfl)) rfl ?_
      exact ⟨rfl, (HB.out.setCell (by simp only; omega) _).setCell (by simp only; omega) _⟩
    · rw [if_neg c2] at h
      by_cases c3 : 0 ≤ a1
      · rw [if_pos c3] at h
        obtain ⟨⟨m, x⟩, hp, h⟩ := Option.bind_eq_some_iff.mp h
        have hcs := Option.some.inj h
        have HP := Lib.hid hp
        clear h hp
        have hmf : ∀ (fn : Fn) (first cap : Array Value) (w : World), (Instr.makeFunc fn first cap).run Tryz.prog w = .ok (.func fn first cap) w := fun _ _ _ _ => rfl
        have c3b : ¬ a1 < 0 := by omega
        by_cases c4 : a0_0 = 0
        · have c4b : (a0_0 == 0) = true := beq_iff_eq.mpr c4
          go_wp2_with fail
          refine (caught_t 65 _ m x r1 r2 r3 hcs w1 (fun args w => enters_ Tryz.func65 (by kernel_rfl) rfl args w) (fun w2 h2 => pow1_c k _ _ a0_0 a0_1 a1 m x HP.out c3 hhi w2 (blk_below KX.out h2) (blk_below KN.out h2))).mono ?_
          rintro e w3 ⟨rfl, hb⟩
          have hz : w3.heap[w.heap.size + 1 + 1]? = some (.cells #[.int .i64 0, .int .i64 0] 23 (0, 0)) := blk_below HZ.out hb
          have hB : Below w.heap.size w w3 := HB.out.trans (hb.mono HB.out.size)
          have z0 : w3.cell? ⟨w.heap.size + 1 + 1, 0, none⟩ = some (.int .i64 0) := (blk_cell hz 0).trans rfl
          have z1 : w3.cell? ⟨w.heap.size + 1 + 1, 1, none⟩ = some (.int .i64 0) := (blk_cell hz 1).trans rfl
          have f0 := blk_frozen hz 0
          have f1 := blk_frozen hz 1
          have lz := blk_lt hz
          clear hb
          go_wp2
          have fz := heap_setCell_same (w3.setCell ⟨w.heap.size + 1 + 1, 0, none⟩ (.int .i64 r1)) (w.heap.size + 1 + 1) 1 _ _ (.int .i64 r2) (heap_setCell_same w3 (w.heap.size + 1 + 1) 0 _ _ (.int .i64 r1) hz)
          refine bodyPost_ret (results_ct rfl _ _ (w.heap.size + 1 + 1) 23 #[.int .i64 r1, .int .i64 r2] (0, 0) _ rfl fz Tryz.underlying23 rfl (by kernel_rfl)) rfl ?_
          exact ⟨rfl, (hB.setCell (by simp only; omega) _).setCell (by simp only; omega) _⟩
        · have c4b : (a0_0 == 0) = false := beq_eq_false_iff_ne.mpr c4
          go_wp2_with fail
          refine (caught_t 65 _ m x r1 r2 r3 hcs w1 (fun args w => enters_ Tryz.func65 (by kernel_rfl) rfl args w) (fun w2 h2 => pow1_c k _ _ a0_0 a0_1 a1 m x HP.out c3 hhi w2 (blk_below KX.out h2) (blk_below KN.out h2))).mono ?_
          rintro e w3 ⟨rfl, hb⟩
          have hz : w3.heap[w.heap.size + 1 + 1]? = some (.cells #[.int .i64 0, .int .i64 0] 23 (0, 0)) := blk_below HZ.out hb
          have hB : Below w.heap.size w w3 := HB.out.trans (hb.mono HB.out.size)
          have z0 : w3.cell? ⟨w.heap.size + 1 + 1, 0, none⟩ = some (.int .i64 0) := (blk_cell hz 0).trans rfl
          have z1 : w3.cell? ⟨w.heap.size + 1 + 1, 1, none⟩ = some (.int .i64 0) := (blk_cell hz 1).trans rfl
          have f0 := blk_frozen hz 0
          have f1 := blk_frozen hz 1
          have lz := blk_lt hz
          clear hb
          go_wp2
          have fz := heap_setCell_same (w3.setCell ⟨w.heap.size + 1 + 1, 0, none⟩ (.int .i64 r1)) (w.heap.size + 1 + 1) 1 _ _ (.int .i64 r2) (heap_setCell_same w3 (w.heap.size + 1 + 1) 0 _ _ (.int .i64 r1) hz)
          refine bodyPost_ret (results_ct rfl _ _ (w.heap.size + 1 + 1) 23 #[.int .i64 r1, .int .i64 r2] (0, 0) _ rfl fz Tryz.underlying23 rfl (by kernel_rfl)) rfl ?_
          exact ⟨rfl, (hB.setCell (by simp only; omega) _).setCell (by simp only; omega) _⟩
      · rw [if_neg c3] at h
        obtain ⟨⟨m, x⟩, hp, h⟩ := Option.bind_eq_some_iff.mp h
        have hcs := Option.some.inj h
        have HP := Lib.hid hp
        clear h hp
        have hmf : ∀ (fn : Fn) (first cap : Array Value) (w : World), (Instr.makeFunc fn first cap).run Tryz.prog w = .ok (.func fn first cap) w := fun _ _ _ _ => rfl
        have c3b : a1 < 0 := by omega
        have c2b : a0_0 ≠ 0 := fun he => c2 ⟨he, c3b⟩
        have c2d : (a0_0 == 0) = false := beq_eq_false_iff_ne.mpr c2b
        go_wp2_with fail
        refine (caught_t 67 _ m x r1 r2 r3 hcs w1 (fun args w => enters_ Tryz.func67 (by kernel_rfl) rfl args w) (fun w2 h2 => pow2_c k _ _ a0_0 a0_1 a1 m x HP.out c3b hlo w2 (blk_below KX.out h2) (blk_below KN.out h2))).mono ?_
        rintro e w3 ⟨rfl, hb⟩
        have hz : w3.heap[w.heap.size + 1 + 1]? = some (.cells #[.int .i64 0, .int .i64 0] 23 (0, 0)) := blk_below HZ.out hb
        have hB : Below w.heap.size w w3 := HB.out.trans (hb.mono HB.out.size)
        have z0 : w3.cell? ⟨w.heap.size + 1 + 1, 0, none⟩ = some (.int .i64 0) := (blk_cell hz 0).trans rfl
        have z1 : w3.cell? ⟨w.heap.size + 1 + 1, 1, none⟩ = some (.int .i64 0) := (blk_cell hz 1).trans rfl
        have f0 := blk_frozen hz 0
        have f1 := blk_frozen hz 1
        have lz := blk_lt hz
        clear hb
        go_wp2
        have fz := heap_setCell_same (w3.setCell ⟨w.heap.size + 1 + 1, 0, none⟩ (.int .i64 r1)) (w.heap.size + 1 + 1) 1 _ _ (.int .i64 r2) (heap_setCell_same w3 (w.heap.size + 1 + 1) 0 _ _ (.int .i64 r1) hz)
        refine bodyPost_ret (results_ct rfl _ _ (w.heap.size + 1 + 1) 23 #[.int .i64 r1, .int .i64 r2] (0, 0) _ rfl fz Tryz.underlying23 rfl (by kernel_rfl)) rfl ?_
        exact ⟨rfl, (hB.setCell (by simp only; omega) _).setCell (by simp only; omega) _⟩
  · replace c1 : v = false := by simpa using c1
    subst c1
    rw [if_neg (by decide)] at h
    cases h
    go_wp2
    have fz := heap_setCell_same (w1.setCell ⟨w.heap.size + 1 + 1, 0, none⟩ (.int .i64 0)) (w.heap.size + 1 + 1) 1 _ _ (.int .i64 0) (heap_setCell_same w1 (w.heap.size + 1 + 1) 0 _ _ (.int .i64 0) HZ.out)
    refine bodyPost_ret (results_ct rfl _ _ (w.heap.size + 1 + 1) 23 #[.int .i64 0, .int .i64 0] (0, 0) _ rfl fz Tryz.underlying23 rfl (by kernel_rfl)) rfl ?_
    exact ⟨rfl, (HB.out.setCell (by simp only; omega) _).setCell (by simp only; omega) _⟩
end Go.Proofs.YteigbokklclmbaaGreatDoor.Z
end
section
namespace Go.Proofs.YteigbokklclmbaaGreatDoor.M
open Go Go.RowKit Go.Proofs.YteigbokklclmbaaGreatDoor.Given Go.Proofs.YteigbokklclmbaaGreatDoorW.PrintWords Go.Proofs.YteigbokklclmbaaGreatDoorW.PrintLast Go.Proofs.YteigbokklclmbaaGreatDoorW.PrintMore Go.Proofs.YteigbokklclmbaaGreatDoor.Z Go.Proofs.YteigbokklclmbaaGreatDoor.Z.Y Go.Proofs.YteigbokklclmbaaGreatDoor.Z.Y.V Go.Proofs.YteigbokklclmbaaGreatDoor.Z.Y.Q
theorem IR_nat {a : Nat} (h : a ≤ 2533359615) : IR (a : Int) := ⟨by omega, by omega⟩
theorem ix_nat {a : Nat} (h : a ≤ 2533359615) : ix (rl (a : Int)).1 (rl (a : Int)).2 = a := by rw [ix_rl (IR_nat h)]; omega
theorem ix_sgn {s : Bool} {a : Nat} (h : a ≤ 2533359615) : ix (sgn s (atI a)).1 (sgn s (atI a)).2 = a := by
  rw [sgn_rl]
  have hi : IR (if s = true then -((a : Nat) : Int) else ((a : Nat) : Int)) := ⟨by split <;> omega, by split <;> omega⟩
  rw [ix_rl hi]; split <;> omega
theorem rd_ex {a b : Nat} (ha : a ≤ 2533359615) (hb : b ≤ 2533359615) : ∃ I, Rd (G a * G b) (2 ^ 150) I := by
  obtain ⟨I, h, _⟩ := real_Mul_ev (rl_64 (IR_nat ha)) (rl_64 (IR_nat hb)) (rl_VR (IR_nat ha)) (rl_VR (IR_nat hb))
  rw [ix_nat ha, ix_nat hb] at h
  exact ⟨I, h⟩
theorem ix_pos {a b : Int} (hw : I64 a) (h : VR a b) (hx : 0 < ix a b) : a ≠ 0 := by
  intro h0
  unfold ix at hx
  rw [if_pos h0] at hx
  omega
theorem rdq_ex {a b : Nat} (ha : a ≤ 2533359615) (hb : b ≤ 2533359615) (h0 : 0 < b) : ∃ I, Rd (G a * 2 ^ 150) (G b) I := by
  have hz : (rl (b : Int)).1 ≠ 0 := ix_pos (rl_64 (IR_nat hb)) (rl_VR (IR_nat hb)) (by rw [ix_nat hb]; exact h0)
  obtain ⟨I, h, _⟩ := real_Div_ev (rl_64 (IR_nat ha)) (rl_64 (IR_nat hb)) (rl_VR (IR_nat ha)) (rl_VR (IR_nat hb)) hz
  rw [ix_nat ha, ix_nat hb] at h
  exact ⟨I, h⟩
theorem product_ev2 {x0 x1 y0 y1 : Int} (wx : I64 x0) (wy : I64 y0) (vx : VR x0 x1) (vy : VR y0 y1) {I : Nat} (hI : Rd (G (ix x0 x1) * G (ix y0 y1)) (2 ^ 150) I) :
    Ev (fun k => real_product.f k x0 x1 y0 y1) (sgnr ((decide (x0 < 0)) != (decide (y0 < 0))) I) := by
  obtain ⟨J, hJ, hE⟩ := real_product_ev (VR.rc wx vx) (VR.rc wy vy)
  rw [← ix_G wx vx, ← ix_G wy vy] at hJ
  have := Rd.only (Nat.two_pow_pos _) (Nat.two_pow_pos _) hJ hI rfl
  subst this
  exact hE
theorem quotient_ev2 {x0 x1 y0 y1 : Int} (wx : I64 x0) (wy : I64 y0) (vx : VR x0 x1) (vy : VR y0 y1) (hy0 : y0 ≠ 0) {I : Nat} (hI : Rd (G (ix x0 x1) * 2 ^ 150) (G (ix y0 y1)) I) :
    Ev (fun k => real_quotient.f k x0 x1 y0 y1) (sgnr ((decide (x0 < 0)) != (decide (y0 < 0))) I) := by
  obtain ⟨J, hJ, hE⟩ := real_quotient_ev (VR.rc wx vx) (VR.rc wy vy) hy0
  rw [← ix_G wx vx, ← ix_G wy vy] at hJ
  have hp : 0 < G (ix y0 y1) := by rw [ix_G wy vy]; exact Nat.mul_pos (by omega) (Nat.two_pow_pos _)
  have := Rd.only hp hp hJ hI rfl
  subst this
  exact hE
theorem sgnr_over {s : Bool} {P : Nat} (h : 2533359615 < P) : sgnr s P = (0, 1000) := by
  unfold sgnr rres
  rw [if_pos h]
  cases s
  · rfl
  · show (wrap64 (-0), (1000 : Int)) = _
    rw [w64 _ (by decide) (by decide)]; rfl
theorem sgn_exp {s : Bool} {P : Nat} (h : P ≤ 2533359615) : (sgn s (atI P)).2 ≠ 1000 := by
  have := atI_bd P h
  unfold sgn
  dsimp only
  omega
theorem sgn_lt {P : Nat} (h : P ≤ 2533359615) : decide ((sgn false (atI P)).1 < 0) = false := by
  have := atI_bd P h
  unfold sgn
  refine decide_eq_false ?_
  simp; omega
theorem one_sgnr : sgnr false 1073741824 = (8388608, -23) := by kernel_rfl
def PowR (X n I : Nat) : Prop := ∀ x0 x1, I64 x0 → VR x0 x1 → ix x0 x1 = X → Ev (fun k => real_power.f k x0 x1 (n : Int)) (sgnr (decide (x0 < 0) && decide (n % 2 = 1)) I)
theorem power_zero (x0 x1 : Int) : Ev (fun k => real_power.f k x0 x1 0) (8388608, -23) :=
  Ev.step (f := fun _ => some (8388608, -23)) (fun k => by rw [real_power.f, if_pos rfl]) (Ev.now _)
end Go.Proofs.YteigbokklclmbaaGreatDoor.M
end
