/- Contracts and lemmas that the law's row leans on, joined by program (pack.py) out of the session's texts; no condition of its own. -/
import Derived.Test.YteigbokklclmbaaGreatDoorProg
import Derived.KernelRfl
import Derived.Test.YteigbokklclmbaaGreatDoorRsxa
import Derived.Test.YteigbokklclmbaaGreatDoorRsxb
import Derived.Test.YteigbokklclmbaaGreatDoorRsxc
import Derived.Test.YteigbokklclmbaaGreatDoorRsxd
set_option linter.unusedVariables false
set_option linter.unusedSimpArgs false
set_option maxRecDepth 100000
set_option maxHeartbeats 8000000
section
namespace Go.Proofs.YteigbokklclmbaaGreatDoor.Z.Y.V
open Go.RowKit Go.Proofs.YteigbokklclmbaaGreatDoor.Given Go.Proofs.YteigbokklclmbaaGreatDoorW.PrintWords Go.Proofs.YteigbokklclmbaaGreatDoorW.PrintLast Go.Proofs.YteigbokklclmbaaGreatDoorW.PrintMore
attribute [local go_sem] max2_int min2_int max_two min_two max_three min_three max_four min_four   -- for this text's walks alone

def manorboyref02_Nat_Cmp.l0 : Nat → List Int → List Int → Int → Option (Int)
 | 0, _, _, _ => none
 | k + 1, x0, x1, x5 => if x5 ≥ 0 then (if 0 ≤ x5 then (if x5 < (x0.length : Int) then (if x5 < (x1.length : Int) then (if (rd x0 x5) < (rd x1 x5) then (some (-1)) else (if (rd x0 x5) > (rd x1 x5) then (some 1) else (manorboyref02_Nat_Cmp.l0 k x0 x1 (wrap64 (x5 - 1))))) else (none)) else (none)) else (none)) else (some 0)
def manorboyref02_Nat_Cmp.f (k : Nat) (l0 : List Int) (l1 : List Int) : Option (Int) := if (l0.length : Int) < (l1.length : Int) then (some (-1)) else (if (l0.length : Int) > (l1.length : Int) then (some 1) else (manorboyref02_Nat_Cmp.l0 k l0 l1 (wrap64 ((l0.length : Int) - 1))))
theorem manorboyref02_Nat_Cmp.calls (k : Nat) (A0 : Option Addr) (c0 : Nat) (l0 : List Int) (A1 : Option Addr) (c1 : Nat) (l1 : List Int) (r : Int) (w : World) (hr0 : Kd.C (Kd.int .i64) w A0 l0.length l0) (hc0 : l0.length ≤ c0) (hr1 : Kd.C (Kd.int .i64) w A1 l1.length l1) (hc1 : l1.length ≤ c1) (h : manorboyref02_Nat_Cmp.f k l0 l1 = some r) :
  Calls Tryz.prog 104 #[.slice A0 l0.length c0, .slice A1 l1.length c1] w fun e w' => e = .returned (.int .i64 r) ∧ Drawn0 w w' := by
 have HR0 := Aside0.mk hr0
 have HC0 := Aside0.mk hc0
 clear hr0 hc0
 have HR1 := Aside0.mk hr1
 have HC1 := Aside0.mk hc1
 clear hr1 hc1
 have H := h; unfold manorboyref02_Nat_Cmp.f at H; clear h
 by_cases c3 : (l0.length : Int) < (l1.length : Int)
 ·rw [if_pos c3] at H
  have c3b0 : decide ((l0.length : Int) < (l1.length : Int)) = true := decide_eq_true c3
  have c3b1 : decide (l0.length < l1.length) = true := decide_eq_true (Int.ofNat_lt.mp c3)
  clear c3
  obtain rfl := Option.some.inj H
  go_enter Tryz.func104, Tryz.ntmps104
  go_wp2
  repeat (go_quiet (fail); try go_wp2)
  go_ret
  exact ⟨by first | rfl | (simp; done) | (simp [*]; done) | (exfalso; simp at *; done), by repeat (first | exact Drawn0.refl _ | apply Drawn0.step)⟩
 ·rw [if_neg c3] at H
  have c3b0 : decide ((l0.length : Int) < (l1.length : Int)) = false := decide_eq_false c3
  have c3b1 : decide (l0.length < l1.length) = false := decide_eq_false (fun h => c3 (Int.ofNat_lt.mpr h))
  clear c3
  by_cases c4 : (l0.length : Int) > (l1.length : Int)
  ·rw [if_pos c4] at H
   have c4b0 : decide ((l1.length : Int) < (l0.length : Int)) = true := decide_eq_true c4
   have c4b1 : decide (l1.length < l0.length) = true := decide_eq_true (Int.ofNat_lt.mp c4)
   clear c4
   obtain rfl := Option.some.inj H
   go_enter Tryz.func104, Tryz.ntmps104
   go_wp2
   repeat (go_quiet (fail); try go_wp2)
   go_ret
   exact ⟨by first | rfl | (simp; done) | (simp [*]; done) | (exfalso; simp at *; done), by repeat (first | exact Drawn0.refl _ | apply Drawn0.step)⟩
  ·rw [if_neg c4] at H
   have c4b0 : decide ((l1.length : Int) < (l0.length : Int)) = false := decide_eq_false c4
   have c4b1 : decide (l1.length < l0.length) = false := decide_eq_false (fun h => c4 (Int.ofNat_lt.mpr h))
   clear c4
   have H' := Aside0.mk H
   clear H
   go_enter Tryz.func104, Tryz.ntmps104
   go_wp2
   repeat (go_quiet (fail); try go_wp2)
   go_loopg [5] k (fun kq v5 w' => ∃ (x5_1 : Int), v5 = .int .i64 x5_1 ∧ Aside0 (manorboyref02_Nat_Cmp.l0 kq l0 l1 x5_1 = some r) ∧ Aside0 (kq ≤ k) ∧ Drawn0 w w')
   case atStart => exact ⟨(wrap64 ((l0.length : Int) - 1)), (by first | rfl | (simp; done) | (simp [*]; done)), H', ⟨Nat.le_refl _⟩, by repeat (first | exact Drawn0.refl _ | apply Drawn0.step)⟩
   case round =>
    clear H'
    try clear c1
    try clear c3
    try clear c3b0
    try clear c3b1
    try clear c4
    try clear c4b0
    try clear c4b1
    obtain ⟨x5_1, rfl, HA, HK1, ⟨m1, rfl⟩⟩ := hrel
    cases gk with
    | zero => exact absurd HA.out (by simp [manorboyref02_Nat_Cmp.l0])
    | succ k1 =>
     have H := HA.out
     clear HA
     simp only [manorboyref02_Nat_Cmp.l0] at H
     by_cases c5 : x5_1 ≥ 0
     ·rw [if_pos c5] at H
      have c5b0 : decide (0 ≤ x5_1) = true := decide_eq_true c5
      clear c5
      by_cases c6 : 0 ≤ x5_1
      ·rw [if_pos c6] at H
       have c6b0 : decide (0 ≤ x5_1) = true := decide_eq_true c6
       clear c6
       by_cases c7 : x5_1 < (l0.length : Int)
       ·rw [if_pos c7] at H
        have c7b0 : decide (x5_1 < (l0.length : Int)) = true := decide_eq_true c7
        clear c7
        by_cases c8 : x5_1 < (l1.length : Int)
        ·rw [if_pos c8] at H
         have c8b0 : decide (x5_1 < (l1.length : Int)) = true := decide_eq_true c8
         clear c8
         by_cases c9 : (rd l0 x5_1) < (rd l1 x5_1)
         ·rw [if_pos c9] at H
          have c9b0 : decide ((rd l0 x5_1) < (rd l1 x5_1)) = true := decide_eq_true c9
          clear c9
          obtain rfl := Option.some.inj H
          have p126 : 0 ≤ (x5_1 : Int) := oda
          have q126 : x5_1 < (l0.length : Int) := oda
          obtain ⟨ad126, e126, hx126_0⟩ := Kd.at_int HR0.out x5_1 p126 q126
          cases e126
          replace p126 := eq_true p126
          replace q126 := eq_true q126
          have p127 : 0 ≤ (x5_1 : Int) := oda
          have q127 : x5_1 < (l1.length : Int) := oda
          obtain ⟨ad127, e127, hx127_0⟩ := Kd.at_int HR1.out x5_1 p127 q127
          cases e127
          replace p127 := eq_true p127
          replace q127 := eq_true q127
          go_wp2
          repeat (go_quiet (fail); try go_wp2)
          go_ret
          exact ⟨by first | rfl | (simp; done) | (simp [*]; done) | (exfalso; simp at *; done), by repeat (first | exact Drawn0.refl _ | apply Drawn0.step)⟩
         ·rw [if_neg c9] at H
          have c9b0 : decide ((rd l0 x5_1) < (rd l1 x5_1)) = false := decide_eq_false c9
          clear c9
          by_cases c10 : (rd l0 x5_1) > (rd l1 x5_1)
          ·rw [if_pos c10] at H
           have c10b0 : decide ((rd l1 x5_1) < (rd l0 x5_1)) = true := decide_eq_true c10
           clear c10
           obtain rfl := Option.some.inj H
           have p126 : 0 ≤ (x5_1 : Int) := oda
           have q126 : x5_1 < (l0.length : Int) := oda
           obtain ⟨ad126, e126, hx126_0⟩ := Kd.at_int HR0.out x5_1 p126 q126
           cases e126
           replace p126 := eq_true p126
           replace q126 := eq_true q126
           have p127 : 0 ≤ (x5_1 : Int) := oda
           have q127 : x5_1 < (l1.length : Int) := oda
           obtain ⟨ad127, e127, hx127_0⟩ := Kd.at_int HR1.out x5_1 p127 q127
           cases e127
           replace p127 := eq_true p127
           replace q127 := eq_true q127
           have p128 : 0 ≤ (x5_1 : Int) := oda
           have q128 : x5_1 < (l0.length : Int) := oda
           obtain ⟨ad128, e128, hx128_0⟩ := Kd.at_int HR0.out x5_1 p128 q128
           obtain rfl : ad126 = ad128 := (by injection e128)
           replace p128 := eq_true p128
           replace q128 := eq_true q128
           have p129 : 0 ≤ (x5_1 : Int) := oda
           have q129 : x5_1 < (l1.length : Int) := oda
           obtain ⟨ad129, e129, hx129_0⟩ := Kd.at_int HR1.out x5_1 p129 q129
           obtain rfl : ad127 = ad129 := (by injection e129)
           replace p129 := eq_true p129
           replace q129 := eq_true q129
           go_wp2
           repeat (go_quiet (fail); try go_wp2)
           go_ret
           exact ⟨by first | rfl | (simp; done) | (simp [*]; done) | (exfalso; simp at *; done), by repeat (first | exact Drawn0.refl _ | apply Drawn0.step)⟩
          ·rw [if_neg c10] at H
           have c10b0 : decide ((rd l1 x5_1) < (rd l0 x5_1)) = false := decide_eq_false c10
           clear c10
           have H' := Aside0.mk H
           clear H
           have p126 : 0 ≤ (x5_1 : Int) := oda
           have q126 : x5_1 < (l0.length : Int) := oda
           obtain ⟨ad126, e126, hx126_0⟩ := Kd.at_int HR0.out x5_1 p126 q126
           cases e126
           replace p126 := eq_true p126
           replace q126 := eq_true q126
           have p127 : 0 ≤ (x5_1 : Int) := oda
           have q127 : x5_1 < (l1.length : Int) := oda
           obtain ⟨ad127, e127, hx127_0⟩ := Kd.at_int HR1.out x5_1 p127 q127
           cases e127
           replace p127 := eq_true p127
           replace q127 := eq_true q127
           have p128 : 0 ≤ (x5_1 : Int) := oda
           have q128 : x5_1 < (l0.length : Int) := oda
           obtain ⟨ad128, e128, hx128_0⟩ := Kd.at_int HR0.out x5_1 p128 q128
           obtain rfl : ad126 = ad128 := (by injection e128)
           replace p128 := eq_true p128
           replace q128 := eq_true q128
           have p129 : 0 ≤ (x5_1 : Int) := oda
           have q129 : x5_1 < (l1.length : Int) := oda
           obtain ⟨ad129, e129, hx129_0⟩ := Kd.at_int HR1.out x5_1 p129 q129
           obtain rfl : ad127 = ad129 := (by injection e129)
           replace p129 := eq_true p129
           replace q129 := eq_true q129
           go_wp2
           repeat (go_quiet (fail); try go_wp2)
           go_roundg k1
           case measure => have := HK1.out; omega
           case rel => exact ⟨(wrap64 (x5_1 - 1)), (by first | rfl | (simp; done) | (simp [*]; done)), H', ⟨by have := HK1.out; omega⟩, by repeat (first | exact Drawn0.refl _ | apply Drawn0.step)⟩
        ·rw [if_neg c8] at H
         exact absurd H (by simp)
       ·rw [if_neg c7] at H
        exact absurd H (by simp)
      ·rw [if_neg c6] at H
       exact absurd H (by simp)
     ·rw [if_neg c5] at H
      have c5b0 : decide (0 ≤ x5_1) = false := decide_eq_false c5
      clear c5
      obtain rfl := Option.some.inj H
      go_wp2
      repeat (go_quiet (fail); try go_wp2)
      go_ret
      exact ⟨by first | rfl | (simp; done) | (simp [*]; done) | (exfalso; simp at *; done), by repeat (first | exact Drawn0.refl _ | apply Drawn0.step)⟩

def manorboyref02_Two.f (a0 : Int) : Option (List Int) := if 0 ≤ (wrap64 ((wrap64 (Int.tdiv a0 15)) + 1)) then (if (wrap64 ((wrap64 (Int.tdiv a0 15)) + 1) : Int).toNat ≤ 35184372088832 then ((some (List.replicate (wrap64 ((wrap64 (Int.tdiv a0 15)) + 1) : Int).toNat 0 : List Int)).bind fun y130 => (if 0 ≤ (Int.tmod a0 15) then (if 0 ≤ (wrap64 (Int.tdiv a0 15)) then (if (wrap64 (Int.tdiv a0 15)) < (y130.length : Int) then (some (y130.set ((wrap64 (Int.tdiv a0 15)) : Int).toNat (shl .i64 1 (Int.tmod a0 15)))) else (none)) else (none)) else (none))) else (none)) else (none)
theorem manorboyref02_Two.calls (a0 : Int) (r : List Int) (w : World) (h : manorboyref02_Two.f a0 = some r) :
  Calls Tryz.prog 107 #[.int .i64 a0] w fun e w' => ∃ v0_ : Value, e = .returned (v0_) ∧ Kd.R (Kd.int .i64) 3 w' w.heap.size (fun _ => True) v0_ r ∧ Below w.heap.size w w' := by
 have HB := Aside0.mk (Below.refl w.heap.size w)
 have H := h; unfold manorboyref02_Two.f at H; clear h
 obtain ⟨ji2, hji2⟩ : ∃ j_ : Int, (wrap64 ((wrap64 (Int.tdiv a0 15)) + 1)) = j_ := ⟨_, rfl⟩
 first | rw [hji2] at H | simp only [hji2] at H
 have hji2w : (IntKind.i64.wrap ((wrap64 (Int.tdiv a0 15)) + 1)) = ji2 := (i64_w _).trans hji2
 by_cases c3 : 0 ≤ (ji2)
 ·rw [if_pos c3] at H
  have c3b0 := eq_true c3
  have c3b1 : decide (0 ≤ (ji2)) = true := decide_eq_true c3
  clear c3
  by_cases c4 : (ji2 : Int).toNat ≤ 35184372088832
  ·rw [if_pos c4] at H
   have c4b0 := eq_true c4
   have c4b1 : decide ((ji2 : Int).toNat ≤ 35184372088832) = true := decide_eq_true c4
   clear c4
   obtain ⟨y130, hy130⟩ : ∃ y_ : List Int, y_ = (List.replicate (ji2 : Int).toNat 0) := ⟨_, rfl⟩
   replace H : (if 0 ≤ (Int.tmod a0 15) then (if 0 ≤ (wrap64 (Int.tdiv a0 15)) then (if (wrap64 (Int.tdiv a0 15)) < (y130.length : Int) then (some (y130.set ((wrap64 (Int.tdiv a0 15)) : Int).toNat (shl .i64 1 (Int.tmod a0 15)))) else (none)) else (none)) else (none)) = some r := by first | (rw [hy130]; with_reducible exact H) | (have H2_ := (Option.bind_some _ _).symm.trans H; rw [hy130]; with_reducible exact H2_) | (have H2_ := (Option.bind_some _ _).symm.trans H; with_reducible exact H2_) | with_reducible exact H | (rw [hy130]; exact H) | exact H
   have Ny130 := Aside0.mk hy130
   clear hy130
   obtain ⟨ji5, hji5⟩ : ∃ j_ : Int, (Int.tmod a0 15) = j_ := ⟨_, rfl⟩
   first | rw [hji5] at H | simp only [hji5] at H
   by_cases c6 : 0 ≤ (ji5)
   ·rw [if_pos c6] at H
    have c6b0 := eq_true c6
    have c6b1 : decide (0 ≤ (ji5)) = true := decide_eq_true c6
    clear c6
    obtain ⟨ji7, hji7⟩ : ∃ j_ : Int, (shl .i64 1 (ji5)) = j_ := ⟨_, rfl⟩
    first | rw [hji7] at H | simp only [hji7] at H
    have hji7_ : (IntKind.i64.wrap (1 * 2 ^ min (ji5).toNat 64)) = ji7 := hji7
    have hji7z : (ji5) ≤ 64 → (IntKind.i64.wrap (1 * 2 ^ (ji5).toNat)) = ji7 := shl_small hji7
    have hji7u : (IntKind.i64.wrap (2 ^ min (ji5).toNat 64)) = ji7 := by have h_ := hji7_; rw [Int.one_mul] at h_; exact h_
    have hji7v : (ji5) ≤ 64 → (IntKind.i64.wrap (2 ^ (ji5).toNat)) = ji7 := fun hle_ => by have h_ := hji7z hle_; rw [Int.one_mul] at h_; exact h_
    have hji7y : (wrap64 (1 * 2 ^ min (ji5).toNat 64)) = ji7 := (i64_w _).symm.trans hji7_
    have hji7x : (ji5) ≤ 64 → (wrap64 (1 * 2 ^ (ji5).toNat)) = ji7 := fun h_ => (i64_w _).symm.trans (hji7z h_)
    obtain ⟨ji8, hji8⟩ : ∃ j_ : Int, (wrap64 (Int.tdiv a0 15)) = j_ := ⟨_, rfl⟩
    first | rw [hji8] at H | simp only [hji8] at H
    have hji8w : (IntKind.i64.wrap (Int.tdiv a0 15)) = ji8 := (i64_w _).trans hji8
    by_cases c9 : 0 ≤ (ji8)
    ·rw [if_pos c9] at H
     have c9b0 : decide (0 ≤ (ji8)) = true := decide_eq_true c9
     clear c9
     by_cases c10 : (ji8) < (y130.length : Int)
     ·rw [if_pos c10] at H
      have c10b0 : decide ((ji8) < (y130.length : Int)) = true := decide_eq_true c10
      clear c10
      obtain ⟨y133, hy133⟩ : ∃ y_ : List Int, y_ = (y130.set ((ji8) : Int).toNat (ji7)) := ⟨_, rfl⟩
      replace H : (some y133) = some r := by first | (rw [hy133]; with_reducible exact H) | (have H2_ := (Option.bind_some _ _).symm.trans H; rw [hy133]; with_reducible exact H2_) | (have H2_ := (Option.bind_some _ _).symm.trans H; with_reducible exact H2_) | with_reducible exact H | (rw [hy133]; exact H) | exact H
      have Ny133 := Aside0.mk hy133
      clear hy133
      obtain rfl := Option.some.inj H
      have hji28_ : wrap64 (ji8 + 1) = ji2 := by rw [← hji8]; exact hji2
      have hji28w_ : IntKind.i64.wrap (ji8 + 1) = ji2 := by rw [← hji8]; exact hji2w
      go_enter Tryz.func107, Tryz.ntmps107
      go_wp2_with (first | ((with_reducible refine gate_dst (N := 7) rfl ?_); refine Kd.R_make (Kd.int .i64) _ 3 rfl (N := 7) rfl 96 _ _ rfl ji2 rfl rfl Tryz.underlying96 (.int .i64 0) 8 info3 rfl (by decide) (by omega) 0 (ok := fun _ => True) (okp := fun _ => True) rfl (fun _ hk => hk) trivial (oda) (Nat.le_trans (Nat.mul_le_mul_right _ (of_decide_eq_true (by first | (with_reducible assumption) | assumption) : ji2.toNat ≤ 35184372088832)) (by omega)) (Below.refl _ _) (Nat.le_refl _) ?_; intro v131 w12 ho13 hb hg_ hnew_; clear hg_ hnew_; (first | rw [← Ny130.out] at ho13 | (simp only [Int.reduceToNat] at ho13; rw [← Ny130.out] at ho13)); have HO132 := Aside0.mk (Kd.R_lower ho13 (below_size bz)); replace HB := bs hb; clear hb ho13; have p11 : 0 ≤ ((ji8) : Int) := oda; have q11 : ((ji8) : Int) < ((y130.length : Int) : Int) := oda; obtain ⟨go11, co11, eo11, gb11, gl11, cl11, HG11⟩ := Kd.R_form HO132.out (by omega); (first | cases eo11 | (injection eo11 with ea_ en_ ec_; (first | subst ea_ | (injection ea_ with ea_; subst ea_)); subst ec_; clear en_)); have GB11 := Aside0.mk gb11; have GG11 := Aside0.mk HG11; clear gb11 gl11 HG11; obtain ⟨hx11_0, hf11_0⟩ := Kd.R_celln 0 HO132.out ((ji8) : Int) p11 q11; replace p11 := eq_true p11; replace q11 := eq_true q11; obtain ⟨hy14_, hz14_⟩ := Kd.R_celln 0 HO132.out ((ji8) : Int) (oda) (oda); have HP14 := Kd.R_putg HO132.out ((ji8) : Int) ji7) | ((with_reducible refine gate_store (t := 3) (p := 14) rfl ?_); refine store_event (t := 3) (p := 14) (v := ?vo_w15) (w1 := (w12.setCell ⟨go11, ((ji8) : Int).toNat, none⟩ (.int .i64 ji7))) ?hg ?ho ?hn ?hr ?_; (case ho => rfl); (case hg => rfl); (case hn => rfl); (case hr => first | (go_simp; done) | (go_simp; rfl)); intro w15 hw; have hg : w12.grownBy w15 (some go11) := (by rw [hw]; exact HP14.2); have hp_ : Kd.R (Kd.int .i64) 3 w15 w.heap.size (fun _ => True) (.slice (some ⟨go11, 0, none⟩) y130.length co11) y133 := (by rw [hw, Ny133.out]; exact HP14.1); clear HP14; replace HO132 := Aside0.mk (hp_); replace HB := Aside0.mk ((by rw [hw]; exact below_set (HB.out) GB11.out : Below w.heap.size w w15)); clear hg hw hp_))
      go_ret
      exact ⟨_, by first | rfl | (simp [errW_none, errW_some] <;> rfl) | (simp only [← hji2, ← hji5, ← hji7, ← hji8]; first | rfl | (simp [errW_none, errW_some] <;> rfl)) | (simp [*, errW_none, errW_some] <;> rfl), by (with_reducible repeat (first | apply Kd.R_alloc | apply Kd.R_drewN | apply Kd.R_drew)); exact HO132.out, bz⟩
     ·rw [if_neg c10] at H
      exact absurd H (by simp)
    ·rw [if_neg c9] at H
     exact absurd H (by simp)
   ·rw [if_neg c6] at H
    exact absurd H (by simp)
  ·rw [if_neg c4] at H
   exact absurd H (by simp)
 ·rw [if_neg c3] at H
  exact absurd H (by simp)

def manorboyref02_Small.l0 : Nat → Int → List Int → Option (List Int)
 | 0, _, _ => none
 | k + 1, x0, x3 => if x0 > 0 then (if x3.length < 17592186044416 then (manorboyref02_Small.l0 k (wrap64 (Int.tdiv x0 32768)) (x3 ++ [Int.tmod x0 32768])) else (none)) else (some x3)
def manorboyref02_Small.f (k : Nat) (a0 : Int) : Option (List Int) := manorboyref02_Small.l0 k a0 ([] : List Int)
theorem manorboyref02_Small.calls (k : Nat) (a0 : Int) (r : List Int) (w : World) (h : manorboyref02_Small.f k a0 = some r) :
  Calls Tryz.prog 85 #[.int .i64 a0] w fun e w' => ∃ v0_ : Value, e = .returned (v0_) ∧ Kd.R (Kd.int .i64) 3 w' w.heap.size (fun _ => True) v0_ r ∧ Below w.heap.size w w' := by
 have HB := Aside0.mk (Below.refl w.heap.size w)
 have H := h; unfold manorboyref02_Small.f at H; clear h
 have H' := Aside0.mk H
 clear H
 go_enter Tryz.func85, Tryz.ntmps85
 go_wp2
 go_loopg [0, 3] k (fun kq v0 v3 w' => ∃ (x0_1 : Int) (x3_1 : List Int), v0 = .int .i64 x0_1 ∧ Aside0 (manorboyref02_Small.l0 kq x0_1 x3_1 = some r) ∧ Aside0 (kq ≤ k) ∧ Aside0 (Kd.R (Kd.int .i64) 3 w' w.heap.size (fun _ => True) v3 x3_1) ∧ Aside0 (Below w.heap.size w w'))
 case atStart => exact ⟨(a0), (([] : List Int)), (by first | rfl | (simp; done) | (simp [*]; done)), H', ⟨Nat.le_refl _⟩, ⟨by first | exact Kd.R_nil _ _ _ _ _ | exact Kd.N_nil _ _ _ _ _ | exact Kd.V_nil _ _ _ _ _ | exact Kd.Q_nil _ _ _ _ _ | exact Kd.S_nil _ _ _ _ _⟩, ⟨bz⟩⟩
 case round =>
  clear H'
  obtain ⟨x0_1, x3_1, rfl, HA, HK1, HO_3, HB⟩ := hrel
  cases gk with
  | zero => exact absurd HA.out (by simp [manorboyref02_Small.l0])
  | succ k1 =>
   have H := HA.out
   clear HA
   simp only [manorboyref02_Small.l0] at H
   by_cases c2 : x0_1 > 0
   ·rw [if_pos c2] at H
    have c2b0 : decide (0 < x0_1) = true := decide_eq_true c2
    clear c2
    by_cases c3 : x3_1.length < 17592186044416
    ·rw [if_pos c3] at H
     have LMc3 := Aside0.mk c3
     clear c3
     obtain ⟨y134, hy134⟩ : ∃ y_ : List Int, y_ = (x3_1 ++ [Int.tmod x0_1 32768]) := ⟨_, rfl⟩
     replace H : (manorboyref02_Small.l0 k1 (wrap64 (Int.tdiv x0_1 32768)) y134) = some r := by first | (rw [hy134]; with_reducible exact H) | (have H2_ := (Option.bind_some _ _).symm.trans H; rw [hy134]; with_reducible exact H2_) | (have H2_ := (Option.bind_some _ _).symm.trans H; with_reducible exact H2_) | with_reducible exact H | (rw [hy134]; exact H) | exact H
     have Ny134 := Aside0.mk hy134
     clear hy134
     have H' := Aside0.mk H
     clear H
     go_wp2_with (first | ((with_reducible refine gate_builtin (b := .append) (xs := #[.tmp 6, .tmp 9]) rfl ?_); at_builtin; refine Kd.R_append (Kd.int .i64) (w0 := w) w.heap.size rfl (.tmp 6) (.tmp 9) 96 3 (.int .i64 0) 8 rfl Tryz.underlying96 info3 rfl (by decide) (by omega) u3 x3_1 (Int.tmod x0_1 32768) [.int .i64 (Int.tmod x0_1 32768)] (fun _ => True) (fun _ => False) rfl rfl ?aP (fun _ hk => hk.elim) ?aF ?aO ?aB ?aS ?aL ?_; (case aP => exact rfl); (case aB => exact bz); (case aF => exact (fun _ _ => trivial)); (case aO => exact (rz HO_3)); (case aS => exact (below_size bz)); (case aL => have := LMc3.out; omega); intro v135 w4 ho hb hg hat; rw [← Ny134.out] at ho; have HO136 := Aside0.mk (ho); replace HB := Aside0.mk (hb); clear HO_3; clear ho hb hg hat))
     go_roundg k1
     case measure => have := HK1.out; omega
     case rel => exact ⟨(wrap64 (Int.tdiv x0_1 32768)), (y134), (by first | rfl | (simp; done) | (simp [*]; done)), H', ⟨by have := HK1.out; omega⟩, ⟨rz HO136⟩, ⟨bz⟩⟩
    ·rw [if_neg c3] at H
     exact absurd H (by simp)
   ·rw [if_neg c2] at H
    have c2b0 : decide (0 < x0_1) = false := decide_eq_false c2
    clear c2
    obtain rfl := Option.some.inj H
    go_wp2
    go_ret
    exact ⟨_, by first | rfl | (simp [errW_none, errW_some] <;> rfl) | (simp [*, errW_none, errW_some] <;> rfl), by (with_reducible repeat (first | apply Kd.R_alloc | apply Kd.R_drewN | apply Kd.R_drew)); exact HO_3.out, bz⟩


mutual
def manorboyref02_Nat_Mul.l0 : Nat → List Int → List Int → List Int → Int → Option (List Int)
 | 0, _, _, _, _ => none
 | k + 1, x0, x1, x5, x6 => if x6 < (x0.length : Int) then (manorboyref02_Nat_Mul.l1 k x0 x1 x5 x6 0 0) else ((manorboyref02_cut.f k x5).bind fun t118 => (some t118))
def manorboyref02_Nat_Mul.l1 : Nat → List Int → List Int → List Int → Int → Int → Int → Option (List Int)
 | 0, _, _, _, _, _, _ => none
 | k + 1, x0, x1, x5, x6, x7, x8 => if x8 < (x1.length : Int) then (manorboyref02_Nat_Mul.j2 k x0 x1 x5 x6 x7 x8 true) else (manorboyref02_Nat_Mul.j2 k x0 x1 x5 x6 x7 x8 (decide (x7 > 0)))
def manorboyref02_Nat_Mul.j2 : Nat → List Int → List Int → List Int → Int → Int → Int → Bool → Option (List Int)
 | 0, _, _, _, _, _, _, _ => none
 | k + 1, x0, x1, x5, x6, x7, x8, x28 => if x28 = true then (if 0 ≤ (wrap64 (x6 + x8)) then (if (wrap64 (x6 + x8)) < (x5.length : Int) then (if x8 < (x1.length : Int) then (if 0 ≤ x6 then (if x6 < (x0.length : Int) then (if 0 ≤ x8 then (manorboyref02_Nat_Mul.l1 k x0 x1 (x5.set ((wrap64 (x6 + x8)) : Int).toNat (Int.tmod (wrap64 ((wrap64 (x7 + (rd x5 (wrap64 (x6 + x8))))) + (wrap64 ((rd x0 x6) * (rd x1 x8))))) 32768)) x6 (wrap64 (Int.tdiv (wrap64 ((wrap64 (x7 + (rd x5 (wrap64 (x6 + x8))))) + (wrap64 ((rd x0 x6) * (rd x1 x8))))) 32768)) (wrap64 (x8 + 1))) else (none)) else (none)) else (none)) else (manorboyref02_Nat_Mul.l1 k x0 x1 (x5.set ((wrap64 (x6 + x8)) : Int).toNat (Int.tmod (wrap64 (x7 + (rd x5 (wrap64 (x6 + x8))))) 32768)) x6 (wrap64 (Int.tdiv (wrap64 (x7 + (rd x5 (wrap64 (x6 + x8))))) 32768)) (wrap64 (x8 + 1)))) else (none)) else (none)) else (manorboyref02_Nat_Mul.l0 k x0 x1 x5 (wrap64 (x6 + 1)))
end
def manorboyref02_Nat_Mul.f (k : Nat) (l0 : List Int) (l1 : List Int) : Option (List Int) := if 0 ≤ (wrap64 ((l0.length : Int) + (l1.length : Int))) then (if (wrap64 ((l0.length : Int) + (l1.length : Int)) : Int).toNat ≤ 35184372088832 then (manorboyref02_Nat_Mul.l0 k l0 l1 (List.replicate (wrap64 ((l0.length : Int) + (l1.length : Int)) : Int).toNat 0) 0) else (none)) else (none)
theorem manorboyref02_Nat_Mul.calls (k : Nat) (A0 : Option Addr) (c0 : Nat) (l0 : List Int) (A1 : Option Addr) (c1 : Nat) (l1 : List Int) (r : List Int) (w : World) (hr0 : Kd.C (Kd.int .i64) w A0 l0.length l0) (hc0 : l0.length ≤ c0) (hr1 : Kd.C (Kd.int .i64) w A1 l1.length l1) (hc1 : l1.length ≤ c1) (h : manorboyref02_Nat_Mul.f k l0 l1 = some r) :
  Calls Tryz.prog 86 #[.slice A0 l0.length c0, .slice A1 l1.length c1] w fun e w' => ∃ v0_ : Value, e = .returned (v0_) ∧ Kd.R (Kd.int .i64) 3 w' w.heap.size (fun _ => True) v0_ r ∧ Below w.heap.size w w' := by
 have HR0 := Aside0.mk hr0
 have HC0 := Aside0.mk hc0
 clear hr0 hc0
 have HR1 := Aside0.mk hr1
 have HC1 := Aside0.mk hc1
 clear hr1 hc1
 have HB := Aside0.mk (Below.refl w.heap.size w)
 have H := h; unfold manorboyref02_Nat_Mul.f at H; clear h
 obtain ⟨ji3, hji3⟩ : ∃ j_ : Int, (wrap64 ((l0.length : Int) + (l1.length : Int))) = j_ := ⟨_, rfl⟩
 first | rw [hji3] at H | simp only [hji3] at H
 have hji3w : (IntKind.i64.wrap ((l0.length : Int) + (l1.length : Int))) = ji3 := (i64_w _).trans hji3
 by_cases c4 : 0 ≤ (ji3)
 ·rw [if_pos c4] at H
  have c4b0 := eq_true c4
  have c4b1 : decide (0 ≤ (ji3)) = true := decide_eq_true c4
  clear c4
  by_cases c5 : (ji3 : Int).toNat ≤ 35184372088832
  ·rw [if_pos c5] at H
   have c5b0 := eq_true c5
   have c5b1 : decide ((ji3 : Int).toNat ≤ 35184372088832) = true := decide_eq_true c5
   clear c5
   obtain ⟨y115, hy115⟩ : ∃ y_ : List Int, y_ = (List.replicate (ji3 : Int).toNat 0) := ⟨_, rfl⟩
   replace H : (manorboyref02_Nat_Mul.l0 k l0 l1 y115 0) = some r := by first | (rw [hy115]; with_reducible exact H) | (have H2_ := (Option.bind_some _ _).symm.trans H; rw [hy115]; with_reducible exact H2_) | (have H2_ := (Option.bind_some _ _).symm.trans H; with_reducible exact H2_) | with_reducible exact H | (rw [hy115]; exact H) | exact H
   have Ny115 := Aside0.mk hy115
   clear hy115
   have H' := Aside0.mk H
   clear H
   go_enter Tryz.func86, Tryz.ntmps86
   go_wp2_with (first | ((with_reducible refine gate_dst (N := 14) rfl ?_); refine Kd.R_make (Kd.int .i64) _ 3 rfl (N := 14) rfl 96 _ _ rfl ji3 rfl rfl Tryz.underlying96 (.int .i64 0) 8 info3 rfl (by decide) (by omega) 0 (ok := fun _ => True) (okp := fun _ => True) rfl (fun _ hk => hk) trivial (oda) (Nat.le_trans (Nat.mul_le_mul_right _ (of_decide_eq_true (by first | (with_reducible assumption) | assumption) : ji3.toNat ≤ 35184372088832)) (by omega)) (Below.refl _ _) (Nat.le_refl _) ?_; intro v116 w6 ho7 hb hg_ hnew_; clear hg_ hnew_; (first | rw [← Ny115.out] at ho7 | (simp only [Int.reduceToNat] at ho7; rw [← Ny115.out] at ho7)); have HO117 := Aside0.mk (Kd.R_lower ho7 (below_size bz)); replace HB := bs hb; clear hb ho7))
   repeat (go_quiet (first | ((with_reducible refine gate_dst (N := 14) rfl ?_); refine Kd.R_make (Kd.int .i64) _ 3 rfl (N := 14) rfl 96 _ _ rfl ji3 rfl rfl Tryz.underlying96 (.int .i64 0) 8 info3 rfl (by decide) (by omega) 0 (ok := fun _ => True) (okp := fun _ => True) rfl (fun _ hk => hk) trivial (oda) (Nat.le_trans (Nat.mul_le_mul_right _ (of_decide_eq_true (by first | (with_reducible assumption) | assumption) : ji3.toNat ≤ 35184372088832)) (by omega)) (Below.refl _ _) (Nat.le_refl _) ?_; intro v116 w6 ho7 hb hg_ hnew_; clear hg_ hnew_; (first | rw [← Ny115.out] at ho7 | (simp only [Int.reduceToNat] at ho7; rw [← Ny115.out] at ho7)); have HO117 := Aside0.mk (Kd.R_lower ho7 (below_size bz)); replace HB := bs hb; clear hb ho7)); try go_wp2_with (first | ((with_reducible refine gate_dst (N := 14) rfl ?_); refine Kd.R_make (Kd.int .i64) _ 3 rfl (N := 14) rfl 96 _ _ rfl ji3 rfl rfl Tryz.underlying96 (.int .i64 0) 8 info3 rfl (by decide) (by omega) 0 (ok := fun _ => True) (okp := fun _ => True) rfl (fun _ hk => hk) trivial (oda) (Nat.le_trans (Nat.mul_le_mul_right _ (of_decide_eq_true (by first | (with_reducible assumption) | assumption) : ji3.toNat ≤ 35184372088832)) (by omega)) (Below.refl _ _) (Nat.le_refl _) ?_; intro v116 w6 ho7 hb hg_ hnew_; clear hg_ hnew_; (first | rw [← Ny115.out] at ho7 | (simp only [Int.reduceToNat] at ho7; rw [← Ny115.out] at ho7)); have HO117 := Aside0.mk (Kd.R_lower ho7 (below_size bz)); replace HB := bs hb; clear hb ho7)))
   go_loopg [6] k (fun kq v6 w' => ∃ (x5_1 : List Int) (x6_1 : Int), v6 = .int .i64 x6_1 ∧ Aside0 (manorboyref02_Nat_Mul.l0 kq l0 l1 x5_1 x6_1 = some r) ∧ Aside0 (kq ≤ k) ∧ Aside0 (Kd.R (Kd.int .i64) 3 w' w.heap.size (fun _ => True) v116 x5_1) ∧ Aside0 (Below w.heap.size w w'))
   case atStart => exact ⟨(y115), (0), (by first | rfl | (simp; done) | (simp [*]; done)), H', ⟨Nat.le_refl _⟩, ⟨rz HO117⟩, ⟨bz⟩⟩
   case round =>
    clear H'
    try clear c1
    try clear c4
    try clear c4b0
    try clear c4b1
    try clear c5
    try clear c5b0
    try clear c5b1
    obtain ⟨x5_1, x6_1, rfl, HA, HK1, HO_5, HB⟩ := hrel
    cases gk with
    | zero => exact absurd HA.out (by simp [manorboyref02_Nat_Mul.l0])
    | succ k1 =>
     have H := HA.out
     clear HA
     simp only [manorboyref02_Nat_Mul.l0] at H
     by_cases c8 : x6_1 < (l0.length : Int)
     ·rw [if_pos c8] at H
      have c8b0 : decide (x6_1 < (l0.length : Int)) = true := decide_eq_true c8
      clear c8
      have H' := Aside0.mk H
      clear H
      go_wp2
      repeat (go_quiet (fail); try go_wp2)
      go_loopg [7, 8] k1 (fun kq v7 v8 w' => ∃ (x5_2 : List Int) (x7_2 : Int) (x8_2 : Int), v7 = .int .i64 x7_2 ∧ v8 = .int .i64 x8_2 ∧ Aside0 (manorboyref02_Nat_Mul.l1 kq l0 l1 x5_2 x6_1 x7_2 x8_2 = some r) ∧ Aside0 (kq ≤ k1) ∧ Aside0 (Kd.R (Kd.int .i64) 3 w' w.heap.size (fun _ => True) v116 x5_2) ∧ Aside0 (Below w.heap.size w w'))
      case atStart => exact ⟨(x5_1), (0), (0), (by first | rfl | (simp; done) | (simp [*]; done)), (by first | rfl | (simp; done) | (simp [*]; done)), H', ⟨Nat.le_refl _⟩, ⟨rz HO_5⟩, ⟨bz⟩⟩
      case round =>
       clear H'
       try clear c1
       try clear c4
       try clear c4b0
       try clear c4b1
       try clear c5
       try clear c5b0
       try clear c5b1
       try clear c8
       try clear c8b0
       obtain ⟨x5_2, x7_2, x8_2, rfl, rfl, HA, HK2, HO_5, HB⟩ := hrel
       cases gk with
       | zero => exact absurd HA.out (by simp [manorboyref02_Nat_Mul.l1])
       | succ k2 =>
        have H := HA.out
        clear HA
        simp only [manorboyref02_Nat_Mul.l1] at H
        have HC9 := Aside0.mk H
        clear H
        go_upto_region 7 with (fail)
        repeat (go_quiet (fail); go_upto_region 7 with (fail))
        go_cut [28] (fun v28 wc => ∃ (kq : Nat) (x28_8 : Bool), v28 = .bool x28_8 ∧ Aside0 (manorboyref02_Nat_Mul.j2 kq l0 l1 x5_2 x6_1 x7_2 x8_2 x28_8 = some r) ∧ Aside0 (kq ≤ k2) ∧ Aside0 (Kd.R (Kd.int .i64) 3 wc w.heap.size (fun _ => True) v116 x5_2) ∧ Aside0 (Below w.heap.size w wc))
        case first => as_aux_lemma =>
         have H := HC9.out
         clear HC9
         by_cases c10 : x8_2 < (l1.length : Int)
         ·rw [if_pos c10] at H
          have c10b0 : decide (x8_2 < (l1.length : Int)) = true := decide_eq_true c10
          clear c10
          (first | rw [c10b0] | (simp only [i64_w, i32_w]; rw [c10b0]) | skip)
          have H' := Aside0.mk H
          clear H
          go_wp2
          repeat (go_quiet (fail); try go_wp2)
          go_meet
          case rel => exact ⟨_, (true), (by first | rfl | (simp; done) | (simp [*]; done)), H', ⟨by have := HK1.out; have := HK2.out; first | omega | exact Nat.le_refl _⟩, ⟨rz HO_5⟩, ⟨bz⟩⟩
         ·rw [if_neg c10] at H
          have c10b0 : decide (x8_2 < (l1.length : Int)) = false := decide_eq_false c10
          clear c10
          (first | rw [c10b0] | (simp only [i64_w, i32_w]; rw [c10b0]) | skip)
          have H' := Aside0.mk H
          clear H
          go_wp2
          repeat (go_quiet (fail); try go_wp2)
          go_meet
          case rel => exact ⟨_, (decide (x7_2 > 0)), (by first | rfl | (simp; done) | (simp [*]; done)), H', ⟨by have := HK1.out; have := HK2.out; first | omega | exact Nat.le_refl _⟩, ⟨rz HO_5⟩, ⟨bz⟩⟩
        case rest => as_aux_lemma =>
         clear HC9
         try clear c1
         try clear c4
         try clear c4b0
         try clear c4b1
         try clear c5
         try clear c5b0
         try clear c5b1
         try clear c8
         try clear c8b0
         try clear c10
         try clear c10b0
         obtain ⟨kq, x28_8, rfl, HA, HJ8, HO_5, HB⟩ := hcut
         cases kq with
         | zero => exact absurd HA.out (by simp [manorboyref02_Nat_Mul.j2])
         | succ kj8 =>
          have H := HA.out
          clear HA
          simp only [manorboyref02_Nat_Mul.j2] at H
          by_cases c11 : x28_8 = true
          ·subst c11
           rw [if_pos rfl] at H
           obtain ⟨ji12, hji12⟩ : ∃ j_ : Int, (wrap64 (x6_1 + x8_2)) = j_ := ⟨_, rfl⟩
           first | rw [hji12] at H | simp only [hji12] at H
           have hji12w : (IntKind.i64.wrap (x6_1 + x8_2)) = ji12 := (i64_w _).trans hji12
           by_cases c13 : 0 ≤ (ji12)
           ·rw [if_pos c13] at H
            have c13b0 : decide (0 ≤ (ji12)) = true := decide_eq_true c13
            clear c13
            by_cases c14 : (ji12) < (x5_2.length : Int)
            ·rw [if_pos c14] at H
             have c14b0 : decide ((ji12) < (x5_2.length : Int)) = true := decide_eq_true c14
             clear c14
             by_cases c15 : x8_2 < (l1.length : Int)
             ·rw [if_pos c15] at H
              have c15b0 : decide (x8_2 < (l1.length : Int)) = true := decide_eq_true c15
              clear c15
              by_cases c16 : 0 ≤ x6_1
              ·rw [if_pos c16] at H
               have c16b0 : decide (0 ≤ x6_1) = true := decide_eq_true c16
               clear c16
               by_cases c17 : x6_1 < (l0.length : Int)
               ·rw [if_pos c17] at H
                have c17b0 : decide (x6_1 < (l0.length : Int)) = true := decide_eq_true c17
                clear c17
                by_cases c18 : 0 ≤ x8_2
                ·rw [if_pos c18] at H
                 have c18b0 : decide (0 ≤ x8_2) = true := decide_eq_true c18
                 clear c18
                 obtain ⟨y124, hy124⟩ : ∃ y_ : List Int, y_ = (x5_2.set ((ji12) : Int).toNat (Int.tmod (wrap64 ((wrap64 (x7_2 + (rd x5_2 (ji12)))) + (wrap64 ((rd l0 x6_1) * (rd l1 x8_2))))) 32768)) := ⟨_, rfl⟩
                 replace H : (manorboyref02_Nat_Mul.l1 kj8 l0 l1 y124 x6_1 (wrap64 (Int.tdiv (wrap64 ((wrap64 (x7_2 + (rd x5_2 (ji12)))) + (wrap64 ((rd l0 x6_1) * (rd l1 x8_2))))) 32768)) (wrap64 (x8_2 + 1))) = some r := by first | (rw [hy124]; with_reducible exact H) | (have H2_ := (Option.bind_some _ _).symm.trans H; rw [hy124]; with_reducible exact H2_) | (have H2_ := (Option.bind_some _ _).symm.trans H; with_reducible exact H2_) | with_reducible exact H | (rw [hy124]; exact H) | exact H
                 have Ny124 := Aside0.mk hy124
                 clear hy124
                 have H' := Aside0.mk H
                 clear H
                 obtain ⟨Ao20, co20, eo20⟩ := Kd.R_slice HO_5.out
                 subst eo20
                 have p121 : 0 ≤ ((ji12) : Int) := oda
                 have q121 : (ji12) < (x5_2.length : Int) := oda
                 obtain ⟨ad121, e121, hx121_0⟩ := Kd.at_int (Kd.R_reads' HO_5.out).2.2 (ji12) p121 q121
                 cases e121
                 replace p121 := eq_true p121
                 replace q121 := eq_true q121
                 have p122 : 0 ≤ (x6_1 : Int) := oda
                 have q122 : x6_1 < (l0.length : Int) := oda
                 obtain ⟨ad122, e122, hx122_0⟩ := Kd.at_int HR0.out x6_1 p122 q122
                 cases e122
                 replace hx122_0 := (HB.out.cell (World.block_lt_of_cell? w _ hx122_0)).trans hx122_0
                 replace p122 := eq_true p122
                 replace q122 := eq_true q122
                 have p123 : 0 ≤ (x8_2 : Int) := oda
                 have q123 : x8_2 < (l1.length : Int) := oda
                 obtain ⟨ad123, e123, hx123_0⟩ := Kd.at_int HR1.out x8_2 p123 q123
                 cases e123
                 replace hx123_0 := (HB.out.cell (World.block_lt_of_cell? w _ hx123_0)).trans hx123_0
                 replace p123 := eq_true p123
                 replace q123 := eq_true q123
                 have p19 : 0 ≤ ((ji12) : Int) := oda
                 have q19 : ((ji12) : Int) < ((x5_2.length : Int) : Int) := oda
                 obtain ⟨go19, co19, eo19, gb19, gl19, cl19, HG19⟩ := Kd.R_form HO_5.out (by omega)
                 (first | cases eo19 | (injection eo19 with ea_ en_ ec_; (first | subst ea_ | (injection ea_ with ea_; subst ea_)); subst ec_; clear en_))
                 have GB19 := Aside0.mk gb19
                 have GG19 := Aside0.mk HG19
                 clear gb19 gl19 HG19
                 (first | simp only [add_plain] at hx121_0 | skip)
                 obtain ⟨hx19_0, hf19_0⟩ := Kd.R_celln 0 HO_5.out ((ji12) : Int) p19 q19
                 replace p19 := eq_true p19
                 replace q19 := eq_true q19
                 have HP21 := Kd.R_putg HO_5.out ((ji12) : Int) (Int.tmod (wrap64 ((wrap64 (x7_2 + (rd x5_2 (ji12)))) + (wrap64 ((rd l0 x6_1) * (rd l1 x8_2))))) 32768)
                 go_wp2_with (first | ((with_reducible refine gate_store (t := 3) (p := 60) rfl ?_); (try (rw [drewN_self wc]; generalize hq_ : World.drewN wc _ = wc; replace HO_5 := Aside0.mk (Kd.R_at hq_ HO_5.out); replace HB := Aside0.mk (below_at hq_ HB.out); clear hq_; (try (have HP21 := Kd.R_putg HO_5.out ((ji12) : Int) (Int.tmod (wrap64 ((wrap64 (x7_2 + (rd x5_2 (ji12)))) + (wrap64 ((rd l0 x6_1) * (rd l1 x8_2))))) 32768))); (try (obtain ⟨hx19_0, hf19_0⟩ := Kd.R_celln 0 HO_5.out ((ji12) : Int) (of_eq_true p19) (of_eq_true q19))))); refine store_event (t := 3) (p := 60) (v := ?vo_w22) (w1 := (wc.setCell ⟨go19, ((ji12) : Int).toNat, none⟩ (.int .i64 (Int.tmod (wrap64 ((wrap64 (x7_2 + (rd x5_2 (ji12)))) + (wrap64 ((rd l0 x6_1) * (rd l1 x8_2))))) 32768)))) ?hg ?ho ?hn ?hr ?_; (case ho => rfl); (case hg => rfl); (case hn => rfl); (case hr => first | (go_simp; done) | (go_simp; rfl)); intro w22 hw; have hg : wc.grownBy w22 (some go19) := (by rw [hw]; exact HP21.2); have hp_ : Kd.R (Kd.int .i64) 3 w22 w.heap.size (fun _ => True) (.slice (some ⟨go19, 0, none⟩) x5_2.length co20) y124 := (by rw [hw, Ny124.out]; exact HP21.1); clear HP21; replace HO_5 := Aside0.mk (hp_); replace HB := Aside0.mk ((by rw [hw]; exact below_set (HB.out) GB19.out : Below w.heap.size w w22)); clear hg hw hp_))
                 repeat (go_quiet (first | ((with_reducible refine gate_store (t := 3) (p := 60) rfl ?_); (try (rw [drewN_self wc]; generalize hq_ : World.drewN wc _ = wc; replace HO_5 := Aside0.mk (Kd.R_at hq_ HO_5.out); replace HB := Aside0.mk (below_at hq_ HB.out); clear hq_; (try (have HP21 := Kd.R_putg HO_5.out ((ji12) : Int) (Int.tmod (wrap64 ((wrap64 (x7_2 + (rd x5_2 (ji12)))) + (wrap64 ((rd l0 x6_1) * (rd l1 x8_2))))) 32768))); (try (obtain ⟨hx19_0, hf19_0⟩ := Kd.R_celln 0 HO_5.out ((ji12) : Int) (of_eq_true p19) (of_eq_true q19))))); refine store_event (t := 3) (p := 60) (v := ?vo_w22) (w1 := (wc.setCell ⟨go19, ((ji12) : Int).toNat, none⟩ (.int .i64 (Int.tmod (wrap64 ((wrap64 (x7_2 + (rd x5_2 (ji12)))) + (wrap64 ((rd l0 x6_1) * (rd l1 x8_2))))) 32768)))) ?hg ?ho ?hn ?hr ?_; (case ho => rfl); (case hg => rfl); (case hn => rfl); (case hr => first | (go_simp; done) | (go_simp; rfl)); intro w22 hw; have hg : wc.grownBy w22 (some go19) := (by rw [hw]; exact HP21.2); have hp_ : Kd.R (Kd.int .i64) 3 w22 w.heap.size (fun _ => True) (.slice (some ⟨go19, 0, none⟩) x5_2.length co20) y124 := (by rw [hw, Ny124.out]; exact HP21.1); clear HP21; replace HO_5 := Aside0.mk (hp_); replace HB := Aside0.mk ((by rw [hw]; exact below_set (HB.out) GB19.out : Below w.heap.size w w22)); clear hg hw hp_)); try go_wp2_with (first | ((with_reducible refine gate_store (t := 3) (p := 60) rfl ?_); (try (rw [drewN_self wc]; generalize hq_ : World.drewN wc _ = wc; replace HO_5 := Aside0.mk (Kd.R_at hq_ HO_5.out); replace HB := Aside0.mk (below_at hq_ HB.out); clear hq_; (try (have HP21 := Kd.R_putg HO_5.out ((ji12) : Int) (Int.tmod (wrap64 ((wrap64 (x7_2 + (rd x5_2 (ji12)))) + (wrap64 ((rd l0 x6_1) * (rd l1 x8_2))))) 32768))); (try (obtain ⟨hx19_0, hf19_0⟩ := Kd.R_celln 0 HO_5.out ((ji12) : Int) (of_eq_true p19) (of_eq_true q19))))); refine store_event (t := 3) (p := 60) (v := ?vo_w22) (w1 := (wc.setCell ⟨go19, ((ji12) : Int).toNat, none⟩ (.int .i64 (Int.tmod (wrap64 ((wrap64 (x7_2 + (rd x5_2 (ji12)))) + (wrap64 ((rd l0 x6_1) * (rd l1 x8_2))))) 32768)))) ?hg ?ho ?hn ?hr ?_; (case ho => rfl); (case hg => rfl); (case hn => rfl); (case hr => first | (go_simp; done) | (go_simp; rfl)); intro w22 hw; have hg : wc.grownBy w22 (some go19) := (by rw [hw]; exact HP21.2); have hp_ : Kd.R (Kd.int .i64) 3 w22 w.heap.size (fun _ => True) (.slice (some ⟨go19, 0, none⟩) x5_2.length co20) y124 := (by rw [hw, Ny124.out]; exact HP21.1); clear HP21; replace HO_5 := Aside0.mk (hp_); replace HB := Aside0.mk ((by rw [hw]; exact below_set (HB.out) GB19.out : Below w.heap.size w w22)); clear hg hw hp_)))
                 go_roundg kj8
                 case measure => have := HK1.out; have := HK2.out; have := HJ8.out; omega
                 case rel => exact ⟨(y124), (wrap64 (Int.tdiv (wrap64 ((wrap64 (x7_2 + (rd x5_2 (ji12)))) + (wrap64 ((rd l0 x6_1) * (rd l1 x8_2))))) 32768)), (wrap64 (x8_2 + 1)), (by first | rfl | (simp; done) | (simp only [← hji12] <;> (first | rfl | simp)) | (simp [*]; done)), (by first | rfl | (simp; done) | (simp [*]; done)), H', ⟨by have := HK1.out; have := HK2.out; have := HJ8.out; omega⟩, ⟨rz HO_5⟩, ⟨bz⟩⟩
                ·rw [if_neg c18] at H
                 exact absurd H (by simp)
               ·rw [if_neg c17] at H
                exact absurd H (by simp)
              ·rw [if_neg c16] at H
               exact absurd H (by simp)
             ·rw [if_neg c15] at H
              have c15b0 : decide (x8_2 < (l1.length : Int)) = false := decide_eq_false c15
              clear c15
              obtain ⟨y125, hy125⟩ : ∃ y_ : List Int, y_ = (x5_2.set ((ji12) : Int).toNat (Int.tmod (wrap64 (x7_2 + (rd x5_2 (ji12)))) 32768)) := ⟨_, rfl⟩
              replace H : (manorboyref02_Nat_Mul.l1 kj8 l0 l1 y125 x6_1 (wrap64 (Int.tdiv (wrap64 (x7_2 + (rd x5_2 (ji12)))) 32768)) (wrap64 (x8_2 + 1))) = some r := by first | (rw [hy125]; with_reducible exact H) | (have H2_ := (Option.bind_some _ _).symm.trans H; rw [hy125]; with_reducible exact H2_) | (have H2_ := (Option.bind_some _ _).symm.trans H; with_reducible exact H2_) | with_reducible exact H | (rw [hy125]; exact H) | exact H
              have Ny125 := Aside0.mk hy125
              clear hy125
              have H' := Aside0.mk H
              clear H
              obtain ⟨Ao24, co24, eo24⟩ := Kd.R_slice HO_5.out
              subst eo24
              have p121 : 0 ≤ ((ji12) : Int) := oda
              have q121 : (ji12) < (x5_2.length : Int) := oda
              obtain ⟨ad121, e121, hx121_0⟩ := Kd.at_int (Kd.R_reads' HO_5.out).2.2 (ji12) p121 q121
              cases e121
              replace p121 := eq_true p121
              replace q121 := eq_true q121
              have p23 : 0 ≤ ((ji12) : Int) := oda
              have q23 : ((ji12) : Int) < ((x5_2.length : Int) : Int) := oda
              obtain ⟨go23, co23, eo23, gb23, gl23, cl23, HG23⟩ := Kd.R_form HO_5.out (by omega)
              (first | cases eo23 | (injection eo23 with ea_ en_ ec_; (first | subst ea_ | (injection ea_ with ea_; subst ea_)); subst ec_; clear en_))
              have GB23 := Aside0.mk gb23
              have GG23 := Aside0.mk HG23
              clear gb23 gl23 HG23
              (first | simp only [add_plain] at hx121_0 | skip)
              obtain ⟨hx23_0, hf23_0⟩ := Kd.R_celln 0 HO_5.out ((ji12) : Int) p23 q23
              replace p23 := eq_true p23
              replace q23 := eq_true q23
              have HP25 := Kd.R_putg HO_5.out ((ji12) : Int) (Int.tmod (wrap64 (x7_2 + (rd x5_2 (ji12)))) 32768)
              go_wp2_with (first | ((with_reducible refine gate_store (t := 3) (p := 60) rfl ?_); (try (rw [drewN_self wc]; generalize hq_ : World.drewN wc _ = wc; replace HO_5 := Aside0.mk (Kd.R_at hq_ HO_5.out); replace HB := Aside0.mk (below_at hq_ HB.out); clear hq_; (try (have HP25 := Kd.R_putg HO_5.out ((ji12) : Int) (Int.tmod (wrap64 (x7_2 + (rd x5_2 (ji12)))) 32768))); (try (obtain ⟨hx23_0, hf23_0⟩ := Kd.R_celln 0 HO_5.out ((ji12) : Int) (of_eq_true p23) (of_eq_true q23))))); refine store_event (t := 3) (p := 60) (v := ?vo_w26) (w1 := (wc.setCell ⟨go23, ((ji12) : Int).toNat, none⟩ (.int .i64 (Int.tmod (wrap64 (x7_2 + (rd x5_2 (ji12)))) 32768)))) ?hg ?ho ?hn ?hr ?_; (case ho => rfl); (case hg => rfl); (case hn => rfl); (case hr => first | (go_simp; done) | (go_simp; rfl)); intro w26 hw; have hg : wc.grownBy w26 (some go23) := (by rw [hw]; exact HP25.2); have hp_ : Kd.R (Kd.int .i64) 3 w26 w.heap.size (fun _ => True) (.slice (some ⟨go23, 0, none⟩) x5_2.length co24) y125 := (by rw [hw, Ny125.out]; exact HP25.1); clear HP25; replace HO_5 := Aside0.mk (hp_); replace HB := Aside0.mk ((by rw [hw]; exact below_set (HB.out) GB23.out : Below w.heap.size w w26)); clear hg hw hp_))
              repeat (go_quiet (first | ((with_reducible refine gate_store (t := 3) (p := 60) rfl ?_); (try (rw [drewN_self wc]; generalize hq_ : World.drewN wc _ = wc; replace HO_5 := Aside0.mk (Kd.R_at hq_ HO_5.out); replace HB := Aside0.mk (below_at hq_ HB.out); clear hq_; (try (have HP25 := Kd.R_putg HO_5.out ((ji12) : Int) (Int.tmod (wrap64 (x7_2 + (rd x5_2 (ji12)))) 32768))); (try (obtain ⟨hx23_0, hf23_0⟩ := Kd.R_celln 0 HO_5.out ((ji12) : Int) (of_eq_true p23) (of_eq_true q23))))); refine store_event (t := 3) (p := 60) (v := ?vo_w26) (w1 := (wc.setCell ⟨go23, ((ji12) : Int).toNat, none⟩ (.int .i64 (Int.tmod (wrap64 (x7_2 + (rd x5_2 (ji12)))) 32768)))) ?hg ?ho ?hn ?hr ?_; (case ho => rfl); (case hg => rfl); (case hn => rfl); (case hr => first | (go_simp; done) | (go_simp; rfl)); intro w26 hw; have hg : wc.grownBy w26 (some go23) := (by rw [hw]; exact HP25.2); have hp_ : Kd.R (Kd.int .i64) 3 w26 w.heap.size (fun _ => True) (.slice (some ⟨go23, 0, none⟩) x5_2.length co24) y125 := (by rw [hw, Ny125.out]; exact HP25.1); clear HP25; replace HO_5 := Aside0.mk (hp_); replace HB := Aside0.mk ((by rw [hw]; exact below_set (HB.out) GB23.out : Below w.heap.size w w26)); clear hg hw hp_)); try go_wp2_with (first | ((with_reducible refine gate_store (t := 3) (p := 60) rfl ?_); (try (rw [drewN_self wc]; generalize hq_ : World.drewN wc _ = wc; replace HO_5 := Aside0.mk (Kd.R_at hq_ HO_5.out); replace HB := Aside0.mk (below_at hq_ HB.out); clear hq_; (try (have HP25 := Kd.R_putg HO_5.out ((ji12) : Int) (Int.tmod (wrap64 (x7_2 + (rd x5_2 (ji12)))) 32768))); (try (obtain ⟨hx23_0, hf23_0⟩ := Kd.R_celln 0 HO_5.out ((ji12) : Int) (of_eq_true p23) (of_eq_true q23))))); refine store_event (t := 3) (p := 60) (v := ?vo_w26) (w1 := (wc.setCell ⟨go23, ((ji12) : Int).toNat, none⟩ (.int .i64 (Int.tmod (wrap64 (x7_2 + (rd x5_2 (ji12)))) 32768)))) ?hg ?ho ?hn ?hr ?_; (case ho => rfl); (case hg => rfl); (case hn => rfl); (case hr => first | (go_simp; done) | (go_simp; rfl)); intro w26 hw; have hg : wc.grownBy w26 (some go23) := (by rw [hw]; exact HP25.2); have hp_ : Kd.R (Kd.int .i64) 3 w26 w.heap.size (fun _ => True) (.slice (some ⟨go23, 0, none⟩) x5_2.length co24) y125 := (by rw [hw, Ny125.out]; exact HP25.1); clear HP25; replace HO_5 := Aside0.mk (hp_); replace HB := Aside0.mk ((by rw [hw]; exact below_set (HB.out) GB23.out : Below w.heap.size w w26)); clear hg hw hp_)))
              go_roundg kj8
              case measure => have := HK1.out; have := HK2.out; have := HJ8.out; omega
              case rel => exact ⟨(y125), (wrap64 (Int.tdiv (wrap64 (x7_2 + (rd x5_2 (ji12)))) 32768)), (wrap64 (x8_2 + 1)), (by first | rfl | (simp; done) | (simp only [← hji12] <;> (first | rfl | simp)) | (simp [*]; done)), (by first | rfl | (simp; done) | (simp [*]; done)), H', ⟨by have := HK1.out; have := HK2.out; have := HJ8.out; omega⟩, ⟨rz HO_5⟩, ⟨bz⟩⟩
            ·rw [if_neg c14] at H
             exact absurd H (by simp)
           ·rw [if_neg c13] at H
            exact absurd H (by simp)
          ·replace c11 := Bool.eq_false_iff.mpr c11
           subst c11
           rw [if_neg (show ¬ (false = true) by decide)] at H
           have H' := Aside0.mk H
           clear H
           go_wp2
           repeat (go_quiet (fail); try go_wp2)
           go_roundg kj8
           case measure => have := HK1.out; have := HK2.out; have := HJ8.out; omega
           case rel => exact ⟨(x5_2), (wrap64 (x6_1 + 1)), (by first | rfl | (simp; done) | (simp [*]; done)), H', ⟨by have := HK1.out; have := HK2.out; have := HJ8.out; omega⟩, ⟨rz HO_5⟩, ⟨bz⟩⟩
     ·rw [if_neg c8] at H
      have c8b0 : decide (x6_1 < (l0.length : Int)) = false := decide_eq_false c8
      clear c8
      replace H := Option.bind_eq_some_iff.mp H
      obtain ⟨t118, A270, H⟩ := H
      try dsimp only at H
      have A27 := Aside0.mk A270
      clear A270
      obtain rfl := Option.some.inj H
      obtain ⟨Ao28, co28, eo28⟩ := Kd.R_slice HO_5.out
      subst eo28
      go_wp2_with (first | (go_at_call 121; (with_reducible refine (manorboyref02_cut.calls k1 (fun k_ => some k_ = (.slice Ao28 x5_1.length co28 : Value).ownBlock) (.slice Ao28 x5_1.length co28) x5_1 t118 w _ ?side1 ?side2 A27.out).mono ?_); (case side1 => repeat (first | (with_reducible first | exact HB.out | apply below_alloc | apply pw_below_drewN | apply below_drew1) | exact HB.out)); (case side2 => exact Kd.R_tight rfl HO_5.out); rintro e w29 ⟨v119, rfl, ho0, hb, hkp⟩; have HO120 := Aside0.mk (Kd.R_mono (ok' := fun k_ => True) ho0 (fun k_ hk_ => trivial)); replace HB := Aside0.mk (hb); clear HO_5; (try clear hb); (try clear hkp); (try clear ho0)))
      repeat (go_quiet (first | (go_at_call 121; (with_reducible refine (manorboyref02_cut.calls k1 (fun k_ => some k_ = (.slice Ao28 x5_1.length co28 : Value).ownBlock) (.slice Ao28 x5_1.length co28) x5_1 t118 w _ ?side1 ?side2 A27.out).mono ?_); (case side1 => repeat (first | (with_reducible first | exact HB.out | apply below_alloc | apply pw_below_drewN | apply below_drew1) | exact HB.out)); (case side2 => exact Kd.R_tight rfl HO_5.out); rintro e w29 ⟨v119, rfl, ho0, hb, hkp⟩; have HO120 := Aside0.mk (Kd.R_mono (ok' := fun k_ => True) ho0 (fun k_ hk_ => trivial)); replace HB := Aside0.mk (hb); clear HO_5; (try clear hb); (try clear hkp); (try clear ho0))); try go_wp2_with (first | (go_at_call 121; (with_reducible refine (manorboyref02_cut.calls k1 (fun k_ => some k_ = (.slice Ao28 x5_1.length co28 : Value).ownBlock) (.slice Ao28 x5_1.length co28) x5_1 t118 w _ ?side1 ?side2 A27.out).mono ?_); (case side1 => repeat (first | (with_reducible first | exact HB.out | apply below_alloc | apply pw_below_drewN | apply below_drew1) | exact HB.out)); (case side2 => exact Kd.R_tight rfl HO_5.out); rintro e w29 ⟨v119, rfl, ho0, hb, hkp⟩; have HO120 := Aside0.mk (Kd.R_mono (ok' := fun k_ => True) ho0 (fun k_ hk_ => trivial)); replace HB := Aside0.mk (hb); clear HO_5; (try clear hb); (try clear hkp); (try clear ho0))))
      go_ret
      exact ⟨_, by first | rfl | (simp [errW_none, errW_some] <;> rfl) | (simp only [← hji3]; first | rfl | (simp [errW_none, errW_some] <;> rfl)) | (simp [*, errW_none, errW_some] <;> rfl), by (with_reducible repeat (first | apply Kd.R_alloc | apply Kd.R_drewN | apply Kd.R_drew)); exact HO120.out, bz⟩
  ·rw [if_neg c5] at H
   exact absurd H (by simp)
 ·rw [if_neg c4] at H
  exact absurd H (by simp)

end Go.Proofs.YteigbokklclmbaaGreatDoor.Z.Y.V
end
section
namespace Go.Proofs.YteigbokklclmbaaGreatDoor.Z.Y.V
open Go.RowKit Go.Proofs.YteigbokklclmbaaGreatDoor.Given Go.Proofs.YteigbokklclmbaaGreatDoorW.PrintWords Go.Proofs.YteigbokklclmbaaGreatDoorW.PrintLast Go.Proofs.YteigbokklclmbaaGreatDoorW.PrintMore
attribute [local go_sem] max2_int min2_int max_two min_two max_three min_three max_four min_four   -- for this text's walks alone

def manorboyref02_half.j0 : Nat → Int → Int → Int → Option (List Int)
 | 0, _, _, _ => none
 | k + 1, x4, x140000, x140001 => (manorboyref02_Small.f k (wrap64 ((wrap64 (2 * x140000)) + 1))).bind fun t140 => ((manorboyref02_Two.f (wrap64 (x4 + 150))).bind fun t143 => ((manorboyref02_Nat_Mul.f k t140 t143).bind fun t146 => (some t146)))
def manorboyref02_half.f (k : Nat) (a0 : Int) : Option (List Int) := (manorboyref02_At.f k a0).bind fun bt137 => (if a0 = 0 then (manorboyref02_half.j0 k (-150) bt137.1 bt137.2) else (manorboyref02_half.j0 k bt137.2 bt137.1 bt137.2))
theorem manorboyref02_half.calls (k : Nat) (a0 : Int) (r : List Int) (w : World) (h : manorboyref02_half.f k a0 = some r) :
  Calls Tryz.prog 108 #[.int .i64 a0] w fun e w' => ∃ v0_ : Value, e = .returned (v0_) ∧ Kd.R (Kd.int .i64) 3 w' w.heap.size (fun _ => True) v0_ r ∧ Below w.heap.size w w' := by
 have hu23 := Tryz.underlying23
 have HB := Aside0.mk (Below.refl w.heap.size w)
 have H := h; unfold manorboyref02_half.f at H; clear h
 replace H := Option.bind_eq_some_iff.mp H
 obtain ⟨⟨t137, t138⟩, A20, H⟩ := H
 try dsimp only at H
 have A2 := Aside0.mk A20
 clear A20
 have HC3 := Aside0.mk H
 clear H
 go_enter Tryz.func108, Tryz.ntmps108
 go_upto_if 10 with (first | ((with_reducible refine gate_callee (f := 56) rfl ?_); refine goesL_ (some 6) rfl rfl Tryz.func56 (by kernel_rfl) rfl #[.int .i64 a0] rfl az ?_; (with_reducible refine (manorboyref02_At.calls k a0 t137 t138 _ A2.out).mono ?_); rintro e w4 ⟨rfl, hb⟩; refine ⟨_, rfl, ?_⟩; replace HB := bs hb; (try clear hb); (try clear hk)) | ((with_reducible refine gate_dst (N := 3) rfl ?_); refine box_event ?hg (N := 3) ?hd (cs := #[.int .i64 0, .int .i64 0]) (t := 23) ?hr ?_; (case hd => rfl); (case hg => rfl); (case hr => first | (go_simp; done) | (go_simp; rfl)); intro gb139 hg w5 hbox hb; have BK139 := Aside0.mk hbox; have GW139 := ge hg; have GE139 := ge hg; replace HB := bs hb; clear hb hbox hg; have hcz6_0 := c20 BK139; have hcz6_1 := c21 BK139; have hfz6_0 := blk_frozen BK139.out 0; have hfz6_1 := blk_frozen BK139.out 1))
 (try simp only [Act.put, List.setIfInBounds_toArray, List.set_cons_zero, List.set_cons_succ])
 go_cut [4] (fun v4 wc => ∃ (kq : Nat) (x4_2 : Int), v4 = .int .i64 x4_2 ∧ Aside0 (manorboyref02_half.j0 kq x4_2 t137 t138 = some r) ∧ Aside0 (kq ≤ k) ∧ Aside0 (wc.heap[gb139]? = some (.cells #[.int .i64 t137, .int .i64 t138] 23 (0, 0))) ∧ Aside0 (Below w.heap.size w wc))
 case first => as_aux_lemma =>
  have H := HC3.out
  clear HC3
  by_cases c7 : a0 = 0
  ·rw [if_pos c7] at H
   have c7b0 : (a0 == 0) = true := beq_iff_eq.mpr c7
   have c7b1 : (a0 != 0) = false := bne_eq_false_iff_eq.mpr c7
   clear c7
   (first | rw [c7b0] | (simp only [i64_w, i32_w]; rw [c7b0]) | skip)
   have H' := Aside0.mk H
   clear H
   go_wp2
   go_meet
   case rel => exact ⟨_, ((-150)), (by first | rfl | (simp; done) | (simp [*]; done)), H', ⟨by first | omega | exact Nat.le_refl _⟩, ⟨by (with_reducible repeat (first | refine blk_drewN ?_ _ | refine blk_drew ?_ | refine blk_alloc ?_ _)); refine blk_put (cs := #[.int .i64 t137, .int .i64 0]) ?_ 1 _ rfl; (with_reducible repeat (first | refine blk_drewN ?_ _ | refine blk_drew ?_ | refine blk_alloc ?_ _)); refine blk_put (cs := #[.int .i64 0, .int .i64 0]) ?_ 0 _ rfl; (with_reducible repeat (first | refine blk_drewN ?_ _ | refine blk_drew ?_ | refine blk_alloc ?_ _)); exact BK139.out⟩, ⟨bz⟩⟩
  ·rw [if_neg c7] at H
   have c7b0 : (a0 == 0) = false := beq_eq_false_iff_ne.mpr c7
   have c7b1 : (a0 != 0) = true := bne_iff_ne.mpr c7
   (first | rw [c7b0] | (simp only [i64_w, i32_w]; rw [c7b0]) | skip)
   have H' := Aside0.mk H
   clear H
   go_wp2
   go_meet
   case rel => exact ⟨_, (t138), (by first | rfl | (simp; done) | (simp [*]; done)), H', ⟨by first | omega | exact Nat.le_refl _⟩, ⟨by (with_reducible repeat (first | refine blk_drewN ?_ _ | refine blk_drew ?_ | refine blk_alloc ?_ _)); refine blk_put (cs := #[.int .i64 t137, .int .i64 0]) ?_ 1 _ rfl; (with_reducible repeat (first | refine blk_drewN ?_ _ | refine blk_drew ?_ | refine blk_alloc ?_ _)); refine blk_put (cs := #[.int .i64 0, .int .i64 0]) ?_ 0 _ rfl; (with_reducible repeat (first | refine blk_drewN ?_ _ | refine blk_drew ?_ | refine blk_alloc ?_ _)); exact BK139.out⟩, ⟨bz⟩⟩
 case rest => as_aux_lemma =>
  clear HC3
  try clear c7
  try clear c7b0
  try clear c7b1
  try clear hcz6_0
  try clear hcz6_1
  try clear hfz6_0
  try clear hfz6_1
  obtain ⟨kq, x4_2, rfl, HA, HJ2, BK139, HB⟩ := hcut
  cases kq with
  | zero => exact absurd HA.out (by simp [manorboyref02_half.j0])
  | succ kj2 =>
   have H := HA.out
   clear HA
   simp only [manorboyref02_half.j0] at H
   replace H := Option.bind_eq_some_iff.mp H
   obtain ⟨t140, A80, H⟩ := H
   try dsimp only at H
   have A8 := Aside0.mk A80
   clear A80
   replace H := Option.bind_eq_some_iff.mp H
   obtain ⟨t143, A90, H⟩ := H
   try dsimp only at H
   have A9 := Aside0.mk A90
   clear A90
   replace H := Option.bind_eq_some_iff.mp H
   obtain ⟨t146, A100, H⟩ := H
   try dsimp only at H
   have A10 := Aside0.mk A100
   clear A100
   obtain rfl := Option.some.inj H
   have hcz11_0 := c20 BK139
   have hcz11_1 := c21 BK139
   have hfz11_0 := blk_frozen BK139.out 0
   have hfz11_1 := blk_frozen BK139.out 1
   go_wp2_with (first | ((with_reducible refine gate_callee (f := 85) rfl ?_); refine goesL_ (some 15) rfl rfl Tryz.func85 (by kernel_rfl) rfl #[.int .i64 (wrap64 ((wrap64 (2 * t137)) + 1))] rfl az ?_; (with_reducible refine (manorboyref02_Small.calls kj2 (wrap64 ((wrap64 (2 * t137)) + 1)) t140 _ A8.out).mono ?_); rintro e w12 ⟨v141, rfl, ho0, hb⟩; refine ⟨_, rfl, ?_⟩; have HO142 := Aside0.mk (Kd.R_lower ho0 (below_size bz)); replace BK139 := kb BK139 hb; replace HB := bs hb; (try clear hb); (try clear hk); (try clear ho0)) | ((with_reducible refine gate_callee (f := 107) rfl ?_); refine goesL_ (some 18) rfl rfl Tryz.func107 (by kernel_rfl) rfl #[.int .i64 (wrap64 (x4_2 + 150))] rfl az ?_; (with_reducible refine (manorboyref02_Two.calls (wrap64 (x4_2 + 150)) t143 _ A9.out).mono ?_); rintro e w13 ⟨v144, rfl, ho0, hb⟩; refine ⟨_, rfl, ?_⟩; have HO145 := Aside0.mk (Kd.R_lower (Kd.R_new' ho0 (Kd.R_lt (rz HO142))) (below_size bz)); replace HO142 := Aside0.mk (Kd.R_elder' (rz HO142) (Kd.R_base ho0) hb); replace BK139 := kb BK139 hb; replace HB := bs hb; (try clear hb); (try clear hk); (try clear ho0); obtain ⟨Ao14, co14, eo14⟩ := Kd.R_slice HO142.out; subst eo14; obtain ⟨Ao15, co15, eo15⟩ := Kd.R_slice HO145.out; subst eo15) | ((with_reducible refine gate_callee (f := 86) rfl ?_); refine goesL_ (some 19) rfl rfl Tryz.func86 (by kernel_rfl) rfl #[.slice Ao14 t140.length co14, .slice Ao15 t143.length co15] rfl az ?_; (with_reducible refine (manorboyref02_Nat_Mul.calls kj2 _ _ t140 _ _ t143 t146 _ ?side1 ?side2 ?side3 ?side4 A10.out).mono ?_); (case side1 => exact ccz (Kd.R_reads' HO142.out).2.2); (case side2 => exact (Kd.R_reads' HO142.out).2.1); (case side3 => exact ccz (Kd.R_reads' HO145.out).2.2); (case side4 => exact (Kd.R_reads' HO145.out).2.1); rintro e w16 ⟨v147, rfl, ho0, hb⟩; refine ⟨_, rfl, ?_⟩; have HO148 := Aside0.mk (Kd.R_lower (Kd.R_new' (Kd.R_new' ho0 (Kd.R_lt (rz HO142))) (Kd.R_lt (rz HO145))) (below_size bz)); replace HO142 := Aside0.mk (Kd.R_elder' (rz HO142) (Kd.R_base ho0) hb); replace HO145 := Aside0.mk (Kd.R_elder' (rz HO145) (Kd.R_base ho0) hb); replace BK139 := kb BK139 hb; replace HB := bs hb; (try clear hb); (try clear hk); (try clear ho0)))
   go_ret
   exact ⟨_, by first | rfl | (simp [errW_none, errW_some] <;> rfl) | (simp [*, errW_none, errW_some] <;> rfl), by (with_reducible repeat (first | apply Kd.R_alloc | apply Kd.R_drewN | apply Kd.R_drew)); exact Kd.R_mono HO148.out (fun _ hk => trivial), bz⟩

end Go.Proofs.YteigbokklclmbaaGreatDoor.Z.Y.V
end
section
namespace Go.Proofs.YteigbokklclmbaaGreatDoor.Given
open Go
theorem field23_0 (a b : Int) (w : World) : Sem.run Tryz.prog (Instr.field 23 (Value.agg #[Value.int .i64 a, Value.int .i64 b]) 0) w = .ok (Value.int .i64 a) w := by kernel_rfl
theorem field23_1 (a b : Int) (w : World) : Sem.run Tryz.prog (Instr.field 23 (Value.agg #[Value.int .i64 a, Value.int .i64 b]) 1) w = .ok (Value.int .i64 b) w := by kernel_rfl
end Go.Proofs.YteigbokklclmbaaGreatDoor.Given
end
section
namespace Go.Proofs.YteigbokklclmbaaGreatDoor.Z.Y.V
open Go.RowKit Go.Proofs.YteigbokklclmbaaGreatDoor.Given Go.Proofs.YteigbokklclmbaaGreatDoorW.PrintWords Go.Proofs.YteigbokklclmbaaGreatDoorW.PrintLast Go.Proofs.YteigbokklclmbaaGreatDoorW.PrintMore
attribute [local go_sem] max2_int min2_int max_two min_two max_three min_three max_four min_four   -- for this text's walks alone
attribute [local go_sem high] field23_0 field23_1

mutual
def manorboyref02_Quotient_Round.l0 : Nat → List Int → Int → Int → Bool → List Int → List Int → Option (Int × Int × Bool)
 | 0, _, _, _, _, _, _ => none
 | k + 1, x3, x4, x5, x150000, x150001, x150002 => if x4 < x5 then ((manorboyref02_half.f k (wrap64 (Int.tdiv (wrap64 (x4 + x5)) 2))).bind fun t157 => ((manorboyref02_Nat_Mul.f k t157 x150002).bind fun t160 => ((manorboyref02_Nat_Cmp.f k t160 x3).bind fun t163 => (if t163 ≥ 0 then (manorboyref02_Quotient_Round.l0 k x3 x4 (wrap64 (Int.tdiv (wrap64 (x4 + x5)) 2)) x150000 x150001 x150002) else (manorboyref02_Quotient_Round.l0 k x3 (wrap64 ((wrap64 (Int.tdiv (wrap64 (x4 + x5)) 2)) + 1)) x5 x150000 x150001 x150002))))) else (if x4 > 2533359615 then (some (0, 0, false)) else ((manorboyref02_half.f k x4).bind fun t164 => ((manorboyref02_Nat_Mul.f k t164 x150002).bind fun t167 => ((manorboyref02_Nat_Cmp.f k t167 x3).bind fun t170 => (if t170 = 0 then ((manorboyref02_At.f k x4).bind fun bt171 => (manorboyref02_Quotient_Round.j1 k x4 ((Int.tmod bt171.1 2) != 0) x150000 x150001 x150002)) else (manorboyref02_Quotient_Round.j1 k x4 false x150000 x150001 x150002))))))
def manorboyref02_Quotient_Round.j1 : Nat → Int → Bool → Bool → List Int → List Int → Option (Int × Int × Bool)
 | 0, _, _, _, _, _ => none
 | k + 1, x4, x47, x150000, x150001, x150002 => if x47 = true then (manorboyref02_Quotient_Round.j2 k (wrap64 (x4 + 1)) x150000 x150001 x150002) else (manorboyref02_Quotient_Round.j2 k x4 x150000 x150001 x150002)
def manorboyref02_Quotient_Round.j2 : Nat → Int → Bool → List Int → List Int → Option (Int × Int × Bool)
 | 0, _, _, _, _ => none
 | k + 1, x4, x150000, x150001, x150002 => if x4 > 2533359615 then (some (0, 0, false)) else ((manorboyref02_At.f k x4).bind fun bt173 => (if x150000 = true then ((manorboyref02_At.f k (wrap64 (-x4))).bind fun bt176 => (some (bt176.1, bt176.2, true))) else (some (bt173.1, bt173.2, true))))
end
def manorboyref02_Quotient_Round.f (k : Nat) (a0_0 : Bool) (l0_1 : List Int) (l0_2 : List Int) : Option (Int × Int × Bool) := (manorboyref02_Two.f 151).bind fun t151 => ((manorboyref02_Nat_Mul.f k l0_1 t151).bind fun t154 => (manorboyref02_Quotient_Round.l0 k t154 0 2533359616 a0_0 l0_1 l0_2))
def manorboyref02_Quotient_Round.T6 : Bool × List (List Nat × List Nat) := (true, [([], []), ([0], [0]), ([], []), ([2], [2]), ([1, 3, 1], [1, 3]), ([], []), ([4, 5, 4], [4, 5]), ([6], [6])])
def manorboyref02_Quotient_Round.B6 : List Nat := [0, 1, 0, 4, 15, 0, 63, 127]
theorem manorboyref02_Quotient_Round.tab6 : rtab .any (opsOf Tryz.f88 6) = manorboyref02_Quotient_Round.T6 := by kernel_rfl
theorem manorboyref02_Quotient_Round.bits6 : waitsOk manorboyref02_Quotient_Round.T6.2 manorboyref02_Quotient_Round.B6 = true := by kernel_rfl
def manorboyref02_Quotient_Round.T11 : Bool × List (List Nat × List Nat) := (true, [([], []), ([0], [0]), ([], []), ([2], [2]), ([1, 3, 1], [1, 3]), ([], []), ([4, 5, 4], [4, 5]), ([6], [6]), ([7, 6], [7]), ([8], [8]), ([9, 8, 8], [8, 9]), ([10, 8], [8, 10]), ([11, 8], [8, 11]), ([12, 8], [8, 12]), ([8, 13], [8, 13])])
def manorboyref02_Quotient_Round.B11 : List Nat := [0, 1, 0, 4, 15, 0, 63, 127, 255, 511, 1023, 2047, 4095, 8191, 16383]
theorem manorboyref02_Quotient_Round.tab11 : rtab .any (opsOf Tryz.f88 11) = manorboyref02_Quotient_Round.T11 := by kernel_rfl
theorem manorboyref02_Quotient_Round.bits11 : waitsOk manorboyref02_Quotient_Round.T11.2 manorboyref02_Quotient_Round.B11 = true := by kernel_rfl
theorem manorboyref02_Quotient_Round.calls (k : Nat) (a0_0 : Bool) (A0_1 : Option Addr) (c0_1 : Nat) (l0_1 : List Int) (A0_2 : Option Addr) (c0_2 : Nat) (l0_2 : List Int) (r1 : Int) (r2 : Int) (r3 : Bool) (w : World) (hr0_1 : Kd.C (Kd.int .i64) w A0_1 l0_1.length l0_1) (hc0_1 : l0_1.length ≤ c0_1) (hr0_2 : Kd.C (Kd.int .i64) w A0_2 l0_2.length l0_2) (hc0_2 : l0_2.length ≤ c0_2) (h : manorboyref02_Quotient_Round.f k a0_0 l0_1 l0_2 = some (r1, r2, r3)) :
  Calls Tryz.prog 88 #[.agg #[.bool a0_0, .slice A0_1 l0_1.length c0_1, .slice A0_2 l0_2.length c0_2]] w fun e w' => e = .returned (.agg #[.int .i64 r1, .int .i64 r2, .bool r3]) ∧ Below w.heap.size w w' := by
 have hu102 := Tryz.underlying102
 have hu50 := Tryz.underlying50
 have hu23 := Tryz.underlying23
 have HR0_1 := Aside0.mk hr0_1
 have HC0_1 := Aside0.mk hc0_1
 clear hr0_1 hc0_1
 have HR0_2 := Aside0.mk hr0_2
 have HC0_2 := Aside0.mk hc0_2
 clear hr0_2 hc0_2
 have HB := Aside0.mk (Below.refl w.heap.size w)
 have H := h; unfold manorboyref02_Quotient_Round.f at H; clear h
 replace H := Option.bind_eq_some_iff.mp H
 obtain ⟨t151, A20, H⟩ := H
 try dsimp only at H
 have A2 := Aside0.mk A20
 clear A20
 replace H := Option.bind_eq_some_iff.mp H
 obtain ⟨t154, A30, H⟩ := H
 try dsimp only at H
 have A3 := Aside0.mk A30
 clear A30
 have H' := Aside0.mk H
 clear H
 go_enter Tryz.func88, Tryz.ntmps88
 try go_wp2_with (first | ((with_reducible refine gate_dst (N := 1) rfl ?_); refine box_event ?hg (N := 1) ?hd (cs := #[.bool a0_0, .slice A0_1 l0_1.length c0_1, .slice A0_2 l0_2.length c0_2]) (t := 102) ?hr ?_; (case hd => rfl); (case hg => rfl); (case hr => first | (go_simp; done) | (go_simp; rfl)); intro gb149 hg w4 hbox hb; have BK149 := Aside0.mk hbox; have GW149 := ge hg; have GE149 := ge hg; replace HB := bs hb; clear hb hbox hg) | ((with_reducible refine gate_dst (N := 2) rfl ?_); refine box_event ?hg (N := 2) ?hd (cs := #[.int .i64 0, .int .i64 0, .bool false]) (t := 50) ?hr ?_; (case hd => rfl); (case hg => rfl); (case hr => first | (go_simp; done) | (go_simp; rfl)); intro gb150 hg w5 hbox hb; have BK150 := Aside0.mk hbox; have GW150 := ge hg; have GE150 := ge hg; have NB149_150 := nl BK149 hg; have NB150_149 := nr BK149 hg; replace BK149 := kb BK149 hb; replace HB := bs hb; clear hb hbox hg))
 replace BK149 := Aside0.mk (blk_drew BK149.out)
 replace BK150 := Aside0.mk (blk_drew BK150.out)
 replace HB := Aside0.mk (below_drew1 HB.out)
 refine start_ (n := 5) (S := fun w' => w'.cell? ⟨gb149, 0, none⟩ = some (.bool a0_0) ∧ w'.cell? ⟨gb149, 1, none⟩ = some (.slice A0_1 l0_1.length c0_1) ∧ w'.cell? ⟨gb149, 2, none⟩ = some (.slice A0_2 l0_2.length c0_2)) (ds := []) #[false, false, false, false, false] (by kernel_rfl) rfl rfl ⟨(blk_cell BK149.out 0).trans rfl, (blk_cell BK149.out 1).trans rfl, (blk_cell BK149.out 2).trans rfl⟩ (fun hHeld => ?_)
 generalize w5.drew = w6 at BK149 BK150 HB hHeld ⊢
 refine pure_ (i := 0) (N := some 8) (v := ?_) (a' := ?_) #[true, false, false, false, false] rfl rfl (by kernel_rfl) (fun _ _ _ h => h) (Or.inl ⟨by rfl, ?_⟩) ?_ ?_
 rotate_left
 ·intro w'
  go_simp
  with_reducible rfl
 rotate_left
 ·simp only [Act.put, List.setIfInBounds_toArray, List.set_cons_zero, List.set_cons_succ, i64_w, i32_w]
  rfl
 refine take_ (i := 1) (N := some 9) (v := ?_) (a' := ?_) #[true, true, false, false, false] rfl rfl (by kernel_rfl) (fun _ _ _ h => h) (Or.inl ⟨by rfl, ?_⟩) hHeld ?_ ?_
 rotate_left
 ·rintro w' ⟨s0, s1, s2⟩
  go_simp
  with_reducible rfl
 rotate_left
 ·simp only [Act.put, List.setIfInBounds_toArray, List.set_cons_zero, List.set_cons_succ, i64_w, i32_w]
  rfl
 refine one_ (i := 2) (N := some 10) #[true, true, true, false, false] rfl rfl (by kernel_rfl) (by decide) (fun K hK => ?_)
 refine goes_ Tryz.func107 (by kernel_rfl) rfl #[.int .i64 151] (by rfl) rfl rfl az ?_
 with_reducible refine (manorboyref02_Two.calls 151 t151 _ A2.out).mono ?_
 rintro e w7 ⟨v152, rfl, ho0, hb⟩
 refine ⟨_, rfl, ?_⟩
 have HO153 := Aside0.mk (Kd.R_lower ho0 (below_size bz))
 replace BK149 := kb BK149 hb
 replace BK150 := kb BK150 hb
 replace HB := bs hb
 (try clear hb)
 (try clear hk)
 (try clear ho0)
 obtain ⟨Ao8, co8, eo8⟩ := Kd.R_slice HO153.out
 (first | subst eo8 | (injection eo8 with f1_ f2_ f3_; have f4_ := f1_.symm; have f5_ := f3_.symm; clear f1_ f2_ f3_; subst f4_; subst f5_))
 refine hK.out _ _ ⟨(blk_cell BK149.out 0).trans rfl, (blk_cell BK149.out 1).trans rfl, (blk_cell BK149.out 2).trans rfl⟩ (fun hHeld => ?_)
 clear hK K
 refine norm_ (a' := ?_) ?_ ?_
 rotate_left
 ·show Act.put _ (some 10) _ = _
  simp only [Act.put, List.setIfInBounds_toArray, List.set_cons_zero, List.set_cons_succ, i64_w, i32_w]
  rfl
 refine one_ (i := 3) (N := some 11) #[true, true, true, true, false] rfl rfl (by kernel_rfl) (by decide) (fun K hK => ?_)
 refine goes_ Tryz.func86 (by kernel_rfl) rfl #[.slice A0_1 l0_1.length c0_1, .slice Ao8 t151.length co8] (by rfl) rfl rfl az ?_
 with_reducible refine (manorboyref02_Nat_Mul.calls k _ _ l0_1 _ _ t151 t154 _ ?side1 ?side2 ?side3 ?side4 A3.out).mono ?_
 (case side1 => exact ccz (Kd.C_below HR0_1.out HB.out))
 (case side2 => exact HC0_1.out)
 (case side3 => exact ccz (Kd.R_reads' HO153.out).2.2)
 (case side4 => exact (Kd.R_reads' HO153.out).2.1)
 rintro e w9 ⟨v155, rfl, ho0, hb⟩
 refine ⟨_, rfl, ?_⟩
 have HO156 := Aside0.mk (Kd.R_lower (Kd.R_new' ho0 (Kd.R_lt (rz HO153))) (below_size bz))
 replace HO153 := Aside0.mk (Kd.R_elder' (rz HO153) (Kd.R_base ho0) hb)
 replace BK149 := kb BK149 hb
 replace BK150 := kb BK150 hb
 replace HB := bs hb
 (try clear hb)
 (try clear hk)
 (try clear ho0)
 refine hK.out _ _ ⟨(blk_cell BK149.out 0).trans rfl, (blk_cell BK149.out 1).trans rfl, (blk_cell BK149.out 2).trans rfl⟩ (fun hHeld => ?_)
 clear hK K
 refine norm_ (a' := ?_) ?_ ?_
 rotate_left
 ·show Act.put _ (some 11) _ = _
  simp only [Act.put, List.setIfInBounds_toArray, List.set_cons_zero, List.set_cons_succ, i64_w, i32_w]
  rfl
 refine pure_ (i := 4) (N := some 3) (v := ?_) (a' := ?_) #[true, true, true, true, true] rfl rfl (by kernel_rfl) (fun _ _ _ h => h) (Or.inl ⟨by rfl, ?_⟩) ?_ ?_
 rotate_left
 ·intro w'
  go_simp
  with_reducible rfl
 rotate_left
 ·simp only [Act.put, List.setIfInBounds_toArray, List.set_cons_zero, List.set_cons_succ, i64_w, i32_w]
  rfl
 refine done_ (by kernel_rfl) ?_
 try go_wp2
 go_loopg [4, 5] k (fun kq v4 v5 w' => ∃ (x4_1 : Int) (x5_1 : Int), v4 = .int .i64 x4_1 ∧ v5 = .int .i64 x5_1 ∧ Aside0 (manorboyref02_Quotient_Round.l0 kq t154 x4_1 x5_1 a0_0 l0_1 l0_2 = some (r1, r2, r3)) ∧ Aside0 (kq ≤ k) ∧ Aside0 (Kd.R (Kd.int .i64) 3 w' w.heap.size (fun _ => True) v155 t154) ∧ Aside0 (w'.heap[gb149]? = some (.cells #[.bool a0_0, (.slice A0_1 l0_1.length c0_1), (.slice A0_2 l0_2.length c0_2)] 102 (0, 0))) ∧ Aside0 (w'.heap[gb150]? = some (.cells #[.int .i64 0, .int .i64 0, .bool false] 50 (0, 0))) ∧ Aside0 (Below w.heap.size w w'))
 case atStart => exact ⟨(0), (2533359616), (by first | rfl | (simp; done) | (simp [*]; done)), (by first | rfl | (simp; done) | (simp [*]; done)), H', ⟨Nat.le_refl _⟩, ⟨by (with_reducible repeat (first | apply Kd.R_alloc | apply Kd.R_drewN | apply Kd.R_drew)); exact Kd.R_mono HO156.out (fun _ hk => trivial)⟩, ⟨kz BK149⟩, ⟨kz BK150⟩, ⟨bz⟩⟩
 case round =>
  clear H'
  obtain ⟨x4_1, x5_1, rfl, rfl, HA, HK1, HO_3, BK149, BK150, HB⟩ := hrel
  cases gk with
  | zero => exact absurd HA.out (by simp [manorboyref02_Quotient_Round.l0])
  | succ k1 =>
   have H := HA.out
   clear HA
   simp only [manorboyref02_Quotient_Round.l0] at H
   by_cases c10 : x4_1 < x5_1
   ·rw [if_pos c10] at H
    have c10b0 : decide (x4_1 < x5_1) = true := decide_eq_true c10
    clear c10
    replace H := Option.bind_eq_some_iff.mp H
    obtain ⟨t157, A110, H⟩ := H
    try dsimp only at H
    have A11 := Aside0.mk A110
    clear A110
    replace H := Option.bind_eq_some_iff.mp H
    obtain ⟨t160, A120, H⟩ := H
    try dsimp only at H
    have A12 := Aside0.mk A120
    clear A120
    replace H := Option.bind_eq_some_iff.mp H
    obtain ⟨t163, A130, H⟩ := H
    try dsimp only at H
    have A13 := Aside0.mk A130
    clear A130
    try go_wp2
    replace HO_3 := Aside0.mk (Kd.R_drew HO_3.out)
    replace BK149 := Aside0.mk (blk_drew BK149.out)
    replace BK150 := Aside0.mk (blk_drew BK150.out)
    replace HB := Aside0.mk (below_drew1 HB.out)
    refine start_ (n := 8) (S := fun w' => w'.cell? ⟨gb149, 0, none⟩ = some (.bool a0_0) ∧ w'.cell? ⟨gb149, 1, none⟩ = some (.slice A0_1 l0_1.length c0_1) ∧ w'.cell? ⟨gb149, 2, none⟩ = some (.slice A0_2 l0_2.length c0_2)) (ds := []) #[false, false, false, false, false, false, false, false] (by kernel_rfl) rfl rfl ⟨(blk_cell BK149.out 0).trans rfl, (blk_cell BK149.out 1).trans rfl, (blk_cell BK149.out 2).trans rfl⟩ (fun hHeld => ?_); refine with_tabW manorboyref02_Quotient_Round.tab6 manorboyref02_Quotient_Round.bits6 (fun HT_ HW_ => ?_)
    generalize wr.drew = w15 at HO_3 BK149 BK150 HB hHeld ⊢
    refine pur 0 (some 19) #[tt,ff,ff,ff,ff,ff,ff,ff] ?_
    refine pur 2 (some 21) #[tt,ff,tt,ff,ff,ff,ff,ff] ?_
    refine pur 5 (some 24) #[tt,ff,tt,ff,ff,tt,ff,ff] ?_
    refine take_ (i := 3) (N := some 22) (v := ?_) (a' := ?_) #[true, false, true, true, false, true, false, false] rfl rfl (take_ofW HT_.out HW_.out (by kernel_rfl)) (fun _ _ _ h => h) (Or.inl ⟨by rfl, ?_⟩) hHeld ?_ ?_
    rotate_left
    ·rintro w' ⟨s0, s1, s2⟩
     go_simp
     with_reducible rfl
    rotate_left
    ·simp only [Act.put, List.setIfInBounds_toArray, List.set_cons_zero, List.set_cons_succ, i64_w, i32_w]
     rfl
    refine one_ (i := 1) (N := some 20) #[true, true, true, true, false, true, false, false] rfl rfl (one_of HT_.out (by kernel_rfl)) (by decide) (fun K hK => ?_)
    refine goes_ Tryz.func108 (by kernel_rfl) rfl #[.int .i64 (wrap64 (Int.tdiv (wrap64 (x4_1 + x5_1)) 2))] (by rfl) rfl rfl az ?_
    with_reducible refine (manorboyref02_half.calls k1 (wrap64 (Int.tdiv (wrap64 (x4_1 + x5_1)) 2)) t157 _ A11.out).mono ?_
    rintro e w16 ⟨v158, rfl, ho0, hb⟩
    refine ⟨_, rfl, ?_⟩
    have HO159 := Aside0.mk (Kd.R_lower (Kd.R_new' ho0 (Kd.R_lt (rz HO_3))) (below_size bz))
    replace HO_3 := Aside0.mk (Kd.R_elder' (rz HO_3) (Kd.R_base ho0) hb)
    replace BK149 := kb BK149 hb
    replace BK150 := kb BK150 hb
    replace HB := bs hb
    (try clear hb)
    (try clear hk)
    (try clear ho0)
    obtain ⟨Ao17, co17, eo17⟩ := Kd.R_slice HO159.out
    (first | subst eo17 | (injection eo17 with f1_ f2_ f3_; have f4_ := f1_.symm; have f5_ := f3_.symm; clear f1_ f2_ f3_; subst f4_; subst f5_))
    refine hK.out _ _ ⟨(blk_cell BK149.out 0).trans rfl, (blk_cell BK149.out 1).trans rfl, (blk_cell BK149.out 2).trans rfl⟩ (fun hHeld => ?_)
    clear hK K
    refine norm_ (a' := ?_) ?_ ?_
    rotate_left
    ·show Act.put _ (some 20) _ = _
     simp only [Act.put, List.setIfInBounds_toArray, List.set_cons_zero, List.set_cons_succ, i64_w, i32_w]
     rfl
    refine one_ (i := 4) (N := some 23) #[true, true, true, true, true, true, false, false] rfl rfl (one_of HT_.out (by kernel_rfl)) (by decide) (fun K hK => ?_)
    refine goes_ Tryz.func86 (by kernel_rfl) rfl #[.slice Ao17 t157.length co17, .slice A0_2 l0_2.length c0_2] (by rfl) rfl rfl az ?_
    with_reducible refine (manorboyref02_Nat_Mul.calls k1 _ _ t157 _ _ l0_2 t160 _ ?side1 ?side2 ?side3 ?side4 A12.out).mono ?_
    (case side1 => exact ccz (Kd.R_reads' HO159.out).2.2)
    (case side2 => exact (Kd.R_reads' HO159.out).2.1)
    (case side3 => exact ccz (Kd.C_below HR0_2.out HB.out))
    (case side4 => exact HC0_2.out)
    rintro e w18 ⟨v161, rfl, ho0, hb⟩
    refine ⟨_, rfl, ?_⟩
    have HO162 := Aside0.mk (Kd.R_lower (Kd.R_new' (Kd.R_new' ho0 (Kd.R_lt (rz HO_3))) (Kd.R_lt (rz HO159))) (below_size bz))
    replace HO_3 := Aside0.mk (Kd.R_elder' (rz HO_3) (Kd.R_base ho0) hb)
    replace HO159 := Aside0.mk (Kd.R_elder' (rz HO159) (Kd.R_base ho0) hb)
    replace BK149 := kb BK149 hb
    replace BK150 := kb BK150 hb
    replace HB := bs hb
    (try clear hb)
    (try clear hk)
    (try clear ho0)
    obtain ⟨Ao19, co19, eo19⟩ := Kd.R_slice HO162.out
    (first | subst eo19 | (injection eo19 with f1_ f2_ f3_; have f4_ := f1_.symm; have f5_ := f3_.symm; clear f1_ f2_ f3_; subst f4_; subst f5_))
    obtain ⟨Ao20, co20, eo20⟩ := Kd.R_slice HO_3.out
    (first | subst eo20 | (injection eo20 with f1_ f2_ f3_; have f4_ := f1_.symm; have f5_ := f3_.symm; clear f1_ f2_ f3_; subst f4_; subst f5_))
    refine hK.out _ _ ⟨(blk_cell BK149.out 0).trans rfl, (blk_cell BK149.out 1).trans rfl, (blk_cell BK149.out 2).trans rfl⟩ (fun hHeld => ?_)
    clear hK K
    refine norm_ (a' := ?_) ?_ ?_
    rotate_left
    ·show Act.put _ (some 23) _ = _
     simp only [Act.put, List.setIfInBounds_toArray, List.set_cons_zero, List.set_cons_succ, i64_w, i32_w]
     rfl
    refine one_ (i := 6) (N := some 25) #[true, true, true, true, true, true, true, false] rfl rfl (one_of HT_.out (by kernel_rfl)) (by decide) (fun K hK => ?_)
    refine goes_ Tryz.func104 (by kernel_rfl) rfl #[.slice Ao19 t160.length co19, .slice Ao20 t154.length co20] (by rfl) rfl rfl az ?_
    with_reducible refine (manorboyref02_Nat_Cmp.calls k1 _ _ t160 _ _ t154 t163 _ ?side1 ?side2 ?side3 ?side4 A13.out).mono ?_
    (case side1 => exact ccz (Kd.R_reads' HO162.out).2.2)
    (case side2 => exact (Kd.R_reads' HO162.out).2.1)
    (case side3 => exact ccz (Kd.R_reads' HO_3.out).2.2)
    (case side4 => exact (Kd.R_reads' HO_3.out).2.1)
    rintro e w' ⟨rfl, ⟨nd, rfl⟩⟩
    refine ⟨_, rfl, ?_⟩
    refine hK.out _ _ ⟨(blk_cell BK149.out 0).trans rfl, (blk_cell BK149.out 1).trans rfl, (blk_cell BK149.out 2).trans rfl⟩ (fun hHeld => ?_)
    clear hK K
    refine norm_ (a' := ?_) ?_ ?_
    rotate_left
    ·show Act.put _ (some 25) _ = _
     simp only [Act.put, List.setIfInBounds_toArray, List.set_cons_zero, List.set_cons_succ, i64_w, i32_w]
     rfl
    refine pur 7 (some 26) #[tt,tt,tt,tt,tt,tt,tt,tt] ?_
    refine done_ (done_of HT_.out (by kernel_rfl)) ?_
    by_cases c14 : t163 ≥ 0
    ·rw [if_pos c14] at H
     have c14b0 : decide (0 ≤ t163) = true := decide_eq_true c14
     clear c14
     have H' := Aside0.mk H
     clear H
     (first | rw [c14b0] | (simp only [i64_w, i32_w]; rw [c14b0]) | skip)
     try go_wp2
     go_roundg k1
     case measure => have := HK1.out; omega
     case rel => exact ⟨(x4_1), (wrap64 (Int.tdiv (wrap64 (x4_1 + x5_1)) 2)), (by first | rfl | (simp; done) | (simp [*]; done)), (by first | rfl | (simp; done) | (simp [*]; done)), H', ⟨by have := HK1.out; omega⟩, ⟨by (with_reducible repeat (first | apply Kd.R_alloc | apply Kd.R_drewN | apply Kd.R_drew)); exact Kd.R_mono HO_3.out (fun _ hk => trivial)⟩, ⟨kz BK149⟩, ⟨kz BK150⟩, ⟨bz⟩⟩
    ·rw [if_neg c14] at H
     have c14b0 : decide (0 ≤ t163) = false := decide_eq_false c14
     clear c14
     have H' := Aside0.mk H
     clear H
     (first | rw [c14b0] | (simp only [i64_w, i32_w]; rw [c14b0]) | skip)
     try go_wp2
     go_roundg k1
     case measure => have := HK1.out; omega
     case rel => exact ⟨(wrap64 ((wrap64 (Int.tdiv (wrap64 (x4_1 + x5_1)) 2)) + 1)), (x5_1), (by first | rfl | (simp; done) | (simp [*]; done)), (by first | rfl | (simp; done) | (simp [*]; done)), H', ⟨by have := HK1.out; omega⟩, ⟨by (with_reducible repeat (first | apply Kd.R_alloc | apply Kd.R_drewN | apply Kd.R_drew)); exact Kd.R_mono HO_3.out (fun _ hk => trivial)⟩, ⟨kz BK149⟩, ⟨kz BK150⟩, ⟨bz⟩⟩
   ·rw [if_neg c10] at H
    have c10b0 : decide (x4_1 < x5_1) = false := decide_eq_false c10
    clear c10
    by_cases c27 : x4_1 > 2533359615
    ·rw [if_pos c27] at H
     have c27b0 : decide (2533359615 < x4_1) = true := decide_eq_true c27
     clear c27
     simp only [Option.some.injEq, Prod.mk.injEq] at H
     obtain ⟨rfl, rfl, rfl⟩ := H
     have hnb28 := NB150_149.out
     have hnc28 := NB149_150.out
     have hcz29_0 : wr.cell? ⟨gb150, 0, none⟩ = some (.int .i64 0) := (blk_cell BK150.out 0).trans rfl
     have hcz29_1 : wr.cell? ⟨gb150, 1, none⟩ = some (.int .i64 0) := (blk_cell BK150.out 1).trans rfl
     have hcz29_2 : wr.cell? ⟨gb150, 2, none⟩ = some (.bool false) := (blk_cell BK150.out 2).trans rfl
     have hfz29_0 := blk_frozen BK150.out 0
     have hfz29_1 := blk_frozen BK150.out 1
     have hfz29_2 := blk_frozen BK150.out 2
     go_wp2
     refine bodyPost_ret (results_cell_row rfl _ _ gb150 50 #[.int .i64 0, .int .i64 0, .bool false] (0, 0) _ rfl (by (with_reducible repeat (first | refine blk_drewN ?_ _ | refine blk_drew ?_ | refine blk_alloc ?_ _)); refine blk_put (cs := #[.int .i64 0, .int .i64 0, .bool false]) ?_ 2 _ rfl; (with_reducible repeat (first | refine blk_drewN ?_ _ | refine blk_drew ?_ | refine blk_alloc ?_ _)); refine blk_put (cs := #[.int .i64 0, .int .i64 0, .bool false]) ?_ 1 _ rfl; (with_reducible repeat (first | refine blk_drewN ?_ _ | refine blk_drew ?_ | refine blk_alloc ?_ _)); refine blk_put (cs := #[.int .i64 0, .int .i64 0, .bool false]) ?_ 0 _ rfl; (with_reducible repeat (first | refine blk_drewN ?_ _ | refine blk_drew ?_ | refine blk_alloc ?_ _)); exact BK150.out) Tryz.underlying50 rfl (by kernel_rfl)) rfl ?_
     exact ⟨by first | rfl | (simp [errW_none, errW_some] <;> rfl) | (simp [*, errW_none, errW_some] <;> rfl), bz⟩
    ·rw [if_neg c27] at H
     have c27b0 : decide (2533359615 < x4_1) = false := decide_eq_false c27
     clear c27
     have HC30 := Aside0.mk H
     clear H
     go_upto_region 11 with (fail)
     go_cut [47] (fun v47 wc => ∃ (kq : Nat) (x47_29 : Bool), v47 = .bool x47_29 ∧ Aside0 (manorboyref02_Quotient_Round.j1 kq x4_1 x47_29 a0_0 l0_1 l0_2 = some (r1, r2, r3)) ∧ Aside0 (kq ≤ k1) ∧ Aside0 (wc.heap[gb149]? = some (.cells #[.bool a0_0, (.slice A0_1 l0_1.length c0_1), (.slice A0_2 l0_2.length c0_2)] 102 (0, 0))) ∧ Aside0 (wc.heap[gb150]? = some (.cells #[.int .i64 0, .int .i64 0, .bool false] 50 (0, 0))) ∧ Aside0 (Below w.heap.size w wc))
     case first => as_aux_lemma =>
      have H := HC30.out
      clear HC30
      replace H := Option.bind_eq_some_iff.mp H
      obtain ⟨t164, A310, H⟩ := H
      try dsimp only at H
      have A31 := Aside0.mk A310
      clear A310
      replace H := Option.bind_eq_some_iff.mp H
      obtain ⟨t167, A320, H⟩ := H
      try dsimp only at H
      have A32 := Aside0.mk A320
      clear A320
      replace H := Option.bind_eq_some_iff.mp H
      obtain ⟨t170, A330, H⟩ := H
      try dsimp only at H
      have A33 := Aside0.mk A330
      clear A330
      by_cases c34 : t170 = 0
      ·rw [if_pos c34] at H
       have c34b0 : (t170 == 0) = true := beq_iff_eq.mpr c34
       have c34b1 : (t170 != 0) = false := bne_eq_false_iff_eq.mpr c34
       clear c34
       (first | rw [c34b0] | (simp only [i64_w, i32_w]; rw [c34b0]) | skip)
       replace H := Option.bind_eq_some_iff.mp H
       obtain ⟨⟨t171, t172⟩, A350, H⟩ := H
       try dsimp only at H
       have A35 := Aside0.mk A350
       clear A350
       have H' := Aside0.mk H
       clear H
       try go_wp2
       replace HO_3 := Aside0.mk (Kd.R_drew HO_3.out)
       replace BK149 := Aside0.mk (blk_drew BK149.out)
       replace BK150 := Aside0.mk (blk_drew BK150.out)
       replace HB := Aside0.mk (below_drew1 HB.out)
       refine start_ (n := 15) (S := fun w' => w'.cell? ⟨gb149, 0, none⟩ = some (.bool a0_0) ∧ w'.cell? ⟨gb149, 1, none⟩ = some (.slice A0_1 l0_1.length c0_1) ∧ w'.cell? ⟨gb149, 2, none⟩ = some (.slice A0_2 l0_2.length c0_2)) (ds := []) #[false, false, false, false, false, false, false, false, false, false, false, false, false, false, false] (by kernel_rfl) rfl rfl ⟨(blk_cell BK149.out 0).trans rfl, (blk_cell BK149.out 1).trans rfl, (blk_cell BK149.out 2).trans rfl⟩ (fun hHeld => ?_); refine with_tabW manorboyref02_Quotient_Round.tab11 manorboyref02_Quotient_Round.bits11 (fun HT_ HW_ => ?_)
       generalize wr.drew = w36 at HO_3 BK149 BK150 HB hHeld ⊢
       refine pur 0 (some 33) #[tt,ff,ff,ff,ff,ff,ff,ff,ff,ff,ff,ff,ff,ff,ff] ?_
       refine pur 2 (some 35) #[tt,ff,tt,ff,ff,ff,ff,ff,ff,ff,ff,ff,ff,ff,ff] ?_
       refine pur 5 (some 38) #[tt,ff,tt,ff,ff,tt,ff,ff,ff,ff,ff,ff,ff,ff,ff] ?_
       refine take_ (i := 3) (N := some 36) (v := ?_) (a' := ?_) #[true, false, true, true, false, true, false, false, false, false, false, false, false, false, false] rfl rfl (take_ofW HT_.out HW_.out (by kernel_rfl)) (fun _ _ _ h => h) (Or.inl ⟨by rfl, ?_⟩) hHeld ?_ ?_
       rotate_left
       ·rintro w' ⟨s0, s1, s2⟩
        go_simp
        with_reducible rfl
       rotate_left
       ·simp only [Act.put, List.setIfInBounds_toArray, List.set_cons_zero, List.set_cons_succ, i64_w, i32_w]
        rfl
       refine one_ (i := 1) (N := some 34) #[true, true, true, true, false, true, false, false, false, false, false, false, false, false, false] rfl rfl (one_of HT_.out (by kernel_rfl)) (by decide) (fun K hK => ?_)
       refine goes_ Tryz.func108 (by kernel_rfl) rfl #[.int .i64 x4_1] (by rfl) rfl rfl az ?_
       with_reducible refine (manorboyref02_half.calls k1 x4_1 t164 _ A31.out).mono ?_
       rintro e w37 ⟨v165, rfl, ho0, hb⟩
       refine ⟨_, rfl, ?_⟩
       have HO166 := Aside0.mk (Kd.R_lower (Kd.R_new' ho0 (Kd.R_lt (rz HO_3))) (below_size bz))
       replace HO_3 := Aside0.mk (Kd.R_elder' (rz HO_3) (Kd.R_base ho0) hb)
       replace BK149 := kb BK149 hb
       replace BK150 := kb BK150 hb
       replace HB := bs hb
       (try clear hb)
       (try clear hk)
       (try clear ho0)
       obtain ⟨Ao38, co38, eo38⟩ := Kd.R_slice HO166.out
       (first | subst eo38 | (injection eo38 with f1_ f2_ f3_; have f4_ := f1_.symm; have f5_ := f3_.symm; clear f1_ f2_ f3_; subst f4_; subst f5_))
       refine hK.out _ _ ⟨(blk_cell BK149.out 0).trans rfl, (blk_cell BK149.out 1).trans rfl, (blk_cell BK149.out 2).trans rfl⟩ (fun hHeld => ?_)
       clear hK K
       refine norm_ (a' := ?_) ?_ ?_
       rotate_left
       ·show Act.put _ (some 34) _ = _
        simp only [Act.put, List.setIfInBounds_toArray, List.set_cons_zero, List.set_cons_succ, i64_w, i32_w]
        rfl
       refine one_ (i := 4) (N := some 37) #[true, true, true, true, true, true, false, false, false, false, false, false, false, false, false] rfl rfl (one_of HT_.out (by kernel_rfl)) (by decide) (fun K hK => ?_)
       refine goes_ Tryz.func86 (by kernel_rfl) rfl #[.slice Ao38 t164.length co38, .slice A0_2 l0_2.length c0_2] (by rfl) rfl rfl az ?_
       with_reducible refine (manorboyref02_Nat_Mul.calls k1 _ _ t164 _ _ l0_2 t167 _ ?side1 ?side2 ?side3 ?side4 A32.out).mono ?_
       (case side1 => exact ccz (Kd.R_reads' HO166.out).2.2)
       (case side2 => exact (Kd.R_reads' HO166.out).2.1)
       (case side3 => exact ccz (Kd.C_below HR0_2.out HB.out))
       (case side4 => exact HC0_2.out)
       rintro e w39 ⟨v168, rfl, ho0, hb⟩
       refine ⟨_, rfl, ?_⟩
       have HO169 := Aside0.mk (Kd.R_lower (Kd.R_new' (Kd.R_new' ho0 (Kd.R_lt (rz HO_3))) (Kd.R_lt (rz HO166))) (below_size bz))
       replace HO_3 := Aside0.mk (Kd.R_elder' (rz HO_3) (Kd.R_base ho0) hb)
       replace HO166 := Aside0.mk (Kd.R_elder' (rz HO166) (Kd.R_base ho0) hb)
       replace BK149 := kb BK149 hb
       replace BK150 := kb BK150 hb
       replace HB := bs hb
       (try clear hb)
       (try clear hk)
       (try clear ho0)
       obtain ⟨Ao40, co40, eo40⟩ := Kd.R_slice HO169.out
       (first | subst eo40 | (injection eo40 with f1_ f2_ f3_; have f4_ := f1_.symm; have f5_ := f3_.symm; clear f1_ f2_ f3_; subst f4_; subst f5_))
       obtain ⟨Ao41, co41, eo41⟩ := Kd.R_slice HO_3.out
       (first | subst eo41 | (injection eo41 with f1_ f2_ f3_; have f4_ := f1_.symm; have f5_ := f3_.symm; clear f1_ f2_ f3_; subst f4_; subst f5_))
       refine hK.out _ _ ⟨(blk_cell BK149.out 0).trans rfl, (blk_cell BK149.out 1).trans rfl, (blk_cell BK149.out 2).trans rfl⟩ (fun hHeld => ?_)
       clear hK K
       refine norm_ (a' := ?_) ?_ ?_
       rotate_left
       ·show Act.put _ (some 37) _ = _
        simp only [Act.put, List.setIfInBounds_toArray, List.set_cons_zero, List.set_cons_succ, i64_w, i32_w]
        rfl
       refine one_ (i := 6) (N := some 39) #[true, true, true, true, true, true, true, false, false, false, false, false, false, false, false] rfl rfl (one_of HT_.out (by kernel_rfl)) (by decide) (fun K hK => ?_)
       refine goes_ Tryz.func104 (by kernel_rfl) rfl #[.slice Ao40 t167.length co40, .slice Ao41 t154.length co41] (by rfl) rfl rfl az ?_
       with_reducible refine (manorboyref02_Nat_Cmp.calls k1 _ _ t167 _ _ t154 t170 _ ?side1 ?side2 ?side3 ?side4 A33.out).mono ?_
       (case side1 => exact ccz (Kd.R_reads' HO169.out).2.2)
       (case side2 => exact (Kd.R_reads' HO169.out).2.1)
       (case side3 => exact ccz (Kd.R_reads' HO_3.out).2.2)
       (case side4 => exact (Kd.R_reads' HO_3.out).2.1)
       rintro e w' ⟨rfl, ⟨nd, rfl⟩⟩
       refine ⟨_, rfl, ?_⟩
       refine hK.out _ _ ⟨(blk_cell BK149.out 0).trans rfl, (blk_cell BK149.out 1).trans rfl, (blk_cell BK149.out 2).trans rfl⟩ (fun hHeld => ?_)
       clear hK K
       refine norm_ (a' := ?_) ?_ ?_
       rotate_left
       ·show Act.put _ (some 39) _ = _
        simp only [Act.put, List.setIfInBounds_toArray, List.set_cons_zero, List.set_cons_succ, i64_w, i32_w]
        rfl
       refine pur 7 (some 40) #[tt,tt,tt,tt,tt,tt,tt,tt,ff,ff,ff,ff,ff,ff,ff] ?_
       refine pur 8 (some 41) #[tt,tt,tt,tt,tt,tt,tt,tt,tt,ff,ff,ff,ff,ff,ff] ?_
       refine pur 9 (some 42) #[tt,tt,tt,tt,tt,tt,tt,tt,tt,tt,ff,ff,ff,ff,ff] ?_
       refine one_ (i := 10) (N := some 43) #[true, true, true, true, true, true, true, true, true, true, true, false, false, false, false] rfl rfl (one_of HT_.out (by kernel_rfl)) (by decide) (fun K hK => ?_)
       refine goes_ Tryz.func56 (by kernel_rfl) rfl #[.int .i64 x4_1] (by rfl) rfl rfl az ?_
       with_reducible refine (manorboyref02_At.calls k1 x4_1 t171 t172 _ A35.out).mono ?_
       rintro e w42 ⟨rfl, hb⟩
       refine ⟨_, rfl, ?_⟩
       replace HO_3 := rb HO_3 hb
       replace HO166 := rb HO166 hb
       replace HO169 := rb HO169 hb
       replace BK149 := kb BK149 hb
       replace BK150 := kb BK150 hb
       replace HB := bs hb
       (try clear hb)
       (try clear hk)
       refine hK.out _ _ ⟨(blk_cell BK149.out 0).trans rfl, (blk_cell BK149.out 1).trans rfl, (blk_cell BK149.out 2).trans rfl⟩ (fun hHeld => ?_)
       clear hK K
       refine norm_ (a' := ?_) ?_ ?_
       rotate_left
       ·show Act.put _ (some 43) _ = _
        simp only [Act.put, List.setIfInBounds_toArray, List.set_cons_zero, List.set_cons_succ, i64_w, i32_w]
        rfl
       refine pur 11 (some 44) #[tt,tt,tt,tt,tt,tt,tt,tt,tt,tt,tt,tt,ff,ff,ff] ?_
       refine pur 12 (some 45) #[tt,tt,tt,tt,tt,tt,tt,tt,tt,tt,tt,tt,tt,ff,ff] ?_
       refine pur 13 (some 46) #[tt,tt,tt,tt,tt,tt,tt,tt,tt,tt,tt,tt,tt,tt,ff] ?_
       refine pur 14 (some 47) #[tt,tt,tt,tt,tt,tt,tt,tt,tt,tt,tt,tt,tt,tt,tt] ?_
       refine done_ (done_of HT_.out (by kernel_rfl)) ?_
       try go_wp2
       go_meet
       case rel => exact ⟨_, (((Int.tmod t171 2) != 0)), (by first | rfl | (simp; done) | (simp [*]; done)), H', ⟨by have := HK1.out; first | omega | exact Nat.le_refl _⟩, ⟨kz BK149⟩, ⟨kz BK150⟩, ⟨bz⟩⟩
      ·rw [if_neg c34] at H
       have c34b0 : (t170 == 0) = false := beq_eq_false_iff_ne.mpr c34
       have c34b1 : (t170 != 0) = true := bne_iff_ne.mpr c34
       (first | rw [c34b0] | (simp only [i64_w, i32_w]; rw [c34b0]) | skip)
       have H' := Aside0.mk H
       clear H
       try go_wp2
       replace HO_3 := Aside0.mk (Kd.R_drew HO_3.out)
       replace BK149 := Aside0.mk (blk_drew BK149.out)
       replace BK150 := Aside0.mk (blk_drew BK150.out)
       replace HB := Aside0.mk (below_drew1 HB.out)
       refine start_ (n := 15) (S := fun w' => w'.cell? ⟨gb149, 0, none⟩ = some (.bool a0_0) ∧ w'.cell? ⟨gb149, 1, none⟩ = some (.slice A0_1 l0_1.length c0_1) ∧ w'.cell? ⟨gb149, 2, none⟩ = some (.slice A0_2 l0_2.length c0_2)) (ds := []) #[false, false, false, false, false, false, false, false, false, false, false, false, false, false, false] (by kernel_rfl) rfl rfl ⟨(blk_cell BK149.out 0).trans rfl, (blk_cell BK149.out 1).trans rfl, (blk_cell BK149.out 2).trans rfl⟩ (fun hHeld => ?_); refine with_tabW manorboyref02_Quotient_Round.tab11 manorboyref02_Quotient_Round.bits11 (fun HT_ HW_ => ?_)
       generalize wr.drew = w43 at HO_3 BK149 BK150 HB hHeld ⊢
       refine pur 0 (some 33) #[tt,ff,ff,ff,ff,ff,ff,ff,ff,ff,ff,ff,ff,ff,ff] ?_
       refine pur 2 (some 35) #[tt,ff,tt,ff,ff,ff,ff,ff,ff,ff,ff,ff,ff,ff,ff] ?_
       refine pur 5 (some 38) #[tt,ff,tt,ff,ff,tt,ff,ff,ff,ff,ff,ff,ff,ff,ff] ?_
       refine take_ (i := 3) (N := some 36) (v := ?_) (a' := ?_) #[true, false, true, true, false, true, false, false, false, false, false, false, false, false, false] rfl rfl (take_ofW HT_.out HW_.out (by kernel_rfl)) (fun _ _ _ h => h) (Or.inl ⟨by rfl, ?_⟩) hHeld ?_ ?_
       rotate_left
       ·rintro w' ⟨s0, s1, s2⟩
        go_simp
        with_reducible rfl
       rotate_left
       ·simp only [Act.put, List.setIfInBounds_toArray, List.set_cons_zero, List.set_cons_succ, i64_w, i32_w]
        rfl
       refine one_ (i := 1) (N := some 34) #[true, true, true, true, false, true, false, false, false, false, false, false, false, false, false] rfl rfl (one_of HT_.out (by kernel_rfl)) (by decide) (fun K hK => ?_)
       refine goes_ Tryz.func108 (by kernel_rfl) rfl #[.int .i64 x4_1] (by rfl) rfl rfl az ?_
       with_reducible refine (manorboyref02_half.calls k1 x4_1 t164 _ A31.out).mono ?_
       rintro e w44 ⟨v165, rfl, ho0, hb⟩
       refine ⟨_, rfl, ?_⟩
       have HO166 := Aside0.mk (Kd.R_lower (Kd.R_new' ho0 (Kd.R_lt (rz HO_3))) (below_size bz))
       replace HO_3 := Aside0.mk (Kd.R_elder' (rz HO_3) (Kd.R_base ho0) hb)
       replace BK149 := kb BK149 hb
       replace BK150 := kb BK150 hb
       replace HB := bs hb
       (try clear hb)
       (try clear hk)
       (try clear ho0)
       obtain ⟨Ao45, co45, eo45⟩ := Kd.R_slice HO166.out
       (first | subst eo45 | (injection eo45 with f1_ f2_ f3_; have f4_ := f1_.symm; have f5_ := f3_.symm; clear f1_ f2_ f3_; subst f4_; subst f5_))
       refine hK.out _ _ ⟨(blk_cell BK149.out 0).trans rfl, (blk_cell BK149.out 1).trans rfl, (blk_cell BK149.out 2).trans rfl⟩ (fun hHeld => ?_)
       clear hK K
       refine norm_ (a' := ?_) ?_ ?_
       rotate_left
       ·show Act.put _ (some 34) _ = _
        simp only [Act.put, List.setIfInBounds_toArray, List.set_cons_zero, List.set_cons_succ, i64_w, i32_w]
        rfl
       refine one_ (i := 4) (N := some 37) #[true, true, true, true, true, true, false, false, false, false, false, false, false, false, false] rfl rfl (one_of HT_.out (by kernel_rfl)) (by decide) (fun K hK => ?_)
       refine goes_ Tryz.func86 (by kernel_rfl) rfl #[.slice Ao45 t164.length co45, .slice A0_2 l0_2.length c0_2] (by rfl) rfl rfl az ?_
       with_reducible refine (manorboyref02_Nat_Mul.calls k1 _ _ t164 _ _ l0_2 t167 _ ?side1 ?side2 ?side3 ?side4 A32.out).mono ?_
       (case side1 => exact ccz (Kd.R_reads' HO166.out).2.2)
       (case side2 => exact (Kd.R_reads' HO166.out).2.1)
       (case side3 => exact ccz (Kd.C_below HR0_2.out HB.out))
       (case side4 => exact HC0_2.out)
       rintro e w46 ⟨v168, rfl, ho0, hb⟩
       refine ⟨_, rfl, ?_⟩
       have HO169 := Aside0.mk (Kd.R_lower (Kd.R_new' (Kd.R_new' ho0 (Kd.R_lt (rz HO_3))) (Kd.R_lt (rz HO166))) (below_size bz))
       replace HO_3 := Aside0.mk (Kd.R_elder' (rz HO_3) (Kd.R_base ho0) hb)
       replace HO166 := Aside0.mk (Kd.R_elder' (rz HO166) (Kd.R_base ho0) hb)
       replace BK149 := kb BK149 hb
       replace BK150 := kb BK150 hb
       replace HB := bs hb
       (try clear hb)
       (try clear hk)
       (try clear ho0)
       obtain ⟨Ao47, co47, eo47⟩ := Kd.R_slice HO169.out
       (first | subst eo47 | (injection eo47 with f1_ f2_ f3_; have f4_ := f1_.symm; have f5_ := f3_.symm; clear f1_ f2_ f3_; subst f4_; subst f5_))
       obtain ⟨Ao48, co48, eo48⟩ := Kd.R_slice HO_3.out
       (first | subst eo48 | (injection eo48 with f1_ f2_ f3_; have f4_ := f1_.symm; have f5_ := f3_.symm; clear f1_ f2_ f3_; subst f4_; subst f5_))
       refine hK.out _ _ ⟨(blk_cell BK149.out 0).trans rfl, (blk_cell BK149.out 1).trans rfl, (blk_cell BK149.out 2).trans rfl⟩ (fun hHeld => ?_)
       clear hK K
       refine norm_ (a' := ?_) ?_ ?_
       rotate_left
       ·show Act.put _ (some 37) _ = _
        simp only [Act.put, List.setIfInBounds_toArray, List.set_cons_zero, List.set_cons_succ, i64_w, i32_w]
        rfl
       refine one_ (i := 6) (N := some 39) #[true, true, true, true, true, true, true, false, false, false, false, false, false, false, false] rfl rfl (one_of HT_.out (by kernel_rfl)) (by decide) (fun K hK => ?_)
       refine goes_ Tryz.func104 (by kernel_rfl) rfl #[.slice Ao47 t167.length co47, .slice Ao48 t154.length co48] (by rfl) rfl rfl az ?_
       with_reducible refine (manorboyref02_Nat_Cmp.calls k1 _ _ t167 _ _ t154 t170 _ ?side1 ?side2 ?side3 ?side4 A33.out).mono ?_
       (case side1 => exact ccz (Kd.R_reads' HO169.out).2.2)
       (case side2 => exact (Kd.R_reads' HO169.out).2.1)
       (case side3 => exact ccz (Kd.R_reads' HO_3.out).2.2)
       (case side4 => exact (Kd.R_reads' HO_3.out).2.1)
       rintro e w' ⟨rfl, ⟨nd, rfl⟩⟩
       refine ⟨_, rfl, ?_⟩
       refine hK.out _ _ ⟨(blk_cell BK149.out 0).trans rfl, (blk_cell BK149.out 1).trans rfl, (blk_cell BK149.out 2).trans rfl⟩ (fun hHeld => ?_)
       clear hK K
       refine norm_ (a' := ?_) ?_ ?_
       rotate_left
       ·show Act.put _ (some 39) _ = _
        simp only [Act.put, List.setIfInBounds_toArray, List.set_cons_zero, List.set_cons_succ, i64_w, i32_w]
        rfl
       refine pur 7 (some 40) #[tt,tt,tt,tt,tt,tt,tt,tt,ff,ff,ff,ff,ff,ff,ff] ?_
       refine pur 8 (some 41) #[tt,tt,tt,tt,tt,tt,tt,tt,tt,ff,ff,ff,ff,ff,ff] ?_
       refine pure_ (i := 9) (N := some 42) (v := undef) (a' := ?_) #[true, true, true, true, true, true, true, true, true, true, false, false, false, false, false] rfl rfl (any_of HT_.out (by kernel_rfl)) (fun _ _ _ h => h) (Or.inr ⟨by rfl, rfl⟩) ?_ ?_
       rotate_left
       ·simp only [Act.put, List.setIfInBounds_toArray, List.set_cons_zero, List.set_cons_succ, i64_w, i32_w]
        rfl
       refine pure_ (i := 10) (N := some 43) (v := undef) (a' := ?_) #[true, true, true, true, true, true, true, true, true, true, true, false, false, false, false] rfl rfl (any_of HT_.out (by kernel_rfl)) (fun _ _ _ h => h) (Or.inr ⟨by rfl, rfl⟩) ?_ ?_
       rotate_left
       ·simp only [Act.put, List.setIfInBounds_toArray, List.set_cons_zero, List.set_cons_succ, i64_w, i32_w]
        rfl
       refine pure_ (i := 11) (N := some 44) (v := undef) (a' := ?_) #[true, true, true, true, true, true, true, true, true, true, true, true, false, false, false] rfl rfl (any_of HT_.out (by kernel_rfl)) (fun _ _ _ h => h) (Or.inr ⟨by rfl, rfl⟩) ?_ ?_
       rotate_left
       ·simp only [Act.put, List.setIfInBounds_toArray, List.set_cons_zero, List.set_cons_succ, i64_w, i32_w]
        rfl
       refine pure_ (i := 12) (N := some 45) (v := undef) (a' := ?_) #[true, true, true, true, true, true, true, true, true, true, true, true, true, false, false] rfl rfl (any_of HT_.out (by kernel_rfl)) (fun _ _ _ h => h) (Or.inr ⟨by rfl, rfl⟩) ?_ ?_
       rotate_left
       ·simp only [Act.put, List.setIfInBounds_toArray, List.set_cons_zero, List.set_cons_succ, i64_w, i32_w]
        rfl
       refine pure_ (i := 13) (N := some 46) (v := undef) (a' := ?_) #[true, true, true, true, true, true, true, true, true, true, true, true, true, true, false] rfl rfl (any_of HT_.out (by kernel_rfl)) (fun _ _ _ h => h) (Or.inr ⟨by rfl, rfl⟩) ?_ ?_
       rotate_left
       ·simp only [Act.put, List.setIfInBounds_toArray, List.set_cons_zero, List.set_cons_succ, i64_w, i32_w]
        rfl
       refine pur 14 (some 47) #[tt,tt,tt,tt,tt,tt,tt,tt,tt,tt,tt,tt,tt,tt,tt] ?_
       refine done_ (done_of HT_.out (by kernel_rfl)) ?_
       try go_wp2
       go_meet
       case rel => exact ⟨_, (false), (by first | rfl | (simp; done) | (simp [*]; done)), H', ⟨by have := HK1.out; first | omega | exact Nat.le_refl _⟩, ⟨kz BK149⟩, ⟨kz BK150⟩, ⟨bz⟩⟩
     case rest => as_aux_lemma =>
      clear HC30
      try clear c10
      try clear c10b0
      try clear c27
      try clear c27b0
      try clear c34
      try clear c34b0
      try clear c34b1
      try clear hcz29_0
      try clear hcz29_1
      try clear hcz29_2
      try clear hfz29_0
      try clear hfz29_1
      try clear hfz29_2
      obtain ⟨kq, x47_29, rfl, HA, HJ29, BK149, BK150, HB⟩ := hcut
      cases kq with
      | zero => exact absurd HA.out (by simp [manorboyref02_Quotient_Round.j1])
      | succ kj29 =>
       have H := HA.out
       clear HA
       simp only [manorboyref02_Quotient_Round.j1] at H
       have HC49 := Aside0.mk H
       clear H
       go_upto_if 47 with (fail)
       go_cut [4] (fun v4 wc => ∃ (kq : Nat) (x4_48 : Int), v4 = .int .i64 x4_48 ∧ Aside0 (manorboyref02_Quotient_Round.j2 kq x4_48 a0_0 l0_1 l0_2 = some (r1, r2, r3)) ∧ Aside0 (kq ≤ kj29) ∧ Aside0 (wc.heap[gb149]? = some (.cells #[.bool a0_0, (.slice A0_1 l0_1.length c0_1), (.slice A0_2 l0_2.length c0_2)] 102 (0, 0))) ∧ Aside0 (wc.heap[gb150]? = some (.cells #[.int .i64 0, .int .i64 0, .bool false] 50 (0, 0))) ∧ Aside0 (Below w.heap.size w wc))
       case first => as_aux_lemma =>
        have H := HC49.out
        clear HC49
        by_cases c50 : x47_29 = true
        ·subst c50
         rw [if_pos rfl] at H
         have H' := Aside0.mk H
         clear H
         go_wp2
         go_meet
         case rel => exact ⟨_, (wrap64 (x4_1 + 1)), (by first | rfl | (simp; done) | (simp [*]; done)), H', ⟨by have := HK1.out; have := HJ29.out; first | omega | exact Nat.le_refl _⟩, ⟨kz BK149⟩, ⟨kz BK150⟩, ⟨bz⟩⟩
        ·replace c50 := Bool.eq_false_iff.mpr c50
         subst c50
         rw [if_neg (show ¬ (false = true) by decide)] at H
         have H' := Aside0.mk H
         clear H
         go_wp2
         go_meet
         case rel => exact ⟨_, (x4_1), (by first | rfl | (simp; done) | (simp [*]; done)), H', ⟨by have := HK1.out; have := HJ29.out; first | omega | exact Nat.le_refl _⟩, ⟨kz BK149⟩, ⟨kz BK150⟩, ⟨bz⟩⟩
       case rest => as_aux_lemma =>
        clear HC49
        try clear c10
        try clear c10b0
        try clear c27
        try clear c27b0
        try clear c34
        try clear c34b0
        try clear c34b1
        try clear c50
        try clear hcz29_0
        try clear hcz29_1
        try clear hcz29_2
        try clear hfz29_0
        try clear hfz29_1
        try clear hfz29_2
        obtain ⟨kq, x4_48, rfl, HA, HJ48, BK149, BK150, HB⟩ := hcut
        cases kq with
        | zero => exact absurd HA.out (by simp [manorboyref02_Quotient_Round.j2])
        | succ kj48 =>
         have H := HA.out
         clear HA
         simp only [manorboyref02_Quotient_Round.j2] at H
         by_cases c51 : x4_48 > 2533359615
         ·rw [if_pos c51] at H
          have c51b0 : decide (2533359615 < x4_48) = true := decide_eq_true c51
          clear c51
          simp only [Option.some.injEq, Prod.mk.injEq] at H
          obtain ⟨rfl, rfl, rfl⟩ := H
          have hnb52 := NB150_149.out
          have hnc52 := NB149_150.out
          have hcz53_0 : wc.cell? ⟨gb150, 0, none⟩ = some (.int .i64 0) := (blk_cell BK150.out 0).trans rfl
          have hcz53_1 : wc.cell? ⟨gb150, 1, none⟩ = some (.int .i64 0) := (blk_cell BK150.out 1).trans rfl
          have hcz53_2 : wc.cell? ⟨gb150, 2, none⟩ = some (.bool false) := (blk_cell BK150.out 2).trans rfl
          have hfz53_0 := blk_frozen BK150.out 0
          have hfz53_1 := blk_frozen BK150.out 1
          have hfz53_2 := blk_frozen BK150.out 2
          go_wp2
          refine bodyPost_ret (results_cell_row rfl _ _ gb150 50 #[.int .i64 0, .int .i64 0, .bool false] (0, 0) _ rfl (by (with_reducible repeat (first | refine blk_drewN ?_ _ | refine blk_drew ?_ | refine blk_alloc ?_ _)); refine blk_put (cs := #[.int .i64 0, .int .i64 0, .bool false]) ?_ 2 _ rfl; (with_reducible repeat (first | refine blk_drewN ?_ _ | refine blk_drew ?_ | refine blk_alloc ?_ _)); refine blk_put (cs := #[.int .i64 0, .int .i64 0, .bool false]) ?_ 1 _ rfl; (with_reducible repeat (first | refine blk_drewN ?_ _ | refine blk_drew ?_ | refine blk_alloc ?_ _)); refine blk_put (cs := #[.int .i64 0, .int .i64 0, .bool false]) ?_ 0 _ rfl; (with_reducible repeat (first | refine blk_drewN ?_ _ | refine blk_drew ?_ | refine blk_alloc ?_ _)); exact BK150.out) Tryz.underlying50 rfl (by kernel_rfl)) rfl ?_
          exact ⟨by first | rfl | (simp [errW_none, errW_some] <;> rfl) | (simp [*, errW_none, errW_some] <;> rfl), bz⟩
         ·rw [if_neg c51] at H
          have c51b0 : decide (2533359615 < x4_48) = false := decide_eq_false c51
          clear c51
          replace H := Option.bind_eq_some_iff.mp H
          obtain ⟨⟨t173, t174⟩, A540, H⟩ := H
          try dsimp only at H
          have A54 := Aside0.mk A540
          clear A540
          by_cases c55 : a0_0 = true
          ·subst c55
           rw [if_pos rfl] at H
           replace H := Option.bind_eq_some_iff.mp H
           obtain ⟨⟨t176, t177⟩, A560, H⟩ := H
           try dsimp only at H
           have A56 := Aside0.mk A560
           clear A560
           simp only [Option.some.injEq, Prod.mk.injEq] at H
           obtain ⟨rfl, rfl, rfl⟩ := H
           go_wp2_with (first | ((with_reducible refine gate_callee (f := 56) rfl ?_); refine goesL_ (some 54) rfl rfl Tryz.func56 (by kernel_rfl) rfl #[.int .i64 x4_48] rfl az ?_; (with_reducible refine (manorboyref02_At.calls kj48 x4_48 t173 t174 _ A54.out).mono ?_); rintro e w57 ⟨rfl, hb⟩; refine ⟨_, rfl, ?_⟩; replace BK149 := kb BK149 hb; replace BK150 := kb BK150 hb; replace HB := bs hb; (try clear hb); (try clear hk)) | ((with_reducible refine gate_dst (N := 7) rfl ?_); refine box_event ?hg (N := 7) ?hd (cs := #[.int .i64 0, .int .i64 0]) (t := 23) ?hr ?_; (case hd => rfl); (case hg => rfl); (case hr => first | (go_simp; done) | (go_simp; rfl)); intro gb175 hg w58 hbox hb; have BK175 := Aside0.mk hbox; have GW175 := ge hg; have GE175 := ge hg; have NB149_175 := nl BK149 hg; have NB175_149 := nr BK149 hg; have NB150_175 := nl BK150 hg; have NB175_150 := nr BK150 hg; replace BK149 := kb BK149 hb; replace BK150 := kb BK150 hb; replace HB := bs hb; clear hb hbox hg; have hnb59 := NB175_149.out; have hnc59 := NB149_175.out; have hnb60 := NB175_150.out; have hnc60 := NB150_175.out; have hcz61_0 := c20 BK175; have hcz61_1 := c21 BK175; have hfz61_0 := blk_frozen BK175.out 0; have hfz61_1 := blk_frozen BK175.out 1; have hnb62 := NB149_150.out; have hnc62 := NB150_149.out; have hcz63_0 : w58.cell? ⟨gb149, 0, none⟩ = some (.bool true) := (blk_cell BK149.out 0).trans rfl; have hcz63_1 : w58.cell? ⟨gb149, 1, none⟩ = some (.slice A0_1 l0_1.length c0_1) := (blk_cell BK149.out 1).trans rfl; have hcz63_2 : w58.cell? ⟨gb149, 2, none⟩ = some (.slice A0_2 l0_2.length c0_2) := (blk_cell BK149.out 2).trans rfl; have hfz63_0 := blk_frozen BK149.out 0; have hfz63_1 := blk_frozen BK149.out 1; have hfz63_2 := blk_frozen BK149.out 2) | ((with_reducible refine gate_callee (f := 56) rfl ?_); refine goesL_ (some 59) rfl rfl Tryz.func56 (by kernel_rfl) rfl #[.int .i64 (wrap64 (-x4_48))] rfl az ?_; (with_reducible refine (manorboyref02_At.calls kj48 (wrap64 (-x4_48)) t176 t177 _ A56.out).mono ?_); rintro e w64 ⟨rfl, hb⟩; refine ⟨_, rfl, ?_⟩; replace BK149 := Aside0.mk (blk_below (g := gb149) (o := .cells #[.bool true, .slice A0_1 l0_1.length c0_1, .slice A0_2 l0_2.length c0_2] 102 (0, 0)) (by (with_reducible repeat (first | refine blk_drewN ?_ _ | refine blk_drew ?_ | refine blk_alloc ?_ _)); refine blk_far ?_ NB149_175.out _; (with_reducible repeat (first | refine blk_drewN ?_ _ | refine blk_drew ?_ | refine blk_alloc ?_ _)); refine blk_far ?_ NB149_175.out _; (with_reducible repeat (first | refine blk_drewN ?_ _ | refine blk_drew ?_ | refine blk_alloc ?_ _)); exact BK149.out) hb); replace BK150 := Aside0.mk (blk_below (g := gb150) (o := .cells #[.int .i64 0, .int .i64 0, .bool false] 50 (0, 0)) (by (with_reducible repeat (first | refine blk_drewN ?_ _ | refine blk_drew ?_ | refine blk_alloc ?_ _)); refine blk_far ?_ NB150_175.out _; (with_reducible repeat (first | refine blk_drewN ?_ _ | refine blk_drew ?_ | refine blk_alloc ?_ _)); refine blk_far ?_ NB150_175.out _; (with_reducible repeat (first | refine blk_drewN ?_ _ | refine blk_drew ?_ | refine blk_alloc ?_ _)); exact BK150.out) hb); replace BK175 := Aside0.mk (blk_below (g := gb175) (o := .cells #[.int .i64 t173, .int .i64 t174] 23 (0, 0)) (by (with_reducible repeat (first | refine blk_drewN ?_ _ | refine blk_drew ?_ | refine blk_alloc ?_ _)); refine blk_put (cs := #[.int .i64 t173, .int .i64 0]) ?_ 1 _ rfl; (with_reducible repeat (first | refine blk_drewN ?_ _ | refine blk_drew ?_ | refine blk_alloc ?_ _)); refine blk_put (cs := #[.int .i64 0, .int .i64 0]) ?_ 0 _ rfl; (with_reducible repeat (first | refine blk_drewN ?_ _ | refine blk_drew ?_ | refine blk_alloc ?_ _)); exact BK175.out) hb); replace HB := bs hb; (try clear hb); (try clear hk); have hcz65_0 := c20 BK175; have hcz65_1 := c21 BK175; have hfz65_0 := blk_frozen BK175.out 0; have hfz65_1 := blk_frozen BK175.out 1; have hcz66_0 : w64.cell? ⟨gb150, 0, none⟩ = some (.int .i64 0) := (blk_cell BK150.out 0).trans rfl; have hcz66_1 : w64.cell? ⟨gb150, 1, none⟩ = some (.int .i64 0) := (blk_cell BK150.out 1).trans rfl; have hcz66_2 : w64.cell? ⟨gb150, 2, none⟩ = some (.bool false) := (blk_cell BK150.out 2).trans rfl; have hfz66_0 := blk_frozen BK150.out 0; have hfz66_1 := blk_frozen BK150.out 1; have hfz66_2 := blk_frozen BK150.out 2))
           refine bodyPost_ret (results_cell_row rfl _ _ gb150 50 #[.int .i64 t176, .int .i64 t177, .bool true] (0, 0) _ rfl (by (with_reducible repeat (first | refine blk_drewN ?_ _ | refine blk_drew ?_ | refine blk_alloc ?_ _)); refine blk_put (cs := #[.int .i64 t176, .int .i64 t177, .bool false]) ?_ 2 _ rfl; (with_reducible repeat (first | refine blk_drewN ?_ _ | refine blk_drew ?_ | refine blk_alloc ?_ _)); refine blk_put (cs := #[.int .i64 t176, .int .i64 0, .bool false]) ?_ 1 _ rfl; (with_reducible repeat (first | refine blk_drewN ?_ _ | refine blk_drew ?_ | refine blk_alloc ?_ _)); refine blk_put (cs := #[.int .i64 0, .int .i64 0, .bool false]) ?_ 0 _ rfl; (with_reducible repeat (first | refine blk_drewN ?_ _ | refine blk_drew ?_ | refine blk_alloc ?_ _)); refine blk_far ?_ NB150_175.out _; (with_reducible repeat (first | refine blk_drewN ?_ _ | refine blk_drew ?_ | refine blk_alloc ?_ _)); refine blk_far ?_ NB150_175.out _; (with_reducible repeat (first | refine blk_drewN ?_ _ | refine blk_drew ?_ | refine blk_alloc ?_ _)); exact BK150.out) Tryz.underlying50 rfl (by kernel_rfl)) rfl ?_
           exact ⟨by first | rfl | (simp [errW_none, errW_some] <;> rfl) | (simp [*, errW_none, errW_some] <;> rfl), bz⟩
          ·replace c55 := Bool.eq_false_iff.mpr c55
           subst c55
           rw [if_neg (show ¬ (false = true) by decide)] at H
           simp only [Option.some.injEq, Prod.mk.injEq] at H
           obtain ⟨rfl, rfl, rfl⟩ := H
           go_wp2_with (first | ((with_reducible refine gate_callee (f := 56) rfl ?_); refine goesL_ (some 54) rfl rfl Tryz.func56 (by kernel_rfl) rfl #[.int .i64 x4_48] rfl az ?_; (with_reducible refine (manorboyref02_At.calls kj48 x4_48 t173 t174 _ A54.out).mono ?_); rintro e w67 ⟨rfl, hb⟩; refine ⟨_, rfl, ?_⟩; replace BK149 := kb BK149 hb; replace BK150 := kb BK150 hb; replace HB := bs hb; (try clear hb); (try clear hk)) | ((with_reducible refine gate_dst (N := 7) rfl ?_); refine box_event ?hg (N := 7) ?hd (cs := #[.int .i64 0, .int .i64 0]) (t := 23) ?hr ?_; (case hd => rfl); (case hg => rfl); (case hr => first | (go_simp; done) | (go_simp; rfl)); intro gb175 hg w68 hbox hb; have BK175 := Aside0.mk hbox; have GW175 := ge hg; have GE175 := ge hg; have NB149_175 := nl BK149 hg; have NB175_149 := nr BK149 hg; have NB150_175 := nl BK150 hg; have NB175_150 := nr BK150 hg; replace BK149 := kb BK149 hb; replace BK150 := kb BK150 hb; replace HB := bs hb; clear hb hbox hg; have hnb69 := NB175_149.out; have hnc69 := NB149_175.out; have hnb70 := NB175_150.out; have hnc70 := NB150_175.out; have hcz71_0 := c20 BK175; have hcz71_1 := c21 BK175; have hfz71_0 := blk_frozen BK175.out 0; have hfz71_1 := blk_frozen BK175.out 1; have hnb72 := NB149_150.out; have hnc72 := NB150_149.out; have hcz73_0 : w68.cell? ⟨gb149, 0, none⟩ = some (.bool false) := (blk_cell BK149.out 0).trans rfl; have hcz73_1 : w68.cell? ⟨gb149, 1, none⟩ = some (.slice A0_1 l0_1.length c0_1) := (blk_cell BK149.out 1).trans rfl; have hcz73_2 : w68.cell? ⟨gb149, 2, none⟩ = some (.slice A0_2 l0_2.length c0_2) := (blk_cell BK149.out 2).trans rfl; have hfz73_0 := blk_frozen BK149.out 0; have hfz73_1 := blk_frozen BK149.out 1; have hfz73_2 := blk_frozen BK149.out 2; have hcz74_0 : w68.cell? ⟨gb150, 0, none⟩ = some (.int .i64 0) := (blk_cell BK150.out 0).trans rfl; have hcz74_1 : w68.cell? ⟨gb150, 1, none⟩ = some (.int .i64 0) := (blk_cell BK150.out 1).trans rfl; have hcz74_2 : w68.cell? ⟨gb150, 2, none⟩ = some (.bool false) := (blk_cell BK150.out 2).trans rfl; have hfz74_0 := blk_frozen BK150.out 0; have hfz74_1 := blk_frozen BK150.out 1; have hfz74_2 := blk_frozen BK150.out 2))
           refine bodyPost_ret (results_cell_row rfl _ _ gb150 50 #[.int .i64 t173, .int .i64 t174, .bool true] (0, 0) _ rfl (by (with_reducible repeat (first | refine blk_drewN ?_ _ | refine blk_drew ?_ | refine blk_alloc ?_ _)); refine blk_put (cs := #[.int .i64 t173, .int .i64 t174, .bool false]) ?_ 2 _ rfl; (with_reducible repeat (first | refine blk_drewN ?_ _ | refine blk_drew ?_ | refine blk_alloc ?_ _)); refine blk_put (cs := #[.int .i64 t173, .int .i64 0, .bool false]) ?_ 1 _ rfl; (with_reducible repeat (first | refine blk_drewN ?_ _ | refine blk_drew ?_ | refine blk_alloc ?_ _)); refine blk_put (cs := #[.int .i64 0, .int .i64 0, .bool false]) ?_ 0 _ rfl; (with_reducible repeat (first | refine blk_drewN ?_ _ | refine blk_drew ?_ | refine blk_alloc ?_ _)); refine blk_far ?_ NB150_175.out _; (with_reducible repeat (first | refine blk_drewN ?_ _ | refine blk_drew ?_ | refine blk_alloc ?_ _)); refine blk_far ?_ NB150_175.out _; (with_reducible repeat (first | refine blk_drewN ?_ _ | refine blk_drew ?_ | refine blk_alloc ?_ _)); exact BK150.out) Tryz.underlying50 rfl (by kernel_rfl)) rfl ?_
           exact ⟨by first | rfl | (simp [errW_none, errW_some] <;> rfl) | (simp [*, errW_none, errW_some] <;> rfl), bz⟩

end Go.Proofs.YteigbokklclmbaaGreatDoor.Z.Y.V
end
section
namespace Go.Proofs.YteigbokklclmbaaGreatDoor.Z.Y.V
open Go.RowKit Go.Proofs.YteigbokklclmbaaGreatDoor.Given Go.Proofs.YteigbokklclmbaaGreatDoorW.PrintWords Go.Proofs.YteigbokklclmbaaGreatDoorW.PrintLast Go.Proofs.YteigbokklclmbaaGreatDoorW.PrintMore
attribute [local go_sem] max2_int min2_int max_two min_two max_three min_three max_four min_four   -- for this text's walks alone

mutual
def manorboyref02_Of.j0 : Nat → Int → Int → Int → Option (Bool × List Int × List Int)
 | 0, _, _, _ => none
 | k + 1, x3, x179000, x179001 => if x3 = 0 then (manorboyref02_Of.j1 k x3 (-150) x179000 x179001) else (manorboyref02_Of.j1 k x3 x179001 x179000 x179001)
def manorboyref02_Of.j1 : Nat → Int → Int → Int → Int → Option (Bool × List Int × List Int)
 | 0, _, _, _, _ => none
 | k + 1, x3, x4, x179000, x179001 => (manorboyref02_Small.f k x3).bind fun t180 => ((manorboyref02_Two.f (wrap64 (x4 + 150))).bind fun t183 => ((manorboyref02_Nat_Mul.f k t180 t183).bind fun t186 => ((manorboyref02_Two.f 150).bind fun t189 => (some (decide (x179000 < 0), t186, t189)))))
end
def manorboyref02_Of.f (k : Nat) (a0_0 : Int) (a0_1 : Int) : Option (Bool × List Int × List Int) := if a0_0 < 0 then (manorboyref02_Of.j0 k (wrap64 (-a0_0)) a0_0 a0_1) else (manorboyref02_Of.j0 k a0_0 a0_0 a0_1)
def manorboyref02_Of.T7 : Bool × List (List Nat × List Nat) := (true, [([], []), ([0], [0]), ([1], [1]), ([], []), ([3], [3]), ([], []), ([5], [5]), ([6, 4], [6]), ([4, 7, 7], [4, 7]), ([8], []), ([2, 8, 9], [2, 8, 9]), ([10, 9, 0, 1, 2, 3, 4, 5, 6, 7, 8, 9, 10], [10])])
def manorboyref02_Of.B7 : List Nat := [0, 1, 3, 0, 8, 0, 32, 120, 248, 504, 1023, 2047]
theorem manorboyref02_Of.tab7 : rtab .any (opsOf Tryz.f102 7) = manorboyref02_Of.T7 := by kernel_rfl
theorem manorboyref02_Of.bits7 : waitsOk manorboyref02_Of.T7.2 manorboyref02_Of.B7 = true := by kernel_rfl
theorem manorboyref02_Of.calls (k : Nat) (a0_0 : Int) (a0_1 : Int) (r1 : Bool) (r2 : List Int) (r3 : List Int) (w : World) (h : manorboyref02_Of.f k a0_0 a0_1 = some (r1, r2, r3)) :
  Calls Tryz.prog 102 #[.agg #[.int .i64 a0_0, .int .i64 a0_1]] w fun e w' => ∃ v1_ v2_ : Value, e = .returned (.agg #[.bool r1, v1_, v2_]) ∧ Kd.R (Kd.int .i64) 3 w' w.heap.size (fun k_ => some k_ ≠ (v2_ : Value).ownBlock) v1_ r2 ∧ Kd.R (Kd.int .i64) 3 w' w.heap.size (fun k_ => some k_ ≠ (v1_ : Value).ownBlock) v2_ r3 ∧ Below w.heap.size w w' := by
 have hu23 := Tryz.underlying23
 have hu102 := Tryz.underlying102
 have HB := Aside0.mk (Below.refl w.heap.size w)
 have H := h; unfold manorboyref02_Of.f at H; clear h
 have HC2 := Aside0.mk H
 clear H
 go_enter Tryz.func102, Tryz.ntmps102
 go_upto_if 8 with (first | ((with_reducible refine gate_dst (N := 1) rfl ?_); refine box_event ?hg (N := 1) ?hd (cs := #[.int .i64 a0_0, .int .i64 a0_1]) (t := 23) ?hr ?_; (case hd => rfl); (case hg => rfl); (case hr => first | (go_simp; done) | (go_simp; rfl)); intro gb178 hg w3 hbox hb; have BK178 := Aside0.mk hbox; have GW178 := ge hg; have GE178 := ge hg; replace HB := bs hb; clear hb hbox hg) | ((with_reducible refine gate_dst (N := 2) rfl ?_); refine box_event ?hg (N := 2) ?hd (cs := #[.bool false, .slice none 0 0, .slice none 0 0]) (t := 102) ?hr ?_; (case hd => rfl); (case hg => rfl); (case hr => first | (go_simp; done) | (go_simp; rfl)); intro gb179 hg w4 hbox hb; have BK179 := Aside0.mk hbox; have GW179 := ge hg; have GE179 := ge hg; have NB178_179 := nl BK178 hg; have NB179_178 := nr BK178 hg; replace BK178 := kb BK178 hb; replace HB := bs hb; clear hb hbox hg; have hnb5 := NB178_179.out; have hnc5 := NB179_178.out; have hcz6_0 := c20 BK178; have hcz6_1 := c21 BK178; have hfz6_0 := blk_frozen BK178.out 0; have hfz6_1 := blk_frozen BK178.out 1))
 (try simp only [Act.put, List.setIfInBounds_toArray, List.set_cons_zero, List.set_cons_succ])
 go_cut [3] (fun v3 wc => ∃ (kq : Nat) (x3_1 : Int), v3 = .int .i64 x3_1 ∧ Aside0 (manorboyref02_Of.j0 kq x3_1 a0_0 a0_1 = some (r1, r2, r3)) ∧ Aside0 (kq ≤ k) ∧ Aside0 (wc.heap[gb178]? = some (.cells #[.int .i64 a0_0, .int .i64 a0_1] 23 (0, 0))) ∧ Aside0 (wc.heap[gb179]? = some (.cells #[.bool false, (.slice none 0 0), (.slice none 0 0)] 102 (0, 0))) ∧ Aside0 (Below w.heap.size w wc))
 case first => as_aux_lemma =>
  have H := HC2.out
  clear HC2
  by_cases c7 : a0_0 < 0
  ·rw [if_pos c7] at H
   have c7b0 : decide (a0_0 < 0) = true := decide_eq_true c7
   clear c7
   (first | rw [c7b0] | (simp only [i64_w, i32_w]; rw [c7b0]) | skip)
   have H' := Aside0.mk H
   clear H
   go_wp2
   go_meet
   case rel => exact ⟨_, (wrap64 (-a0_0)), (by first | rfl | (simp; done) | (simp [*]; done)), H', ⟨by first | omega | exact Nat.le_refl _⟩, ⟨kz BK178⟩, ⟨kz BK179⟩, ⟨bz⟩⟩
  ·rw [if_neg c7] at H
   have c7b0 : decide (a0_0 < 0) = false := decide_eq_false c7
   clear c7
   (first | rw [c7b0] | (simp only [i64_w, i32_w]; rw [c7b0]) | skip)
   have H' := Aside0.mk H
   clear H
   go_wp2
   go_meet
   case rel => exact ⟨_, (a0_0), (by first | rfl | (simp; done) | (simp [*]; done)), H', ⟨by first | omega | exact Nat.le_refl _⟩, ⟨kz BK178⟩, ⟨kz BK179⟩, ⟨bz⟩⟩
 case rest => as_aux_lemma =>
  clear HC2
  try clear c7
  try clear c7b0
  try clear hcz6_0
  try clear hcz6_1
  try clear hfz6_0
  try clear hfz6_1
  obtain ⟨kq, x3_1, rfl, HA, HJ1, BK178, BK179, HB⟩ := hcut
  cases kq with
  | zero => exact absurd HA.out (by simp [manorboyref02_Of.j0])
  | succ kj1 =>
   have H := HA.out
   clear HA
   simp only [manorboyref02_Of.j0] at H
   have HC8 := Aside0.mk H
   clear H
   have hnb9 := NB178_179.out
   have hnc9 := NB179_178.out
   have hcz10_0 := c20 BK178
   have hcz10_1 := c21 BK178
   have hfz10_0 := blk_frozen BK178.out 0
   have hfz10_1 := blk_frozen BK178.out 1
   go_upto_if 14 with (fail)
   go_cut [4] (fun v4 wc => ∃ (kq : Nat) (x4_7 : Int), v4 = .int .i64 x4_7 ∧ Aside0 (manorboyref02_Of.j1 kq x3_1 x4_7 a0_0 a0_1 = some (r1, r2, r3)) ∧ Aside0 (kq ≤ kj1) ∧ Aside0 (wc.heap[gb178]? = some (.cells #[.int .i64 a0_0, .int .i64 a0_1] 23 (0, 0))) ∧ Aside0 (wc.heap[gb179]? = some (.cells #[.bool false, (.slice none 0 0), (.slice none 0 0)] 102 (0, 0))) ∧ Aside0 (Below w.heap.size w wc))
   case first => as_aux_lemma =>
    have H := HC8.out
    clear HC8
    by_cases c11 : x3_1 = 0
    ·rw [if_pos c11] at H
     have c11b0 : (x3_1 == 0) = true := beq_iff_eq.mpr c11
     have c11b1 : (x3_1 != 0) = false := bne_eq_false_iff_eq.mpr c11
     clear c11
     (first | rw [c11b0] | (simp only [i64_w, i32_w]; rw [c11b0]) | skip)
     have H' := Aside0.mk H
     clear H
     go_wp2
     go_meet
     case rel => exact ⟨_, ((-150)), (by first | rfl | (simp; done) | (simp [*]; done)), H', ⟨by have := HJ1.out; first | omega | exact Nat.le_refl _⟩, ⟨kz BK178⟩, ⟨kz BK179⟩, ⟨bz⟩⟩
    ·rw [if_neg c11] at H
     have c11b0 : (x3_1 == 0) = false := beq_eq_false_iff_ne.mpr c11
     have c11b1 : (x3_1 != 0) = true := bne_iff_ne.mpr c11
     (first | rw [c11b0] | (simp only [i64_w, i32_w]; rw [c11b0]) | skip)
     have H' := Aside0.mk H
     clear H
     go_wp2
     go_meet
     case rel => exact ⟨_, (a0_1), (by first | rfl | (simp; done) | (simp [*]; done)), H', ⟨by have := HJ1.out; first | omega | exact Nat.le_refl _⟩, ⟨kz BK178⟩, ⟨kz BK179⟩, ⟨bz⟩⟩
   case rest => as_aux_lemma =>
    clear HC8
    try clear c7
    try clear c7b0
    try clear c11
    try clear c11b0
    try clear c11b1
    try clear hcz10_0
    try clear hcz10_1
    try clear hcz6_0
    try clear hcz6_1
    try clear hfz10_0
    try clear hfz10_1
    try clear hfz6_0
    try clear hfz6_1
    obtain ⟨kq, x4_7, rfl, HA, HJ7, BK178, BK179, HB⟩ := hcut
    cases kq with
    | zero => exact absurd HA.out (by simp [manorboyref02_Of.j1])
    | succ kj7 =>
     have H := HA.out
     clear HA
     simp only [manorboyref02_Of.j1] at H
     replace H := Option.bind_eq_some_iff.mp H
     obtain ⟨t180, A120, H⟩ := H
     try dsimp only at H
     have A12 := Aside0.mk A120
     clear A120
     replace H := Option.bind_eq_some_iff.mp H
     obtain ⟨t183, A130, H⟩ := H
     try dsimp only at H
     have A13 := Aside0.mk A130
     clear A130
     replace H := Option.bind_eq_some_iff.mp H
     obtain ⟨t186, A140, H⟩ := H
     try dsimp only at H
     have A14 := Aside0.mk A140
     clear A140
     replace H := Option.bind_eq_some_iff.mp H
     obtain ⟨t189, A150, H⟩ := H
     try dsimp only at H
     have A15 := Aside0.mk A150
     clear A150
     simp only [Option.some.injEq, Prod.mk.injEq] at H
     obtain ⟨rfl, rfl, rfl⟩ := H
     try go_wp2
     replace BK178 := Aside0.mk (blk_drew BK178.out)
     replace BK179 := Aside0.mk (blk_drew BK179.out)
     replace HB := Aside0.mk (below_drew1 HB.out)
     refine start_ (n := 12) (S := fun w' => w'.cell? ⟨gb178, 0, none⟩ = some (.int .i64 a0_0) ∧ w'.cell? ⟨gb178, 1, none⟩ = some (.int .i64 a0_1)) (ds := []) #[false, false, false, false, false, false, false, false, false, false, false, false] (by kernel_rfl) rfl rfl ⟨(blk_cell BK178.out 0).trans rfl, (blk_cell BK178.out 1).trans rfl⟩ (fun hHeld => ?_); refine with_tabW manorboyref02_Of.tab7 manorboyref02_Of.bits7 (fun HT_ HW_ => ?_)
     generalize wc.drew = w16 at BK178 BK179 HB hHeld ⊢
     refine pur 0 (some 15) #[tt,ff,ff,ff,ff,ff,ff,ff,ff,ff,ff,ff] ?_
     refine pur 3 (some 18) #[tt,ff,ff,tt,ff,ff,ff,ff,ff,ff,ff,ff] ?_
     refine pur 5 (some 20) #[tt,ff,ff,tt,ff,tt,ff,ff,ff,ff,ff,ff] ?_
     refine pur 6 (some 21) #[tt,ff,ff,tt,ff,tt,tt,ff,ff,ff,ff,ff] ?_
     refine tk2 1 (some 16) #[tt,tt,ff,tt,ff,tt,tt,ff,ff,ff,ff,ff] ?_
     refine pur 2 (some 17) #[tt,tt,tt,tt,ff,tt,tt,ff,ff,ff,ff,ff] ?_
     refine one_ (i := 4) (N := some 19) #[true, true, true, true, true, true, true, false, false, false, false, false] rfl rfl (one_of HT_.out (by kernel_rfl)) (by decide) (fun K hK => ?_)
     refine goes_ Tryz.func85 (by kernel_rfl) rfl #[.int .i64 x3_1] (by rfl) rfl rfl az ?_
     with_reducible refine (manorboyref02_Small.calls kj7 x3_1 t180 _ A12.out).mono ?_
     rintro e w17 ⟨v181, rfl, ho0, hb⟩
     refine ⟨_, rfl, ?_⟩
     have HO182 := Aside0.mk (Kd.R_lower ho0 (below_size bz))
     replace BK178 := kb BK178 hb
     replace BK179 := kb BK179 hb
     replace HB := bs hb
     (try clear hb)
     (try clear hk)
     (try clear ho0)
     refine hK.out _ _ ⟨(blk_cell BK178.out 0).trans rfl, (blk_cell BK178.out 1).trans rfl⟩ (fun hHeld => ?_)
     clear hK K
     refine norm_ (a' := ?_) ?_ ?_
     rotate_left
     ·show Act.put _ (some 19) _ = _
      simp only [Act.put, List.setIfInBounds_toArray, List.set_cons_zero, List.set_cons_succ, i64_w, i32_w]
      rfl
     refine one_ (i := 7) (N := some 22) #[true, true, true, true, true, true, true, true, false, false, false, false] rfl rfl (one_of HT_.out (by kernel_rfl)) (by decide) (fun K hK => ?_)
     refine goes_ Tryz.func107 (by kernel_rfl) rfl #[.int .i64 (wrap64 (x4_7 + 150))] (by rfl) rfl rfl az ?_
     with_reducible refine (manorboyref02_Two.calls (wrap64 (x4_7 + 150)) t183 _ A13.out).mono ?_
     rintro e w18 ⟨v184, rfl, ho0, hb⟩
     refine ⟨_, rfl, ?_⟩
     have HO185 := Aside0.mk (Kd.R_lower (Kd.R_new' ho0 (Kd.R_lt (rz HO182))) (below_size bz))
     replace HO182 := Aside0.mk (Kd.R_elder' (rz HO182) (Kd.R_base ho0) hb)
     replace BK178 := kb BK178 hb
     replace BK179 := kb BK179 hb
     replace HB := bs hb
     (try clear hb)
     (try clear hk)
     (try clear ho0)
     obtain ⟨Ao19, co19, eo19⟩ := Kd.R_slice HO182.out
     (first | subst eo19 | (injection eo19 with f1_ f2_ f3_; have f4_ := f1_.symm; have f5_ := f3_.symm; clear f1_ f2_ f3_; subst f4_; subst f5_))
     obtain ⟨Ao20, co20, eo20⟩ := Kd.R_slice HO185.out
     (first | subst eo20 | (injection eo20 with f1_ f2_ f3_; have f4_ := f1_.symm; have f5_ := f3_.symm; clear f1_ f2_ f3_; subst f4_; subst f5_))
     refine hK.out _ _ ⟨(blk_cell BK178.out 0).trans rfl, (blk_cell BK178.out 1).trans rfl⟩ (fun hHeld => ?_)
     clear hK K
     refine norm_ (a' := ?_) ?_ ?_
     rotate_left
     ·show Act.put _ (some 22) _ = _
      simp only [Act.put, List.setIfInBounds_toArray, List.set_cons_zero, List.set_cons_succ, i64_w, i32_w]
      rfl
     refine one_ (i := 8) (N := some 23) #[true, true, true, true, true, true, true, true, true, false, false, false] rfl rfl (one_of HT_.out (by kernel_rfl)) (by decide) (fun K hK => ?_)
     refine goes_ Tryz.func86 (by kernel_rfl) rfl #[.slice Ao19 t180.length co19, .slice Ao20 t183.length co20] (by rfl) rfl rfl az ?_
     with_reducible refine (manorboyref02_Nat_Mul.calls kj7 _ _ t180 _ _ t183 t186 _ ?side1 ?side2 ?side3 ?side4 A14.out).mono ?_
     (case side1 => exact ccz (Kd.R_reads' HO182.out).2.2)
     (case side2 => exact (Kd.R_reads' HO182.out).2.1)
     (case side3 => exact ccz (Kd.R_reads' HO185.out).2.2)
     (case side4 => exact (Kd.R_reads' HO185.out).2.1)
     rintro e w21 ⟨v187, rfl, ho0, hb⟩
     refine ⟨_, rfl, ?_⟩
     have HO188 := Aside0.mk (Kd.R_lower (Kd.R_new' (Kd.R_new' ho0 (Kd.R_lt (rz HO182))) (Kd.R_lt (rz HO185))) (below_size bz))
     replace HO182 := Aside0.mk (Kd.R_elder' (rz HO182) (Kd.R_base ho0) hb)
     replace HO185 := Aside0.mk (Kd.R_elder' (rz HO185) (Kd.R_base ho0) hb)
     replace BK178 := kb BK178 hb
     replace BK179 := kb BK179 hb
     replace HB := bs hb
     (try clear hb)
     (try clear hk)
     (try clear ho0)
     refine hK.out _ _ ⟨(blk_cell BK178.out 0).trans rfl, (blk_cell BK178.out 1).trans rfl⟩ (fun hHeld => ?_)
     clear hK K
     refine norm_ (a' := ?_) ?_ ?_
     rotate_left
     ·show Act.put _ (some 23) _ = _
      simp only [Act.put, List.setIfInBounds_toArray, List.set_cons_zero, List.set_cons_succ, i64_w, i32_w]
      rfl
     refine one_ (i := 9) (N := some 24) #[true, true, true, true, true, true, true, true, true, true, false, false] rfl rfl (one_of HT_.out (by kernel_rfl)) (by decide) (fun K hK => ?_)
     refine goes_ Tryz.func107 (by kernel_rfl) rfl #[.int .i64 150] (by rfl) rfl rfl az ?_
     with_reducible refine (manorboyref02_Two.calls 150 t189 _ A15.out).mono ?_
     rintro e w22 ⟨v190, rfl, ho0, hb⟩
     refine ⟨_, rfl, ?_⟩
     have HO191 := Aside0.mk (Kd.R_lower (Kd.R_new' (Kd.R_new' (Kd.R_new' ho0 (Kd.R_lt (rz HO182))) (Kd.R_lt (rz HO185))) (Kd.R_lt (rz HO188))) (below_size bz))
     replace HO182 := Aside0.mk (Kd.R_elder' (rz HO182) (Kd.R_base ho0) hb)
     replace HO185 := Aside0.mk (Kd.R_elder' (rz HO185) (Kd.R_base ho0) hb)
     replace HO188 := Aside0.mk (Kd.R_elder' (rz HO188) (Kd.R_base ho0) hb)
     replace BK178 := kb BK178 hb
     replace BK179 := kb BK179 hb
     replace HB := bs hb
     (try clear hb)
     (try clear hk)
     (try clear ho0)
     obtain ⟨Ao23, co23, eo23⟩ := Kd.R_slice HO191.out
     (first | subst eo23 | (injection eo23 with f1_ f2_ f3_; have f4_ := f1_.symm; have f5_ := f3_.symm; clear f1_ f2_ f3_; subst f4_; subst f5_))
     obtain ⟨Ao24, co24, eo24⟩ := Kd.R_slice HO188.out
     (first | subst eo24 | (injection eo24 with f1_ f2_ f3_; have f4_ := f1_.symm; have f5_ := f3_.symm; clear f1_ f2_ f3_; subst f4_; subst f5_))
     refine hK.out _ _ ⟨(blk_cell BK178.out 0).trans rfl, (blk_cell BK178.out 1).trans rfl⟩ (fun hHeld => ?_)
     clear hK K
     refine norm_ (a' := ?_) ?_ ?_
     rotate_left
     ·show Act.put _ (some 24) _ = _
      simp only [Act.put, List.setIfInBounds_toArray, List.set_cons_zero, List.set_cons_succ, i64_w, i32_w]
      rfl
     refine pur 10 (some 25) #[tt,tt,tt,tt,tt,tt,tt,tt,tt,tt,tt,ff] ?_
     refine one_ (i := 11) (N := none) #[true, true, true, true, true, true, true, true, true, true, true, true] rfl rfl (one_of HT_.out (by kernel_rfl)) (by decide) (fun K hK => ?_)
     have hs25 : w22.cell? ⟨gb179, 0, none⟩ = some (.bool false) := (blk_cell BK179.out 0).trans rfl
     have hfs25 := blk_frozen BK179.out 0
     have hns25_0 := NB178_179.out
     have hms25_0 := NB179_178.out
     have hs26 : w22.cell? ⟨gb179, 1, none⟩ = some (.slice none 0 0) := (blk_cell BK179.out 1).trans rfl
     have hfs26 := blk_frozen BK179.out 1
     have hns26_0 := NB178_179.out
     have hms26_0 := NB179_178.out
     have hs27 : w22.cell? ⟨gb179, 2, none⟩ = some (.slice none 0 0) := (blk_cell BK179.out 2).trans rfl
     have hfs27 := blk_frozen BK179.out 2
     have hns27_0 := NB178_179.out
     have hms27_0 := NB179_178.out
     refine skip_ (w1 := ?_) (by rfl) rfl ?_ ?_
     rotate_left
     ·go_simp
      rfl
     refine hK.out _ _ ⟨((cell_far (p := ⟨gb179, _, none⟩) NB178_179.out _).trans (((cell_far (p := ⟨gb179, _, none⟩) NB178_179.out _).trans (((cell_far (p := ⟨gb179, _, none⟩) NB178_179.out _).trans (hHeld.1)))))), ((cell_far (p := ⟨gb179, _, none⟩) NB178_179.out _).trans (((cell_far (p := ⟨gb179, _, none⟩) NB178_179.out _).trans (((cell_far (p := ⟨gb179, _, none⟩) NB178_179.out _).trans (hHeld.2))))))⟩ (fun hHeld => ?_)
     clear hK K
     refine done_ (done_of HT_.out (by kernel_rfl)) ?_
     try go_wp2
     refine bodyPost_ret (results_cell_row rfl _ _ gb179 102 #[.bool (decide (a0_0 < 0)), .slice Ao24 t186.length co24, .slice Ao23 t189.length co23] (0, 0) _ rfl (by (with_reducible repeat (first | refine blk_drewN ?_ _ | refine blk_drew ?_ | refine blk_alloc ?_ _)); refine blk_put (cs := #[.bool (decide (a0_0 < 0)), .slice Ao24 t186.length co24, .slice none 0 0]) ?_ 2 _ rfl; (with_reducible repeat (first | refine blk_drewN ?_ _ | refine blk_drew ?_ | refine blk_alloc ?_ _)); refine blk_put (cs := #[.bool (decide (a0_0 < 0)), .slice none 0 0, .slice none 0 0]) ?_ 1 _ rfl; (with_reducible repeat (first | refine blk_drewN ?_ _ | refine blk_drew ?_ | refine blk_alloc ?_ _)); refine blk_put (cs := #[.bool false, .slice none 0 0, .slice none 0 0]) ?_ 0 _ rfl; (with_reducible repeat (first | refine blk_drewN ?_ _ | refine blk_drew ?_ | refine blk_alloc ?_ _)); exact BK179.out) Tryz.underlying102 rfl (by kernel_rfl)) rfl ?_
     exact ⟨_, _, by first | rfl | (simp [errW_none, errW_some] <;> rfl) | (simp [*, errW_none, errW_some] <;> rfl), by (with_reducible repeat (first | apply Kd.R_alloc | apply Kd.R_drewN | apply Kd.R_drew)); exact Kd.R_mono (Kd.R_far (p := ⟨gb179, 2, none⟩) (Kd.R_far (p := ⟨gb179, 1, none⟩) (Kd.R_far (p := ⟨gb179, 0, none⟩) (Kd.R_types HO188.out BK179.out (by decide)) (fun _ hk => hk.2) (.bool (decide (a0_0 < 0)))) (fun _ hk => hk.2) (.slice Ao24 t186.length co24)) (fun _ hk => hk.2) (.slice Ao23 t189.length co23)) (fun _ hk => hk.1.2), by (with_reducible repeat (first | apply Kd.R_alloc | apply Kd.R_drewN | apply Kd.R_drew)); exact Kd.R_mono (Kd.R_far (p := ⟨gb179, 2, none⟩) (Kd.R_far (p := ⟨gb179, 1, none⟩) (Kd.R_far (p := ⟨gb179, 0, none⟩) (Kd.R_types HO191.out BK179.out (by decide)) (fun _ hk => hk.2) (.bool (decide (a0_0 < 0)))) (fun _ hk => hk.2) (.slice Ao24 t186.length co24)) (fun _ hk => hk.2) (.slice Ao23 t189.length co23)) (fun _ hk => hk.1.2), bz⟩

end Go.Proofs.YteigbokklclmbaaGreatDoor.Z.Y.V
end
section
namespace Go.Proofs.YteigbokklclmbaaGreatDoor.Z.Y.V
open Go.RowKit Go.Proofs.YteigbokklclmbaaGreatDoor.Given Go.Proofs.YteigbokklclmbaaGreatDoorW.PrintWords Go.Proofs.YteigbokklclmbaaGreatDoorW.PrintLast Go.Proofs.YteigbokklclmbaaGreatDoorW.PrintMore
attribute [local go_sem] max2_int min2_int max_two min_two max_three min_three max_four min_four   -- for this text's walks alone

mutual
def manorboyref02_Nat_Add.l0 : Nat → List Int → List Int → List Int → Int → Int → Option (List Int)
 | 0, _, _, _, _, _ => none
 | k + 1, x0, x1, x5, x6, x7 => if x7 < (x0.length : Int) then (manorboyref02_Nat_Add.j1 k x0 x1 x5 x6 x7 true) else (manorboyref02_Nat_Add.j1 k x0 x1 x5 x6 x7 (decide (x7 < (x1.length : Int))))
def manorboyref02_Nat_Add.j1 : Nat → List Int → List Int → List Int → Int → Int → Bool → Option (List Int)
 | 0, _, _, _, _, _, _ => none
 | k + 1, x0, x1, x5, x6, x7, x17 => if x17 = true then (if x7 < (x0.length : Int) then (if 0 ≤ x7 then (manorboyref02_Nat_Add.j2 k x0 x1 x5 (wrap64 (x6 + (rd x0 x7))) x7) else (none)) else (manorboyref02_Nat_Add.j2 k x0 x1 x5 x6 x7)) else (if x6 > 0 then (if x5.length < 17592186044416 then (some (x5 ++ [x6])) else (none)) else (some x5))
def manorboyref02_Nat_Add.j2 : Nat → List Int → List Int → List Int → Int → Int → Option (List Int)
 | 0, _, _, _, _, _ => none
 | k + 1, x0, x1, x5, x6, x7 => if x7 < (x1.length : Int) then (if 0 ≤ x7 then (if x5.length < 17592186044416 then (manorboyref02_Nat_Add.l0 k x0 x1 (x5 ++ [Int.tmod (wrap64 (x6 + (rd x1 x7))) 32768]) (wrap64 (Int.tdiv (wrap64 (x6 + (rd x1 x7))) 32768)) (wrap64 (x7 + 1))) else (none)) else (none)) else (if x5.length < 17592186044416 then (manorboyref02_Nat_Add.l0 k x0 x1 (x5 ++ [Int.tmod x6 32768]) (wrap64 (Int.tdiv x6 32768)) (wrap64 (x7 + 1))) else (none))
end
def manorboyref02_Nat_Add.f (k : Nat) (l0 : List Int) (l1 : List Int) : Option (List Int) := manorboyref02_Nat_Add.l0 k l0 l1 ([] : List Int) 0 0
theorem manorboyref02_Nat_Add.calls (k : Nat) (A0 : Option Addr) (c0 : Nat) (l0 : List Int) (A1 : Option Addr) (c1 : Nat) (l1 : List Int) (r : List Int) (w : World) (hr0 : Kd.C (Kd.int .i64) w A0 l0.length l0) (hc0 : l0.length ≤ c0) (hr1 : Kd.C (Kd.int .i64) w A1 l1.length l1) (hc1 : l1.length ≤ c1) (h : manorboyref02_Nat_Add.f k l0 l1 = some r) :
  Calls Tryz.prog 103 #[.slice A0 l0.length c0, .slice A1 l1.length c1] w fun e w' => ∃ v0_ : Value, e = .returned (v0_) ∧ Kd.R (Kd.int .i64) 3 w' w.heap.size (fun _ => True) v0_ r ∧ Below w.heap.size w w' := by
 have HR0 := Aside0.mk hr0
 have HC0 := Aside0.mk hc0
 clear hr0 hc0
 have HR1 := Aside0.mk hr1
 have HC1 := Aside0.mk hc1
 clear hr1 hc1
 have HB := Aside0.mk (Below.refl w.heap.size w)
 have H := h; unfold manorboyref02_Nat_Add.f at H; clear h
 have H' := Aside0.mk H
 clear H
 go_enter Tryz.func103, Tryz.ntmps103
 go_wp2
 go_loopg [5, 6, 7] k (fun kq v5 v6 v7 w' => ∃ (x5_1 : List Int) (x6_1 : Int) (x7_1 : Int), v6 = .int .i64 x6_1 ∧ v7 = .int .i64 x7_1 ∧ Aside0 (manorboyref02_Nat_Add.l0 kq l0 l1 x5_1 x6_1 x7_1 = some r) ∧ Aside0 (kq ≤ k) ∧ Aside0 (Kd.R (Kd.int .i64) 3 w' w.heap.size (fun _ => True) v5 x5_1) ∧ Aside0 (Below w.heap.size w w'))
 case atStart => exact ⟨(([] : List Int)), (0), (0), (by first | rfl | (simp; done) | (simp [*]; done)), (by first | rfl | (simp; done) | (simp [*]; done)), H', ⟨Nat.le_refl _⟩, ⟨by first | exact Kd.R_nil _ _ _ _ _ | exact Kd.N_nil _ _ _ _ _ | exact Kd.V_nil _ _ _ _ _ | exact Kd.Q_nil _ _ _ _ _ | exact Kd.S_nil _ _ _ _ _⟩, ⟨bz⟩⟩
 case round =>
  clear H'
  try clear c1
  obtain ⟨x5_1, x6_1, x7_1, rfl, rfl, HA, HK1, HO_5, HB⟩ := hrel
  cases gk with
  | zero => exact absurd HA.out (by simp [manorboyref02_Nat_Add.l0])
  | succ k1 =>
   have H := HA.out
   clear HA
   simp only [manorboyref02_Nat_Add.l0] at H
   have HC3 := Aside0.mk H
   clear H
   go_upto_region 4 with (fail)
   go_cut [17] (fun v17 wc => ∃ (kq : Nat) (x17_2 : Bool), v17 = .bool x17_2 ∧ Aside0 (manorboyref02_Nat_Add.j1 kq l0 l1 x5_1 x6_1 x7_1 x17_2 = some r) ∧ Aside0 (kq ≤ k1) ∧ Aside0 (Kd.R (Kd.int .i64) 3 wc w.heap.size (fun _ => True) u5 x5_1) ∧ Aside0 (Below w.heap.size w wc))
   case first => as_aux_lemma =>
    have H := HC3.out
    clear HC3
    by_cases c4 : x7_1 < (l0.length : Int)
    ·rw [if_pos c4] at H
     have c4b0 : decide (x7_1 < (l0.length : Int)) = true := decide_eq_true c4
     clear c4
     (first | rw [c4b0] | (simp only [i64_w, i32_w]; rw [c4b0]) | skip)
     have H' := Aside0.mk H
     clear H
     go_wp2
     go_meet
     case rel => exact ⟨_, (true), (by first | rfl | (simp; done) | (simp [*]; done)), H', ⟨by have := HK1.out; first | omega | exact Nat.le_refl _⟩, ⟨rz HO_5⟩, ⟨bz⟩⟩
    ·rw [if_neg c4] at H
     have c4b0 : decide (x7_1 < (l0.length : Int)) = false := decide_eq_false c4
     clear c4
     (first | rw [c4b0] | (simp only [i64_w, i32_w]; rw [c4b0]) | skip)
     have H' := Aside0.mk H
     clear H
     go_wp2
     go_meet
     case rel => exact ⟨_, (decide (x7_1 < (l1.length : Int))), (by first | rfl | (simp; done) | (simp [*]; done)), H', ⟨by have := HK1.out; first | omega | exact Nat.le_refl _⟩, ⟨rz HO_5⟩, ⟨bz⟩⟩
   case rest => as_aux_lemma =>
    clear HC3
    try clear c1
    try clear c4
    try clear c4b0
    obtain ⟨kq, x17_2, rfl, HA, HJ2, HO_5, HB⟩ := hcut
    cases kq with
    | zero => exact absurd HA.out (by simp [manorboyref02_Nat_Add.j1])
    | succ kj2 =>
     have H := HA.out
     clear HA
     simp only [manorboyref02_Nat_Add.j1] at H
     by_cases c5 : x17_2 = true
     ·subst c5
      rw [if_pos rfl] at H
      have HC6 := Aside0.mk H
      clear H
      go_upto_if 23 with (fail)
      go_cut [6] (fun v6 wc => ∃ (kq : Nat) (x6_5 : Int), v6 = .int .i64 x6_5 ∧ Aside0 (manorboyref02_Nat_Add.j2 kq l0 l1 x5_1 x6_5 x7_1 = some r) ∧ Aside0 (kq ≤ kj2) ∧ Aside0 (Kd.R (Kd.int .i64) 3 wc w.heap.size (fun _ => True) u5 x5_1) ∧ Aside0 (Below w.heap.size w wc))
      case first => as_aux_lemma =>
       have H := HC6.out
       clear HC6
       by_cases c7 : x7_1 < (l0.length : Int)
       ·rw [if_pos c7] at H
        have c7b0 : decide (x7_1 < (l0.length : Int)) = true := decide_eq_true c7
        clear c7
        (first | rw [c7b0] | (simp only [i64_w, i32_w]; rw [c7b0]) | skip)
        by_cases c8 : 0 ≤ x7_1
        ·rw [if_pos c8] at H
         have c8b0 : decide (0 ≤ x7_1) = true := decide_eq_true c8
         clear c8
         have H' := Aside0.mk H
         clear H
         have p192 : 0 ≤ (x7_1 : Int) := oda
         have q192 : x7_1 < (l0.length : Int) := oda
         obtain ⟨ad192, e192, hx192_0⟩ := Kd.at_int HR0.out x7_1 p192 q192
         cases e192
         replace hx192_0 := (HB.out.cell (World.block_lt_of_cell? w _ hx192_0)).trans hx192_0
         replace p192 := eq_true p192
         replace q192 := eq_true q192
         go_wp2
         go_meet
         case rel => exact ⟨_, (wrap64 (x6_1 + (rd l0 x7_1))), (by first | rfl | (simp; done) | (simp [*]; done)), H', ⟨by have := HK1.out; have := HJ2.out; first | omega | exact Nat.le_refl _⟩, ⟨rz HO_5⟩, ⟨bz⟩⟩
        ·rw [if_neg c8] at H
         exact absurd H (by simp)
       ·rw [if_neg c7] at H
        have c7b0 : decide (x7_1 < (l0.length : Int)) = false := decide_eq_false c7
        clear c7
        (first | rw [c7b0] | (simp only [i64_w, i32_w]; rw [c7b0]) | skip)
        have H' := Aside0.mk H
        clear H
        go_wp2
        go_meet
        case rel => exact ⟨_, (x6_1), (by first | rfl | (simp; done) | (simp [*]; done)), H', ⟨by have := HK1.out; have := HJ2.out; first | omega | exact Nat.le_refl _⟩, ⟨rz HO_5⟩, ⟨bz⟩⟩
      case rest => as_aux_lemma =>
       clear HC6
       try clear c1
       try clear c4
       try clear c4b0
       try clear c5
       try clear c7
       try clear c7b0
       try clear c8
       try clear c8b0
       try clear hx192_0
       try clear p192
       try clear q192
       obtain ⟨kq, x6_5, rfl, HA, HJ5, HO_5, HB⟩ := hcut
       cases kq with
       | zero => exact absurd HA.out (by simp [manorboyref02_Nat_Add.j2])
       | succ kj5 =>
        have H := HA.out
        clear HA
        simp only [manorboyref02_Nat_Add.j2] at H
        by_cases c9 : x7_1 < (l1.length : Int)
        ·rw [if_pos c9] at H
         have c9b0 : decide (x7_1 < (l1.length : Int)) = true := decide_eq_true c9
         clear c9
         by_cases c10 : 0 ≤ x7_1
         ·rw [if_pos c10] at H
          have c10b0 : decide (0 ≤ x7_1) = true := decide_eq_true c10
          clear c10
          by_cases c11 : x5_1.length < 17592186044416
          ·rw [if_pos c11] at H
           have LMc11 := Aside0.mk c11
           clear c11
           obtain ⟨y194, hy194⟩ : ∃ y_ : List Int, y_ = (x5_1 ++ [Int.tmod (wrap64 (x6_5 + (rd l1 x7_1))) 32768]) := ⟨_, rfl⟩
           replace H : (manorboyref02_Nat_Add.l0 kj5 l0 l1 y194 (wrap64 (Int.tdiv (wrap64 (x6_5 + (rd l1 x7_1))) 32768)) (wrap64 (x7_1 + 1))) = some r := by first | (rw [hy194]; with_reducible exact H) | (have H2_ := (Option.bind_some _ _).symm.trans H; rw [hy194]; with_reducible exact H2_) | (have H2_ := (Option.bind_some _ _).symm.trans H; with_reducible exact H2_) | with_reducible exact H | (rw [hy194]; exact H) | exact H
           have Ny194 := Aside0.mk hy194
           clear hy194
           have H' := Aside0.mk H
           clear H
           have p193 : 0 ≤ (x7_1 : Int) := oda
           have q193 : x7_1 < (l1.length : Int) := oda
           obtain ⟨ad193, e193, hx193_0⟩ := Kd.at_int HR1.out x7_1 p193 q193
           cases e193
           replace hx193_0 := (HB.out.cell (World.block_lt_of_cell? w _ hx193_0)).trans hx193_0
           replace p193 := eq_true p193
           replace q193 := eq_true q193
           go_wp2_with (first | ((with_reducible refine gate_builtin (b := .append) (xs := #[.tmp 40, .tmp 43]) rfl ?_); (try (refine gate_guard (by rfl) ?_; dsimp only)); at_builtin; refine Kd.R_append (Kd.int .i64) (w0 := w) w.heap.size rfl (.tmp 40) (.tmp 43) 96 3 (.int .i64 0) 8 rfl Tryz.underlying96 info3 rfl (by decide) (by omega) u5 x5_1 (Int.tmod (wrap64 (x6_5 + (rd l1 x7_1))) 32768) [.int .i64 (Int.tmod (wrap64 (x6_5 + (rd l1 x7_1))) 32768)] (fun _ => True) (fun _ => False) rfl rfl ?aP (fun _ hk => hk.elim) ?aF ?aO ?aB ?aS ?aL ?_; (case aP => exact rfl); (case aB => exact bz); (case aF => exact (fun _ _ => trivial)); (case aO => exact (rz HO_5)); (case aS => exact (below_size bz)); (case aL => have := LMc11.out; omega); intro v195 w12 ho hb hg hat; rw [← Ny194.out] at ho; have HO196 := Aside0.mk (ho); replace HB := Aside0.mk (hb); clear HO_5; clear ho hb hg hat))
           go_roundg kj5
           case measure => have := HK1.out; have := HJ2.out; have := HJ5.out; omega
           case rel => exact ⟨(y194), (wrap64 (Int.tdiv (wrap64 (x6_5 + (rd l1 x7_1))) 32768)), (wrap64 (x7_1 + 1)), (by first | rfl | (simp; done) | (simp [*]; done)), (by first | rfl | (simp; done) | (simp [*]; done)), H', ⟨by have := HK1.out; have := HJ2.out; have := HJ5.out; omega⟩, ⟨rz HO196⟩, ⟨bz⟩⟩
          ·rw [if_neg c11] at H
           exact absurd H (by simp)
         ·rw [if_neg c10] at H
          exact absurd H (by simp)
        ·rw [if_neg c9] at H
         have c9b0 : decide (x7_1 < (l1.length : Int)) = false := decide_eq_false c9
         clear c9
         by_cases c13 : x5_1.length < 17592186044416
         ·rw [if_pos c13] at H
          have LMc13 := Aside0.mk c13
          clear c13
          obtain ⟨y197, hy197⟩ : ∃ y_ : List Int, y_ = (x5_1 ++ [Int.tmod x6_5 32768]) := ⟨_, rfl⟩
          replace H : (manorboyref02_Nat_Add.l0 kj5 l0 l1 y197 (wrap64 (Int.tdiv x6_5 32768)) (wrap64 (x7_1 + 1))) = some r := by first | (rw [hy197]; with_reducible exact H) | (have H2_ := (Option.bind_some _ _).symm.trans H; rw [hy197]; with_reducible exact H2_) | (have H2_ := (Option.bind_some _ _).symm.trans H; with_reducible exact H2_) | with_reducible exact H | (rw [hy197]; exact H) | exact H
          have Ny197 := Aside0.mk hy197
          clear hy197
          have H' := Aside0.mk H
          clear H
          go_wp2_with (first | ((with_reducible refine gate_builtin (b := .append) (xs := #[.tmp 40, .tmp 43]) rfl ?_); (try (refine gate_guard (by rfl) ?_; dsimp only)); at_builtin; refine Kd.R_append (Kd.int .i64) (w0 := w) w.heap.size rfl (.tmp 40) (.tmp 43) 96 3 (.int .i64 0) 8 rfl Tryz.underlying96 info3 rfl (by decide) (by omega) u5 x5_1 (Int.tmod x6_5 32768) [.int .i64 (Int.tmod x6_5 32768)] (fun _ => True) (fun _ => False) rfl rfl ?aP (fun _ hk => hk.elim) ?aF ?aO ?aB ?aS ?aL ?_; (case aP => exact rfl); (case aB => exact bz); (case aF => exact (fun _ _ => trivial)); (case aO => exact (rz HO_5)); (case aS => exact (below_size bz)); (case aL => have := LMc13.out; omega); intro v198 w14 ho hb hg hat; rw [← Ny197.out] at ho; have HO199 := Aside0.mk (ho); replace HB := Aside0.mk (hb); clear HO_5; clear ho hb hg hat))
          go_roundg kj5
          case measure => have := HK1.out; have := HJ2.out; have := HJ5.out; omega
          case rel => exact ⟨(y197), (wrap64 (Int.tdiv x6_5 32768)), (wrap64 (x7_1 + 1)), (by first | rfl | (simp; done) | (simp [*]; done)), (by first | rfl | (simp; done) | (simp [*]; done)), H', ⟨by have := HK1.out; have := HJ2.out; have := HJ5.out; omega⟩, ⟨rz HO199⟩, ⟨bz⟩⟩
         ·rw [if_neg c13] at H
          exact absurd H (by simp)
     ·replace c5 := Bool.eq_false_iff.mpr c5
      subst c5
      rw [if_neg (show ¬ (false = true) by decide)] at H
      by_cases c15 : x6_1 > 0
      ·rw [if_pos c15] at H
       have c15b0 : decide (0 < x6_1) = true := decide_eq_true c15
       clear c15
       by_cases c16 : x5_1.length < 17592186044416
       ·rw [if_pos c16] at H
        have LMc16 := Aside0.mk c16
        clear c16
        obtain ⟨y200, hy200⟩ : ∃ y_ : List Int, y_ = (x5_1 ++ [x6_1]) := ⟨_, rfl⟩
        replace H : (some y200) = some r := by first | (rw [hy200]; with_reducible exact H) | (have H2_ := (Option.bind_some _ _).symm.trans H; rw [hy200]; with_reducible exact H2_) | (have H2_ := (Option.bind_some _ _).symm.trans H; with_reducible exact H2_) | with_reducible exact H | (rw [hy200]; exact H) | exact H
        have Ny200 := Aside0.mk hy200
        clear hy200
        obtain rfl := Option.some.inj H
        go_wp2_with (first | ((with_reducible refine gate_builtin (b := .append) (xs := #[.tmp 49, .tmp 51]) rfl ?_); (try (refine gate_guard (by rfl) ?_; dsimp only)); at_builtin; refine Kd.R_append (Kd.int .i64) (w0 := w) w.heap.size rfl (.tmp 49) (.tmp 51) 96 3 (.int .i64 0) 8 rfl Tryz.underlying96 info3 rfl (by decide) (by omega) u5 x5_1 x6_1 [.int .i64 x6_1] (fun _ => True) (fun _ => False) rfl rfl ?aP (fun _ hk => hk.elim) ?aF ?aO ?aB ?aS ?aL ?_; (case aP => exact rfl); (case aB => exact bz); (case aF => exact (fun _ _ => trivial)); (case aO => exact (rz HO_5)); (case aS => exact (below_size bz)); (case aL => have := LMc16.out; omega); intro v201 w17 ho hb hg hat; rw [← Ny200.out] at ho; have HO202 := Aside0.mk (ho); replace HB := Aside0.mk (hb); clear HO_5; clear ho hb hg hat))
        go_ret
        exact ⟨_, by first | rfl | (simp [errW_none, errW_some] <;> rfl) | (simp [*, errW_none, errW_some] <;> rfl), by (with_reducible repeat (first | apply Kd.R_alloc | apply Kd.R_drewN | apply Kd.R_drew)); exact HO202.out, bz⟩
       ·rw [if_neg c16] at H
        exact absurd H (by simp)
      ·rw [if_neg c15] at H
       have c15b0 : decide (0 < x6_1) = false := decide_eq_false c15
       clear c15
       obtain rfl := Option.some.inj H
       go_wp2
       go_ret
       exact ⟨_, by first | rfl | (simp [errW_none, errW_some] <;> rfl) | (simp [*, errW_none, errW_some] <;> rfl), by (with_reducible repeat (first | apply Kd.R_alloc | apply Kd.R_drewN | apply Kd.R_drew)); exact HO_5.out, bz⟩

end Go.Proofs.YteigbokklclmbaaGreatDoor.Z.Y.V
end
section
namespace Go.Proofs.YteigbokklclmbaaGreatDoor.Z.Y.V
open Go.RowKit Go.Proofs.YteigbokklclmbaaGreatDoor.Given Go.Proofs.YteigbokklclmbaaGreatDoorW.PrintWords Go.Proofs.YteigbokklclmbaaGreatDoorW.PrintLast Go.Proofs.YteigbokklclmbaaGreatDoorW.PrintMore
attribute [local go_sem] max2_int min2_int max_two min_two max_three min_three max_four min_four   -- for this text's walks alone

mutual
def manorboyref02_Nat_Sub.l0 : Nat → List Int → List Int → List Int → Int → Int → Option (List Int)
 | 0, _, _, _, _, _ => none
 | k + 1, x0, x1, x5, x6, x7 => if x7 < (x0.length : Int) then (if 0 ≤ x7 then (if x7 < (x1.length : Int) then (manorboyref02_Nat_Sub.j1 k x0 x1 x5 x7 (wrap64 ((wrap64 ((rd x0 x7) - x6)) - (rd x1 x7)))) else (manorboyref02_Nat_Sub.j1 k x0 x1 x5 x7 (wrap64 ((rd x0 x7) - x6)))) else (none)) else ((manorboyref02_cut.f k x5).bind fun t203 => (some t203))
def manorboyref02_Nat_Sub.j1 : Nat → List Int → List Int → List Int → Int → Int → Option (List Int)
 | 0, _, _, _, _, _ => none
 | k + 1, x0, x1, x5, x7, x8 => if x8 < 0 then (if x5.length < 17592186044416 then (manorboyref02_Nat_Sub.l0 k x0 x1 (x5 ++ [wrap64 (x8 + 32768)]) 1 (wrap64 (x7 + 1))) else (none)) else (if x5.length < 17592186044416 then (manorboyref02_Nat_Sub.l0 k x0 x1 (x5 ++ [x8]) 0 (wrap64 (x7 + 1))) else (none))
end
def manorboyref02_Nat_Sub.f (k : Nat) (l0 : List Int) (l1 : List Int) : Option (List Int) := manorboyref02_Nat_Sub.l0 k l0 l1 ([] : List Int) 0 0
theorem manorboyref02_Nat_Sub.calls (k : Nat) (A0 : Option Addr) (c0 : Nat) (l0 : List Int) (A1 : Option Addr) (c1 : Nat) (l1 : List Int) (r : List Int) (w : World) (hr0 : Kd.C (Kd.int .i64) w A0 l0.length l0) (hc0 : l0.length ≤ c0) (hr1 : Kd.C (Kd.int .i64) w A1 l1.length l1) (hc1 : l1.length ≤ c1) (h : manorboyref02_Nat_Sub.f k l0 l1 = some r) :
  Calls Tryz.prog 105 #[.slice A0 l0.length c0, .slice A1 l1.length c1] w fun e w' => ∃ v0_ : Value, e = .returned (v0_) ∧ Kd.R (Kd.int .i64) 3 w' w.heap.size (fun _ => True) v0_ r ∧ Below w.heap.size w w' := by
 have HR0 := Aside0.mk hr0
 have HC0 := Aside0.mk hc0
 clear hr0 hc0
 have HR1 := Aside0.mk hr1
 have HC1 := Aside0.mk hc1
 clear hr1 hc1
 have HB := Aside0.mk (Below.refl w.heap.size w)
 have H := h; unfold manorboyref02_Nat_Sub.f at H; clear h
 have H' := Aside0.mk H
 clear H
 go_enter Tryz.func105, Tryz.ntmps105
 go_wp2
 go_loopg [5, 6, 7] k (fun kq v5 v6 v7 w' => ∃ (x5_1 : List Int) (x6_1 : Int) (x7_1 : Int), v6 = .int .i64 x6_1 ∧ v7 = .int .i64 x7_1 ∧ Aside0 (manorboyref02_Nat_Sub.l0 kq l0 l1 x5_1 x6_1 x7_1 = some r) ∧ Aside0 (kq ≤ k) ∧ Aside0 (Kd.R (Kd.int .i64) 3 w' w.heap.size (fun _ => True) v5 x5_1) ∧ Aside0 (Below w.heap.size w w'))
 case atStart => exact ⟨(([] : List Int)), (0), (0), (by first | rfl | (simp; done) | (simp [*]; done)), (by first | rfl | (simp; done) | (simp [*]; done)), H', ⟨Nat.le_refl _⟩, ⟨by first | exact Kd.R_nil _ _ _ _ _ | exact Kd.N_nil _ _ _ _ _ | exact Kd.V_nil _ _ _ _ _ | exact Kd.Q_nil _ _ _ _ _ | exact Kd.S_nil _ _ _ _ _⟩, ⟨bz⟩⟩
 case round =>
  clear H'
  try clear c1
  obtain ⟨x5_1, x6_1, x7_1, rfl, rfl, HA, HK1, HO_5, HB⟩ := hrel
  cases gk with
  | zero => exact absurd HA.out (by simp [manorboyref02_Nat_Sub.l0])
  | succ k1 =>
   have H := HA.out
   clear HA
   simp only [manorboyref02_Nat_Sub.l0] at H
   by_cases c3 : x7_1 < (l0.length : Int)
   ·rw [if_pos c3] at H
    have c3b0 : decide (x7_1 < (l0.length : Int)) = true := decide_eq_true c3
    clear c3
    by_cases c4 : 0 ≤ x7_1
    ·rw [if_pos c4] at H
     have c4b0 : decide (0 ≤ x7_1) = true := decide_eq_true c4
     clear c4
     have HC5 := Aside0.mk H
     clear H
     have p206 : 0 ≤ (x7_1 : Int) := oda
     have q206 : x7_1 < (l0.length : Int) := oda
     obtain ⟨ad206, e206, hx206_0⟩ := Kd.at_int HR0.out x7_1 p206 q206
     cases e206
     replace hx206_0 := (HB.out.cell (World.block_lt_of_cell? w _ hx206_0)).trans hx206_0
     replace p206 := eq_true p206
     replace q206 := eq_true q206
     go_upto_if 24 with (fail)
     go_cut [8] (fun v8 wc => ∃ (kq : Nat) (x8_4 : Int), v8 = .int .i64 x8_4 ∧ Aside0 (manorboyref02_Nat_Sub.j1 kq l0 l1 x5_1 x7_1 x8_4 = some r) ∧ Aside0 (kq ≤ k1) ∧ Aside0 (Kd.R (Kd.int .i64) 3 wc w.heap.size (fun _ => True) u5 x5_1) ∧ Aside0 (Below w.heap.size w wc))
     case first => as_aux_lemma =>
      have H := HC5.out
      clear HC5
      by_cases c6 : x7_1 < (l1.length : Int)
      ·rw [if_pos c6] at H
       have c6b0 : decide (x7_1 < (l1.length : Int)) = true := decide_eq_true c6
       clear c6
       (first | rw [c6b0] | (simp only [i64_w, i32_w]; rw [c6b0]) | skip)
       have H' := Aside0.mk H
       clear H
       have p207 : 0 ≤ (x7_1 : Int) := oda
       have q207 : x7_1 < (l1.length : Int) := oda
       obtain ⟨ad207, e207, hx207_0⟩ := Kd.at_int HR1.out x7_1 p207 q207
       cases e207
       replace hx207_0 := (HB.out.cell (World.block_lt_of_cell? w _ hx207_0)).trans hx207_0
       replace p207 := eq_true p207
       replace q207 := eq_true q207
       go_wp2
       go_meet
       case rel => exact ⟨_, (wrap64 ((wrap64 ((rd l0 x7_1) - x6_1)) - (rd l1 x7_1))), (by first | rfl | (simp; done) | (simp [*]; done)), H', ⟨by have := HK1.out; first | omega | exact Nat.le_refl _⟩, ⟨rz HO_5⟩, ⟨bz⟩⟩
      ·rw [if_neg c6] at H
       have c6b0 : decide (x7_1 < (l1.length : Int)) = false := decide_eq_false c6
       clear c6
       (first | rw [c6b0] | (simp only [i64_w, i32_w]; rw [c6b0]) | skip)
       have H' := Aside0.mk H
       clear H
       go_wp2
       go_meet
       case rel => exact ⟨_, (wrap64 ((rd l0 x7_1) - x6_1)), (by first | rfl | (simp; done) | (simp [*]; done)), H', ⟨by have := HK1.out; first | omega | exact Nat.le_refl _⟩, ⟨rz HO_5⟩, ⟨bz⟩⟩
     case rest => as_aux_lemma =>
      clear HC5
      try clear c1
      try clear c3
      try clear c3b0
      try clear c4
      try clear c4b0
      try clear c6
      try clear c6b0
      try clear hx206_0
      try clear hx207_0
      try clear p206
      try clear p207
      try clear q206
      try clear q207
      obtain ⟨kq, x8_4, rfl, HA, HJ4, HO_5, HB⟩ := hcut
      cases kq with
      | zero => exact absurd HA.out (by simp [manorboyref02_Nat_Sub.j1])
      | succ kj4 =>
       have H := HA.out
       clear HA
       simp only [manorboyref02_Nat_Sub.j1] at H
       by_cases c7 : x8_4 < 0
       ·rw [if_pos c7] at H
        have c7b0 : decide (x8_4 < 0) = true := decide_eq_true c7
        clear c7
        by_cases c8 : x5_1.length < 17592186044416
        ·rw [if_pos c8] at H
         have LMc8 := Aside0.mk c8
         clear c8
         obtain ⟨y208, hy208⟩ : ∃ y_ : List Int, y_ = (x5_1 ++ [wrap64 (x8_4 + 32768)]) := ⟨_, rfl⟩
         replace H : (manorboyref02_Nat_Sub.l0 kj4 l0 l1 y208 1 (wrap64 (x7_1 + 1))) = some r := by first | (rw [hy208]; with_reducible exact H) | (have H2_ := (Option.bind_some _ _).symm.trans H; rw [hy208]; with_reducible exact H2_) | (have H2_ := (Option.bind_some _ _).symm.trans H; with_reducible exact H2_) | with_reducible exact H | (rw [hy208]; exact H) | exact H
         have Ny208 := Aside0.mk hy208
         clear hy208
         have H' := Aside0.mk H
         clear H
         go_wp2_with (first | ((with_reducible refine gate_builtin (b := .append) (xs := #[.tmp 35, .tmp 37]) rfl ?_); at_builtin; refine Kd.R_append (Kd.int .i64) (w0 := w) w.heap.size rfl (.tmp 35) (.tmp 37) 96 3 (.int .i64 0) 8 rfl Tryz.underlying96 info3 rfl (by decide) (by omega) u5 x5_1 (wrap64 (x8_4 + 32768)) [.int .i64 (wrap64 (x8_4 + 32768))] (fun _ => True) (fun _ => False) rfl rfl ?aP (fun _ hk => hk.elim) ?aF ?aO ?aB ?aS ?aL ?_; (case aP => exact rfl); (case aB => exact bz); (case aF => exact (fun _ _ => trivial)); (case aO => exact (rz HO_5)); (case aS => exact (below_size bz)); (case aL => have := LMc8.out; omega); intro v209 w9 ho hb hg hat; rw [← Ny208.out] at ho; have HO210 := Aside0.mk (ho); replace HB := Aside0.mk (hb); clear HO_5; clear ho hb hg hat))
         go_roundg kj4
         case measure => have := HK1.out; have := HJ4.out; omega
         case rel => exact ⟨(y208), (1), (wrap64 (x7_1 + 1)), (by first | rfl | (simp; done) | (simp [*]; done)), (by first | rfl | (simp; done) | (simp [*]; done)), H', ⟨by have := HK1.out; have := HJ4.out; omega⟩, ⟨rz HO210⟩, ⟨bz⟩⟩
        ·rw [if_neg c8] at H
         exact absurd H (by simp)
       ·rw [if_neg c7] at H
        have c7b0 : decide (x8_4 < 0) = false := decide_eq_false c7
        clear c7
        by_cases c10 : x5_1.length < 17592186044416
        ·rw [if_pos c10] at H
         have LMc10 := Aside0.mk c10
         clear c10
         obtain ⟨y211, hy211⟩ : ∃ y_ : List Int, y_ = (x5_1 ++ [x8_4]) := ⟨_, rfl⟩
         replace H : (manorboyref02_Nat_Sub.l0 kj4 l0 l1 y211 0 (wrap64 (x7_1 + 1))) = some r := by first | (rw [hy211]; with_reducible exact H) | (have H2_ := (Option.bind_some _ _).symm.trans H; rw [hy211]; with_reducible exact H2_) | (have H2_ := (Option.bind_some _ _).symm.trans H; with_reducible exact H2_) | with_reducible exact H | (rw [hy211]; exact H) | exact H
         have Ny211 := Aside0.mk hy211
         clear hy211
         have H' := Aside0.mk H
         clear H
         go_wp2_with (first | ((with_reducible refine gate_builtin (b := .append) (xs := #[.tmp 35, .tmp 37]) rfl ?_); at_builtin; refine Kd.R_append (Kd.int .i64) (w0 := w) w.heap.size rfl (.tmp 35) (.tmp 37) 96 3 (.int .i64 0) 8 rfl Tryz.underlying96 info3 rfl (by decide) (by omega) u5 x5_1 x8_4 [.int .i64 x8_4] (fun _ => True) (fun _ => False) rfl rfl ?aP (fun _ hk => hk.elim) ?aF ?aO ?aB ?aS ?aL ?_; (case aP => exact rfl); (case aB => exact bz); (case aF => exact (fun _ _ => trivial)); (case aO => exact (rz HO_5)); (case aS => exact (below_size bz)); (case aL => have := LMc10.out; omega); intro v212 w11 ho hb hg hat; rw [← Ny211.out] at ho; have HO213 := Aside0.mk (ho); replace HB := Aside0.mk (hb); clear HO_5; clear ho hb hg hat))
         go_roundg kj4
         case measure => have := HK1.out; have := HJ4.out; omega
         case rel => exact ⟨(y211), (0), (wrap64 (x7_1 + 1)), (by first | rfl | (simp; done) | (simp [*]; done)), (by first | rfl | (simp; done) | (simp [*]; done)), H', ⟨by have := HK1.out; have := HJ4.out; omega⟩, ⟨rz HO213⟩, ⟨bz⟩⟩
        ·rw [if_neg c10] at H
         exact absurd H (by simp)
    ·rw [if_neg c4] at H
     exact absurd H (by simp)
   ·rw [if_neg c3] at H
    have c3b0 : decide (x7_1 < (l0.length : Int)) = false := decide_eq_false c3
    clear c3
    replace H := Option.bind_eq_some_iff.mp H
    obtain ⟨t203, A120, H⟩ := H
    try dsimp only at H
    have A12 := Aside0.mk A120
    clear A120
    obtain rfl := Option.some.inj H
    obtain ⟨Ao13, co13, eo13⟩ := Kd.R_slice HO_5.out
    subst eo13
    go_wp2_with (first | ((with_reducible refine gate_callee (f := 121) rfl ?_); refine goesL_ (some 40) rfl rfl Tryz.func121 (by kernel_rfl) rfl #[.slice Ao13 x5_1.length co13] rfl az ?_; (with_reducible refine (manorboyref02_cut.calls k1 (fun k_ => some k_ = (.slice Ao13 x5_1.length co13 : Value).ownBlock) (.slice Ao13 x5_1.length co13) x5_1 t203 w _ ?side1 ?side2 A12.out).mono ?_); (case side1 => repeat (first | (with_reducible first | exact HB.out | apply below_alloc | apply pw_below_drewN | apply below_drew1) | exact HB.out)); (case side2 => exact Kd.R_tight rfl HO_5.out); rintro e w14 ⟨v204, rfl, ho0, hb, hkp⟩; refine ⟨_, rfl, ?_⟩; have HO205 := Aside0.mk (Kd.R_mono (ok' := fun k_ => True) ho0 (fun k_ hk_ => trivial)); replace HB := Aside0.mk (hb); clear HO_5; (try clear hb); (try clear hkp); (try clear ho0)))
    go_ret
    exact ⟨_, by first | rfl | (simp [errW_none, errW_some] <;> rfl) | (simp [*, errW_none, errW_some] <;> rfl), by (with_reducible repeat (first | apply Kd.R_alloc | apply Kd.R_drewN | apply Kd.R_drew)); exact HO205.out, bz⟩

end Go.Proofs.YteigbokklclmbaaGreatDoor.Z.Y.V
end
section
namespace Go.Proofs.YteigbokklclmbaaGreatDoor.Z.Y.V
open Go.RowKit Go.Proofs.YteigbokklclmbaaGreatDoor.Given Go.Proofs.YteigbokklclmbaaGreatDoorW.PrintWords Go.Proofs.YteigbokklclmbaaGreatDoorW.PrintLast Go.Proofs.YteigbokklclmbaaGreatDoorW.PrintMore
attribute [local go_sem] max2_int min2_int max_two min_two max_three min_three max_four min_four   -- for this text's walks alone

def manorboyref02_Add.f (k : Nat) (a0_0 : Int) (a0_1 : Int) (a1_0 : Int) (a1_1 : Int) : Option (Int × Int × Bool) := (manorboyref02_Of.f k a0_0 a0_1).bind fun bt217 => ((manorboyref02_Of.f k a1_0 a1_1).bind fun bt225 => (if (bt217.1 == bt225.1) = true then ((manorboyref02_Nat_Add.f k bt217.2.1 bt225.2.1).bind fun t233 => ((manorboyref02_Quotient_Round.f k bt217.1 t233 bt217.2.2).bind fun bt236 => (some (bt236.1, bt236.2.1, bt236.2.2)))) else ((manorboyref02_Nat_Cmp.f k bt217.2.1 bt225.2.1).bind fun t239 => (if t239 ≥ 0 then ((manorboyref02_Nat_Sub.f k bt217.2.1 bt225.2.1).bind fun t240 => ((manorboyref02_Quotient_Round.f k bt217.1 t240 bt217.2.2).bind fun bt243 => (some (bt243.1, bt243.2.1, bt243.2.2)))) else ((manorboyref02_Nat_Sub.f k bt225.2.1 bt217.2.1).bind fun t246 => ((manorboyref02_Quotient_Round.f k bt225.1 t246 bt217.2.2).bind fun bt249 => (some (bt249.1, bt249.2.1, bt249.2.2))))))))
def manorboyref02_Add.T4 : Bool × List (List Nat × List Nat) := (true, [([], []), ([0], [0]), ([], []), ([2], [2]), ([], []), ([4], [4]), ([3, 5], [3, 5]), ([], []), ([7], [7]), ([1, 6, 8], [1, 6, 8]), ([9, 6], [9]), ([10, 10, 0, 1, 2, 3, 4, 5, 6, 7, 8, 9, 10], [10])])
def manorboyref02_Add.B4 : List Nat := [0, 1, 0, 4, 0, 16, 60, 0, 128, 511, 1023, 2047]
theorem manorboyref02_Add.tab4 : rtab .any (opsOf Tryz.f36 4) = manorboyref02_Add.T4 := by kernel_rfl
theorem manorboyref02_Add.bits4 : waitsOk manorboyref02_Add.T4.2 manorboyref02_Add.B4 = true := by kernel_rfl
def manorboyref02_Add.T6 : Bool × List (List Nat × List Nat) := (true, [([], []), ([0], [0]), ([], []), ([2], [2]), ([], []), ([4], [4]), ([3, 5], [3, 5]), ([], []), ([7], [7]), ([1, 6, 8], [1, 6, 8]), ([9, 6], [9]), ([10, 10, 0, 1, 2, 3, 4, 5, 6, 7, 8, 9, 10], [10])])
def manorboyref02_Add.B6 : List Nat := [0, 1, 0, 4, 0, 16, 60, 0, 128, 511, 1023, 2047]
theorem manorboyref02_Add.tab6 : rtab .any (opsOf Tryz.f36 6) = manorboyref02_Add.T6 := by kernel_rfl
theorem manorboyref02_Add.bits6 : waitsOk manorboyref02_Add.T6.2 manorboyref02_Add.B6 = true := by kernel_rfl
def manorboyref02_Add.T7 : Bool × List (List Nat × List Nat) := (true, [([], []), ([0], [0]), ([], []), ([2], [2]), ([], []), ([4], [4]), ([3, 5], [3, 5]), ([], []), ([7], [7]), ([1, 6, 8], [1, 6, 8]), ([9, 6], [9]), ([10, 10, 0, 1, 2, 3, 4, 5, 6, 7, 8, 9, 10], [10])])
def manorboyref02_Add.B7 : List Nat := [0, 1, 0, 4, 0, 16, 60, 0, 128, 511, 1023, 2047]
theorem manorboyref02_Add.tab7 : rtab .any (opsOf Tryz.f36 7) = manorboyref02_Add.T7 := by kernel_rfl
theorem manorboyref02_Add.bits7 : waitsOk manorboyref02_Add.T7.2 manorboyref02_Add.B7 = true := by kernel_rfl
theorem manorboyref02_Add.calls (k : Nat) (a0_0 : Int) (a0_1 : Int) (a1_0 : Int) (a1_1 : Int) (r1 : Int) (r2 : Int) (r3 : Bool) (w : World) (h : manorboyref02_Add.f k a0_0 a0_1 a1_0 a1_1 = some (r1, r2, r3)) :
  Calls Tryz.prog 36 #[.agg #[.int .i64 a0_0, .int .i64 a0_1], .agg #[.int .i64 a1_0, .int .i64 a1_1]] w fun e w' => e = .returned (.agg #[.int .i64 r1, .int .i64 r2, .bool r3]) ∧ Below w.heap.size w w' := by
 have hu23 := Tryz.underlying23
 have hu50 := Tryz.underlying50
 have hu102 := Tryz.underlying102
 have HB := Aside0.mk (Below.refl w.heap.size w)
 have H := h; unfold manorboyref02_Add.f at H; clear h
 replace H := Option.bind_eq_some_iff.mp H
 obtain ⟨⟨t217, t218, t221⟩, A30, H⟩ := H
 try dsimp only at H
 have A3 := Aside0.mk A30
 clear A30
 replace H := Option.bind_eq_some_iff.mp H
 obtain ⟨⟨t225, t226, t229⟩, A40, H⟩ := H
 try dsimp only at H
 have A4 := Aside0.mk A40
 clear A40
 go_enter Tryz.func36, Tryz.ntmps36
 go_upto_if 15 with (first | ((with_reducible refine gate_dst (N := 2) rfl ?_); refine box_event ?hg (N := 2) ?hd (cs := #[.int .i64 a0_0, .int .i64 a0_1]) (t := 23) ?hr ?_; (case hd => rfl); (case hg => rfl); (case hr => first | (go_simp; done) | (go_simp; rfl)); intro gb214 hg w8 hbox hb; have BK214 := Aside0.mk hbox; have GW214 := ge hg; have GE214 := ge hg; replace HB := bs hb; clear hb hbox hg) | ((with_reducible refine gate_dst (N := 3) rfl ?_); refine box_event ?hg (N := 3) ?hd (cs := #[.int .i64 a1_0, .int .i64 a1_1]) (t := 23) ?hr ?_; (case hd => rfl); (case hg => rfl); (case hr => first | (go_simp; done) | (go_simp; rfl)); intro gb215 hg w9 hbox hb; have BK215 := Aside0.mk hbox; have GW215 := ge hg; have GE215 := ge hg; have NB214_215 := nl BK214 hg; have NB215_214 := nr BK214 hg; replace BK214 := kb BK214 hb; replace HB := bs hb; clear hb hbox hg) | ((with_reducible refine gate_dst (N := 4) rfl ?_); refine box_event ?hg (N := 4) ?hd (cs := #[.int .i64 0, .int .i64 0, .bool false]) (t := 50) ?hr ?_; (case hd => rfl); (case hg => rfl); (case hr => first | (go_simp; done) | (go_simp; rfl)); intro gb216 hg w10 hbox hb; have BK216 := Aside0.mk hbox; have GW216 := ge hg; have GE216 := ge hg; have NB214_216 := nl BK214 hg; have NB216_214 := nr BK214 hg; have NB215_216 := nl BK215 hg; have NB216_215 := nr BK215 hg; replace BK214 := kb BK214 hb; replace BK215 := kb BK215 hb; replace HB := bs hb; clear hb hbox hg; have hnb11 := NB214_215.out; have hnc11 := NB215_214.out; have hnb12 := NB214_216.out; have hnc12 := NB216_214.out; have hcz13_0 := c20 BK214; have hcz13_1 := c21 BK214; have hfz13_0 := blk_frozen BK214.out 0; have hfz13_1 := blk_frozen BK214.out 1) | ((with_reducible refine gate_callee (f := 102) rfl ?_); refine goesL_ (some 8) rfl rfl Tryz.func102 (by kernel_rfl) rfl #[.agg #[.int .i64 a0_0, .int .i64 a0_1]] rfl az ?_; (with_reducible refine (manorboyref02_Of.calls k a0_0 a0_1 t217 t218 t221 _ A3.out).mono ?_); rintro e w14 ⟨v219, v222, rfl, ho0, ho1, hb⟩; refine ⟨_, rfl, ?_⟩; have HO220 := Aside0.mk (Kd.R_lower ho0 (below_size bz)); have HO223 := Aside0.mk (Kd.R_lower ho1 (below_size bz)); replace BK214 := kb BK214 hb; replace BK215 := kb BK215 hb; replace BK216 := kb BK216 hb; replace HB := bs hb; (try clear hb); (try clear hk); (try clear ho0); (try clear ho1)) | ((with_reducible refine gate_dst (N := 5) rfl ?_); refine box_event ?hg (N := 5) ?hd (cs := #[.bool false, .slice none 0 0, .slice none 0 0]) (t := 102) ?hr ?_; (case hd => rfl); (case hg => rfl); (case hr => first | (go_simp; done) | (go_simp; rfl)); intro gb224 hg w15 hbox hb; have BK224 := Aside0.mk hbox; have GW224 := ge hg; have GE224 := ge hg; have NB214_224 := nl BK214 hg; have NB224_214 := nr BK214 hg; have NB215_224 := nl BK215 hg; have NB224_215 := nr BK215 hg; have NB216_224 := nl BK216 hg; have NB224_216 := nr BK216 hg; replace HO220 := rb HO220 hb; replace HO223 := rb HO223 hb; replace BK214 := kb BK214 hb; replace BK215 := kb BK215 hb; replace BK216 := kb BK216 hb; replace HB := bs hb; clear hb hbox hg; have hnb16 := NB224_214.out; have hnc16 := NB214_224.out; have hnb17 := NB224_215.out; have hnc17 := NB215_224.out; have hnb18 := NB224_216.out; have hnc18 := NB216_224.out; have hcz19_0 : w15.cell? ⟨gb224, 0, none⟩ = some (.bool false) := (blk_cell BK224.out 0).trans rfl; have hcz19_1 : w15.cell? ⟨gb224, 1, none⟩ = some (.slice none 0 0) := (blk_cell BK224.out 1).trans rfl; have hcz19_2 : w15.cell? ⟨gb224, 2, none⟩ = some (.slice none 0 0) := (blk_cell BK224.out 2).trans rfl; have hfz19_0 := blk_frozen BK224.out 0; have hfz19_1 := blk_frozen BK224.out 1; have hfz19_2 := blk_frozen BK224.out 2; obtain ⟨Ao20, co20, eo20⟩ := Kd.R_slice HO220.out; subst eo20; obtain ⟨Ao21, co21, eo21⟩ := Kd.R_slice HO223.out; subst eo21; have hnb22 := NB215_216.out; have hnc22 := NB216_215.out; have hcz23_0 := c20 BK215; have hcz23_1 := c21 BK215; have hfz23_0 := blk_frozen BK215.out 0; have hfz23_1 := blk_frozen BK215.out 1) | ((with_reducible refine gate_callee (f := 102) rfl ?_); refine goesL_ (some 10) rfl rfl Tryz.func102 (by kernel_rfl) rfl #[.agg #[.int .i64 a1_0, .int .i64 a1_1]] rfl az ?_; (with_reducible refine (manorboyref02_Of.calls k a1_0 a1_1 t225 t226 t229 _ A4.out).mono ?_); rintro e w24 ⟨v227, v230, rfl, ho0, ho1, hb⟩; refine ⟨_, rfl, ?_⟩; have HO228 := Aside0.mk (Kd.R_lower (Kd.R_new' (Kd.R_new' ho0 (Kd.R_lt (by (with_reducible repeat (first | apply Kd.R_alloc | apply Kd.R_drewN | apply Kd.R_drew)); exact (Kd.R_mono (Kd.R_far (p := ⟨gb224, 2, none⟩) (Kd.R_far (p := ⟨gb224, 1, none⟩) (Kd.R_far (p := ⟨gb224, 0, none⟩) (Kd.R_types HO220.out BK224.out (by decide)) (fun _ hk => hk.2) (.bool t217)) (fun _ hk => hk.2) (.slice Ao20 t218.length co20)) (fun _ hk => hk.2) (.slice Ao21 t221.length co21)) (fun _ h_ => h_.1))))) (Kd.R_lt (by (with_reducible repeat (first | apply Kd.R_alloc | apply Kd.R_drewN | apply Kd.R_drew)); exact (Kd.R_mono (Kd.R_far (p := ⟨gb224, 2, none⟩) (Kd.R_far (p := ⟨gb224, 1, none⟩) (Kd.R_far (p := ⟨gb224, 0, none⟩) (Kd.R_types HO223.out BK224.out (by decide)) (fun _ hk => hk.2) (.bool t217)) (fun _ hk => hk.2) (.slice Ao20 t218.length co20)) (fun _ hk => hk.2) (.slice Ao21 t221.length co21)) (fun _ h_ => h_.1))))) (below_size bz)); have HO231 := Aside0.mk (Kd.R_lower (Kd.R_new' (Kd.R_new' ho1 (Kd.R_lt (by (with_reducible repeat (first | apply Kd.R_alloc | apply Kd.R_drewN | apply Kd.R_drew)); exact (Kd.R_mono (Kd.R_far (p := ⟨gb224, 2, none⟩) (Kd.R_far (p := ⟨gb224, 1, none⟩) (Kd.R_far (p := ⟨gb224, 0, none⟩) (Kd.R_types HO220.out BK224.out (by decide)) (fun _ hk => hk.2) (.bool t217)) (fun _ hk => hk.2) (.slice Ao20 t218.length co20)) (fun _ hk => hk.2) (.slice Ao21 t221.length co21)) (fun _ h_ => h_.1))))) (Kd.R_lt (by (with_reducible repeat (first | apply Kd.R_alloc | apply Kd.R_drewN | apply Kd.R_drew)); exact (Kd.R_mono (Kd.R_far (p := ⟨gb224, 2, none⟩) (Kd.R_far (p := ⟨gb224, 1, none⟩) (Kd.R_far (p := ⟨gb224, 0, none⟩) (Kd.R_types HO223.out BK224.out (by decide)) (fun _ hk => hk.2) (.bool t217)) (fun _ hk => hk.2) (.slice Ao20 t218.length co20)) (fun _ hk => hk.2) (.slice Ao21 t221.length co21)) (fun _ h_ => h_.1))))) (below_size bz)); replace HO220 := Aside0.mk (Kd.R_mono (Kd.R_told (Kd.R_told (Kd.R_old (by (with_reducible repeat (first | apply Kd.R_alloc | apply Kd.R_drewN | apply Kd.R_drew)); exact (Kd.R_mono (Kd.R_far (p := ⟨gb224, 2, none⟩) (Kd.R_far (p := ⟨gb224, 1, none⟩) (Kd.R_far (p := ⟨gb224, 0, none⟩) (Kd.R_types HO220.out BK224.out (by decide)) (fun _ hk => hk.2) (.bool t217)) (fun _ hk => hk.2) (.slice Ao20 t218.length co20)) (fun _ hk => hk.2) (.slice Ao21 t221.length co21)) (fun _ h_ => h_.1))) hb) (Kd.R_base ho0)) (Kd.R_base ho1)) (fun _ h_ => h_.1)); replace HO223 := Aside0.mk (Kd.R_mono (Kd.R_told (Kd.R_told (Kd.R_old (by (with_reducible repeat (first | apply Kd.R_alloc | apply Kd.R_drewN | apply Kd.R_drew)); exact (Kd.R_mono (Kd.R_far (p := ⟨gb224, 2, none⟩) (Kd.R_far (p := ⟨gb224, 1, none⟩) (Kd.R_far (p := ⟨gb224, 0, none⟩) (Kd.R_types HO223.out BK224.out (by decide)) (fun _ hk => hk.2) (.bool t217)) (fun _ hk => hk.2) (.slice Ao20 t218.length co20)) (fun _ hk => hk.2) (.slice Ao21 t221.length co21)) (fun _ h_ => h_.1))) hb) (Kd.R_base ho0)) (Kd.R_base ho1)) (fun _ h_ => h_.1)); replace BK214 := Aside0.mk (blk_below (g := gb214) (o := .cells #[.int .i64 a0_0, .int .i64 a0_1] 23 (0, 0)) (by (with_reducible repeat (first | refine blk_drewN ?_ _ | refine blk_drew ?_ | refine blk_alloc ?_ _)); refine blk_far ?_ NB214_224.out _; (with_reducible repeat (first | refine blk_drewN ?_ _ | refine blk_drew ?_ | refine blk_alloc ?_ _)); refine blk_far ?_ NB214_224.out _; (with_reducible repeat (first | refine blk_drewN ?_ _ | refine blk_drew ?_ | refine blk_alloc ?_ _)); refine blk_far ?_ NB214_224.out _; (with_reducible repeat (first | refine blk_drewN ?_ _ | refine blk_drew ?_ | refine blk_alloc ?_ _)); exact BK214.out) hb); replace BK215 := Aside0.mk (blk_below (g := gb215) (o := .cells #[.int .i64 a1_0, .int .i64 a1_1] 23 (0, 0)) (by (with_reducible repeat (first | refine blk_drewN ?_ _ | refine blk_drew ?_ | refine blk_alloc ?_ _)); refine blk_far ?_ NB215_224.out _; (with_reducible repeat (first | refine blk_drewN ?_ _ | refine blk_drew ?_ | refine blk_alloc ?_ _)); refine blk_far ?_ NB215_224.out _; (with_reducible repeat (first | refine blk_drewN ?_ _ | refine blk_drew ?_ | refine blk_alloc ?_ _)); refine blk_far ?_ NB215_224.out _; (with_reducible repeat (first | refine blk_drewN ?_ _ | refine blk_drew ?_ | refine blk_alloc ?_ _)); exact BK215.out) hb); replace BK216 := Aside0.mk (blk_below (g := gb216) (o := .cells #[.int .i64 0, .int .i64 0, .bool false] 50 (0, 0)) (by (with_reducible repeat (first | refine blk_drewN ?_ _ | refine blk_drew ?_ | refine blk_alloc ?_ _)); refine blk_far ?_ NB216_224.out _; (with_reducible repeat (first | refine blk_drewN ?_ _ | refine blk_drew ?_ | refine blk_alloc ?_ _)); refine blk_far ?_ NB216_224.out _; (with_reducible repeat (first | refine blk_drewN ?_ _ | refine blk_drew ?_ | refine blk_alloc ?_ _)); refine blk_far ?_ NB216_224.out _; (with_reducible repeat (first | refine blk_drewN ?_ _ | refine blk_drew ?_ | refine blk_alloc ?_ _)); exact BK216.out) hb); replace BK224 := Aside0.mk (blk_below (g := gb224) (o := .cells #[.bool t217, .slice Ao20 t218.length co20, .slice Ao21 t221.length co21] 102 (0, 0)) (by (with_reducible repeat (first | refine blk_drewN ?_ _ | refine blk_drew ?_ | refine blk_alloc ?_ _)); refine blk_put (cs := #[.bool t217, .slice Ao20 t218.length co20, .slice none 0 0]) ?_ 2 _ rfl; (with_reducible repeat (first | refine blk_drewN ?_ _ | refine blk_drew ?_ | refine blk_alloc ?_ _)); refine blk_put (cs := #[.bool t217, .slice none 0 0, .slice none 0 0]) ?_ 1 _ rfl; (with_reducible repeat (first | refine blk_drewN ?_ _ | refine blk_drew ?_ | refine blk_alloc ?_ _)); refine blk_put (cs := #[.bool false, .slice none 0 0, .slice none 0 0]) ?_ 0 _ rfl; (with_reducible repeat (first | refine blk_drewN ?_ _ | refine blk_drew ?_ | refine blk_alloc ?_ _)); exact BK224.out) hb); replace HB := bs hb; (try clear hb); (try clear hk); (try clear ho0); (try clear ho1)) | ((with_reducible refine gate_dst (N := 6) rfl ?_); refine box_event ?hg (N := 6) ?hd (cs := #[.bool false, .slice none 0 0, .slice none 0 0]) (t := 102) ?hr ?_; (case hd => rfl); (case hg => rfl); (case hr => first | (go_simp; done) | (go_simp; rfl)); intro gb232 hg w25 hbox hb; have BK232 := Aside0.mk hbox; have GW232 := ge hg; have GE232 := ge hg; have NB214_232 := nl BK214 hg; have NB232_214 := nr BK214 hg; have NB215_232 := nl BK215 hg; have NB232_215 := nr BK215 hg; have NB216_232 := nl BK216 hg; have NB232_216 := nr BK216 hg; have NB224_232 := nl BK224 hg; have NB232_224 := nr BK224 hg; replace HO220 := rb HO220 hb; replace HO223 := rb HO223 hb; replace HO228 := rb HO228 hb; replace HO231 := rb HO231 hb; replace BK214 := kb BK214 hb; replace BK215 := kb BK215 hb; replace BK216 := kb BK216 hb; replace BK224 := kb BK224 hb; replace HB := bs hb; clear hb hbox hg; have hnb26 := NB232_214.out; have hnc26 := NB214_232.out; have hnb27 := NB232_215.out; have hnc27 := NB215_232.out; have hnb28 := NB232_216.out; have hnc28 := NB216_232.out; have hnb29 := NB232_224.out; have hnc29 := NB224_232.out; have hcz30_0 : w25.cell? ⟨gb232, 0, none⟩ = some (.bool false) := (blk_cell BK232.out 0).trans rfl; have hcz30_1 : w25.cell? ⟨gb232, 1, none⟩ = some (.slice none 0 0) := (blk_cell BK232.out 1).trans rfl; have hcz30_2 : w25.cell? ⟨gb232, 2, none⟩ = some (.slice none 0 0) := (blk_cell BK232.out 2).trans rfl; have hfz30_0 := blk_frozen BK232.out 0; have hfz30_1 := blk_frozen BK232.out 1; have hfz30_2 := blk_frozen BK232.out 2; obtain ⟨Ao31, co31, eo31⟩ := Kd.R_slice HO228.out; subst eo31; obtain ⟨Ao32, co32, eo32⟩ := Kd.R_slice HO231.out; subst eo32; have hcz33_0 : w25.cell? ⟨gb224, 0, none⟩ = some (.bool t217) := (blk_cell BK224.out 0).trans rfl; have hcz33_1 : w25.cell? ⟨gb224, 1, none⟩ = some (.slice Ao20 t218.length co20) := (blk_cell BK224.out 1).trans rfl; have hcz33_2 : w25.cell? ⟨gb224, 2, none⟩ = some (.slice Ao21 t221.length co21) := (blk_cell BK224.out 2).trans rfl; have hfz33_0 := blk_frozen BK224.out 0; have hfz33_1 := blk_frozen BK224.out 1; have hfz33_2 := blk_frozen BK224.out 2))
 by_cases c5 : (t217 == t225) = true
 ·rw [if_pos c5] at H
  have c5b0 : (t217 == t225) = true := c5
  (try (have c5b1 : decide (t217 = t225) = true := by simpa using c5))
  (try (have c5b2 : (t217 == t225) = true := by simpa using c5))
  clear c5
  replace H := Option.bind_eq_some_iff.mp H
  obtain ⟨t233, A60, H⟩ := H
  try dsimp only at H
  have A6 := Aside0.mk A60
  clear A60
  replace H := Option.bind_eq_some_iff.mp H
  obtain ⟨⟨t236, t237, t238⟩, A70, H⟩ := H
  try dsimp only at H
  have A7 := Aside0.mk A70
  clear A70
  simp only [Option.some.injEq, Prod.mk.injEq] at H
  obtain ⟨rfl, rfl, rfl⟩ := H
  (first | rw [c5b0] | (simp only [i64_w, i32_w]; rw [c5b0]) | skip)
  try go_wp2
  have n0_ : Aside0 (Kd.R (Kd.int .i64) 3 (((w25.setCell ⟨gb232, 0, none⟩ (.bool t225)).setCell ⟨gb232, 1, none⟩ (.slice Ao31 t226.length co31)).setCell ⟨gb232, 2, none⟩ (.slice Ao32 t229.length co32)) w.heap.size (fun k_ => some k_ ≠ (.slice Ao21 t221.length co21 : Value).ownBlock ∧ some k_ ≠ (.slice Ao31 t226.length co31 : Value).ownBlock ∧ some k_ ≠ (.slice Ao32 t229.length co32 : Value).ownBlock) (.slice Ao20 t218.length co20) t218) := ⟨by (with_reducible repeat (first | apply Kd.R_alloc | apply Kd.R_drewN | apply Kd.R_drew)); exact Kd.R_mono (Kd.R_far (p := ⟨gb232, 2, none⟩) (Kd.R_far (p := ⟨gb232, 1, none⟩) (Kd.R_far (p := ⟨gb232, 0, none⟩) (Kd.R_types HO220.out BK232.out (by decide)) (fun _ hk => hk.2) (.bool t225)) (fun _ hk => hk.2) (.slice Ao31 t226.length co31)) (fun _ hk => hk.2) (.slice Ao32 t229.length co32)) (fun _ hk => ⟨hk.1.1.1, ⟨hk.1.1.2, hk.1.2⟩⟩)⟩
  have n1_ : Aside0 (Kd.R (Kd.int .i64) 3 (((w25.setCell ⟨gb232, 0, none⟩ (.bool t225)).setCell ⟨gb232, 1, none⟩ (.slice Ao31 t226.length co31)).setCell ⟨gb232, 2, none⟩ (.slice Ao32 t229.length co32)) w.heap.size (fun k_ => some k_ ≠ (.slice Ao20 t218.length co20 : Value).ownBlock ∧ some k_ ≠ (.slice Ao31 t226.length co31 : Value).ownBlock ∧ some k_ ≠ (.slice Ao32 t229.length co32 : Value).ownBlock) (.slice Ao21 t221.length co21) t221) := ⟨by (with_reducible repeat (first | apply Kd.R_alloc | apply Kd.R_drewN | apply Kd.R_drew)); exact Kd.R_mono (Kd.R_far (p := ⟨gb232, 2, none⟩) (Kd.R_far (p := ⟨gb232, 1, none⟩) (Kd.R_far (p := ⟨gb232, 0, none⟩) (Kd.R_types HO223.out BK232.out (by decide)) (fun _ hk => hk.2) (.bool t225)) (fun _ hk => hk.2) (.slice Ao31 t226.length co31)) (fun _ hk => hk.2) (.slice Ao32 t229.length co32)) (fun _ hk => ⟨hk.1.1.1, ⟨hk.1.1.2, hk.1.2⟩⟩)⟩
  have n2_ : Aside0 (Kd.R (Kd.int .i64) 3 (((w25.setCell ⟨gb232, 0, none⟩ (.bool t225)).setCell ⟨gb232, 1, none⟩ (.slice Ao31 t226.length co31)).setCell ⟨gb232, 2, none⟩ (.slice Ao32 t229.length co32)) w.heap.size (fun k_ => some k_ ≠ (.slice Ao20 t218.length co20 : Value).ownBlock ∧ some k_ ≠ (.slice Ao21 t221.length co21 : Value).ownBlock ∧ some k_ ≠ (.slice Ao32 t229.length co32 : Value).ownBlock) (.slice Ao31 t226.length co31) t226) := ⟨by (with_reducible repeat (first | apply Kd.R_alloc | apply Kd.R_drewN | apply Kd.R_drew)); exact Kd.R_mono (Kd.R_far (p := ⟨gb232, 2, none⟩) (Kd.R_far (p := ⟨gb232, 1, none⟩) (Kd.R_far (p := ⟨gb232, 0, none⟩) (Kd.R_types HO228.out BK232.out (by decide)) (fun _ hk => hk.2) (.bool t225)) (fun _ hk => hk.2) (.slice Ao31 t226.length co31)) (fun _ hk => hk.2) (.slice Ao32 t229.length co32)) (fun _ hk => ⟨hk.1.1.2, ⟨hk.1.2, hk.1.1.1⟩⟩)⟩
  have n3_ : Aside0 (Kd.R (Kd.int .i64) 3 (((w25.setCell ⟨gb232, 0, none⟩ (.bool t225)).setCell ⟨gb232, 1, none⟩ (.slice Ao31 t226.length co31)).setCell ⟨gb232, 2, none⟩ (.slice Ao32 t229.length co32)) w.heap.size (fun k_ => some k_ ≠ (.slice Ao20 t218.length co20 : Value).ownBlock ∧ some k_ ≠ (.slice Ao21 t221.length co21 : Value).ownBlock ∧ some k_ ≠ (.slice Ao31 t226.length co31 : Value).ownBlock) (.slice Ao32 t229.length co32) t229) := ⟨by (with_reducible repeat (first | apply Kd.R_alloc | apply Kd.R_drewN | apply Kd.R_drew)); exact Kd.R_mono (Kd.R_far (p := ⟨gb232, 2, none⟩) (Kd.R_far (p := ⟨gb232, 1, none⟩) (Kd.R_far (p := ⟨gb232, 0, none⟩) (Kd.R_types HO231.out BK232.out (by decide)) (fun _ hk => hk.2) (.bool t225)) (fun _ hk => hk.2) (.slice Ao31 t226.length co31)) (fun _ hk => hk.2) (.slice Ao32 t229.length co32)) (fun _ hk => ⟨hk.1.1.2, ⟨hk.1.2, hk.1.1.1⟩⟩)⟩
  have n4_ : Aside0 ((((w25.setCell ⟨gb232, 0, none⟩ (.bool t225)).setCell ⟨gb232, 1, none⟩ (.slice Ao31 t226.length co31)).setCell ⟨gb232, 2, none⟩ (.slice Ao32 t229.length co32)).heap[gb214]? = some (.cells #[.int .i64 a0_0, .int .i64 a0_1] 23 (0, 0))) := ⟨by (with_reducible repeat (first | refine blk_drewN ?_ _ | refine blk_drew ?_ | refine blk_alloc ?_ _)); refine blk_far ?_ NB214_232.out _; (with_reducible repeat (first | refine blk_drewN ?_ _ | refine blk_drew ?_ | refine blk_alloc ?_ _)); refine blk_far ?_ NB214_232.out _; (with_reducible repeat (first | refine blk_drewN ?_ _ | refine blk_drew ?_ | refine blk_alloc ?_ _)); refine blk_far ?_ NB214_232.out _; (with_reducible repeat (first | refine blk_drewN ?_ _ | refine blk_drew ?_ | refine blk_alloc ?_ _)); exact BK214.out⟩
  have n5_ : Aside0 ((((w25.setCell ⟨gb232, 0, none⟩ (.bool t225)).setCell ⟨gb232, 1, none⟩ (.slice Ao31 t226.length co31)).setCell ⟨gb232, 2, none⟩ (.slice Ao32 t229.length co32)).heap[gb215]? = some (.cells #[.int .i64 a1_0, .int .i64 a1_1] 23 (0, 0))) := ⟨by (with_reducible repeat (first | refine blk_drewN ?_ _ | refine blk_drew ?_ | refine blk_alloc ?_ _)); refine blk_far ?_ NB215_232.out _; (with_reducible repeat (first | refine blk_drewN ?_ _ | refine blk_drew ?_ | refine blk_alloc ?_ _)); refine blk_far ?_ NB215_232.out _; (with_reducible repeat (first | refine blk_drewN ?_ _ | refine blk_drew ?_ | refine blk_alloc ?_ _)); refine blk_far ?_ NB215_232.out _; (with_reducible repeat (first | refine blk_drewN ?_ _ | refine blk_drew ?_ | refine blk_alloc ?_ _)); exact BK215.out⟩
  have n6_ : Aside0 ((((w25.setCell ⟨gb232, 0, none⟩ (.bool t225)).setCell ⟨gb232, 1, none⟩ (.slice Ao31 t226.length co31)).setCell ⟨gb232, 2, none⟩ (.slice Ao32 t229.length co32)).heap[gb216]? = some (.cells #[.int .i64 0, .int .i64 0, .bool false] 50 (0, 0))) := ⟨by (with_reducible repeat (first | refine blk_drewN ?_ _ | refine blk_drew ?_ | refine blk_alloc ?_ _)); refine blk_far ?_ NB216_232.out _; (with_reducible repeat (first | refine blk_drewN ?_ _ | refine blk_drew ?_ | refine blk_alloc ?_ _)); refine blk_far ?_ NB216_232.out _; (with_reducible repeat (first | refine blk_drewN ?_ _ | refine blk_drew ?_ | refine blk_alloc ?_ _)); refine blk_far ?_ NB216_232.out _; (with_reducible repeat (first | refine blk_drewN ?_ _ | refine blk_drew ?_ | refine blk_alloc ?_ _)); exact BK216.out⟩
  have n7_ : Aside0 ((((w25.setCell ⟨gb232, 0, none⟩ (.bool t225)).setCell ⟨gb232, 1, none⟩ (.slice Ao31 t226.length co31)).setCell ⟨gb232, 2, none⟩ (.slice Ao32 t229.length co32)).heap[gb224]? = some (.cells #[.bool t217, .slice Ao20 t218.length co20, .slice Ao21 t221.length co21] 102 (0, 0))) := ⟨by (with_reducible repeat (first | refine blk_drewN ?_ _ | refine blk_drew ?_ | refine blk_alloc ?_ _)); refine blk_far ?_ NB224_232.out _; (with_reducible repeat (first | refine blk_drewN ?_ _ | refine blk_drew ?_ | refine blk_alloc ?_ _)); refine blk_far ?_ NB224_232.out _; (with_reducible repeat (first | refine blk_drewN ?_ _ | refine blk_drew ?_ | refine blk_alloc ?_ _)); refine blk_far ?_ NB224_232.out _; (with_reducible repeat (first | refine blk_drewN ?_ _ | refine blk_drew ?_ | refine blk_alloc ?_ _)); exact BK224.out⟩
  have n8_ : Aside0 ((((w25.setCell ⟨gb232, 0, none⟩ (.bool t225)).setCell ⟨gb232, 1, none⟩ (.slice Ao31 t226.length co31)).setCell ⟨gb232, 2, none⟩ (.slice Ao32 t229.length co32)).heap[gb232]? = some (.cells #[.bool t225, .slice Ao31 t226.length co31, .slice Ao32 t229.length co32] 102 (0, 0))) := ⟨by (with_reducible repeat (first | refine blk_drewN ?_ _ | refine blk_drew ?_ | refine blk_alloc ?_ _)); refine blk_put (cs := #[.bool t225, .slice Ao31 t226.length co31, .slice none 0 0]) ?_ 2 _ rfl; (with_reducible repeat (first | refine blk_drewN ?_ _ | refine blk_drew ?_ | refine blk_alloc ?_ _)); refine blk_put (cs := #[.bool t225, .slice none 0 0, .slice none 0 0]) ?_ 1 _ rfl; (with_reducible repeat (first | refine blk_drewN ?_ _ | refine blk_drew ?_ | refine blk_alloc ?_ _)); refine blk_put (cs := #[.bool false, .slice none 0 0, .slice none 0 0]) ?_ 0 _ rfl; (with_reducible repeat (first | refine blk_drewN ?_ _ | refine blk_drew ?_ | refine blk_alloc ?_ _)); exact BK232.out⟩
  have n9_ : Aside0 (Below w.heap.size w (((w25.setCell ⟨gb232, 0, none⟩ (.bool t225)).setCell ⟨gb232, 1, none⟩ (.slice Ao31 t226.length co31)).setCell ⟨gb232, 2, none⟩ (.slice Ao32 t229.length co32))) := ⟨bz⟩
  (try clear HO220)
  (try clear HO223)
  (try clear HO228)
  (try clear HO231)
  (try clear BK214)
  (try clear BK215)
  (try clear BK216)
  (try clear BK224)
  (try clear BK232)
  (try clear HB)
  generalize (((w25.setCell ⟨gb232, 0, none⟩ (.bool t225)).setCell ⟨gb232, 1, none⟩ (.slice Ao31 t226.length co31)).setCell ⟨gb232, 2, none⟩ (.slice Ao32 t229.length co32)) = w34 at n0_ n1_ n2_ n3_ n4_ n5_ n6_ n7_ n8_ n9_ ⊢
  have HO220 := n0_
  have HO223 := n1_
  have HO228 := n2_
  have HO231 := n3_
  have BK214 := n4_
  have BK215 := n5_
  have BK216 := n6_
  have BK224 := n7_
  have BK232 := n8_
  have HB := n9_
  clear n0_ n1_ n2_ n3_ n4_ n5_ n6_ n7_ n8_ n9_
  replace HO220 := Aside0.mk (Kd.R_drew HO220.out)
  replace HO223 := Aside0.mk (Kd.R_drew HO223.out)
  replace HO228 := Aside0.mk (Kd.R_drew HO228.out)
  replace HO231 := Aside0.mk (Kd.R_drew HO231.out)
  replace BK214 := Aside0.mk (blk_drew BK214.out)
  replace BK215 := Aside0.mk (blk_drew BK215.out)
  replace BK216 := Aside0.mk (blk_drew BK216.out)
  replace BK224 := Aside0.mk (blk_drew BK224.out)
  replace BK232 := Aside0.mk (blk_drew BK232.out)
  replace HB := Aside0.mk (below_drew1 HB.out)
  refine start_ (n := 12) (S := fun w' => w'.cell? ⟨gb224, 0, none⟩ = some (.bool t217) ∧ w'.cell? ⟨gb224, 1, none⟩ = some (.slice Ao20 t218.length co20) ∧ w'.cell? ⟨gb224, 2, none⟩ = some (.slice Ao21 t221.length co21) ∧ w'.cell? ⟨gb232, 0, none⟩ = some (.bool t225) ∧ w'.cell? ⟨gb232, 1, none⟩ = some (.slice Ao31 t226.length co31) ∧ w'.cell? ⟨gb232, 2, none⟩ = some (.slice Ao32 t229.length co32)) (ds := []) #[false, false, false, false, false, false, false, false, false, false, false, false] (by kernel_rfl) rfl rfl ⟨(blk_cell BK224.out 0).trans rfl, (blk_cell BK224.out 1).trans rfl, (blk_cell BK224.out 2).trans rfl, (blk_cell BK232.out 0).trans rfl, (blk_cell BK232.out 1).trans rfl, (blk_cell BK232.out 2).trans rfl⟩ (fun hHeld => ?_); refine with_tabW manorboyref02_Add.tab4 manorboyref02_Add.bits4 (fun HT_ HW_ => ?_)
  generalize w34.drew = w35 at HO220 HO223 HO228 HO231 BK214 BK215 BK216 BK224 BK232 HB hHeld ⊢
  refine pur 0 (some 16) #[tt,ff,ff,ff,ff,ff,ff,ff,ff,ff,ff,ff] ?_
  refine pur 2 (some 18) #[tt,ff,tt,ff,ff,ff,ff,ff,ff,ff,ff,ff] ?_
  refine pur 4 (some 20) #[tt,ff,tt,ff,tt,ff,ff,ff,ff,ff,ff,ff] ?_
  refine pur 7 (some 23) #[tt,ff,tt,ff,tt,ff,ff,tt,ff,ff,ff,ff] ?_
  refine take_ (i := 1) (N := some 17) (v := ?_) (a' := ?_) #[true, true, true, false, true, false, false, true, false, false, false, false] rfl rfl (take_ofW HT_.out HW_.out (by kernel_rfl)) (fun _ _ _ h => h) (Or.inl ⟨by rfl, ?_⟩) hHeld ?_ ?_
  rotate_left
  ·rintro w' ⟨s0, s1, s2, s3, s4, s5⟩
   go_simp
   with_reducible rfl
  rotate_left
  ·simp only [Act.put, List.setIfInBounds_toArray, List.set_cons_zero, List.set_cons_succ, i64_w, i32_w]
   rfl
  refine take_ (i := 3) (N := some 19) (v := ?_) (a' := ?_) #[true, true, true, true, true, false, false, true, false, false, false, false] rfl rfl (take_ofW HT_.out HW_.out (by kernel_rfl)) (fun _ _ _ h => h) (Or.inl ⟨by rfl, ?_⟩) hHeld ?_ ?_
  rotate_left
  ·rintro w' ⟨s0, s1, s2, s3, s4, s5⟩
   go_simp
   with_reducible rfl
  rotate_left
  ·simp only [Act.put, List.setIfInBounds_toArray, List.set_cons_zero, List.set_cons_succ, i64_w, i32_w]
   rfl
  refine take_ (i := 5) (N := some 21) (v := ?_) (a' := ?_) #[true, true, true, true, true, true, false, true, false, false, false, false] rfl rfl (take_ofW HT_.out HW_.out (by kernel_rfl)) (fun _ _ _ h => h) (Or.inl ⟨by rfl, ?_⟩) hHeld ?_ ?_
  rotate_left
  ·rintro w' ⟨s0, s1, s2, s3, s4, s5⟩
   go_simp
   with_reducible rfl
  rotate_left
  ·simp only [Act.put, List.setIfInBounds_toArray, List.set_cons_zero, List.set_cons_succ, i64_w, i32_w]
   rfl
  refine take_ (i := 8) (N := some 24) (v := ?_) (a' := ?_) #[true, true, true, true, true, true, false, true, true, false, false, false] rfl rfl (take_ofW HT_.out HW_.out (by kernel_rfl)) (fun _ _ _ h => h) (Or.inl ⟨by rfl, ?_⟩) hHeld ?_ ?_
  rotate_left
  ·rintro w' ⟨s0, s1, s2, s3, s4, s5⟩
   go_simp
   with_reducible rfl
  rotate_left
  ·simp only [Act.put, List.setIfInBounds_toArray, List.set_cons_zero, List.set_cons_succ, i64_w, i32_w]
   rfl
  refine one_ (i := 6) (N := some 22) #[true, true, true, true, true, true, true, true, true, false, false, false] rfl rfl (one_of HT_.out (by kernel_rfl)) (by decide) (fun K hK => ?_)
  refine goes_ Tryz.func103 (by kernel_rfl) rfl #[.slice Ao20 t218.length co20, .slice Ao31 t226.length co31] (by rfl) rfl rfl az ?_
  with_reducible refine (manorboyref02_Nat_Add.calls k _ _ t218 _ _ t226 t233 _ ?side1 ?side2 ?side3 ?side4 A6.out).mono ?_
  (case side1 => exact ccz (Kd.R_reads' HO220.out).2.2)
  (case side2 => exact (Kd.R_reads' HO220.out).2.1)
  (case side3 => exact ccz (Kd.R_reads' HO228.out).2.2)
  (case side4 => exact (Kd.R_reads' HO228.out).2.1)
  rintro e w36 ⟨v234, rfl, ho0, hb⟩
  refine ⟨_, rfl, ?_⟩
  have HO235 := Aside0.mk (Kd.R_lower (Kd.R_new' (Kd.R_new' (Kd.R_new' (Kd.R_new' ho0 (Kd.R_lt (rz HO220))) (Kd.R_lt (rz HO223))) (Kd.R_lt (rz HO228))) (Kd.R_lt (rz HO231))) (below_size bz))
  replace HO220 := Aside0.mk (Kd.R_elder' (rz HO220) (Kd.R_base ho0) hb)
  replace HO223 := Aside0.mk (Kd.R_elder' (rz HO223) (Kd.R_base ho0) hb)
  replace HO228 := Aside0.mk (Kd.R_elder' (rz HO228) (Kd.R_base ho0) hb)
  replace HO231 := Aside0.mk (Kd.R_elder' (rz HO231) (Kd.R_base ho0) hb)
  replace BK214 := kb BK214 hb
  replace BK215 := kb BK215 hb
  replace BK216 := kb BK216 hb
  replace BK224 := kb BK224 hb
  replace BK232 := kb BK232 hb
  replace HB := bs hb
  (try clear hb)
  (try clear hk)
  (try clear ho0)
  obtain ⟨Ao37, co37, eo37⟩ := Kd.R_slice HO235.out
  (first | subst eo37 | (injection eo37 with f1_ f2_ f3_; have f4_ := f1_.symm; have f5_ := f3_.symm; clear f1_ f2_ f3_; subst f4_; subst f5_))
  refine hK.out _ _ ⟨(blk_cell BK224.out 0).trans rfl, (blk_cell BK224.out 1).trans rfl, (blk_cell BK224.out 2).trans rfl, (blk_cell BK232.out 0).trans rfl, (blk_cell BK232.out 1).trans rfl, (blk_cell BK232.out 2).trans rfl⟩ (fun hHeld => ?_)
  clear hK K
  refine norm_ (a' := ?_) ?_ ?_
  rotate_left
  ·show Act.put _ (some 22) _ = _
   simp only [Act.put, List.setIfInBounds_toArray, List.set_cons_zero, List.set_cons_succ, i64_w, i32_w]
   rfl
  refine pur 9 (some 25) #[tt,tt,tt,tt,tt,tt,tt,tt,tt,tt,ff,ff] ?_
  refine one_ (i := 10) (N := some 26) #[true, true, true, true, true, true, true, true, true, true, true, false] rfl rfl (one_of HT_.out (by kernel_rfl)) (by decide) (fun K hK => ?_)
  refine goes_ Tryz.func88 (by kernel_rfl) rfl #[.agg #[.bool t217, .slice Ao37 t233.length co37, .slice Ao21 t221.length co21]] (by rfl) rfl rfl az ?_
  with_reducible refine (manorboyref02_Quotient_Round.calls k t217 _ _ t233 _ _ t221 t236 t237 t238 _ ?side1 ?side2 ?side3 ?side4 A7.out).mono ?_
  (case side1 => exact ccz (Kd.R_reads' HO235.out).2.2)
  (case side2 => exact (Kd.R_reads' HO235.out).2.1)
  (case side3 => exact ccz (Kd.R_reads' HO223.out).2.2)
  (case side4 => exact (Kd.R_reads' HO223.out).2.1)
  rintro e w38 ⟨rfl, hb⟩
  refine ⟨_, rfl, ?_⟩
  replace HO220 := rb HO220 hb
  replace HO223 := rb HO223 hb
  replace HO228 := rb HO228 hb
  replace HO231 := rb HO231 hb
  replace HO235 := rb HO235 hb
  replace BK214 := kb BK214 hb
  replace BK215 := kb BK215 hb
  replace BK216 := kb BK216 hb
  replace BK224 := kb BK224 hb
  replace BK232 := kb BK232 hb
  replace HB := bs hb
  (try clear hb)
  (try clear hk)
  refine hK.out _ _ ⟨(blk_cell BK224.out 0).trans rfl, (blk_cell BK224.out 1).trans rfl, (blk_cell BK224.out 2).trans rfl, (blk_cell BK232.out 0).trans rfl, (blk_cell BK232.out 1).trans rfl, (blk_cell BK232.out 2).trans rfl⟩ (fun hHeld => ?_)
  clear hK K
  refine norm_ (a' := ?_) ?_ ?_
  rotate_left
  ·show Act.put _ (some 26) _ = _
   simp only [Act.put, List.setIfInBounds_toArray, List.set_cons_zero, List.set_cons_succ, i64_w, i32_w]
   rfl
  refine one_ (i := 11) (N := none) #[true, true, true, true, true, true, true, true, true, true, true, true] rfl rfl (one_of HT_.out (by kernel_rfl)) (by decide) (fun K hK => ?_)
  have hs39 : w38.cell? ⟨gb216, 0, none⟩ = some (.int .i64 0) := (blk_cell BK216.out 0).trans rfl
  have hfs39 := blk_frozen BK216.out 0
  have hns39_0 := NB214_216.out
  have hns39_1 := NB215_216.out
  have hns39_3 := NB224_216.out
  have hns39_4 := NB232_216.out
  have hms39_0 := NB216_214.out
  have hms39_1 := NB216_215.out
  have hms39_3 := NB216_224.out
  have hms39_4 := NB216_232.out
  have hs40 : w38.cell? ⟨gb216, 1, none⟩ = some (.int .i64 0) := (blk_cell BK216.out 1).trans rfl
  have hfs40 := blk_frozen BK216.out 1
  have hns40_0 := NB214_216.out
  have hns40_1 := NB215_216.out
  have hns40_3 := NB224_216.out
  have hns40_4 := NB232_216.out
  have hms40_0 := NB216_214.out
  have hms40_1 := NB216_215.out
  have hms40_3 := NB216_224.out
  have hms40_4 := NB216_232.out
  have hs41 : w38.cell? ⟨gb216, 2, none⟩ = some (.bool false) := (blk_cell BK216.out 2).trans rfl
  have hfs41 := blk_frozen BK216.out 2
  have hns41_0 := NB214_216.out
  have hns41_1 := NB215_216.out
  have hns41_3 := NB224_216.out
  have hns41_4 := NB232_216.out
  have hms41_0 := NB216_214.out
  have hms41_1 := NB216_215.out
  have hms41_3 := NB216_224.out
  have hms41_4 := NB216_232.out
  refine skip_ (w1 := ?_) (by rfl) rfl ?_ ?_
  rotate_left
  ·go_simp
   rfl
  refine hK.out _ _ ⟨((cell_far (p := ⟨gb216, _, none⟩) NB224_216.out _).trans (((cell_far (p := ⟨gb216, _, none⟩) NB224_216.out _).trans (((cell_far (p := ⟨gb216, _, none⟩) NB224_216.out _).trans (hHeld.1)))))), ((cell_far (p := ⟨gb216, _, none⟩) NB224_216.out _).trans (((cell_far (p := ⟨gb216, _, none⟩) NB224_216.out _).trans (((cell_far (p := ⟨gb216, _, none⟩) NB224_216.out _).trans (hHeld.2.1)))))), ((cell_far (p := ⟨gb216, _, none⟩) NB224_216.out _).trans (((cell_far (p := ⟨gb216, _, none⟩) NB224_216.out _).trans (((cell_far (p := ⟨gb216, _, none⟩) NB224_216.out _).trans (hHeld.2.2.1)))))), ((cell_far (p := ⟨gb216, _, none⟩) NB232_216.out _).trans (((cell_far (p := ⟨gb216, _, none⟩) NB232_216.out _).trans (((cell_far (p := ⟨gb216, _, none⟩) NB232_216.out _).trans (hHeld.2.2.2.1)))))), ((cell_far (p := ⟨gb216, _, none⟩) NB232_216.out _).trans (((cell_far (p := ⟨gb216, _, none⟩) NB232_216.out _).trans (((cell_far (p := ⟨gb216, _, none⟩) NB232_216.out _).trans (hHeld.2.2.2.2.1)))))), ((cell_far (p := ⟨gb216, _, none⟩) NB232_216.out _).trans (((cell_far (p := ⟨gb216, _, none⟩) NB232_216.out _).trans (((cell_far (p := ⟨gb216, _, none⟩) NB232_216.out _).trans (hHeld.2.2.2.2.2))))))⟩ (fun hHeld => ?_)
  clear hK K
  refine done_ (done_of HT_.out (by kernel_rfl)) ?_
  try go_wp2
  refine bodyPost_ret (results_cell_row rfl _ _ gb216 50 #[.int .i64 t236, .int .i64 t237, .bool t238] (0, 0) _ rfl (by (with_reducible repeat (first | refine blk_drewN ?_ _ | refine blk_drew ?_ | refine blk_alloc ?_ _)); refine blk_put (cs := #[.int .i64 t236, .int .i64 t237, .bool false]) ?_ 2 _ rfl; (with_reducible repeat (first | refine blk_drewN ?_ _ | refine blk_drew ?_ | refine blk_alloc ?_ _)); refine blk_put (cs := #[.int .i64 t236, .int .i64 0, .bool false]) ?_ 1 _ rfl; (with_reducible repeat (first | refine blk_drewN ?_ _ | refine blk_drew ?_ | refine blk_alloc ?_ _)); refine blk_put (cs := #[.int .i64 0, .int .i64 0, .bool false]) ?_ 0 _ rfl; (with_reducible repeat (first | refine blk_drewN ?_ _ | refine blk_drew ?_ | refine blk_alloc ?_ _)); exact BK216.out) Tryz.underlying50 rfl (by kernel_rfl)) rfl ?_
  exact ⟨by first | rfl | (simp [errW_none, errW_some] <;> rfl) | (simp [*, errW_none, errW_some] <;> rfl), bz⟩
 ·rw [if_neg c5] at H
  have c5b0 : (t217 == t225) = false := by simpa using c5
  (try (have c5b1 : decide (t217 = t225) = false := by simpa using c5))
  (try (have c5b2 : (t217 == t225) = false := by simpa using c5))
  (try (have c5b3 : ¬ (t217 = t225) := by simpa using c5))
  clear c5
  replace H := Option.bind_eq_some_iff.mp H
  obtain ⟨t239, A420, H⟩ := H
  try dsimp only at H
  have A42 := Aside0.mk A420
  clear A420
  (first | rw [c5b0] | (simp only [i64_w, i32_w]; rw [c5b0]) | skip)
  go_upto_if 32 with (first | ((with_reducible refine gate_callee (f := 104) rfl ?_); refine goesL_ (some 31) rfl rfl Tryz.func104 (by kernel_rfl) rfl #[.slice Ao20 t218.length co20, .slice Ao31 t226.length co31] rfl az ?_; (with_reducible refine (manorboyref02_Nat_Cmp.calls k _ _ t218 _ _ t226 t239 _ ?side1 ?side2 ?side3 ?side4 A42.out).mono ?_); (case side1 => refine (Kd.R_reads' (e := 3) (base := w.heap.size) (ok := fun k_ => ((some k_ ≠ (.slice Ao21 t221.length co21 : Value).ownBlock ∧ some k_ ≠ (.slice Ao31 t226.length co31 : Value).ownBlock) ∧ some k_ ≠ (.slice Ao32 t229.length co32 : Value).ownBlock)) (n := t218.length) (c := co20) ?_).2.2; exact (by (with_reducible repeat (first | apply Kd.R_alloc | apply Kd.R_drewN | apply Kd.R_drew)); exact (Kd.R_mono (Kd.R_far (p := ⟨gb232, 2, none⟩) (Kd.R_far (p := ⟨gb232, 1, none⟩) (Kd.R_far (p := ⟨gb232, 0, none⟩) (Kd.R_types HO220.out BK232.out (by decide)) (fun _ hk => hk.2) (.bool t225)) (fun _ hk => hk.2) (.slice Ao31 t226.length co31)) (fun _ hk => hk.2) (.slice Ao32 t229.length co32)) (fun _ h_ => h_.1)))); (case side2 => exact (Kd.R_reads' HO220.out).2.1); (case side3 => refine (Kd.R_reads' (e := 3) (base := w.heap.size) (ok := fun k_ => ((some k_ ≠ (.slice Ao32 t229.length co32 : Value).ownBlock ∧ some k_ ≠ (.slice Ao20 t218.length co20 : Value).ownBlock) ∧ some k_ ≠ (.slice Ao21 t221.length co21 : Value).ownBlock)) (n := t226.length) (c := co31) ?_).2.2; exact (by (with_reducible repeat (first | apply Kd.R_alloc | apply Kd.R_drewN | apply Kd.R_drew)); exact (Kd.R_mono (Kd.R_far (p := ⟨gb232, 2, none⟩) (Kd.R_far (p := ⟨gb232, 1, none⟩) (Kd.R_far (p := ⟨gb232, 0, none⟩) (Kd.R_types HO228.out BK232.out (by decide)) (fun _ hk => hk.2) (.bool t225)) (fun _ hk => hk.2) (.slice Ao31 t226.length co31)) (fun _ hk => hk.2) (.slice Ao32 t229.length co32)) (fun _ h_ => h_.1)))); (case side4 => exact (Kd.R_reads' HO228.out).2.1); rintro e w' ⟨rfl, ⟨nd, rfl⟩⟩; refine ⟨_, rfl, ?_⟩))
  by_cases c43 : t239 ≥ 0
  ·rw [if_pos c43] at H
   have c43b0 : decide (0 ≤ t239) = true := decide_eq_true c43
   clear c43
   replace H := Option.bind_eq_some_iff.mp H
   obtain ⟨t240, A440, H⟩ := H
   try dsimp only at H
   have A44 := Aside0.mk A440
   clear A440
   replace H := Option.bind_eq_some_iff.mp H
   obtain ⟨⟨t243, t244, t245⟩, A450, H⟩ := H
   try dsimp only at H
   have A45 := Aside0.mk A450
   clear A450
   simp only [Option.some.injEq, Prod.mk.injEq] at H
   obtain ⟨rfl, rfl, rfl⟩ := H
   (first | rw [c43b0] | (simp only [i64_w, i32_w]; rw [c43b0]) | skip)
   try go_wp2
   have n0_ : Aside0 (Kd.R (Kd.int .i64) 3 (((w25.setCell ⟨gb232, 0, none⟩ (.bool t225)).setCell ⟨gb232, 1, none⟩ (.slice Ao31 t226.length co31)).setCell ⟨gb232, 2, none⟩ (.slice Ao32 t229.length co32)) w.heap.size (fun k_ => some k_ ≠ (.slice Ao21 t221.length co21 : Value).ownBlock ∧ some k_ ≠ (.slice Ao31 t226.length co31 : Value).ownBlock ∧ some k_ ≠ (.slice Ao32 t229.length co32 : Value).ownBlock) (.slice Ao20 t218.length co20) t218) := ⟨by (with_reducible repeat (first | apply Kd.R_alloc | apply Kd.R_drewN | apply Kd.R_drew)); exact Kd.R_mono (Kd.R_far (p := ⟨gb232, 2, none⟩) (Kd.R_far (p := ⟨gb232, 1, none⟩) (Kd.R_far (p := ⟨gb232, 0, none⟩) (Kd.R_types HO220.out BK232.out (by decide)) (fun _ hk => hk.2) (.bool t225)) (fun _ hk => hk.2) (.slice Ao31 t226.length co31)) (fun _ hk => hk.2) (.slice Ao32 t229.length co32)) (fun _ hk => ⟨hk.1.1.1, ⟨hk.1.1.2, hk.1.2⟩⟩)⟩
   have n1_ : Aside0 (Kd.R (Kd.int .i64) 3 (((w25.setCell ⟨gb232, 0, none⟩ (.bool t225)).setCell ⟨gb232, 1, none⟩ (.slice Ao31 t226.length co31)).setCell ⟨gb232, 2, none⟩ (.slice Ao32 t229.length co32)) w.heap.size (fun k_ => some k_ ≠ (.slice Ao20 t218.length co20 : Value).ownBlock ∧ some k_ ≠ (.slice Ao31 t226.length co31 : Value).ownBlock ∧ some k_ ≠ (.slice Ao32 t229.length co32 : Value).ownBlock) (.slice Ao21 t221.length co21) t221) := ⟨by (with_reducible repeat (first | apply Kd.R_alloc | apply Kd.R_drewN | apply Kd.R_drew)); exact Kd.R_mono (Kd.R_far (p := ⟨gb232, 2, none⟩) (Kd.R_far (p := ⟨gb232, 1, none⟩) (Kd.R_far (p := ⟨gb232, 0, none⟩) (Kd.R_types HO223.out BK232.out (by decide)) (fun _ hk => hk.2) (.bool t225)) (fun _ hk => hk.2) (.slice Ao31 t226.length co31)) (fun _ hk => hk.2) (.slice Ao32 t229.length co32)) (fun _ hk => ⟨hk.1.1.1, ⟨hk.1.1.2, hk.1.2⟩⟩)⟩
   have n2_ : Aside0 (Kd.R (Kd.int .i64) 3 (((w25.setCell ⟨gb232, 0, none⟩ (.bool t225)).setCell ⟨gb232, 1, none⟩ (.slice Ao31 t226.length co31)).setCell ⟨gb232, 2, none⟩ (.slice Ao32 t229.length co32)) w.heap.size (fun k_ => some k_ ≠ (.slice Ao20 t218.length co20 : Value).ownBlock ∧ some k_ ≠ (.slice Ao21 t221.length co21 : Value).ownBlock ∧ some k_ ≠ (.slice Ao32 t229.length co32 : Value).ownBlock) (.slice Ao31 t226.length co31) t226) := ⟨by (with_reducible repeat (first | apply Kd.R_alloc | apply Kd.R_drewN | apply Kd.R_drew)); exact Kd.R_mono (Kd.R_far (p := ⟨gb232, 2, none⟩) (Kd.R_far (p := ⟨gb232, 1, none⟩) (Kd.R_far (p := ⟨gb232, 0, none⟩) (Kd.R_types HO228.out BK232.out (by decide)) (fun _ hk => hk.2) (.bool t225)) (fun _ hk => hk.2) (.slice Ao31 t226.length co31)) (fun _ hk => hk.2) (.slice Ao32 t229.length co32)) (fun _ hk => ⟨hk.1.1.2, ⟨hk.1.2, hk.1.1.1⟩⟩)⟩
   have n3_ : Aside0 (Kd.R (Kd.int .i64) 3 (((w25.setCell ⟨gb232, 0, none⟩ (.bool t225)).setCell ⟨gb232, 1, none⟩ (.slice Ao31 t226.length co31)).setCell ⟨gb232, 2, none⟩ (.slice Ao32 t229.length co32)) w.heap.size (fun k_ => some k_ ≠ (.slice Ao20 t218.length co20 : Value).ownBlock ∧ some k_ ≠ (.slice Ao21 t221.length co21 : Value).ownBlock ∧ some k_ ≠ (.slice Ao31 t226.length co31 : Value).ownBlock) (.slice Ao32 t229.length co32) t229) := ⟨by (with_reducible repeat (first | apply Kd.R_alloc | apply Kd.R_drewN | apply Kd.R_drew)); exact Kd.R_mono (Kd.R_far (p := ⟨gb232, 2, none⟩) (Kd.R_far (p := ⟨gb232, 1, none⟩) (Kd.R_far (p := ⟨gb232, 0, none⟩) (Kd.R_types HO231.out BK232.out (by decide)) (fun _ hk => hk.2) (.bool t225)) (fun _ hk => hk.2) (.slice Ao31 t226.length co31)) (fun _ hk => hk.2) (.slice Ao32 t229.length co32)) (fun _ hk => ⟨hk.1.1.2, ⟨hk.1.2, hk.1.1.1⟩⟩)⟩
   have n4_ : Aside0 ((((w25.setCell ⟨gb232, 0, none⟩ (.bool t225)).setCell ⟨gb232, 1, none⟩ (.slice Ao31 t226.length co31)).setCell ⟨gb232, 2, none⟩ (.slice Ao32 t229.length co32)).heap[gb214]? = some (.cells #[.int .i64 a0_0, .int .i64 a0_1] 23 (0, 0))) := ⟨by (with_reducible repeat (first | refine blk_drewN ?_ _ | refine blk_drew ?_ | refine blk_alloc ?_ _)); refine blk_far ?_ NB214_232.out _; (with_reducible repeat (first | refine blk_drewN ?_ _ | refine blk_drew ?_ | refine blk_alloc ?_ _)); refine blk_far ?_ NB214_232.out _; (with_reducible repeat (first | refine blk_drewN ?_ _ | refine blk_drew ?_ | refine blk_alloc ?_ _)); refine blk_far ?_ NB214_232.out _; (with_reducible repeat (first | refine blk_drewN ?_ _ | refine blk_drew ?_ | refine blk_alloc ?_ _)); exact BK214.out⟩
   have n5_ : Aside0 ((((w25.setCell ⟨gb232, 0, none⟩ (.bool t225)).setCell ⟨gb232, 1, none⟩ (.slice Ao31 t226.length co31)).setCell ⟨gb232, 2, none⟩ (.slice Ao32 t229.length co32)).heap[gb215]? = some (.cells #[.int .i64 a1_0, .int .i64 a1_1] 23 (0, 0))) := ⟨by (with_reducible repeat (first | refine blk_drewN ?_ _ | refine blk_drew ?_ | refine blk_alloc ?_ _)); refine blk_far ?_ NB215_232.out _; (with_reducible repeat (first | refine blk_drewN ?_ _ | refine blk_drew ?_ | refine blk_alloc ?_ _)); refine blk_far ?_ NB215_232.out _; (with_reducible repeat (first | refine blk_drewN ?_ _ | refine blk_drew ?_ | refine blk_alloc ?_ _)); refine blk_far ?_ NB215_232.out _; (with_reducible repeat (first | refine blk_drewN ?_ _ | refine blk_drew ?_ | refine blk_alloc ?_ _)); exact BK215.out⟩
   have n6_ : Aside0 ((((w25.setCell ⟨gb232, 0, none⟩ (.bool t225)).setCell ⟨gb232, 1, none⟩ (.slice Ao31 t226.length co31)).setCell ⟨gb232, 2, none⟩ (.slice Ao32 t229.length co32)).heap[gb216]? = some (.cells #[.int .i64 0, .int .i64 0, .bool false] 50 (0, 0))) := ⟨by (with_reducible repeat (first | refine blk_drewN ?_ _ | refine blk_drew ?_ | refine blk_alloc ?_ _)); refine blk_far ?_ NB216_232.out _; (with_reducible repeat (first | refine blk_drewN ?_ _ | refine blk_drew ?_ | refine blk_alloc ?_ _)); refine blk_far ?_ NB216_232.out _; (with_reducible repeat (first | refine blk_drewN ?_ _ | refine blk_drew ?_ | refine blk_alloc ?_ _)); refine blk_far ?_ NB216_232.out _; (with_reducible repeat (first | refine blk_drewN ?_ _ | refine blk_drew ?_ | refine blk_alloc ?_ _)); exact BK216.out⟩
   have n7_ : Aside0 ((((w25.setCell ⟨gb232, 0, none⟩ (.bool t225)).setCell ⟨gb232, 1, none⟩ (.slice Ao31 t226.length co31)).setCell ⟨gb232, 2, none⟩ (.slice Ao32 t229.length co32)).heap[gb224]? = some (.cells #[.bool t217, .slice Ao20 t218.length co20, .slice Ao21 t221.length co21] 102 (0, 0))) := ⟨by (with_reducible repeat (first | refine blk_drewN ?_ _ | refine blk_drew ?_ | refine blk_alloc ?_ _)); refine blk_far ?_ NB224_232.out _; (with_reducible repeat (first | refine blk_drewN ?_ _ | refine blk_drew ?_ | refine blk_alloc ?_ _)); refine blk_far ?_ NB224_232.out _; (with_reducible repeat (first | refine blk_drewN ?_ _ | refine blk_drew ?_ | refine blk_alloc ?_ _)); refine blk_far ?_ NB224_232.out _; (with_reducible repeat (first | refine blk_drewN ?_ _ | refine blk_drew ?_ | refine blk_alloc ?_ _)); exact BK224.out⟩
   have n8_ : Aside0 ((((w25.setCell ⟨gb232, 0, none⟩ (.bool t225)).setCell ⟨gb232, 1, none⟩ (.slice Ao31 t226.length co31)).setCell ⟨gb232, 2, none⟩ (.slice Ao32 t229.length co32)).heap[gb232]? = some (.cells #[.bool t225, .slice Ao31 t226.length co31, .slice Ao32 t229.length co32] 102 (0, 0))) := ⟨by (with_reducible repeat (first | refine blk_drewN ?_ _ | refine blk_drew ?_ | refine blk_alloc ?_ _)); refine blk_put (cs := #[.bool t225, .slice Ao31 t226.length co31, .slice none 0 0]) ?_ 2 _ rfl; (with_reducible repeat (first | refine blk_drewN ?_ _ | refine blk_drew ?_ | refine blk_alloc ?_ _)); refine blk_put (cs := #[.bool t225, .slice none 0 0, .slice none 0 0]) ?_ 1 _ rfl; (with_reducible repeat (first | refine blk_drewN ?_ _ | refine blk_drew ?_ | refine blk_alloc ?_ _)); refine blk_put (cs := #[.bool false, .slice none 0 0, .slice none 0 0]) ?_ 0 _ rfl; (with_reducible repeat (first | refine blk_drewN ?_ _ | refine blk_drew ?_ | refine blk_alloc ?_ _)); exact BK232.out⟩
   have n9_ : Aside0 (Below w.heap.size w (((w25.setCell ⟨gb232, 0, none⟩ (.bool t225)).setCell ⟨gb232, 1, none⟩ (.slice Ao31 t226.length co31)).setCell ⟨gb232, 2, none⟩ (.slice Ao32 t229.length co32))) := ⟨bz⟩
   (try clear HO220)
   (try clear HO223)
   (try clear HO228)
   (try clear HO231)
   (try clear BK214)
   (try clear BK215)
   (try clear BK216)
   (try clear BK224)
   (try clear BK232)
   (try clear HB)
   generalize (((w25.setCell ⟨gb232, 0, none⟩ (.bool t225)).setCell ⟨gb232, 1, none⟩ (.slice Ao31 t226.length co31)).setCell ⟨gb232, 2, none⟩ (.slice Ao32 t229.length co32)) = w72 at n0_ n1_ n2_ n3_ n4_ n5_ n6_ n7_ n8_ n9_ ⊢
   have HO220 := n0_
   have HO223 := n1_
   have HO228 := n2_
   have HO231 := n3_
   have BK214 := n4_
   have BK215 := n5_
   have BK216 := n6_
   have BK224 := n7_
   have BK232 := n8_
   have HB := n9_
   clear n0_ n1_ n2_ n3_ n4_ n5_ n6_ n7_ n8_ n9_
   (try (rw [drewN_self w72]; generalize hq_ : World.drewN w72 _ = w72; replace HO220 : Aside0 (Kd.R (Kd.int .i64) 3 w72 w.heap.size (fun k_ => some k_ ≠ (.slice Ao21 t221.length co21 : Value).ownBlock ∧ some k_ ≠ (.slice Ao31 t226.length co31 : Value).ownBlock ∧ some k_ ≠ (.slice Ao32 t229.length co32 : Value).ownBlock) (.slice Ao20 t218.length co20) t218) := ⟨by rw [← hq_]; exact (rz HO220)⟩; replace HO223 : Aside0 (Kd.R (Kd.int .i64) 3 w72 w.heap.size (fun k_ => some k_ ≠ (.slice Ao20 t218.length co20 : Value).ownBlock ∧ some k_ ≠ (.slice Ao31 t226.length co31 : Value).ownBlock ∧ some k_ ≠ (.slice Ao32 t229.length co32 : Value).ownBlock) (.slice Ao21 t221.length co21) t221) := ⟨by rw [← hq_]; exact (rz HO223)⟩; replace HO228 : Aside0 (Kd.R (Kd.int .i64) 3 w72 w.heap.size (fun k_ => some k_ ≠ (.slice Ao20 t218.length co20 : Value).ownBlock ∧ some k_ ≠ (.slice Ao21 t221.length co21 : Value).ownBlock ∧ some k_ ≠ (.slice Ao32 t229.length co32 : Value).ownBlock) (.slice Ao31 t226.length co31) t226) := ⟨by rw [← hq_]; exact (rz HO228)⟩; replace HO231 : Aside0 (Kd.R (Kd.int .i64) 3 w72 w.heap.size (fun k_ => some k_ ≠ (.slice Ao20 t218.length co20 : Value).ownBlock ∧ some k_ ≠ (.slice Ao21 t221.length co21 : Value).ownBlock ∧ some k_ ≠ (.slice Ao31 t226.length co31 : Value).ownBlock) (.slice Ao32 t229.length co32) t229) := ⟨by rw [← hq_]; exact (rz HO231)⟩; replace BK214 : Aside0 (w72.heap[gb214]? = some (.cells #[.int .i64 a0_0, .int .i64 a0_1] 23 (0, 0))) := ⟨by rw [← hq_]; exact (kz BK214)⟩; replace BK215 : Aside0 (w72.heap[gb215]? = some (.cells #[.int .i64 a1_0, .int .i64 a1_1] 23 (0, 0))) := ⟨by rw [← hq_]; exact (kz BK215)⟩; replace BK216 : Aside0 (w72.heap[gb216]? = some (.cells #[.int .i64 0, .int .i64 0, .bool false] 50 (0, 0))) := ⟨by rw [← hq_]; exact (kz BK216)⟩; replace BK224 : Aside0 (w72.heap[gb224]? = some (.cells #[.bool t217, .slice Ao20 t218.length co20, .slice Ao21 t221.length co21] 102 (0, 0))) := ⟨by rw [← hq_]; exact (kz BK224)⟩; replace BK232 : Aside0 (w72.heap[gb232]? = some (.cells #[.bool t225, .slice Ao31 t226.length co31, .slice Ao32 t229.length co32] 102 (0, 0))) := ⟨by rw [← hq_]; exact (kz BK232)⟩; replace HB : Aside0 (Below w.heap.size w w72) := ⟨by rw [← hq_]; exact bz⟩; clear hq_; have hczq214_0 := c20 BK214; have hfzq214_0 := blk_frozen BK214.out 0; have hczq214_1 := c21 BK214; have hfzq214_1 := blk_frozen BK214.out 1; have hczq215_0 := c20 BK215; have hfzq215_0 := blk_frozen BK215.out 0; have hczq215_1 := c21 BK215; have hfzq215_1 := blk_frozen BK215.out 1; have hczq216_0 : w72.cell? ⟨gb216, 0, none⟩ = some (.int .i64 0) := (blk_cell BK216.out 0).trans rfl; have hfzq216_0 := blk_frozen BK216.out 0; have hczq216_1 : w72.cell? ⟨gb216, 1, none⟩ = some (.int .i64 0) := (blk_cell BK216.out 1).trans rfl; have hfzq216_1 := blk_frozen BK216.out 1; have hczq216_2 : w72.cell? ⟨gb216, 2, none⟩ = some (.bool false) := (blk_cell BK216.out 2).trans rfl; have hfzq216_2 := blk_frozen BK216.out 2; have hczq224_0 : w72.cell? ⟨gb224, 0, none⟩ = some (.bool t217) := (blk_cell BK224.out 0).trans rfl; have hfzq224_0 := blk_frozen BK224.out 0; have hczq224_1 : w72.cell? ⟨gb224, 1, none⟩ = some (.slice Ao20 t218.length co20) := (blk_cell BK224.out 1).trans rfl; have hfzq224_1 := blk_frozen BK224.out 1; have hczq224_2 : w72.cell? ⟨gb224, 2, none⟩ = some (.slice Ao21 t221.length co21) := (blk_cell BK224.out 2).trans rfl; have hfzq224_2 := blk_frozen BK224.out 2; have hczq232_0 : w72.cell? ⟨gb232, 0, none⟩ = some (.bool t225) := (blk_cell BK232.out 0).trans rfl; have hfzq232_0 := blk_frozen BK232.out 0; have hczq232_1 : w72.cell? ⟨gb232, 1, none⟩ = some (.slice Ao31 t226.length co31) := (blk_cell BK232.out 1).trans rfl; have hfzq232_1 := blk_frozen BK232.out 1; have hczq232_2 : w72.cell? ⟨gb232, 2, none⟩ = some (.slice Ao32 t229.length co32) := (blk_cell BK232.out 2).trans rfl; have hfzq232_2 := blk_frozen BK232.out 2))
   replace HO220 := Aside0.mk (Kd.R_drew HO220.out)
   replace HO223 := Aside0.mk (Kd.R_drew HO223.out)
   replace HO228 := Aside0.mk (Kd.R_drew HO228.out)
   replace HO231 := Aside0.mk (Kd.R_drew HO231.out)
   replace BK214 := Aside0.mk (blk_drew BK214.out)
   replace BK215 := Aside0.mk (blk_drew BK215.out)
   replace BK216 := Aside0.mk (blk_drew BK216.out)
   replace BK224 := Aside0.mk (blk_drew BK224.out)
   replace BK232 := Aside0.mk (blk_drew BK232.out)
   replace HB := Aside0.mk (below_drew1 HB.out)
   refine start_ (n := 12) (S := fun w' => w'.cell? ⟨gb224, 0, none⟩ = some (.bool t217) ∧ w'.cell? ⟨gb224, 1, none⟩ = some (.slice Ao20 t218.length co20) ∧ w'.cell? ⟨gb224, 2, none⟩ = some (.slice Ao21 t221.length co21) ∧ w'.cell? ⟨gb232, 0, none⟩ = some (.bool t225) ∧ w'.cell? ⟨gb232, 1, none⟩ = some (.slice Ao31 t226.length co31) ∧ w'.cell? ⟨gb232, 2, none⟩ = some (.slice Ao32 t229.length co32)) (ds := []) #[false, false, false, false, false, false, false, false, false, false, false, false] (by kernel_rfl) rfl rfl ⟨(blk_cell BK224.out 0).trans rfl, (blk_cell BK224.out 1).trans rfl, (blk_cell BK224.out 2).trans rfl, (blk_cell BK232.out 0).trans rfl, (blk_cell BK232.out 1).trans rfl, (blk_cell BK232.out 2).trans rfl⟩ (fun hHeld => ?_); refine with_tabW manorboyref02_Add.tab6 manorboyref02_Add.bits6 (fun HT_ HW_ => ?_)
   generalize w72.drew = w73 at HO220 HO223 HO228 HO231 BK214 BK215 BK216 BK224 BK232 HB hHeld ⊢
   refine pur 0 (some 33) #[tt,ff,ff,ff,ff,ff,ff,ff,ff,ff,ff,ff] ?_
   refine pur 2 (some 35) #[tt,ff,tt,ff,ff,ff,ff,ff,ff,ff,ff,ff] ?_
   refine pur 4 (some 37) #[tt,ff,tt,ff,tt,ff,ff,ff,ff,ff,ff,ff] ?_
   refine pur 7 (some 40) #[tt,ff,tt,ff,tt,ff,ff,tt,ff,ff,ff,ff] ?_
   refine take_ (i := 1) (N := some 34) (v := ?_) (a' := ?_) #[true, true, true, false, true, false, false, true, false, false, false, false] rfl rfl (take_ofW HT_.out HW_.out (by kernel_rfl)) (fun _ _ _ h => h) (Or.inl ⟨by rfl, ?_⟩) hHeld ?_ ?_
   rotate_left
   ·rintro w' ⟨s0, s1, s2, s3, s4, s5⟩
    go_simp
    with_reducible rfl
   rotate_left
   ·simp only [Act.put, List.setIfInBounds_toArray, List.set_cons_zero, List.set_cons_succ, i64_w, i32_w]
    rfl
   refine take_ (i := 3) (N := some 36) (v := ?_) (a' := ?_) #[true, true, true, true, true, false, false, true, false, false, false, false] rfl rfl (take_ofW HT_.out HW_.out (by kernel_rfl)) (fun _ _ _ h => h) (Or.inl ⟨by rfl, ?_⟩) hHeld ?_ ?_
   rotate_left
   ·rintro w' ⟨s0, s1, s2, s3, s4, s5⟩
    go_simp
    with_reducible rfl
   rotate_left
   ·simp only [Act.put, List.setIfInBounds_toArray, List.set_cons_zero, List.set_cons_succ, i64_w, i32_w]
    rfl
   refine take_ (i := 5) (N := some 38) (v := ?_) (a' := ?_) #[true, true, true, true, true, true, false, true, false, false, false, false] rfl rfl (take_ofW HT_.out HW_.out (by kernel_rfl)) (fun _ _ _ h => h) (Or.inl ⟨by rfl, ?_⟩) hHeld ?_ ?_
   rotate_left
   ·rintro w' ⟨s0, s1, s2, s3, s4, s5⟩
    go_simp
    with_reducible rfl
   rotate_left
   ·simp only [Act.put, List.setIfInBounds_toArray, List.set_cons_zero, List.set_cons_succ, i64_w, i32_w]
    rfl
   refine take_ (i := 8) (N := some 41) (v := ?_) (a' := ?_) #[true, true, true, true, true, true, false, true, true, false, false, false] rfl rfl (take_ofW HT_.out HW_.out (by kernel_rfl)) (fun _ _ _ h => h) (Or.inl ⟨by rfl, ?_⟩) hHeld ?_ ?_
   rotate_left
   ·rintro w' ⟨s0, s1, s2, s3, s4, s5⟩
    go_simp
    with_reducible rfl
   rotate_left
   ·simp only [Act.put, List.setIfInBounds_toArray, List.set_cons_zero, List.set_cons_succ, i64_w, i32_w]
    rfl
   refine one_ (i := 6) (N := some 39) #[true, true, true, true, true, true, true, true, true, false, false, false] rfl rfl (one_of HT_.out (by kernel_rfl)) (by decide) (fun K hK => ?_)
   refine goes_ Tryz.func105 (by kernel_rfl) rfl #[.slice Ao20 t218.length co20, .slice Ao31 t226.length co31] (by rfl) rfl rfl az ?_
   with_reducible refine (manorboyref02_Nat_Sub.calls k _ _ t218 _ _ t226 t240 _ ?side1 ?side2 ?side3 ?side4 A44.out).mono ?_
   (case side1 => exact ccz (Kd.R_reads' HO220.out).2.2)
   (case side2 => exact (Kd.R_reads' HO220.out).2.1)
   (case side3 => exact ccz (Kd.R_reads' HO228.out).2.2)
   (case side4 => exact (Kd.R_reads' HO228.out).2.1)
   rintro e w74 ⟨v241, rfl, ho0, hb⟩
   refine ⟨_, rfl, ?_⟩
   have HO242 := Aside0.mk (Kd.R_lower (Kd.R_new' (Kd.R_new' (Kd.R_new' (Kd.R_new' ho0 (Kd.R_lt (rz HO220))) (Kd.R_lt (rz HO223))) (Kd.R_lt (rz HO228))) (Kd.R_lt (rz HO231))) (below_size bz))
   replace HO220 := Aside0.mk (Kd.R_elder' (rz HO220) (Kd.R_base ho0) hb)
   replace HO223 := Aside0.mk (Kd.R_elder' (rz HO223) (Kd.R_base ho0) hb)
   replace HO228 := Aside0.mk (Kd.R_elder' (rz HO228) (Kd.R_base ho0) hb)
   replace HO231 := Aside0.mk (Kd.R_elder' (rz HO231) (Kd.R_base ho0) hb)
   replace BK214 := kb BK214 hb
   replace BK215 := kb BK215 hb
   replace BK216 := kb BK216 hb
   replace BK224 := kb BK224 hb
   replace BK232 := kb BK232 hb
   replace HB := bs hb
   (try clear hb)
   (try clear hk)
   (try clear ho0)
   obtain ⟨Ao75, co75, eo75⟩ := Kd.R_slice HO242.out
   (first | subst eo75 | (injection eo75 with f1_ f2_ f3_; have f4_ := f1_.symm; have f5_ := f3_.symm; clear f1_ f2_ f3_; subst f4_; subst f5_))
   refine hK.out _ _ ⟨(blk_cell BK224.out 0).trans rfl, (blk_cell BK224.out 1).trans rfl, (blk_cell BK224.out 2).trans rfl, (blk_cell BK232.out 0).trans rfl, (blk_cell BK232.out 1).trans rfl, (blk_cell BK232.out 2).trans rfl⟩ (fun hHeld => ?_)
   clear hK K
   refine norm_ (a' := ?_) ?_ ?_
   rotate_left
   ·show Act.put _ (some 39) _ = _
    simp only [Act.put, List.setIfInBounds_toArray, List.set_cons_zero, List.set_cons_succ, i64_w, i32_w]
    rfl
   refine pur 9 (some 42) #[tt,tt,tt,tt,tt,tt,tt,tt,tt,tt,ff,ff] ?_
   refine one_ (i := 10) (N := some 43) #[true, true, true, true, true, true, true, true, true, true, true, false] rfl rfl (one_of HT_.out (by kernel_rfl)) (by decide) (fun K hK => ?_)
   refine goes_ Tryz.func88 (by kernel_rfl) rfl #[.agg #[.bool t217, .slice Ao75 t240.length co75, .slice Ao21 t221.length co21]] (by rfl) rfl rfl az ?_
   with_reducible refine (manorboyref02_Quotient_Round.calls k t217 _ _ t240 _ _ t221 t243 t244 t245 _ ?side1 ?side2 ?side3 ?side4 A45.out).mono ?_
   (case side1 => exact ccz (Kd.R_reads' HO242.out).2.2)
   (case side2 => exact (Kd.R_reads' HO242.out).2.1)
   (case side3 => exact ccz (Kd.R_reads' HO223.out).2.2)
   (case side4 => exact (Kd.R_reads' HO223.out).2.1)
   rintro e w76 ⟨rfl, hb⟩
   refine ⟨_, rfl, ?_⟩
   replace HO220 := rb HO220 hb
   replace HO223 := rb HO223 hb
   replace HO228 := rb HO228 hb
   replace HO231 := rb HO231 hb
   replace HO242 := rb HO242 hb
   replace BK214 := kb BK214 hb
   replace BK215 := kb BK215 hb
   replace BK216 := kb BK216 hb
   replace BK224 := kb BK224 hb
   replace BK232 := kb BK232 hb
   replace HB := bs hb
   (try clear hb)
   (try clear hk)
   refine hK.out _ _ ⟨(blk_cell BK224.out 0).trans rfl, (blk_cell BK224.out 1).trans rfl, (blk_cell BK224.out 2).trans rfl, (blk_cell BK232.out 0).trans rfl, (blk_cell BK232.out 1).trans rfl, (blk_cell BK232.out 2).trans rfl⟩ (fun hHeld => ?_)
   clear hK K
   refine norm_ (a' := ?_) ?_ ?_
   rotate_left
   ·show Act.put _ (some 43) _ = _
    simp only [Act.put, List.setIfInBounds_toArray, List.set_cons_zero, List.set_cons_succ, i64_w, i32_w]
    rfl
   refine one_ (i := 11) (N := none) #[true, true, true, true, true, true, true, true, true, true, true, true] rfl rfl (one_of HT_.out (by kernel_rfl)) (by decide) (fun K hK => ?_)
   have hs77 : w76.cell? ⟨gb216, 0, none⟩ = some (.int .i64 0) := (blk_cell BK216.out 0).trans rfl
   have hfs77 := blk_frozen BK216.out 0
   have hns77_0 := NB214_216.out
   have hns77_1 := NB215_216.out
   have hns77_3 := NB224_216.out
   have hns77_4 := NB232_216.out
   have hms77_0 := NB216_214.out
   have hms77_1 := NB216_215.out
   have hms77_3 := NB216_224.out
   have hms77_4 := NB216_232.out
   have hs78 : w76.cell? ⟨gb216, 1, none⟩ = some (.int .i64 0) := (blk_cell BK216.out 1).trans rfl
   have hfs78 := blk_frozen BK216.out 1
   have hns78_0 := NB214_216.out
   have hns78_1 := NB215_216.out
   have hns78_3 := NB224_216.out
   have hns78_4 := NB232_216.out
   have hms78_0 := NB216_214.out
   have hms78_1 := NB216_215.out
   have hms78_3 := NB216_224.out
   have hms78_4 := NB216_232.out
   have hs79 : w76.cell? ⟨gb216, 2, none⟩ = some (.bool false) := (blk_cell BK216.out 2).trans rfl
   have hfs79 := blk_frozen BK216.out 2
   have hns79_0 := NB214_216.out
   have hns79_1 := NB215_216.out
   have hns79_3 := NB224_216.out
   have hns79_4 := NB232_216.out
   have hms79_0 := NB216_214.out
   have hms79_1 := NB216_215.out
   have hms79_3 := NB216_224.out
   have hms79_4 := NB216_232.out
   refine skip_ (w1 := ?_) (by rfl) rfl ?_ ?_
   rotate_left
   ·go_simp
    rfl
   refine hK.out _ _ ⟨((cell_far (p := ⟨gb216, _, none⟩) NB224_216.out _).trans (((cell_far (p := ⟨gb216, _, none⟩) NB224_216.out _).trans (((cell_far (p := ⟨gb216, _, none⟩) NB224_216.out _).trans (hHeld.1)))))), ((cell_far (p := ⟨gb216, _, none⟩) NB224_216.out _).trans (((cell_far (p := ⟨gb216, _, none⟩) NB224_216.out _).trans (((cell_far (p := ⟨gb216, _, none⟩) NB224_216.out _).trans (hHeld.2.1)))))), ((cell_far (p := ⟨gb216, _, none⟩) NB224_216.out _).trans (((cell_far (p := ⟨gb216, _, none⟩) NB224_216.out _).trans (((cell_far (p := ⟨gb216, _, none⟩) NB224_216.out _).trans (hHeld.2.2.1)))))), ((cell_far (p := ⟨gb216, _, none⟩) NB232_216.out _).trans (((cell_far (p := ⟨gb216, _, none⟩) NB232_216.out _).trans (((cell_far (p := ⟨gb216, _, none⟩) NB232_216.out _).trans (hHeld.2.2.2.1)))))), ((cell_far (p := ⟨gb216, _, none⟩) NB232_216.out _).trans (((cell_far (p := ⟨gb216, _, none⟩) NB232_216.out _).trans (((cell_far (p := ⟨gb216, _, none⟩) NB232_216.out _).trans (hHeld.2.2.2.2.1)))))), ((cell_far (p := ⟨gb216, _, none⟩) NB232_216.out _).trans (((cell_far (p := ⟨gb216, _, none⟩) NB232_216.out _).trans (((cell_far (p := ⟨gb216, _, none⟩) NB232_216.out _).trans (hHeld.2.2.2.2.2))))))⟩ (fun hHeld => ?_)
   clear hK K
   refine done_ (done_of HT_.out (by kernel_rfl)) ?_
   try go_wp2
   refine bodyPost_ret (results_cell_row rfl _ _ gb216 50 #[.int .i64 t243, .int .i64 t244, .bool t245] (0, 0) _ rfl (by (with_reducible repeat (first | refine blk_drewN ?_ _ | refine blk_drew ?_ | refine blk_alloc ?_ _)); refine blk_put (cs := #[.int .i64 t243, .int .i64 t244, .bool false]) ?_ 2 _ rfl; (with_reducible repeat (first | refine blk_drewN ?_ _ | refine blk_drew ?_ | refine blk_alloc ?_ _)); refine blk_put (cs := #[.int .i64 t243, .int .i64 0, .bool false]) ?_ 1 _ rfl; (with_reducible repeat (first | refine blk_drewN ?_ _ | refine blk_drew ?_ | refine blk_alloc ?_ _)); refine blk_put (cs := #[.int .i64 0, .int .i64 0, .bool false]) ?_ 0 _ rfl; (with_reducible repeat (first | refine blk_drewN ?_ _ | refine blk_drew ?_ | refine blk_alloc ?_ _)); exact BK216.out) Tryz.underlying50 rfl (by kernel_rfl)) rfl ?_
   exact ⟨by first | rfl | (simp [errW_none, errW_some] <;> rfl) | (simp [*, errW_none, errW_some] <;> rfl), bz⟩
  ·rw [if_neg c43] at H
   have c43b0 : decide (0 ≤ t239) = false := decide_eq_false c43
   clear c43
   replace H := Option.bind_eq_some_iff.mp H
   obtain ⟨t246, A800, H⟩ := H
   try dsimp only at H
   have A80 := Aside0.mk A800
   clear A800
   replace H := Option.bind_eq_some_iff.mp H
   obtain ⟨⟨t249, t250, t251⟩, A810, H⟩ := H
   try dsimp only at H
   have A81 := Aside0.mk A810
   clear A810
   simp only [Option.some.injEq, Prod.mk.injEq] at H
   obtain ⟨rfl, rfl, rfl⟩ := H
   (first | rw [c43b0] | (simp only [i64_w, i32_w]; rw [c43b0]) | skip)
   try go_wp2
   have n0_ : Aside0 (Kd.R (Kd.int .i64) 3 (((w25.setCell ⟨gb232, 0, none⟩ (.bool t225)).setCell ⟨gb232, 1, none⟩ (.slice Ao31 t226.length co31)).setCell ⟨gb232, 2, none⟩ (.slice Ao32 t229.length co32)) w.heap.size (fun k_ => some k_ ≠ (.slice Ao21 t221.length co21 : Value).ownBlock ∧ some k_ ≠ (.slice Ao31 t226.length co31 : Value).ownBlock ∧ some k_ ≠ (.slice Ao32 t229.length co32 : Value).ownBlock) (.slice Ao20 t218.length co20) t218) := ⟨by (with_reducible repeat (first | apply Kd.R_alloc | apply Kd.R_drewN | apply Kd.R_drew)); exact Kd.R_mono (Kd.R_far (p := ⟨gb232, 2, none⟩) (Kd.R_far (p := ⟨gb232, 1, none⟩) (Kd.R_far (p := ⟨gb232, 0, none⟩) (Kd.R_types HO220.out BK232.out (by decide)) (fun _ hk => hk.2) (.bool t225)) (fun _ hk => hk.2) (.slice Ao31 t226.length co31)) (fun _ hk => hk.2) (.slice Ao32 t229.length co32)) (fun _ hk => ⟨hk.1.1.1, ⟨hk.1.1.2, hk.1.2⟩⟩)⟩
   have n1_ : Aside0 (Kd.R (Kd.int .i64) 3 (((w25.setCell ⟨gb232, 0, none⟩ (.bool t225)).setCell ⟨gb232, 1, none⟩ (.slice Ao31 t226.length co31)).setCell ⟨gb232, 2, none⟩ (.slice Ao32 t229.length co32)) w.heap.size (fun k_ => some k_ ≠ (.slice Ao20 t218.length co20 : Value).ownBlock ∧ some k_ ≠ (.slice Ao31 t226.length co31 : Value).ownBlock ∧ some k_ ≠ (.slice Ao32 t229.length co32 : Value).ownBlock) (.slice Ao21 t221.length co21) t221) := ⟨by (with_reducible repeat (first | apply Kd.R_alloc | apply Kd.R_drewN | apply Kd.R_drew)); exact Kd.R_mono (Kd.R_far (p := ⟨gb232, 2, none⟩) (Kd.R_far (p := ⟨gb232, 1, none⟩) (Kd.R_far (p := ⟨gb232, 0, none⟩) (Kd.R_types HO223.out BK232.out (by decide)) (fun _ hk => hk.2) (.bool t225)) (fun _ hk => hk.2) (.slice Ao31 t226.length co31)) (fun _ hk => hk.2) (.slice Ao32 t229.length co32)) (fun _ hk => ⟨hk.1.1.1, ⟨hk.1.1.2, hk.1.2⟩⟩)⟩
   have n2_ : Aside0 (Kd.R (Kd.int .i64) 3 (((w25.setCell ⟨gb232, 0, none⟩ (.bool t225)).setCell ⟨gb232, 1, none⟩ (.slice Ao31 t226.length co31)).setCell ⟨gb232, 2, none⟩ (.slice Ao32 t229.length co32)) w.heap.size (fun k_ => some k_ ≠ (.slice Ao20 t218.length co20 : Value).ownBlock ∧ some k_ ≠ (.slice Ao21 t221.length co21 : Value).ownBlock ∧ some k_ ≠ (.slice Ao32 t229.length co32 : Value).ownBlock) (.slice Ao31 t226.length co31) t226) := ⟨by (with_reducible repeat (first | apply Kd.R_alloc | apply Kd.R_drewN | apply Kd.R_drew)); exact Kd.R_mono (Kd.R_far (p := ⟨gb232, 2, none⟩) (Kd.R_far (p := ⟨gb232, 1, none⟩) (Kd.R_far (p := ⟨gb232, 0, none⟩) (Kd.R_types HO228.out BK232.out (by decide)) (fun _ hk => hk.2) (.bool t225)) (fun _ hk => hk.2) (.slice Ao31 t226.length co31)) (fun _ hk => hk.2) (.slice Ao32 t229.length co32)) (fun _ hk => ⟨hk.1.1.2, ⟨hk.1.2, hk.1.1.1⟩⟩)⟩
   have n3_ : Aside0 (Kd.R (Kd.int .i64) 3 (((w25.setCell ⟨gb232, 0, none⟩ (.bool t225)).setCell ⟨gb232, 1, none⟩ (.slice Ao31 t226.length co31)).setCell ⟨gb232, 2, none⟩ (.slice Ao32 t229.length co32)) w.heap.size (fun k_ => some k_ ≠ (.slice Ao20 t218.length co20 : Value).ownBlock ∧ some k_ ≠ (.slice Ao21 t221.length co21 : Value).ownBlock ∧ some k_ ≠ (.slice Ao31 t226.length co31 : Value).ownBlock) (.slice Ao32 t229.length co32) t229) := ⟨by (with_reducible repeat (first | apply Kd.R_alloc | apply Kd.R_drewN | apply Kd.R_drew)); exact Kd.R_mono (Kd.R_far (p := ⟨gb232, 2, none⟩) (Kd.R_far (p := ⟨gb232, 1, none⟩) (Kd.R_far (p := ⟨gb232, 0, none⟩) (Kd.R_types HO231.out BK232.out (by decide)) (fun _ hk => hk.2) (.bool t225)) (fun _ hk => hk.2) (.slice Ao31 t226.length co31)) (fun _ hk => hk.2) (.slice Ao32 t229.length co32)) (fun _ hk => ⟨hk.1.1.2, ⟨hk.1.2, hk.1.1.1⟩⟩)⟩
   have n4_ : Aside0 ((((w25.setCell ⟨gb232, 0, none⟩ (.bool t225)).setCell ⟨gb232, 1, none⟩ (.slice Ao31 t226.length co31)).setCell ⟨gb232, 2, none⟩ (.slice Ao32 t229.length co32)).heap[gb214]? = some (.cells #[.int .i64 a0_0, .int .i64 a0_1] 23 (0, 0))) := ⟨by (with_reducible repeat (first | refine blk_drewN ?_ _ | refine blk_drew ?_ | refine blk_alloc ?_ _)); refine blk_far ?_ NB214_232.out _; (with_reducible repeat (first | refine blk_drewN ?_ _ | refine blk_drew ?_ | refine blk_alloc ?_ _)); refine blk_far ?_ NB214_232.out _; (with_reducible repeat (first | refine blk_drewN ?_ _ | refine blk_drew ?_ | refine blk_alloc ?_ _)); refine blk_far ?_ NB214_232.out _; (with_reducible repeat (first | refine blk_drewN ?_ _ | refine blk_drew ?_ | refine blk_alloc ?_ _)); exact BK214.out⟩
   have n5_ : Aside0 ((((w25.setCell ⟨gb232, 0, none⟩ (.bool t225)).setCell ⟨gb232, 1, none⟩ (.slice Ao31 t226.length co31)).setCell ⟨gb232, 2, none⟩ (.slice Ao32 t229.length co32)).heap[gb215]? = some (.cells #[.int .i64 a1_0, .int .i64 a1_1] 23 (0, 0))) := ⟨by (with_reducible repeat (first | refine blk_drewN ?_ _ | refine blk_drew ?_ | refine blk_alloc ?_ _)); refine blk_far ?_ NB215_232.out _; (with_reducible repeat (first | refine blk_drewN ?_ _ | refine blk_drew ?_ | refine blk_alloc ?_ _)); refine blk_far ?_ NB215_232.out _; (with_reducible repeat (first | refine blk_drewN ?_ _ | refine blk_drew ?_ | refine blk_alloc ?_ _)); refine blk_far ?_ NB215_232.out _; (with_reducible repeat (first | refine blk_drewN ?_ _ | refine blk_drew ?_ | refine blk_alloc ?_ _)); exact BK215.out⟩
   have n6_ : Aside0 ((((w25.setCell ⟨gb232, 0, none⟩ (.bool t225)).setCell ⟨gb232, 1, none⟩ (.slice Ao31 t226.length co31)).setCell ⟨gb232, 2, none⟩ (.slice Ao32 t229.length co32)).heap[gb216]? = some (.cells #[.int .i64 0, .int .i64 0, .bool false] 50 (0, 0))) := ⟨by (with_reducible repeat (first | refine blk_drewN ?_ _ | refine blk_drew ?_ | refine blk_alloc ?_ _)); refine blk_far ?_ NB216_232.out _; (with_reducible repeat (first | refine blk_drewN ?_ _ | refine blk_drew ?_ | refine blk_alloc ?_ _)); refine blk_far ?_ NB216_232.out _; (with_reducible repeat (first | refine blk_drewN ?_ _ | refine blk_drew ?_ | refine blk_alloc ?_ _)); refine blk_far ?_ NB216_232.out _; (with_reducible repeat (first | refine blk_drewN ?_ _ | refine blk_drew ?_ | refine blk_alloc ?_ _)); exact BK216.out⟩
   have n7_ : Aside0 ((((w25.setCell ⟨gb232, 0, none⟩ (.bool t225)).setCell ⟨gb232, 1, none⟩ (.slice Ao31 t226.length co31)).setCell ⟨gb232, 2, none⟩ (.slice Ao32 t229.length co32)).heap[gb224]? = some (.cells #[.bool t217, .slice Ao20 t218.length co20, .slice Ao21 t221.length co21] 102 (0, 0))) := ⟨by (with_reducible repeat (first | refine blk_drewN ?_ _ | refine blk_drew ?_ | refine blk_alloc ?_ _)); refine blk_far ?_ NB224_232.out _; (with_reducible repeat (first | refine blk_drewN ?_ _ | refine blk_drew ?_ | refine blk_alloc ?_ _)); refine blk_far ?_ NB224_232.out _; (with_reducible repeat (first | refine blk_drewN ?_ _ | refine blk_drew ?_ | refine blk_alloc ?_ _)); refine blk_far ?_ NB224_232.out _; (with_reducible repeat (first | refine blk_drewN ?_ _ | refine blk_drew ?_ | refine blk_alloc ?_ _)); exact BK224.out⟩
   have n8_ : Aside0 ((((w25.setCell ⟨gb232, 0, none⟩ (.bool t225)).setCell ⟨gb232, 1, none⟩ (.slice Ao31 t226.length co31)).setCell ⟨gb232, 2, none⟩ (.slice Ao32 t229.length co32)).heap[gb232]? = some (.cells #[.bool t225, .slice Ao31 t226.length co31, .slice Ao32 t229.length co32] 102 (0, 0))) := ⟨by (with_reducible repeat (first | refine blk_drewN ?_ _ | refine blk_drew ?_ | refine blk_alloc ?_ _)); refine blk_put (cs := #[.bool t225, .slice Ao31 t226.length co31, .slice none 0 0]) ?_ 2 _ rfl; (with_reducible repeat (first | refine blk_drewN ?_ _ | refine blk_drew ?_ | refine blk_alloc ?_ _)); refine blk_put (cs := #[.bool t225, .slice none 0 0, .slice none 0 0]) ?_ 1 _ rfl; (with_reducible repeat (first | refine blk_drewN ?_ _ | refine blk_drew ?_ | refine blk_alloc ?_ _)); refine blk_put (cs := #[.bool false, .slice none 0 0, .slice none 0 0]) ?_ 0 _ rfl; (with_reducible repeat (first | refine blk_drewN ?_ _ | refine blk_drew ?_ | refine blk_alloc ?_ _)); exact BK232.out⟩
   have n9_ : Aside0 (Below w.heap.size w (((w25.setCell ⟨gb232, 0, none⟩ (.bool t225)).setCell ⟨gb232, 1, none⟩ (.slice Ao31 t226.length co31)).setCell ⟨gb232, 2, none⟩ (.slice Ao32 t229.length co32))) := ⟨bz⟩
   (try clear HO220)
   (try clear HO223)
   (try clear HO228)
   (try clear HO231)
   (try clear BK214)
   (try clear BK215)
   (try clear BK216)
   (try clear BK224)
   (try clear BK232)
   (try clear HB)
   generalize (((w25.setCell ⟨gb232, 0, none⟩ (.bool t225)).setCell ⟨gb232, 1, none⟩ (.slice Ao31 t226.length co31)).setCell ⟨gb232, 2, none⟩ (.slice Ao32 t229.length co32)) = w108 at n0_ n1_ n2_ n3_ n4_ n5_ n6_ n7_ n8_ n9_ ⊢
   have HO220 := n0_
   have HO223 := n1_
   have HO228 := n2_
   have HO231 := n3_
   have BK214 := n4_
   have BK215 := n5_
   have BK216 := n6_
   have BK224 := n7_
   have BK232 := n8_
   have HB := n9_
   clear n0_ n1_ n2_ n3_ n4_ n5_ n6_ n7_ n8_ n9_
   (try (rw [drewN_self w108]; generalize hq_ : World.drewN w108 _ = w108; replace HO220 : Aside0 (Kd.R (Kd.int .i64) 3 w108 w.heap.size (fun k_ => some k_ ≠ (.slice Ao21 t221.length co21 : Value).ownBlock ∧ some k_ ≠ (.slice Ao31 t226.length co31 : Value).ownBlock ∧ some k_ ≠ (.slice Ao32 t229.length co32 : Value).ownBlock) (.slice Ao20 t218.length co20) t218) := ⟨by rw [← hq_]; exact (rz HO220)⟩; replace HO223 : Aside0 (Kd.R (Kd.int .i64) 3 w108 w.heap.size (fun k_ => some k_ ≠ (.slice Ao20 t218.length co20 : Value).ownBlock ∧ some k_ ≠ (.slice Ao31 t226.length co31 : Value).ownBlock ∧ some k_ ≠ (.slice Ao32 t229.length co32 : Value).ownBlock) (.slice Ao21 t221.length co21) t221) := ⟨by rw [← hq_]; exact (rz HO223)⟩; replace HO228 : Aside0 (Kd.R (Kd.int .i64) 3 w108 w.heap.size (fun k_ => some k_ ≠ (.slice Ao20 t218.length co20 : Value).ownBlock ∧ some k_ ≠ (.slice Ao21 t221.length co21 : Value).ownBlock ∧ some k_ ≠ (.slice Ao32 t229.length co32 : Value).ownBlock) (.slice Ao31 t226.length co31) t226) := ⟨by rw [← hq_]; exact (rz HO228)⟩; replace HO231 : Aside0 (Kd.R (Kd.int .i64) 3 w108 w.heap.size (fun k_ => some k_ ≠ (.slice Ao20 t218.length co20 : Value).ownBlock ∧ some k_ ≠ (.slice Ao21 t221.length co21 : Value).ownBlock ∧ some k_ ≠ (.slice Ao31 t226.length co31 : Value).ownBlock) (.slice Ao32 t229.length co32) t229) := ⟨by rw [← hq_]; exact (rz HO231)⟩; replace BK214 : Aside0 (w108.heap[gb214]? = some (.cells #[.int .i64 a0_0, .int .i64 a0_1] 23 (0, 0))) := ⟨by rw [← hq_]; exact (kz BK214)⟩; replace BK215 : Aside0 (w108.heap[gb215]? = some (.cells #[.int .i64 a1_0, .int .i64 a1_1] 23 (0, 0))) := ⟨by rw [← hq_]; exact (kz BK215)⟩; replace BK216 : Aside0 (w108.heap[gb216]? = some (.cells #[.int .i64 0, .int .i64 0, .bool false] 50 (0, 0))) := ⟨by rw [← hq_]; exact (kz BK216)⟩; replace BK224 : Aside0 (w108.heap[gb224]? = some (.cells #[.bool t217, .slice Ao20 t218.length co20, .slice Ao21 t221.length co21] 102 (0, 0))) := ⟨by rw [← hq_]; exact (kz BK224)⟩; replace BK232 : Aside0 (w108.heap[gb232]? = some (.cells #[.bool t225, .slice Ao31 t226.length co31, .slice Ao32 t229.length co32] 102 (0, 0))) := ⟨by rw [← hq_]; exact (kz BK232)⟩; replace HB : Aside0 (Below w.heap.size w w108) := ⟨by rw [← hq_]; exact bz⟩; clear hq_; have hczq214_0 := c20 BK214; have hfzq214_0 := blk_frozen BK214.out 0; have hczq214_1 := c21 BK214; have hfzq214_1 := blk_frozen BK214.out 1; have hczq215_0 := c20 BK215; have hfzq215_0 := blk_frozen BK215.out 0; have hczq215_1 := c21 BK215; have hfzq215_1 := blk_frozen BK215.out 1; have hczq216_0 : w108.cell? ⟨gb216, 0, none⟩ = some (.int .i64 0) := (blk_cell BK216.out 0).trans rfl; have hfzq216_0 := blk_frozen BK216.out 0; have hczq216_1 : w108.cell? ⟨gb216, 1, none⟩ = some (.int .i64 0) := (blk_cell BK216.out 1).trans rfl; have hfzq216_1 := blk_frozen BK216.out 1; have hczq216_2 : w108.cell? ⟨gb216, 2, none⟩ = some (.bool false) := (blk_cell BK216.out 2).trans rfl; have hfzq216_2 := blk_frozen BK216.out 2; have hczq224_0 : w108.cell? ⟨gb224, 0, none⟩ = some (.bool t217) := (blk_cell BK224.out 0).trans rfl; have hfzq224_0 := blk_frozen BK224.out 0; have hczq224_1 : w108.cell? ⟨gb224, 1, none⟩ = some (.slice Ao20 t218.length co20) := (blk_cell BK224.out 1).trans rfl; have hfzq224_1 := blk_frozen BK224.out 1; have hczq224_2 : w108.cell? ⟨gb224, 2, none⟩ = some (.slice Ao21 t221.length co21) := (blk_cell BK224.out 2).trans rfl; have hfzq224_2 := blk_frozen BK224.out 2; have hczq232_0 : w108.cell? ⟨gb232, 0, none⟩ = some (.bool t225) := (blk_cell BK232.out 0).trans rfl; have hfzq232_0 := blk_frozen BK232.out 0; have hczq232_1 : w108.cell? ⟨gb232, 1, none⟩ = some (.slice Ao31 t226.length co31) := (blk_cell BK232.out 1).trans rfl; have hfzq232_1 := blk_frozen BK232.out 1; have hczq232_2 : w108.cell? ⟨gb232, 2, none⟩ = some (.slice Ao32 t229.length co32) := (blk_cell BK232.out 2).trans rfl; have hfzq232_2 := blk_frozen BK232.out 2))
   replace HO220 := Aside0.mk (Kd.R_drew HO220.out)
   replace HO223 := Aside0.mk (Kd.R_drew HO223.out)
   replace HO228 := Aside0.mk (Kd.R_drew HO228.out)
   replace HO231 := Aside0.mk (Kd.R_drew HO231.out)
   replace BK214 := Aside0.mk (blk_drew BK214.out)
   replace BK215 := Aside0.mk (blk_drew BK215.out)
   replace BK216 := Aside0.mk (blk_drew BK216.out)
   replace BK224 := Aside0.mk (blk_drew BK224.out)
   replace BK232 := Aside0.mk (blk_drew BK232.out)
   replace HB := Aside0.mk (below_drew1 HB.out)
   refine start_ (n := 12) (S := fun w' => w'.cell? ⟨gb232, 0, none⟩ = some (.bool t225) ∧ w'.cell? ⟨gb232, 1, none⟩ = some (.slice Ao31 t226.length co31) ∧ w'.cell? ⟨gb232, 2, none⟩ = some (.slice Ao32 t229.length co32) ∧ w'.cell? ⟨gb224, 0, none⟩ = some (.bool t217) ∧ w'.cell? ⟨gb224, 1, none⟩ = some (.slice Ao20 t218.length co20) ∧ w'.cell? ⟨gb224, 2, none⟩ = some (.slice Ao21 t221.length co21)) (ds := []) #[false, false, false, false, false, false, false, false, false, false, false, false] (by kernel_rfl) rfl rfl ⟨(blk_cell BK232.out 0).trans rfl, (blk_cell BK232.out 1).trans rfl, (blk_cell BK232.out 2).trans rfl, (blk_cell BK224.out 0).trans rfl, (blk_cell BK224.out 1).trans rfl, (blk_cell BK224.out 2).trans rfl⟩ (fun hHeld => ?_); refine with_tabW manorboyref02_Add.tab7 manorboyref02_Add.bits7 (fun HT_ HW_ => ?_)
   generalize w108.drew = w109 at HO220 HO223 HO228 HO231 BK214 BK215 BK216 BK224 BK232 HB hHeld ⊢
   refine pur 0 (some 44) #[tt,ff,ff,ff,ff,ff,ff,ff,ff,ff,ff,ff] ?_
   refine pur 2 (some 46) #[tt,ff,tt,ff,ff,ff,ff,ff,ff,ff,ff,ff] ?_
   refine pur 4 (some 48) #[tt,ff,tt,ff,tt,ff,ff,ff,ff,ff,ff,ff] ?_
   refine pur 7 (some 51) #[tt,ff,tt,ff,tt,ff,ff,tt,ff,ff,ff,ff] ?_
   refine take_ (i := 1) (N := some 45) (v := ?_) (a' := ?_) #[true, true, true, false, true, false, false, true, false, false, false, false] rfl rfl (take_ofW HT_.out HW_.out (by kernel_rfl)) (fun _ _ _ h => h) (Or.inl ⟨by rfl, ?_⟩) hHeld ?_ ?_
   rotate_left
   ·rintro w' ⟨s0, s1, s2, s3, s4, s5⟩
    go_simp
    with_reducible rfl
   rotate_left
   ·simp only [Act.put, List.setIfInBounds_toArray, List.set_cons_zero, List.set_cons_succ, i64_w, i32_w]
    rfl
   refine take_ (i := 3) (N := some 47) (v := ?_) (a' := ?_) #[true, true, true, true, true, false, false, true, false, false, false, false] rfl rfl (take_ofW HT_.out HW_.out (by kernel_rfl)) (fun _ _ _ h => h) (Or.inl ⟨by rfl, ?_⟩) hHeld ?_ ?_
   rotate_left
   ·rintro w' ⟨s0, s1, s2, s3, s4, s5⟩
    go_simp
    with_reducible rfl
   rotate_left
   ·simp only [Act.put, List.setIfInBounds_toArray, List.set_cons_zero, List.set_cons_succ, i64_w, i32_w]
    rfl
   refine take_ (i := 5) (N := some 49) (v := ?_) (a' := ?_) #[true, true, true, true, true, true, false, true, false, false, false, false] rfl rfl (take_ofW HT_.out HW_.out (by kernel_rfl)) (fun _ _ _ h => h) (Or.inl ⟨by rfl, ?_⟩) hHeld ?_ ?_
   rotate_left
   ·rintro w' ⟨s0, s1, s2, s3, s4, s5⟩
    go_simp
    with_reducible rfl
   rotate_left
   ·simp only [Act.put, List.setIfInBounds_toArray, List.set_cons_zero, List.set_cons_succ, i64_w, i32_w]
    rfl
   refine take_ (i := 8) (N := some 52) (v := ?_) (a' := ?_) #[true, true, true, true, true, true, false, true, true, false, false, false] rfl rfl (take_ofW HT_.out HW_.out (by kernel_rfl)) (fun _ _ _ h => h) (Or.inl ⟨by rfl, ?_⟩) hHeld ?_ ?_
   rotate_left
   ·rintro w' ⟨s0, s1, s2, s3, s4, s5⟩
    go_simp
    with_reducible rfl
   rotate_left
   ·simp only [Act.put, List.setIfInBounds_toArray, List.set_cons_zero, List.set_cons_succ, i64_w, i32_w]
    rfl
   refine one_ (i := 6) (N := some 50) #[true, true, true, true, true, true, true, true, true, false, false, false] rfl rfl (one_of HT_.out (by kernel_rfl)) (by decide) (fun K hK => ?_)
   refine goes_ Tryz.func105 (by kernel_rfl) rfl #[.slice Ao31 t226.length co31, .slice Ao20 t218.length co20] (by rfl) rfl rfl az ?_
   with_reducible refine (manorboyref02_Nat_Sub.calls k _ _ t226 _ _ t218 t246 _ ?side1 ?side2 ?side3 ?side4 A80.out).mono ?_
   (case side1 => exact ccz (Kd.R_reads' HO228.out).2.2)
   (case side2 => exact (Kd.R_reads' HO228.out).2.1)
   (case side3 => exact ccz (Kd.R_reads' HO220.out).2.2)
   (case side4 => exact (Kd.R_reads' HO220.out).2.1)
   rintro e w110 ⟨v247, rfl, ho0, hb⟩
   refine ⟨_, rfl, ?_⟩
   have HO248 := Aside0.mk (Kd.R_lower (Kd.R_new' (Kd.R_new' (Kd.R_new' (Kd.R_new' ho0 (Kd.R_lt (rz HO220))) (Kd.R_lt (rz HO223))) (Kd.R_lt (rz HO228))) (Kd.R_lt (rz HO231))) (below_size bz))
   replace HO220 := Aside0.mk (Kd.R_elder' (rz HO220) (Kd.R_base ho0) hb)
   replace HO223 := Aside0.mk (Kd.R_elder' (rz HO223) (Kd.R_base ho0) hb)
   replace HO228 := Aside0.mk (Kd.R_elder' (rz HO228) (Kd.R_base ho0) hb)
   replace HO231 := Aside0.mk (Kd.R_elder' (rz HO231) (Kd.R_base ho0) hb)
   replace BK214 := kb BK214 hb
   replace BK215 := kb BK215 hb
   replace BK216 := kb BK216 hb
   replace BK224 := kb BK224 hb
   replace BK232 := kb BK232 hb
   replace HB := bs hb
   (try clear hb)
   (try clear hk)
   (try clear ho0)
   obtain ⟨Ao111, co111, eo111⟩ := Kd.R_slice HO248.out
   (first | subst eo111 | (injection eo111 with f1_ f2_ f3_; have f4_ := f1_.symm; have f5_ := f3_.symm; clear f1_ f2_ f3_; subst f4_; subst f5_))
   refine hK.out _ _ ⟨(blk_cell BK232.out 0).trans rfl, (blk_cell BK232.out 1).trans rfl, (blk_cell BK232.out 2).trans rfl, (blk_cell BK224.out 0).trans rfl, (blk_cell BK224.out 1).trans rfl, (blk_cell BK224.out 2).trans rfl⟩ (fun hHeld => ?_)
   clear hK K
   refine norm_ (a' := ?_) ?_ ?_
   rotate_left
   ·show Act.put _ (some 50) _ = _
    simp only [Act.put, List.setIfInBounds_toArray, List.set_cons_zero, List.set_cons_succ, i64_w, i32_w]
    rfl
   refine pur 9 (some 53) #[tt,tt,tt,tt,tt,tt,tt,tt,tt,tt,ff,ff] ?_
   refine one_ (i := 10) (N := some 54) #[true, true, true, true, true, true, true, true, true, true, true, false] rfl rfl (one_of HT_.out (by kernel_rfl)) (by decide) (fun K hK => ?_)
   refine goes_ Tryz.func88 (by kernel_rfl) rfl #[.agg #[.bool t225, .slice Ao111 t246.length co111, .slice Ao21 t221.length co21]] (by rfl) rfl rfl az ?_
   with_reducible refine (manorboyref02_Quotient_Round.calls k t225 _ _ t246 _ _ t221 t249 t250 t251 _ ?side1 ?side2 ?side3 ?side4 A81.out).mono ?_
   (case side1 => exact ccz (Kd.R_reads' HO248.out).2.2)
   (case side2 => exact (Kd.R_reads' HO248.out).2.1)
   (case side3 => exact ccz (Kd.R_reads' HO223.out).2.2)
   (case side4 => exact (Kd.R_reads' HO223.out).2.1)
   rintro e w112 ⟨rfl, hb⟩
   refine ⟨_, rfl, ?_⟩
   replace HO220 := rb HO220 hb
   replace HO223 := rb HO223 hb
   replace HO228 := rb HO228 hb
   replace HO231 := rb HO231 hb
   replace HO248 := rb HO248 hb
   replace BK214 := kb BK214 hb
   replace BK215 := kb BK215 hb
   replace BK216 := kb BK216 hb
   replace BK224 := kb BK224 hb
   replace BK232 := kb BK232 hb
   replace HB := bs hb
   (try clear hb)
   (try clear hk)
   refine hK.out _ _ ⟨(blk_cell BK232.out 0).trans rfl, (blk_cell BK232.out 1).trans rfl, (blk_cell BK232.out 2).trans rfl, (blk_cell BK224.out 0).trans rfl, (blk_cell BK224.out 1).trans rfl, (blk_cell BK224.out 2).trans rfl⟩ (fun hHeld => ?_)
   clear hK K
   refine norm_ (a' := ?_) ?_ ?_
   rotate_left
   ·show Act.put _ (some 54) _ = _
    simp only [Act.put, List.setIfInBounds_toArray, List.set_cons_zero, List.set_cons_succ, i64_w, i32_w]
    rfl
   refine one_ (i := 11) (N := none) #[true, true, true, true, true, true, true, true, true, true, true, true] rfl rfl (one_of HT_.out (by kernel_rfl)) (by decide) (fun K hK => ?_)
   have hs113 : w112.cell? ⟨gb216, 0, none⟩ = some (.int .i64 0) := (blk_cell BK216.out 0).trans rfl
   have hfs113 := blk_frozen BK216.out 0
   have hns113_0 := NB214_216.out
   have hns113_1 := NB215_216.out
   have hns113_3 := NB224_216.out
   have hns113_4 := NB232_216.out
   have hms113_0 := NB216_214.out
   have hms113_1 := NB216_215.out
   have hms113_3 := NB216_224.out
   have hms113_4 := NB216_232.out
   have hs114 : w112.cell? ⟨gb216, 1, none⟩ = some (.int .i64 0) := (blk_cell BK216.out 1).trans rfl
   have hfs114 := blk_frozen BK216.out 1
   have hns114_0 := NB214_216.out
   have hns114_1 := NB215_216.out
   have hns114_3 := NB224_216.out
   have hns114_4 := NB232_216.out
   have hms114_0 := NB216_214.out
   have hms114_1 := NB216_215.out
   have hms114_3 := NB216_224.out
   have hms114_4 := NB216_232.out
   have hs115 : w112.cell? ⟨gb216, 2, none⟩ = some (.bool false) := (blk_cell BK216.out 2).trans rfl
   have hfs115 := blk_frozen BK216.out 2
   have hns115_0 := NB214_216.out
   have hns115_1 := NB215_216.out
   have hns115_3 := NB224_216.out
   have hns115_4 := NB232_216.out
   have hms115_0 := NB216_214.out
   have hms115_1 := NB216_215.out
   have hms115_3 := NB216_224.out
   have hms115_4 := NB216_232.out
   refine skip_ (w1 := ?_) (by rfl) rfl ?_ ?_
   rotate_left
   ·go_simp
    rfl
   refine hK.out _ _ ⟨((cell_far (p := ⟨gb216, _, none⟩) NB232_216.out _).trans (((cell_far (p := ⟨gb216, _, none⟩) NB232_216.out _).trans (((cell_far (p := ⟨gb216, _, none⟩) NB232_216.out _).trans (hHeld.1)))))), ((cell_far (p := ⟨gb216, _, none⟩) NB232_216.out _).trans (((cell_far (p := ⟨gb216, _, none⟩) NB232_216.out _).trans (((cell_far (p := ⟨gb216, _, none⟩) NB232_216.out _).trans (hHeld.2.1)))))), ((cell_far (p := ⟨gb216, _, none⟩) NB232_216.out _).trans (((cell_far (p := ⟨gb216, _, none⟩) NB232_216.out _).trans (((cell_far (p := ⟨gb216, _, none⟩) NB232_216.out _).trans (hHeld.2.2.1)))))), ((cell_far (p := ⟨gb216, _, none⟩) NB224_216.out _).trans (((cell_far (p := ⟨gb216, _, none⟩) NB224_216.out _).trans (((cell_far (p := ⟨gb216, _, none⟩) NB224_216.out _).trans (hHeld.2.2.2.1)))))), ((cell_far (p := ⟨gb216, _, none⟩) NB224_216.out _).trans (((cell_far (p := ⟨gb216, _, none⟩) NB224_216.out _).trans (((cell_far (p := ⟨gb216, _, none⟩) NB224_216.out _).trans (hHeld.2.2.2.2.1)))))), ((cell_far (p := ⟨gb216, _, none⟩) NB224_216.out _).trans (((cell_far (p := ⟨gb216, _, none⟩) NB224_216.out _).trans (((cell_far (p := ⟨gb216, _, none⟩) NB224_216.out _).trans (hHeld.2.2.2.2.2))))))⟩ (fun hHeld => ?_)
   clear hK K
   refine done_ (done_of HT_.out (by kernel_rfl)) ?_
   try go_wp2
   refine bodyPost_ret (results_cell_row rfl _ _ gb216 50 #[.int .i64 t249, .int .i64 t250, .bool t251] (0, 0) _ rfl (by (with_reducible repeat (first | refine blk_drewN ?_ _ | refine blk_drew ?_ | refine blk_alloc ?_ _)); refine blk_put (cs := #[.int .i64 t249, .int .i64 t250, .bool false]) ?_ 2 _ rfl; (with_reducible repeat (first | refine blk_drewN ?_ _ | refine blk_drew ?_ | refine blk_alloc ?_ _)); refine blk_put (cs := #[.int .i64 t249, .int .i64 0, .bool false]) ?_ 1 _ rfl; (with_reducible repeat (first | refine blk_drewN ?_ _ | refine blk_drew ?_ | refine blk_alloc ?_ _)); refine blk_put (cs := #[.int .i64 0, .int .i64 0, .bool false]) ?_ 0 _ rfl; (with_reducible repeat (first | refine blk_drewN ?_ _ | refine blk_drew ?_ | refine blk_alloc ?_ _)); exact BK216.out) Tryz.underlying50 rfl (by kernel_rfl)) rfl ?_
   exact ⟨by first | rfl | (simp [errW_none, errW_some] <;> rfl) | (simp [*, errW_none, errW_some] <;> rfl), bz⟩


def manorboyref02_Neg.f (a0_0 : Int) (a0_1 : Int) : Option (Int × Int) := some (wrap64 (-a0_0), a0_1)
theorem manorboyref02_Neg.calls (a0_0 : Int) (a0_1 : Int) (r1 : Int) (r2 : Int) (w : World) (h : manorboyref02_Neg.f a0_0 a0_1 = some (r1, r2)) :
  Calls Tryz.prog 61 #[.agg #[.int .i64 a0_0, .int .i64 a0_1]] w fun e w' => e = .returned (.agg #[.int .i64 r1, .int .i64 r2]) ∧ Below w.heap.size w w' := by
 have hu23 := Tryz.underlying23
 have HB := Aside0.mk (Below.refl w.heap.size w)
 have H := h; unfold manorboyref02_Neg.f at H; clear h
 simp only [Option.some.injEq, Prod.mk.injEq] at H
 obtain ⟨rfl, rfl⟩ := H
 go_enter Tryz.func61, Tryz.ntmps61
 go_wp2_with (first | ((with_reducible refine gate_dst (N := 1) rfl ?_); refine box_event ?hg (N := 1) ?hd (cs := #[.int .i64 a0_0, .int .i64 a0_1]) (t := 23) ?hr ?_; (case hd => rfl); (case hg => rfl); (case hr => first | (go_simp; done) | (go_simp; rfl)); intro gb252 hg w2 hbox hb; have BK252 := Aside0.mk hbox; have GW252 := ge hg; have GE252 := ge hg; replace HB := bs hb; clear hb hbox hg) | ((with_reducible refine gate_dst (N := 2) rfl ?_); refine box_event ?hg (N := 2) ?hd (cs := #[.int .i64 0, .int .i64 0]) (t := 23) ?hr ?_; (case hd => rfl); (case hg => rfl); (case hr => first | (go_simp; done) | (go_simp; rfl)); intro gb253 hg w3 hbox hb; have BK253 := Aside0.mk hbox; have GW253 := ge hg; have GE253 := ge hg; have NB252_253 := nl BK252 hg; have NB253_252 := nr BK252 hg; replace BK252 := kb BK252 hb; replace HB := bs hb; clear hb hbox hg; have hnb4 := NB252_253.out; have hnc4 := NB253_252.out; have hcz5_0 := c20 BK252; have hcz5_1 := c21 BK252; have hfz5_0 := blk_frozen BK252.out 0; have hfz5_1 := blk_frozen BK252.out 1; have hcz6_0 := c20 BK253; have hcz6_1 := c21 BK253; have hfz6_0 := blk_frozen BK253.out 0; have hfz6_1 := blk_frozen BK253.out 1))
 refine bodyPost_ret (results_cell_row rfl _ _ gb253 23 #[.int .i64 (wrap64 (-a0_0)), .int .i64 a0_1] (0, 0) _ rfl (by (with_reducible repeat (first | refine blk_drewN ?_ _ | refine blk_drew ?_ | refine blk_alloc ?_ _)); refine blk_put (cs := #[.int .i64 (wrap64 (-a0_0)), .int .i64 0]) ?_ 1 _ rfl; (with_reducible repeat (first | refine blk_drewN ?_ _ | refine blk_drew ?_ | refine blk_alloc ?_ _)); refine blk_put (cs := #[.int .i64 0, .int .i64 0]) ?_ 0 _ rfl; (with_reducible repeat (first | refine blk_drewN ?_ _ | refine blk_drew ?_ | refine blk_alloc ?_ _)); exact BK253.out) Tryz.underlying23 rfl (by kernel_rfl)) rfl ?_
 exact ⟨by first | rfl | (simp [errW_none, errW_some] <;> rfl) | (simp [*, errW_none, errW_some] <;> rfl), bz⟩

def manorboyref02_Sub.f (k : Nat) (a0_0 : Int) (a0_1 : Int) (a1_0 : Int) (a1_1 : Int) : Option (Int × Int × Bool) := (manorboyref02_Neg.f a1_0 a1_1).bind fun bt257 => ((manorboyref02_Add.f k a0_0 a0_1 bt257.1 bt257.2).bind fun bt259 => (some (bt259.1, bt259.2.1, bt259.2.2)))
theorem manorboyref02_Sub.calls (k : Nat) (a0_0 : Int) (a0_1 : Int) (a1_0 : Int) (a1_1 : Int) (r1 : Int) (r2 : Int) (r3 : Bool) (w : World) (h : manorboyref02_Sub.f k a0_0 a0_1 a1_0 a1_1 = some (r1, r2, r3)) :
  Calls Tryz.prog 37 #[.agg #[.int .i64 a0_0, .int .i64 a0_1], .agg #[.int .i64 a1_0, .int .i64 a1_1]] w fun e w' => e = .returned (.agg #[.int .i64 r1, .int .i64 r2, .bool r3]) ∧ Below w.heap.size w w' := by
 have hu23 := Tryz.underlying23
 have hu50 := Tryz.underlying50
 have HB := Aside0.mk (Below.refl w.heap.size w)
 have H := h; unfold manorboyref02_Sub.f at H; clear h
 replace H := Option.bind_eq_some_iff.mp H
 obtain ⟨⟨t257, t258⟩, A30, H⟩ := H
 try dsimp only at H
 have A3 := Aside0.mk A30
 clear A30
 replace H := Option.bind_eq_some_iff.mp H
 obtain ⟨⟨t259, t260, t261⟩, A40, H⟩ := H
 try dsimp only at H
 have A4 := Aside0.mk A40
 clear A40
 simp only [Option.some.injEq, Prod.mk.injEq] at H
 obtain ⟨rfl, rfl, rfl⟩ := H
 go_enter Tryz.func37, Tryz.ntmps37
 try go_wp2_with (first | ((with_reducible refine gate_dst (N := 2) rfl ?_); refine box_event ?hg (N := 2) ?hd (cs := #[.int .i64 a0_0, .int .i64 a0_1]) (t := 23) ?hr ?_; (case hd => rfl); (case hg => rfl); (case hr => first | (go_simp; done) | (go_simp; rfl)); intro gb254 hg w5 hbox hb; have BK254 := Aside0.mk hbox; have GW254 := ge hg; have GE254 := ge hg; replace HB := bs hb; clear hb hbox hg) | ((with_reducible refine gate_dst (N := 3) rfl ?_); refine box_event ?hg (N := 3) ?hd (cs := #[.int .i64 a1_0, .int .i64 a1_1]) (t := 23) ?hr ?_; (case hd => rfl); (case hg => rfl); (case hr => first | (go_simp; done) | (go_simp; rfl)); intro gb255 hg w6 hbox hb; have BK255 := Aside0.mk hbox; have GW255 := ge hg; have GE255 := ge hg; have NB254_255 := nl BK254 hg; have NB255_254 := nr BK254 hg; replace BK254 := kb BK254 hb; replace HB := bs hb; clear hb hbox hg) | ((with_reducible refine gate_dst (N := 4) rfl ?_); refine box_event ?hg (N := 4) ?hd (cs := #[.int .i64 0, .int .i64 0, .bool false]) (t := 50) ?hr ?_; (case hd => rfl); (case hg => rfl); (case hr => first | (go_simp; done) | (go_simp; rfl)); intro gb256 hg w7 hbox hb; have BK256 := Aside0.mk hbox; have GW256 := ge hg; have GE256 := ge hg; have NB254_256 := nl BK254 hg; have NB256_254 := nr BK254 hg; have NB255_256 := nl BK255 hg; have NB256_255 := nr BK255 hg; replace BK254 := kb BK254 hb; replace BK255 := kb BK255 hb; replace HB := bs hb; clear hb hbox hg))
 replace BK254 := Aside0.mk (blk_drew BK254.out)
 replace BK255 := Aside0.mk (blk_drew BK255.out)
 replace BK256 := Aside0.mk (blk_drew BK256.out)
 replace HB := Aside0.mk (below_drew1 HB.out)
 refine start_ (n := 5) (S := fun w' => w'.cell? ⟨gb254, 0, none⟩ = some (.int .i64 a0_0) ∧ w'.cell? ⟨gb254, 1, none⟩ = some (.int .i64 a0_1) ∧ w'.cell? ⟨gb255, 0, none⟩ = some (.int .i64 a1_0) ∧ w'.cell? ⟨gb255, 1, none⟩ = some (.int .i64 a1_1)) (ds := []) #[false, false, false, false, false] (by kernel_rfl) rfl rfl ⟨(blk_cell BK254.out 0).trans rfl, (blk_cell BK254.out 1).trans rfl, (blk_cell BK255.out 0).trans rfl, (blk_cell BK255.out 1).trans rfl⟩ (fun hHeld => ?_)
 generalize w7.drew = w8 at BK254 BK255 BK256 HB hHeld ⊢
 refine take_ (i := 0) (N := some 5) (v := ?_) (a' := ?_) #[true, false, false, false, false] rfl rfl (by kernel_rfl) (fun _ _ _ h => h) (Or.inl ⟨by rfl, ?_⟩) hHeld ?_ ?_
 rotate_left
 ·rintro w' ⟨s0, s1, s2, s3⟩
  go_simp
  with_reducible rfl
 rotate_left
 ·simp only [Act.put, List.setIfInBounds_toArray, List.set_cons_zero, List.set_cons_succ, i64_w, i32_w]
  rfl
 refine take_ (i := 1) (N := some 6) (v := ?_) (a' := ?_) #[true, true, false, false, false] rfl rfl (by kernel_rfl) (fun _ _ _ h => h) (Or.inl ⟨by rfl, ?_⟩) hHeld ?_ ?_
 rotate_left
 ·rintro w' ⟨s0, s1, s2, s3⟩
  go_simp
  with_reducible rfl
 rotate_left
 ·simp only [Act.put, List.setIfInBounds_toArray, List.set_cons_zero, List.set_cons_succ, i64_w, i32_w]
  rfl
 refine one_ (i := 2) (N := some 7) #[true, true, true, false, false] rfl rfl (by kernel_rfl) (by decide) (fun K hK => ?_)
 refine goes_ Tryz.func61 (by kernel_rfl) rfl #[.agg #[.int .i64 a1_0, .int .i64 a1_1]] (by rfl) rfl rfl az ?_
 with_reducible refine (manorboyref02_Neg.calls a1_0 a1_1 t257 t258 _ A3.out).mono ?_
 rintro e w9 ⟨rfl, hb⟩
 refine ⟨_, rfl, ?_⟩
 replace BK254 := kb BK254 hb
 replace BK255 := kb BK255 hb
 replace BK256 := kb BK256 hb
 replace HB := bs hb
 (try clear hb)
 refine hK.out _ _ ⟨(blk_cell BK254.out 0).trans rfl, (blk_cell BK254.out 1).trans rfl, (blk_cell BK255.out 0).trans rfl, (blk_cell BK255.out 1).trans rfl⟩ (fun hHeld => ?_)
 clear hK K
 refine norm_ (a' := ?_) ?_ ?_
 rotate_left
 ·show Act.put _ (some 7) _ = _
  simp only [Act.put, List.setIfInBounds_toArray, List.set_cons_zero, List.set_cons_succ, i64_w, i32_w]
  rfl
 refine one_ (i := 3) (N := some 8) #[true, true, true, true, false] rfl rfl (by kernel_rfl) (by decide) (fun K hK => ?_)
 refine goes_ Tryz.func36 (by kernel_rfl) rfl #[.agg #[.int .i64 a0_0, .int .i64 a0_1], .agg #[.int .i64 t257, .int .i64 t258]] (by rfl) rfl rfl az ?_
 with_reducible refine (manorboyref02_Add.calls k a0_0 a0_1 t257 t258 t259 t260 t261 _ A4.out).mono ?_
 rintro e w10 ⟨rfl, hb⟩
 refine ⟨_, rfl, ?_⟩
 replace BK254 := kb BK254 hb
 replace BK255 := kb BK255 hb
 replace BK256 := kb BK256 hb
 replace HB := bs hb
 (try clear hb)
 refine hK.out _ _ ⟨(blk_cell BK254.out 0).trans rfl, (blk_cell BK254.out 1).trans rfl, (blk_cell BK255.out 0).trans rfl, (blk_cell BK255.out 1).trans rfl⟩ (fun hHeld => ?_)
 clear hK K
 refine norm_ (a' := ?_) ?_ ?_
 rotate_left
 ·show Act.put _ (some 8) _ = _
  simp only [Act.put, List.setIfInBounds_toArray, List.set_cons_zero, List.set_cons_succ, i64_w, i32_w]
  rfl
 refine one_ (i := 4) (N := none) #[true, true, true, true, true] rfl rfl (by kernel_rfl) (by decide) (fun K hK => ?_)
 have hs11 : w10.cell? ⟨gb256, 0, none⟩ = some (.int .i64 0) := (blk_cell BK256.out 0).trans rfl
 have hfs11 := blk_frozen BK256.out 0
 have hns11_0 := NB254_256.out
 have hns11_1 := NB255_256.out
 have hms11_0 := NB256_254.out
 have hms11_1 := NB256_255.out
 have hs12 : w10.cell? ⟨gb256, 1, none⟩ = some (.int .i64 0) := (blk_cell BK256.out 1).trans rfl
 have hfs12 := blk_frozen BK256.out 1
 have hns12_0 := NB254_256.out
 have hns12_1 := NB255_256.out
 have hms12_0 := NB256_254.out
 have hms12_1 := NB256_255.out
 have hs13 : w10.cell? ⟨gb256, 2, none⟩ = some (.bool false) := (blk_cell BK256.out 2).trans rfl
 have hfs13 := blk_frozen BK256.out 2
 have hns13_0 := NB254_256.out
 have hns13_1 := NB255_256.out
 have hms13_0 := NB256_254.out
 have hms13_1 := NB256_255.out
 refine skip_ (w1 := ?_) (by rfl) rfl ?_ ?_
 rotate_left
 ·go_simp
  rfl
 refine hK.out _ _ ⟨((cell_far (p := ⟨gb256, _, none⟩) NB254_256.out _).trans (((cell_far (p := ⟨gb256, _, none⟩) NB254_256.out _).trans (((cell_far (p := ⟨gb256, _, none⟩) NB254_256.out _).trans (hHeld.1)))))), ((cell_far (p := ⟨gb256, _, none⟩) NB254_256.out _).trans (((cell_far (p := ⟨gb256, _, none⟩) NB254_256.out _).trans (((cell_far (p := ⟨gb256, _, none⟩) NB254_256.out _).trans (hHeld.2.1)))))), ((cell_far (p := ⟨gb256, _, none⟩) NB255_256.out _).trans (((cell_far (p := ⟨gb256, _, none⟩) NB255_256.out _).trans (((cell_far (p := ⟨gb256, _, none⟩) NB255_256.out _).trans (hHeld.2.2.1)))))), ((cell_far (p := ⟨gb256, _, none⟩) NB255_256.out _).trans (((cell_far (p := ⟨gb256, _, none⟩) NB255_256.out _).trans (((cell_far (p := ⟨gb256, _, none⟩) NB255_256.out _).trans (hHeld.2.2.2))))))⟩ (fun hHeld => ?_)
 clear hK K
 refine done_ (by kernel_rfl) ?_
 try go_wp2
 refine bodyPost_ret (results_cell_row rfl _ _ gb256 50 #[.int .i64 t259, .int .i64 t260, .bool t261] (0, 0) _ rfl (by (with_reducible repeat (first | refine blk_drewN ?_ _ | refine blk_drew ?_ | refine blk_alloc ?_ _)); refine blk_put (cs := #[.int .i64 t259, .int .i64 t260, .bool false]) ?_ 2 _ rfl; (with_reducible repeat (first | refine blk_drewN ?_ _ | refine blk_drew ?_ | refine blk_alloc ?_ _)); refine blk_put (cs := #[.int .i64 t259, .int .i64 0, .bool false]) ?_ 1 _ rfl; (with_reducible repeat (first | refine blk_drewN ?_ _ | refine blk_drew ?_ | refine blk_alloc ?_ _)); refine blk_put (cs := #[.int .i64 0, .int .i64 0, .bool false]) ?_ 0 _ rfl; (with_reducible repeat (first | refine blk_drewN ?_ _ | refine blk_drew ?_ | refine blk_alloc ?_ _)); exact BK256.out) Tryz.underlying50 rfl (by kernel_rfl)) rfl ?_
 exact ⟨by first | rfl | (simp [errW_none, errW_some] <;> rfl) | (simp [*, errW_none, errW_some] <;> rfl), bz⟩

end Go.Proofs.YteigbokklclmbaaGreatDoor.Z.Y.V
end
