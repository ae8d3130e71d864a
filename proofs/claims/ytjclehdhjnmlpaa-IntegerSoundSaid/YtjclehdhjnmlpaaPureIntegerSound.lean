/- The law IntegerSound as a statement about whole numbers. -/
import Derived.Test.YtjclehdhjnmlpaaPureQuoEq
import Derived.Test.YtjclehdhjnmlpaaPureCmpT
import Derived.Test.YtjclehdhjnmlpaaTx12
namespace Go.Proofs.Ytjclehdhjnmlpaa.T
open Go Go.RowKit Go.Proofs.Ytjclehdhjnmlpaa.Given Go.Proofs.YtjclehdhjnmlpaaW.PrintWords Go.Proofs.YtjclehdhjnmlpaaW.PrintLast Go.Proofs.YtjclehdhjnmlpaaW.PrintMore
set_option linter.unusedVariables false
set_option linter.unusedSimpArgs false

theorem held_e (n e lo hi : Int) (may : Bool) (f : Int) : manorboylaw01_held.f n e lo hi may f = some (if e = 0 then (if f = 0 then (decide (lo ≤ n) && decide (n ≤ hi)) else false) else (if f = 0 ∧ may = true then true else f == e)) := by
  unfold manorboylaw01_held.f
  simp only [in_e, Option.bind_some]
  by_cases h1 : e = 0 <;> by_cases h2 : f = 0 <;> cases may <;> simp [h1, h2]
theorem vld_of {n : Int} (h1 : -2147483647 ≤ n) (h2 : n ≤ 2147483647) : vld n = true := by unfold vld; simp; omega
theorem held_cut (n lo hi : Int) (h1 : lo ≤ n) (h2 : n ≤ hi) : manorboylaw01_held.f (rng n).1 (rng n).2 (cutS lo hi).1 (cutS lo hi).2.1 (cutS lo hi).2.2.1 (cutS lo hi).2.2.2 = some true := by
  rw [held_e]
  unfold rng
  cases hv : vld n with
  | true =>
    have := vld_yes hv
    have hc : cutS lo hi = (if lo < -2147483647 then -2147483647 else lo, if 2147483647 < hi then 2147483647 else hi, !(vld lo && vld hi), 0) := by unfold cutS; rw [if_neg (by omega)]
    rw [hc]
    simp
    constructor <;> split <;> omega
  | false =>
    have hn := vld_no hv
    by_cases ho : lo > 2147483647 ∨ hi < -2147483647
    · have hc : cutS lo hi = (0, 0, false, 3) := by unfold cutS; rw [if_pos ho]
      rw [hc]; rfl
    · have hc : cutS lo hi = (if lo < -2147483647 then -2147483647 else lo, if 2147483647 < hi then 2147483647 else hi, !(vld lo && vld hi), 0) := by unfold cutS; rw [if_neg (by omega)]
      have hm : (vld lo && vld hi) = false := by
        cases h3 : vld lo <;> cases h4 : vld hi <;> try rfl
        have := vld_yes h3; have := vld_yes h4; omega
      rw [hc, hm]; rfl
theorem mul_mid {a b x y : Int} (h1 : a ≤ x) (h2 : x ≤ b) : (a * y ≤ x * y ∨ b * y ≤ x * y) ∧ (x * y ≤ a * y ∨ x * y ≤ b * y) := by
  rcases Int.le_total 0 y with h | h
  · exact ⟨Or.inl (Int.mul_le_mul_of_nonneg_right h1 h), Or.inr (Int.mul_le_mul_of_nonneg_right h2 h)⟩
  · exact ⟨Or.inr (Int.mul_le_mul_of_nonpos_right h2 h), Or.inl (Int.mul_le_mul_of_nonpos_right h1 h)⟩
theorem mn_le (a b : Int) : mn a b ≤ a ∧ mn a b ≤ b := by unfold mn; split <;> omega
theorem le_mx (a b : Int) : a ≤ mx a b ∧ b ≤ mx a b := by unfold mx; split <;> omega
theorem lmin_le (w x y z : Int) : lmin [w, x, y, z] ≤ w ∧ lmin [w, x, y, z] ≤ x ∧ lmin [w, x, y, z] ≤ y ∧ lmin [w, x, y, z] ≤ z := by
  rw [lmin4]
  have h1 := mn_le w x; have h2 := mn_le (mn w x) y; have h3 := mn_le (mn (mn w x) y) z
  omega
theorem le_lmax (w x y z : Int) : w ≤ lmax [w, x, y, z] ∧ x ≤ lmax [w, x, y, z] ∧ y ≤ lmax [w, x, y, z] ∧ z ≤ lmax [w, x, y, z] := by
  rw [lmax4]
  have h1 := le_mx w x; have h2 := le_mx (mx w x) y; have h3 := le_mx (mx (mx w x) y) z
  omega
theorem mul_box {a b c d x y : Int} (h1 : a ≤ x) (h2 : x ≤ b) (h3 : c ≤ y) (h4 : y ≤ d) : lmin [a * c, a * d, b * c, b * d] ≤ x * y ∧ x * y ≤ lmax [a * c, a * d, b * c, b * d] := by
  have m := mul_mid (y := y) h1 h2
  have ma := mul_mid (y := a) h3 h4
  have mb := mul_mid (y := b) h3 h4
  rw [Int.mul_comm c a, Int.mul_comm d a, Int.mul_comm y a] at ma
  rw [Int.mul_comm c b, Int.mul_comm d b, Int.mul_comm y b] at mb
  have l := lmin_le (a * c) (a * d) (b * c) (b * d)
  have u := le_lmax (a * c) (a * d) (b * c) (b * d)
  omega
theorem tdiv_pos {e f y x : Int} (h0 : 0 < e) (h1 : e ≤ y) (h2 : y ≤ f) : (x.tdiv e ≤ x.tdiv y ∨ x.tdiv f ≤ x.tdiv y) ∧ (x.tdiv y ≤ x.tdiv e ∨ x.tdiv y ≤ x.tdiv f) := by
  have N : ∀ n : Nat, (n : Int).tdiv f ≤ (n : Int).tdiv y ∧ (n : Int).tdiv y ≤ (n : Int).tdiv e := by
    intro n
    obtain ⟨e', rfl⟩ := Int.eq_ofNat_of_zero_le (show 0 ≤ e by omega)
    obtain ⟨y', rfl⟩ := Int.eq_ofNat_of_zero_le (show 0 ≤ y by omega)
    obtain ⟨f', rfl⟩ := Int.eq_ofNat_of_zero_le (show 0 ≤ f by omega)
    rw [← Int.ofNat_tdiv, ← Int.ofNat_tdiv, ← Int.ofNat_tdiv]
    have a1 := Nat.div_le_div_left (a := n) (show y' ≤ f' by omega) (show 0 < y' by omega)
    have a2 := Nat.div_le_div_left (a := n) (show e' ≤ y' by omega) (show 0 < e' by omega)
    omega
  rcases Int.le_total 0 x with h | h
  · obtain ⟨n, rfl⟩ := Int.eq_ofNat_of_zero_le h
    have := N n
    exact ⟨Or.inr this.1, Or.inl this.2⟩
  · obtain ⟨n, hn⟩ := Int.eq_ofNat_of_zero_le (show 0 ≤ -x by omega)
    obtain rfl : x = -(n : Int) := by omega
    have := N n
    rw [Int.neg_tdiv, Int.neg_tdiv, Int.neg_tdiv]
    exact ⟨Or.inl (by omega), Or.inr (by omega)⟩
theorem tdiv_mid {a b x e : Int} (h : e ≠ 0) (h1 : a ≤ x) (h2 : x ≤ b) : (a.tdiv e ≤ x.tdiv e ∨ b.tdiv e ≤ x.tdiv e) ∧ (x.tdiv e ≤ a.tdiv e ∨ x.tdiv e ≤ b.tdiv e) := by
  rcases (by omega : 0 < e ∨ 0 < -e) with h | h
  · exact ⟨Or.inl (Int.tdiv_le_tdiv h h1), Or.inr (Int.tdiv_le_tdiv h h2)⟩
  · have p := Int.tdiv_le_tdiv h h1
    have q := Int.tdiv_le_tdiv h h2
    rw [Int.tdiv_neg, Int.tdiv_neg] at p q
    exact ⟨Or.inr (by omega), Or.inl (by omega)⟩
theorem tdiv_neg2 {e f y x : Int} (h0 : f < 0) (h1 : e ≤ y) (h2 : y ≤ f) : (x.tdiv e ≤ x.tdiv y ∨ x.tdiv f ≤ x.tdiv y) ∧ (x.tdiv y ≤ x.tdiv e ∨ x.tdiv y ≤ x.tdiv f) := by
  have := tdiv_pos (e := -f) (y := -y) (f := -e) (x := x) (by omega) (by omega) (by omega)
  rw [Int.tdiv_neg, Int.tdiv_neg, Int.tdiv_neg] at this
  omega
/-- What the loop over the divisors holds: all results so far. -/
theorem rstep_le (a b c d y : Int) (s : Int × Int) : ((rstep a b c d y s).1 ≤ s.1 ∧ s.2 ≤ (rstep a b c d y s).2) ∧ (y ≠ 0 → c ≤ y → y ≤ d → ((rstep a b c d y s).1 ≤ a.tdiv y ∧ (rstep a b c d y s).1 ≤ b.tdiv y) ∧ (a.tdiv y ≤ (rstep a b c d y s).2 ∧ b.tdiv y ≤ (rstep a b c d y s).2)) := by
  by_cases h : y ≠ 0 ∧ c ≤ y ∧ y ≤ d
  · rw [rstep_in h.1 h.2.1 h.2.2]
    have h1 := mn_le s.1 (a.tdiv y); have h2 := mn_le (mn s.1 (a.tdiv y)) (b.tdiv y)
    have h3 := le_mx s.2 (a.tdiv y); have h4 := le_mx (mx s.2 (a.tdiv y)) (b.tdiv y)
    exact ⟨⟨by show mn _ _ ≤ _; omega, by show _ ≤ mx _ _; omega⟩, fun _ _ _ => ⟨⟨by show mn _ _ ≤ _; omega, by show mn _ _ ≤ _; omega⟩, by show _ ≤ mx _ _; omega, by show _ ≤ mx _ _; omega⟩⟩
  · rw [rstep_out (by omega)]
    exact ⟨⟨Int.le_refl _, Int.le_refl _⟩, fun h1 h2 h3 => absurd ⟨h1, h2, h3⟩ h⟩
theorem quo_box {a b c d x y : Int} (h1 : a ≤ x) (h2 : x ≤ b) (h3 : c ≤ y) (h4 : y ≤ d) (hy : y ≠ 0) (s : Int × Int) :
    (rstep a b c d (-1) (rstep a b c d 1 (rstep a b c d d (rstep a b c d c s)))).1 ≤ x.tdiv y ∧ x.tdiv y ≤ (rstep a b c d (-1) (rstep a b c d 1 (rstep a b c d d (rstep a b c d c s)))).2 := by
  have ⟨s1, t1⟩ := rstep_le a b c d c s
  have ⟨s2, t2⟩ := rstep_le a b c d d (rstep a b c d c s)
  have ⟨s3, t3⟩ := rstep_le a b c d 1 (rstep a b c d d (rstep a b c d c s))
  have ⟨s4, t4⟩ := rstep_le a b c d (-1) (rstep a b c d 1 (rstep a b c d d (rstep a b c d c s)))
  generalize rstep a b c d (-1) (rstep a b c d 1 (rstep a b c d d (rstep a b c d c s))) = r4 at *
  generalize rstep a b c d 1 (rstep a b c d d (rstep a b c d c s)) = r3 at *
  generalize rstep a b c d d (rstep a b c d c s) = r2 at *
  generalize rstep a b c d c s = r1 at *
  rcases (by omega : 0 < y ∨ y < 0) with h | h
  · have md := tdiv_mid (e := d) (by omega) h1 h2
    have td := t2 (by omega) (by omega) (by omega)
    by_cases hc : 0 < c
    · have mc := tdiv_mid (e := c) (by omega) h1 h2
      have tc := t1 (by omega) (by omega) (by omega)
      have p := tdiv_pos (x := x) hc h3 h4
      omega
    · have mc := tdiv_mid (e := 1) (by omega) h1 h2
      have tc := t3 (by omega) (by omega) (by omega)
      have p := tdiv_pos (x := x) (show (0 : Int) < 1 by omega) (show 1 ≤ y by omega) h4
      omega
  · have mc := tdiv_mid (e := c) (by omega) h1 h2
    have tc := t1 (by omega) (by omega) (by omega)
    by_cases hd : d < 0
    · have md := tdiv_mid (e := d) (by omega) h1 h2
      have td := t2 (by omega) (by omega) (by omega)
      have p := tdiv_neg2 (x := x) hd h3 h4
      omega
    · have md := tdiv_mid (e := -1) (by omega) h1 h2
      have td := t4 (by omega) (by omega) (by omega)
      have p := tdiv_neg2 (x := x) (show (-1 : Int) < 0 by omega) h3 (show y ≤ -1 by omega)
      omega
theorem sound_pure (a b c d x y : Int) : manorboylaw01_IntegerSound.f 8 a b c d x y = some true := by
  unfold manorboylaw01_IntegerSound.f
  simp only [wide_e, valid_e, in_e, Option.bind_some]
  cases ha : vspan a b with
  | false => simp [manorboylaw01_IntegerSound.j0]
  | true =>
  cases hc : vspan c d with
  | false => simp [manorboylaw01_IntegerSound.j0]
  | true =>
  by_cases hx : (decide (a ≤ x) && decide (x ≤ b)) = true
  · by_cases hy : (decide (c ≤ y) && decide (y ≤ d)) = true
    · have ⟨⟨⟨p1, p2⟩, p3, p4⟩, p5⟩ := (vspan_iff _ _).mp ha
      have ⟨⟨⟨q1, q2⟩, q3, q4⟩, q5⟩ := (vspan_iff _ _).mp hc
      simp only [hx, hy, if_true, Bool.not_true]
      simp at hx hy
      obtain ⟨x1, x2⟩ := hx
      obtain ⟨y1, y2⟩ := hy
      have vx := vld_of (n := x) (by omega) (by omega)
      have vy := vld_of (n := y) (by omega) (by omega)
      have T : ∀ r, twoS x y r = rng r := fun r => by unfold twoS; rw [vx, vy]; rfl
      have S : ∀ op : Int → Int → Int, spansS op a b c d = cutS (lmin [op a c, op a d, op b c, op b d]) (lmax [op a c, op a d, op b c, op b d]) := fun op => by unfold spansS; rw [ha, hc]; rfl
      have R : ∀ r : Int, -2147483647 ≤ r → r ≤ 2147483647 → rng r = (r, 0) := fun r h1 h2 => by unfold rng; rw [vld_of h1 h2]; rfl
      unfold manorboylaw01_IntegerSound.j0
      simp only [neg_e, integer_Neg.f, ha, in_e, Option.bind_some]
      have eN : oneS x (-x) = (-x, 0) := by unfold oneS; rw [vx, if_pos rfl]; exact R _ (by omega) (by omega)
      rw [eN]
      have eI : (decide (-b ≤ -x) && decide (-x ≤ -a)) = true := by simp; omega
      simp only [if_true, eI]
      rw [if_neg (by decide)]
      unfold manorboylaw01_IntegerSound.j1
      simp only [integer_Add.f, integer_Sub.f, integer_Mul.f, integer_Quo.f, integer_Cmp.f, integer_SpanAdd.f, integer_SpanSub.f, integer_SpanMul.f, integer_SpanQuo.f, Option.bind_some, cmp_e, ha, hc, in_e, T, S]
      rw [if_neg (by decide)]
      have lA := lmin_le (a + c) (a + d) (b + c) (b + d)
      have uA := le_lmax (a + c) (a + d) (b + c) (b + d)
      have lS := lmin_le (a - c) (a - d) (b - c) (b - d)
      have uS := le_lmax (a - c) (a - d) (b - c) (b - d)
      have bM := mul_box x1 x2 y1 y2
      rw [held_cut (x + y) _ _ (by omega) (by omega), Option.bind_some, if_pos rfl]
      rw [held_cut (x - y) _ _ (by omega) (by omega), Option.bind_some, if_pos rfl]
      rw [held_cut (x * y) _ _ bM.1 bM.2, Option.bind_some, if_pos rfl]
      have hQ : manorboylaw01_held.f (divS x y (x.tdiv y)).1 (divS x y (x.tdiv y)).2 (quoS a b c d).1 (quoS a b c d).2.1 (quoS a b c d).2.2.1 (quoS a b c d).2.2.2 = some true := by
        rw [quo_eq a b c d ha hc, held_e]
        by_cases h0 : y = 0
        · have e : divS x y (x.tdiv y) = (0, 5) := by unfold divS; rw [vx, vy, Bool.and_self, if_pos rfl, if_pos h0]
          rw [e]
          by_cases hz : c = 0 ∧ d = 0
          · rw [if_pos hz]; rfl
          · rw [if_neg hz]
            have : (decide (c ≤ 0) && decide (0 ≤ d)) = true := by simp; omega
            simp [this]
        · have q := tdiv_in (b := y) (show -2147483647 ≤ x by omega) (show x ≤ 2147483647 by omega)
          have e : divS x y (x.tdiv y) = (x.tdiv y, 0) := by unfold divS; rw [vx, vy, Bool.and_self, if_pos rfl, if_neg h0]; exact R _ q.1 q.2
          rw [e, if_neg (show ¬ (c = 0 ∧ d = 0) by omega)]
          have B := quo_box x1 x2 y1 y2 h0 (2147483647, -2147483647)
          simp [B.1, B.2]
      rw [hQ, Option.bind_some, if_pos rfl]
      have eC : rng (sgn (x - y)) = (sgn (x - y), 0) := R _ (by unfold sgn; split <;> (try split) <;> omega) (by unfold sgn; split <;> (try split) <;> omega)
      rw [eC]
      simp
      unfold sgn
      constructor <;> (repeat' split) <;> omega
    · simp only [hx, if_true]
      simp only [Bool.not_eq_true] at hy
      rw [hy]; simp [manorboylaw01_IntegerSound.j0]
  · simp only [Bool.not_eq_true] at hx
    rw [hx]; simp [manorboylaw01_IntegerSound.j0]
end Go.Proofs.Ytjclehdhjnmlpaa.T
