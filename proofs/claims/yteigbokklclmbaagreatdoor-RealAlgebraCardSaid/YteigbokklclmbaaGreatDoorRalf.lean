/- Contracts and lemmas that the law's row leans on, joined by program (pack.py) out of the session's texts; no condition of its own. -/
import Derived.Test.YteigbokklclmbaaGreatDoorRows
import Derived.Laws.BitsLemmas
import Derived.Test.YteigbokklclmbaaGreatDoorRala
import Derived.Test.YteigbokklclmbaaGreatDoorRalb
import Derived.Test.YteigbokklclmbaaGreatDoorRalc
import Derived.Test.YteigbokklclmbaaGreatDoorRald
import Derived.Test.YteigbokklclmbaaGreatDoorRale
set_option linter.unusedVariables false
set_option linter.unusedSimpArgs false
set_option maxRecDepth 100000
set_option maxHeartbeats 8000000
section
namespace Go.Proofs.YteigbokklclmbaaGreatDoor.M
open Go Go.RowKit Go.Proofs.YteigbokklclmbaaGreatDoor.Given Go.Proofs.YteigbokklclmbaaGreatDoorW.PrintWords Go.Proofs.YteigbokklclmbaaGreatDoorW.PrintLast Go.Proofs.YteigbokklclmbaaGreatDoorW.PrintMore Go.Proofs.YteigbokklclmbaaGreatDoor.Z Go.Proofs.YteigbokklclmbaaGreatDoor.Z.Y Go.Proofs.YteigbokklclmbaaGreatDoor.Z.Y.V Go.Proofs.YteigbokklclmbaaGreatDoor.Z.Y.Q
theorem one_from : real_FromIntN.f 60 1 = some (8388608, -23) := by kernel_rfl
theorem from_one_ev : Ev (fun k => real_FromIntN.f k 1) (8388608, -23) := Ev.of (fun k => real_FromIntN.mono 1 k) one_from
theorem rl_one : rl 1073741824 = (8388608, -23) := by kernel_rfl
theorem rl_half : rl 1065353216 = (8388608, -24) := by kernel_rfl
theorem VR_one : VR 8388608 (-23) := by have h := rl_VR (n := 1073741824) ⟨by decide, by decide⟩; rw [rl_one] at h; exact h
theorem VR_half : VR 8388608 (-24) := by have h := rl_VR (n := 1065353216) ⟨by decide, by decide⟩; rw [rl_half] at h; exact h
theorem vv_one : vv 8388608 (-23) = 2 ^ 150 := by decide +kernel
theorem vv_half : vv 8388608 (-24) = 2 ^ 149 := by decide +kernel
theorem w_23 : I64 8388608 := ⟨by decide, by decide⟩
theorem w_0 : I64 0 := ⟨by decide, by decide⟩
theorem G_one : G (ix 8388608 (-23)) = 2 ^ 150 := by rw [ix_G w_23 VR_one]; decide +kernel
theorem res3_VR (n : Bool) (I : Nat) : VR (res3 n I).1 (res3 n I).2.1 ∧ I64 (res3 n I).1 := by
  by_cases h : 2533359615 < I
  · unfold res3; rw [if_pos h]; exact ⟨zero_VR, w_0⟩
  · rw [res3_in (Nat.not_lt.1 h)]; exact res_VR (Nat.not_lt.1 h)
theorem res3_ok {n : Bool} {I : Nat} (h : (res3 n I).2.2 = 0) : I ≤ 2533359615 := by
  by_cases hI : 2533359615 < I
  · unfold res3 at h; rw [if_pos hI] at h; exact absurd h (by decide)
  · omega
theorem cmpI_not {x y : Int} (h : ¬ 0 < cmpI x y) : x ≤ y := by
  unfold cmpI at h
  by_cases h1 : x < y
  · omega
  · rw [if_neg h1] at h
    by_cases h2 : x > y
    · rw [if_pos h2] at h; exact absurd (by decide) h
    · omega
theorem G_unlt {i j : Nat} (h : G i ≤ G j) : i ≤ j := by
  rcases Nat.lt_or_ge j i with h' | h'
  · have := G_lt h'; omega
  · exact h'
theorem G_pos {i : Nat} (h : 0 < i) : 0 < G i := by have := G_lt h; rw [G_zero] at this; exact this
theorem vI_neg (b : Nat) : vI (-(b : Int)) = -((G b : Nat) : Int) := by
  unfold vI
  rcases Nat.eq_zero_or_pos b with rfl | h
  · rw [if_neg (by decide)]; rw [show ((-((0 : Nat) : Int)).natAbs) = 0 by decide, G_zero]; decide
  · rw [if_pos (by omega), show (-(b : Int)).natAbs = b by omega]
theorem vI_nat (b : Nat) : vI (b : Int) = ((G b : Nat) : Int) := by unfold vI; rw [if_neg (by omega), show ((b : Int)).natAbs = b by omega]
theorem dbl (b : Nat) : ∃ K, G K = 2 * G b := by
  obtain ⟨K, hK⟩ := repr_ (sh b + 1) (man b) (man_le b)
  exact ⟨K, by rw [hK, Nat.pow_succ]; show _ = 2 * (man b * 2 ^ sh b); rw [← Nat.mul_assoc, Nat.mul_comm]⟩
theorem sub_abs {a b k : Nat} (h : b ≤ a) (hk : k = a - b) : k = ((a : Int) - (b : Int)).natAbs := by omega
theorem sub_abs' {a b k : Nat} (h : a ≤ b) (hk : k = b - a) : k = ((a : Int) - (b : Int)).natAbs := by omega
/-- If a half of y is not above x, and x not above its double, their difference is a real. -/
theorem sterb_i {I J : Int} {nh nt : Bool} {Nh Ih Nt It : Nat} (Rh : Rd Nh (2 ^ 150) Ih) (Vh : sval nh Nh = vI J * 2 ^ 149) (Rt : Rd Nt 1 It) (Vt : sval nt Nt = vI J + vI J)
    (h1 : sval nh Ih ≤ I) (h2 : I ≤ sval nt It) : ∃ K, G K = (vI I - vI J).natAbs ∧ K ≤ max I.natAbs J.natAbs := by
  have halve : ∀ b : Nat, Nh = G b * 2 ^ 149 → Rd (G b) 2 Ih := by
    intro b hb
    rw [hb] at Rh
    exact Rd.congr (Nat.two_pow_pos _) (by decide) Rh (by rw [Nat.mul_assoc, ← Nat.pow_succ])
  rcases Int.lt_or_le J 0 with hJ | hJ
  · exfalso
    obtain ⟨b, rfl⟩ : ∃ b : Nat, J = -(b : Int) := ⟨J.natAbs, by omega⟩
    have hb : 0 < b := by omega
    have hG := G_pos hb
    rw [vI_neg] at Vh Vt
    have e1 : sval nh Nh = sval true (G b * 2 ^ 149) := by rw [Vh, sval_scale]; simp [sval]
    have e2 : sval nt Nt = sval true (2 * G b) := by rw [Vt]; simp [sval]; omega
    obtain ⟨rfl, s1⟩ := sval_inj e1
    obtain ⟨rfl, s2⟩ := sval_inj e2
    have hn1 : nh = true := by rcases s1 with h | h; exact absurd h (Nat.ne_of_gt (Nat.mul_pos hG (Nat.two_pow_pos _))); exact h
    have hn2 : nt = true := by rcases s2 with h | h; omega; exact h
    subst hn1 hn2
    have hR := halve b rfl
    obtain ⟨K, hK⟩ := dbl b
    have hKI : K = It := Rd.only (by decide) (by decide) (Rd.exact K 1 (by decide)) Rt (by rw [hK]; simp)
    subst hKI
    have h3 : Ih ≤ b := hR.mono (by decide) (by decide) (Rd.exact b 1 (by decide)) (by omega)
    simp only [sval, if_true] at h1 h2
    have h4 : K ≤ b := by omega
    have := G_le h4
    omega
  · obtain ⟨b, rfl⟩ : ∃ b : Nat, J = (b : Int) := ⟨J.natAbs, by omega⟩
    rw [vI_nat] at Vh Vt
    have e1 : sval nh Nh = sval false (G b * 2 ^ 149) := by rw [Vh, sval_scale]; simp [sval]
    have e2 : sval nt Nt = sval false (2 * G b) := by rw [Vt]; simp [sval]; omega
    obtain ⟨rfl, s1⟩ := sval_inj e1
    obtain ⟨rfl, s2⟩ := sval_inj e2
    have hR := halve b rfl
    have hi0 : sval nh Ih = (Ih : Int) := by
      rcases s1 with h | h
      · rw [h] at Rh; rw [Rh.nil (Nat.two_pow_pos _)]; cases nh <;> rfl
      · rw [h]; rfl
    have ht0 : sval nt It = (It : Int) := by
      rcases s2 with h | h
      · rw [h] at Rt; rw [Rt.nil (by decide)]; cases nt <;> rfl
      · rw [h]; rfl
    rw [hi0] at h1
    rw [ht0] at h2
    obtain ⟨a, rfl⟩ : ∃ a : Nat, I = (a : Int) := ⟨I.natAbs, by omega⟩
    obtain ⟨K2, hK2⟩ := dbl b
    have hKI : K2 = It := Rd.only (by decide) (by decide) (Rd.exact K2 1 (by decide)) Rt (by rw [hK2]; simp)
    subst hKI
    have h3 : G a ≤ 2 * G b := by rw [← hK2]; exact G_le (by omega)
    obtain ⟨S1, S2⟩ := sterb hR (by omega) h3
    rw [vI_nat, vI_nat]
    have ea : ((a : Int)).natAbs = a := by omega
    have eb : ((b : Int)).natAbs = b := by omega
    rw [ea, eb]
    rcases Nat.le_total (G b) (G a) with h | h
    · obtain ⟨K, hK⟩ := S1 h
      exact ⟨K, sub_abs h hK, Nat.le_trans (G_unlt (by rw [hK]; exact Nat.sub_le _ _)) (Nat.le_max_left _ _)⟩
    · obtain ⟨K, hK⟩ := S2 h
      exact ⟨K, sub_abs' h hK, Nat.le_trans (G_unlt (by rw [hK]; exact Nat.sub_le _ _)) (Nat.le_max_right _ _)⟩
def AlgH (k : Nat) (i j : Int) : Prop := ∃ x0 x1 y0 y1 nx0 nx1 ny0 ny1 a0 a1 a2 c0 c1 m0 m1 m2 q0 q1 d0 d1 d2 h0 h1 h2 t0 t1 t2 lo hi e0 e1 : Int, ∃ bq : Bool, (manorboylaw02_at.f i = some (x0, x1)) ∧ (manorboylaw02_at.f j = some (y0, y1)) ∧ (real_FromIntN.f k 1 = some (8388608, -23)) ∧ (real_Neg.f x0 x1 = some (nx0, nx1, 0)) ∧ (real_Neg.f y0 y1 = some (ny0, ny1, 0)) ∧ (real_Add.f k x0 x1 y0 y1 = some (a0, a1, a2)) ∧ (real_Add.f k y0 y1 x0 x1 = some (a0, a1, a2)) ∧ (real_Add.f k nx0 nx1 ny0 ny1 = some (c0, c1, a2)) ∧ (real_Neg.f c0 c1 = some (a0, a1, 0)) ∧ (real_Mul.f k x0 x1 y0 y1 = some (m0, m1, m2)) ∧ (real_Mul.f k y0 y1 x0 x1 = some (m0, m1, m2)) ∧ (real_Mul.f k nx0 nx1 y0 y1 = some (q0, q1, m2)) ∧ (real_Neg.f q0 q1 = some (m0, m1, 0)) ∧ (real_Add.f k x0 x1 0 0 = some (x0, x1, 0)) ∧ (real_Mul.f k x0 x1 8388608 (-23) = some (x0, x1, 0)) ∧ (real_Div.f k x0 x1 8388608 (-23) = some (x0, x1, 0)) ∧ (real_Sub.f k x0 x1 y0 y1 = some (d0, d1, d2)) ∧ (d2 = 0 → ((d0 == 0 && (d1 == 0)) != (x0 == y0 && (x1 == y1))) = false) ∧ (real_Mul.f k y0 y1 8388608 (-24) = some (h0, h1, h2)) ∧ (real_Add.f k y0 y1 y0 y1 = some (t0, t1, t2)) ∧ (real_Cmp.f h0 h1 x0 x1 = some (lo, 0)) ∧ (real_Cmp.f x0 x1 t0 t1 = some (hi, 0)) ∧ (bq = decide (h2 = 0 ∧ t2 = 0 ∧ ¬ 0 < lo ∧ ¬ 0 < hi)) ∧ (bq = true → real_Sub.f k x0 x1 y0 y1 = some (e0, e1, 0)) ∧ (bq = true → real_Add.f k e0 e1 y0 y1 = some (x0, x1, 0)) ∧ (manorboylaw02_sanity.f k = some true)
theorem alg_pure (i j : Int) (_ : I64 i) (_ : I64 j) : ∃ k, AlgH k i j := by
  have hi := tmod_IR i
  have hj := tmod_IR j
  have ei : manorboylaw02_at.f i = some ((rl (Int.tmod i 2533359616)).1, (rl (Int.tmod i 2533359616)).2) := law_at_ev i
  have ej : manorboylaw02_at.f j = some ((rl (Int.tmod j 2533359616)).1, (rl (Int.tmod j 2533359616)).2) := law_at_ev j
  generalize Int.tmod i 2533359616 = I at *
  generalize Int.tmod j 2533359616 = J at *
  have wx := rl_64 hi
  have wy := rl_64 hj
  have vx := rl_VR hi
  have vy := rl_VR hj
  have hvx := vv_rl hi
  have hvy := vv_rl hj
  have hsx := sx_rl hi
  have hsy := sx_rl hj
  have eix : ix (rl I).1 (rl I).2 = I.natAbs := ix_rl hi
  generalize (rl I).1 = x0 at *
  generalize (rl I).2 = x1 at *
  generalize (rl J).1 = y0 at *
  generalize (rl J).2 = y1 at *
  obtain ⟨vnx, wnx, _, _⟩ := neg_VR wx vx
  obtain ⟨vny, wny, _, _⟩ := neg_VR wy vy
  obtain ⟨kf, Ef⟩ := from_one_ev
  obtain ⟨na, Na, Ia, Ra, Va, ka, Ea⟩ := addS_ev wx wy vx vy
  obtain ⟨nb, Nb, Ib, Rb, Vb, kb, Eb⟩ := addS_ev wy wx vy vx
  obtain ⟨nc, Nc, Ic, Rc, Vc, kc, Ec⟩ := addS_ev wnx wny vnx vny
  have hab : res3 nb Ib = res3 na Ia := res_same (by decide) Rb Ra (by rw [Va, Vb]; omega)
  obtain ⟨oc, Oc⟩ := res_opp (by decide) Ra Rc (by rw [Va, Vc, vv_opp, vv_opp]; omega)
  obtain ⟨nm, Nm, Im, Rm, Vm, km, Em⟩ := mulS_ev wx wy vx vy
  obtain ⟨nn, Nn, In, Rn, Vn, kn, En⟩ := mulS_ev wy wx vy vx
  obtain ⟨nq, Nq, Iq, Rq, Vq, kq, Eq⟩ := mulS_ev wnx wy vnx vy
  have hmn : res3 nn In = res3 nm Im := res_same (Nat.two_pow_pos _) Rn Rm (by rw [Vm, Vn, Int.mul_comm])
  obtain ⟨oq, Oq⟩ := res_opp (Nat.two_pow_pos _) Rm Rq (by rw [Vm, Vq, vv_opp, Int.neg_mul])
  obtain ⟨n1, N1, I1, R1, V1, k1, E1⟩ := addS_ev wx w_0 vx zero_VR
  have z1 : res3 n1 I1 = (x0, x1, 0) := res_exact wx vx (by decide) R1 (by rw [V1]; simp [vv])
  obtain ⟨n2, N2, I2, R2, V2, k2, E2⟩ := mulS_ev wx w_23 vx VR_one
  have z2 : res3 n2 I2 = (x0, x1, 0) := res_exact wx vx (Nat.two_pow_pos _) R2 (by rw [V2, vv_one, Int.natCast_pow]; rfl)
  obtain ⟨n3, N3, I3, R3, G3, V3, k3, E3⟩ := divS_ev wx w_23 vx VR_one (by decide)
  have z3 : res3 n3 I3 = (x0, x1, 0) := res_exact wx vx G3 R3 (by rw [V3, G_one, Int.natCast_pow]; rfl)
  obtain ⟨nd, Nd, Id, Rd', Vd, kd, Ed⟩ := subS_ev wx wy vx vy
  obtain ⟨nh, Nh, Ih, Rh, Vh, kh, Eh⟩ := mulS_ev wy w_23 vy VR_half
  obtain ⟨nt, Nt, It, Rt, Vt, kt, Et⟩ := addS_ev wy wy vy vy
  obtain ⟨vh, wh⟩ := res3_VR nh Ih
  obtain ⟨vt, wt⟩ := res3_VR nt It
  obtain ⟨vd, wd⟩ := res3_VR nd Id
  have C1 := Cmp_ev wh wx vh vx
  have C2 := Cmp_ev wx wt vx vt
  obtain ⟨ne, Ne, Ie, Re, Ve, ke, Ee⟩ := addS_ev wd wy vd vy
  obtain ⟨ks, Es⟩ := sanity_ev
  have key : ((res3 nh Ih).2.2 = 0 ∧ (res3 nt It).2.2 = 0 ∧ ¬ 0 < cmpI (sx (res3 nh Ih).1 (res3 nh Ih).2.1) (sx x0 x1) ∧ ¬ 0 < cmpI (sx x0 x1) (sx (res3 nt It).1 (res3 nt It).2.1)) → (res3 nd Id).2.2 = 0 ∧ res3 ne Ie = (x0, x1, 0) := by
    rintro ⟨q1, q2, q3, q4⟩
    have b1 := res3_ok q1
    have b2 := res3_ok q2
    have q3 := cmpI_not q3
    have q4 := cmpI_not q4
    rw [res3_in b1, sx_sgn _ b1, hsx] at q3
    rw [res3_in b2, sx_sgn _ b2, hsx] at q4
    obtain ⟨K, hK, hKm⟩ := sterb_i Rh (by rw [Vh, vv_half, hvy]) Rt (by rw [Vt, hvy]) q3 q4
    have hN : Nd = G K := by rw [hK, ← hvx, ← hvy, ← Vd, sval_abs]
    have hIK : Id = K := Rd.only (by decide) (by decide) Rd' (Rd.exact K 1 (by decide)) (by simp [hN])
    have hb : Id ≤ 2533359615 := by unfold IR at hi hj; omega
    have hd : vv (res3 nd Id).1 (res3 nd Id).2.1 = vv x0 x1 - vv y0 y1 := by
      rw [res3_in hb, vv_sgn nd Id hb, ← Vd, hN, hIK]
    exact ⟨by rw [res3_in hb], res_exact wx vx (by decide) Re (by rw [Ve, hd]; simp)⟩
  obtain ⟨K, hK⟩ : ∃ K, K = kf + ka + kb + kc + km + kn + kq + k1 + k2 + k3 + kd + kh + kt + ke + ks := ⟨_, rfl⟩
  have Ea := Ea K (by omega)
  have Eb := Eb K (by omega)
  have Ec := Ec K (by omega)
  have Em := Em K (by omega)
  have En := En K (by omega)
  have Eq := Eq K (by omega)
  have E1 := E1 K (by omega)
  have E2 := E2 K (by omega)
  have E3 := E3 K (by omega)
  have Ed := Ed K (by omega)
  have Eh := Eh K (by omega)
  have Et := Et K (by omega)
  have Ee := Ee K (by omega)
  dsimp only at Ea Eb Ec Em En Eq E1 E2 E3 Ed Eh Et Ee
  rw [hab] at Eb
  rw [hmn] at En
  rw [z1] at E1
  rw [z2] at E2
  rw [z3] at E3
  refine ⟨K, x0, x1, y0, y1, -x0, x1, -y0, y1, (res3 na Ia).1, (res3 na Ia).2.1, (res3 na Ia).2.2, (res3 nc Ic).1, (res3 nc Ic).2.1, (res3 nm Im).1, (res3 nm Im).2.1, (res3 nm Im).2.2, (res3 nq Iq).1, (res3 nq Iq).2.1,
    (res3 nd Id).1, (res3 nd Id).2.1, (res3 nd Id).2.2, (res3 nh Ih).1, (res3 nh Ih).2.1, (res3 nh Ih).2.2, (res3 nt It).1, (res3 nt It).2.1, (res3 nt It).2.2, _, _, (res3 nd Id).1, (res3 nd Id).2.1, _,
    ei, ej, Ef K (by omega), Neg_ev wx vx, Neg_ev wy vy, Ea, Eb, ?_, Oc, Em, En, ?_, Oq, E1, E2, E3, Ed, ?_, Eh, Et, C1, C2, rfl, ?_, ?_, Es K (by omega)⟩
  · rw [← oc]; exact Ec
  · rw [← oq]; exact Eq
  · intro h
    have hz := diff_zero wx wy vx vy Rd' Vd (res3_ok h)
    rw [bne_eq_false_iff_eq]
    exact Bool.eq_iff_iff.2 (by simp only [Bool.and_eq_true, beq_iff_eq]; exact hz)
  · intro h
    have h := (key (of_decide_eq_true h)).1
    rw [← h]; exact Ed
  · intro h
    rw [Ee, (key (of_decide_eq_true h)).2]
theorem alg_calls (k : Nat) (i j : Int) (r : Bool) (w : World) (h : AlgH k i j) (hr : r = true) (ht : Table w) :
    Calls Tryz.prog 12 #[.int .i64 i, .int .i64 j] w fun e w' => e = .returned (.bool r) ∧ Below w.heap.size w w' := by
  subst hr
  obtain ⟨x0, x1, y0, y1, nx0, nx1, ny0, ny1, a0, a1, a2, c0, c1, m0, m1, m2, q0, q1, d0, d1, d2, h0, h1, h2, t0, t1, t2, lo, hi, e0, e1, bq, gq0, gq1, gq2, gq3, gq4, gq5, gq6, gq7, gq8, gq9, gq10, gq11, gq12, gq13, gq14, gq15, gq16, gq17, gq18, gq19, gq20, gq21, gq22, gq23, gq24, gq25⟩ := h
  exact alg_c k i j x0 x1 y0 y1 nx0 nx1 ny0 ny1 a0 a1 a2 c0 c1 m0 m1 m2 q0 q1 d0 d1 d2 h0 h1 h2 t0 t1 t2 lo hi e0 e1 bq gq0 gq1 gq2 gq3 gq4 gq5 gq6 gq7 gq8 gq9 gq10 gq11 gq12 gq13 gq14 gq15 gq16 gq17 gq18 gq19 gq20 gq21 gq22 gq23 gq24 gq25 w ht
end Go.Proofs.YteigbokklclmbaaGreatDoor.M
end
section
namespace Go.Proofs.YteigbokklclmbaaGreatDoor.Given
open Go
theorem gT : Tryz.prog.globalNamed "internal/strconv.uint64pow10" = some 0 := by kernel_rfl
theorem gTType : (Tryz.prog.globals[0]?).map (·.type) = some 188 := by kernel_rfl
theorem pow10_datum : (Rows.laid_internal_strconv_uint64pow10 : DataW Unit) = Lib.tabData .u64 Lib.pow10Tab := by kernel_rfl
theorem table_of {W : World} (h : laidMet Tryz.prog [("math/bits.deBruijn32tab", Rows.laid_math_bits_deBruijn32tab), ("math/bits.deBruijn64tab", Rows.laid_math_bits_deBruijn64tab), ("internal/strconv.uint64pow10", Rows.laid_internal_strconv_uint64pow10), ("unicode/utf8.acceptRanges", Rows.laid_unicode_utf8_acceptRanges), ("unicode/utf8.first", Rows.laid_unicode_utf8_first)] W) : Z.Table W := by
  obtain ⟨ps, ⟨_, _, _, _, _, _, _, _, _, _, ⟨_, _, _, _, _, _, _, _, _, _, ⟨g, t, cs, f, p, q, hg, ht, hv, hd, _, _⟩, _⟩, _⟩, _⟩ := h
  obtain rfl := Option.some.inj (gT.symm.trans hg)
  obtain rfl := Option.some.inj (gTType.symm.trans ht)
  rw [pow10_datum] at hd
  show Lib.TabIs _ _ _ _ _
  unfold Lib.TabIs
  rw [hv, ← Lib.cells_of_tab Tryz.underlying188 Tryz.underlying72 (by kernel_rfl) (by kernel_rfl) hd]
theorem i64_lit {a : Int} (h : (Lit.int IntKind.i64 a).wf = true) : -9223372036854775808 ≤ a ∧ a ≤ 9223372036854775807 := by
  have h1 : (decide ((-9223372036854775808 : Int) ≤ a) && decide (a ≤ (9223372036854775807 : Int))) = true := h
  simpa using h1
end Go.Proofs.YteigbokklclmbaaGreatDoor.Given
end
