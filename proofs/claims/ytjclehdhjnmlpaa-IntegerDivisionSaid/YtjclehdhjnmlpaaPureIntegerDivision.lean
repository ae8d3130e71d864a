/- The pure statement of IntegerDivision: quotients and remainders of both kinds belong together; for all integers. -/
import Derived.Test.YtjclehdhjnmlpaaPureDiv
import Derived.Test.YtjclehdhjnmlpaaPureValid
import Derived.Test.YtjclehdhjnmlpaaPx4
namespace Go.Proofs.Ytjclehdhjnmlpaa.Pure
open Go.RowKit Go.Proofs.Ytjclehdhjnmlpaa.Given Go.Proofs.Ytjclehdhjnmlpaa.P Go.Proofs.YtjclehdhjnmlpaaW.PrintWords Go.Proofs.YtjclehdhjnmlpaaW.PrintLast


theorem rem_small {a b : Int} (hb : b ≠ 0) : (a.tmod b).natAbs < b.natAbs := by rw [Int.natAbs_tmod]; exact Nat.mod_lt _ (by omega)
theorem rem_sign {a b : Int} : (0 ≤ a → 0 ≤ a.tmod b) ∧ (a ≤ 0 → a.tmod b ≤ 0) :=
  ⟨fun h => Int.tmod_nonneg _ h, fun h => by
    have := Int.tmod_nonneg b (show (0 : Int) ≤ -a by omega)
    rw [Int.neg_tmod] at this; omega⟩
theorem plus_eq (a e b f : Int) : manorboylaw01_plus.f a e b f = some (if e = 0 then (if f = 0 then twoS a b (a + b) else (0, f)) else (0, e)) := by
  unfold manorboylaw01_plus.f integer_Add.f
  by_cases he : e = 0 <;> by_cases hf : f = 0 <;> simp [he, hf]
theorem IntegerDivision : manorboylaw01_IntegerDivision.Pure := by
  intro a b _ _
  refine ⟨20 + 1, ?_⟩
  simp only [manorboylaw01_IntegerDivision.f, manorboylaw01_IntegerDivision.j0, manorboylaw01_IntegerDivision.j1, manorboylaw01_IntegerDivision.j2, manorboylaw01_IntegerDivision.j3, awake_true, valid_eq, plus_eq, integer_Mul.f, integer_Quo.f, integer_Rem.f, integer_Floor.f, integer_Mod.f, Option.bind_some]
  rcases bv (vld a) with ha | ha <;> rcases bv (vld b) with hb | hb
  · by_cases h0 : b = 0
    · subst h0
      simp [divS, ha, hb]
    · have ⟨a1, a2⟩ := vld_yes ha
      have ⟨b1, b2⟩ := vld_yes hb
      have ⟨q1, q2⟩ := tdiv_in (b := b) a1 a2
      have ⟨r1, r2⟩ := tmod_in (b := b) a1 a2
      have ⟨p1, p2⟩ := qb_in (b := b) a1 a2
      have hm := rem_small (a := a) h0
      have ⟨s1, s2⟩ := rem_sign (a := a) (b := b)
      have e := tmod_eq a b
      have ⟨m1, m2, m3, m4⟩ := md_in ha hb h0
      have hq := vld_mk q1 q2
      have hr := vld_mk r1 r2
      have hf := flr_ok ha hb
      have hd : vld (a - flr a b * b) = true := vld_mk m1 m2
      have hp : vld (a.tdiv b * b) = true := vld_mk p1 p2
      have hs : a.tdiv b * b + a.tmod b = a := by omega
      simp only [divS_yes ha hb h0, rng_yes hq, rng_yes hr, rng_yes hf, rng_yes hd, ha, hb, h0, twoS_yes hq hb, rng_yes hp, twoS_yes hp hr, hs, rng_yes ha]
      have hx : ¬ (mx (a.tmod b) (wrap64 (-a.tmod b)) ≥ mx b (wrap64 (-b))) := by
        rw [w64 (n := -a.tmod b) (by omega) (by omega), w64 (n := -b) (by omega) (by omega)]
        unfold mx; omega
      have hd0 : decide (mx (a.tmod b) (wrap64 (-a.tmod b)) ≥ mx b (wrap64 (-b))) = false := decide_eq_false hx
      rw [hd0]
      by_cases c0 : a.tmod b = 0
      · have f0 : flr a b = a.tdiv b := by unfold flr; rw [if_neg (by simp [c0])]
        simp [c0, f0]; omega
      · have c1 : (decide (a.tmod b < 0) != decide (a < 0)) = false := by
          by_cases x : a < 0 <;> by_cases y : a.tmod b < 0 <;> simp [x, y] <;> omega
        by_cases c2 : (decide (a < 0) != decide (b < 0)) = true
        · have c3 : (decide (a.tmod b < 0) != decide (b < 0)) = true := by
            have : decide (a.tmod b < 0) = decide (a < 0) := by simpa using c1
            rw [this]; exact c2
          have f0 : flr a b = a.tdiv b - 1 := by unfold flr; rw [if_pos ⟨c0, c2⟩]
          have e2 : a - (a.tdiv b - 1) * b = a.tmod b + b := by rw [Int.sub_mul]; omega
          simp only [c0, c1, c3, f0, e2]
          rw [w64 (n := a.tdiv b - 1) (by omega) (by omega), w64 (n := a.tmod b + b) (by omega) (by omega)]
          simp
        · have c3 : (decide (a.tmod b < 0) != decide (b < 0)) = false := by
            have : decide (a.tmod b < 0) = decide (a < 0) := by simpa using c1
            rw [this]; simpa using c2
          have f0 : flr a b = a.tdiv b := by unfold flr; rw [if_neg (fun x => c2 x.2)]
          simp only [c0, c1, c3, f0]
          simp; omega
  · simp only [divS_r hb, ha, hb]; simp
  · simp only [divS_l ha, ha, hb]; simp
  · simp only [divS_l ha, ha, hb]; simp

end Go.Proofs.Ytjclehdhjnmlpaa.Pure
