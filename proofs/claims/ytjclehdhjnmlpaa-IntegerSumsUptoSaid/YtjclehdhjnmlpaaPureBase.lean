/- Plain facts on integer results, used by the pure statements of the laws. -/
import Derived.Test.YtjclehdhjnmlpaaPx1
namespace Go.Proofs.Ytjclehdhjnmlpaa.Pure
open Go.RowKit Go.Proofs.Ytjclehdhjnmlpaa.Given Go.Proofs.Ytjclehdhjnmlpaa.P Go.Proofs.YtjclehdhjnmlpaaW.PrintWords Go.Proofs.YtjclehdhjnmlpaaW.PrintLast

theorem awake_true (k : Nat) : manorboylaw01_awake.f (k + 1) = some true := by
  have h1 : integer_Add.f 2147483646 1 = some (2147483647, 0) := by decide
  have h2 : integer_Mul.f 46341 46341 = some (0, 3) := by decide
  have h3 : integer_Quo.f (-7) 2 = some (-3, 0) := by decide
  have h4 : integer_Floor.f (-7) 2 = some (-4, 0) := by decide
  simp [manorboylaw01_awake.f, manorboylaw01_awake.j0, h1, h2, h3, h4]

theorem twoS_yes {a b r : Int} (ha : vld a = true) (hb : vld b = true) : twoS a b r = rng r := by simp [twoS, ha, hb]
theorem twoS_l {a b r : Int} (ha : vld a = false) : twoS a b r = (0, 1) := by simp [twoS, ha]
theorem twoS_r {a b r : Int} (hb : vld b = false) : twoS a b r = (0, 1) := by simp [twoS, hb]
theorem divS_yes {a b r : Int} (ha : vld a = true) (hb : vld b = true) (h0 : b ≠ 0) : divS a b r = rng r := by simp [divS, ha, hb, h0]
theorem divS_zero {a b r : Int} (ha : vld a = true) (hb : vld b = true) (h0 : b = 0) : divS a b r = (0, 5) := by subst h0; simp [divS, ha, hb]
theorem divS_l {a b r : Int} (ha : vld a = false) : divS a b r = (0, 1) := by simp [divS, ha]
theorem divS_r {a b r : Int} (hb : vld b = false) : divS a b r = (0, 1) := by simp [divS, hb]
theorem rng_yes {r : Int} (h : vld r = true) : rng r = (r, 0) := by simp [rng, h]
theorem rng_no {r : Int} (h : vld r = false) : rng r = (0, 3) := by simp [rng, h]
theorem vld_mk {n : Int} (h1 : -2147483647 ≤ n) (h2 : n ≤ 2147483647) : vld n = true := decide_eq_true ⟨h1, h2⟩
theorem vld_not {n : Int} (h : ¬ (-2147483647 ≤ n ∧ n ≤ 2147483647)) : vld n = false := decide_eq_false h
theorem w64 {n : Int} (h1 : -9223372036854775808 ≤ n) (h2 : n ≤ 9223372036854775807) : wrap64 n = n := by unfold wrap64; omega
theorem bv (b : Bool) : b = true ∨ b = false := by cases b <;> simp
end Go.Proofs.Ytjclehdhjnmlpaa.Pure
