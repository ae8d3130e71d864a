/- What the span functions of package integer and of its specification compute, in closed form. -/
import Derived.Test.YtjclehdhjnmlpaaTx9
import Derived.Test.YtjclehdhjnmlpaaTx8
import Derived.Test.YtjclehdhjnmlpaaTx7
import Derived.Test.YtjclehdhjnmlpaaTx6
import Derived.Test.YtjclehdhjnmlpaaTx3
import Derived.Test.YtjclehdhjnmlpaaTx2
namespace Go.Proofs.Ytjclehdhjnmlpaa.T
open Go Go.RowKit Go.Proofs.Ytjclehdhjnmlpaa.Given Go.Proofs.YtjclehdhjnmlpaaW.PrintWords Go.Proofs.YtjclehdhjnmlpaaW.PrintLast Go.Proofs.YtjclehdhjnmlpaaW.PrintMore
set_option linter.unusedVariables false
set_option linter.unusedSimpArgs false

instance : Std.Associative mn := ⟨fun a b c => by unfold mn; split <;> split <;> (try split) <;> omega⟩
instance : Std.Commutative mn := ⟨fun a b => by unfold mn; split <;> split <;> omega⟩
instance : Std.IdempotentOp mn := ⟨fun a => by unfold mn; split <;> omega⟩
instance : Std.Associative mx := ⟨fun a b c => by unfold mx; split <;> split <;> (try split) <;> omega⟩
instance : Std.Commutative mx := ⟨fun a b => by unfold mx; split <;> split <;> omega⟩
instance : Std.IdempotentOp mx := ⟨fun a => by unfold mx; split <;> omega⟩
theorem lmin4 (w x y z : Int) : lmin [w, x, y, z] = mn (mn (mn w x) y) z := rfl
theorem lmax4 (w x y z : Int) : lmax [w, x, y, z] = mx (mx (mx w x) y) z := rfl

theorem w64 {n : Int} (h1 : -9223372036854775808 ≤ n) (h2 : n ≤ 9223372036854775807) : wrap64 n = n := by unfold wrap64; omega
theorem vspan_iff (a b : Int) : vspan a b = true ↔ ((-2147483647 ≤ a ∧ a ≤ 2147483647) ∧ (-2147483647 ≤ b ∧ b ≤ 2147483647)) ∧ a ≤ b := by
  unfold vspan vld; simp
theorem valid_e (a b : Int) : integer_ValidSpan.f a b = some (vspan a b) := rfl
theorem join_e (a b c d : Int) : integer_SpanJoin.f a b c d = some (if vspan a b = true ∧ vspan c d = true then (mn a c, mx b d, 0) else (0, 0, 1)) := by
  unfold integer_SpanJoin.f
  simp only [valid_e, Option.bind_some]
  cases vspan a b <;> cases vspan c d <;> rfl
theorem meet_e (k : Nat) (a b c d : Int) : integer_SpanMeet.f (k + 1) a b c d = some (if vspan a b = true ∧ vspan c d = true then (if mx a c > mn b d then (0, 0, 5) else (mx a c, mn b d, 0)) else (0, 0, 1)) := by
  unfold integer_SpanMeet.f integer_SpanMeet.j0
  simp only [valid_e, Option.bind_some]
  cases vspan a b <;> cases vspan c d <;> simp <;> split <;> rfl
theorem in_e (n a b : Int) : manorboyref01_In.f n a b = some (decide (a ≤ n) && decide (n ≤ b)) := by
  unfold manorboyref01_In.f; split <;> simp [*]
theorem wide_e (k : Nat) : manorboylaw01_wide.f (k + 1) = some true := by
  have h1 : integer_SpanMul.f (-3) 4 2 5 = some (-15, 20, false, 0) := by decide +kernel
  have h2 : integer_SpanAdd.f 0 2147483647 1 1 = some (1, 2147483647, true, 0) := by decide +kernel
  have h3 : integer_SpanJoin.f 1 2 7 8 = some (1, 8, 0) := by decide +kernel
  unfold manorboylaw01_wide.f
  rw [h1, h2, h3]
  rfl
theorem rv_e (a : Int) : manorboyref01_Valid.f a = some (vld a) := by
  unfold manorboyref01_Valid.f vld
  split <;> simp [*]
theorem rvalid_e (a b : Int) : manorboyref01_ValidSpan.f a b = some (vspan a b) := by
  unfold manorboyref01_ValidSpan.f vspan
  simp only [rv_e, Option.bind_some]
  cases vld a <;> cases vld b <;> simp
theorem neg_e (a b : Int) : integer_SpanNeg.f a b = some (if vspan a b = true then (-b, -a, 0) else (0, 0, 1)) := by
  unfold integer_SpanNeg.f
  simp only [valid_e, Option.bind_some]
  cases h : vspan a b with
  | false => rfl
  | true =>
    have := (vspan_iff _ _).mp h
    rw [w64 (n := -b) (by omega) (by omega), w64 (n := -a) (by omega) (by omega)]; rfl
theorem rneg_e (a b : Int) : manorboyref01_SpanNeg.f a b = some (if vspan a b = true then (-b, -a, 0) else (0, 0, 1)) := by
  unfold manorboyref01_SpanNeg.f
  simp only [rvalid_e, Option.bind_some]
  cases h : vspan a b with
  | false => rfl
  | true =>
    have := (vspan_iff _ _).mp h
    rw [w64 (n := -b) (by omega) (by omega), w64 (n := -a) (by omega) (by omega)]; rfl
theorem rjoin_e (a b c d : Int) : manorboyref01_SpanJoin.f a b c d = some (if vspan a b = true ∧ vspan c d = true then (mn a c, mx b d, 0) else (0, 0, 1)) := by
  unfold manorboyref01_SpanJoin.f
  simp only [rvalid_e, Option.bind_some]
  cases vspan a b <;> cases vspan c d <;> rfl
theorem rmeet_e (k : Nat) (a b c d : Int) : manorboyref01_SpanMeet.f (k + 1) a b c d = integer_SpanMeet.f 1 a b c d := by
  rw [meet_e 0]
  unfold manorboyref01_SpanMeet.f manorboyref01_SpanMeet.j0
  simp only [rvalid_e, Option.bind_some]
  cases h1 : vspan a b <;> cases h2 : vspan c d <;> simp
  have := (vspan_iff _ _).mp h1
  have := (vspan_iff _ _).mp h2
  unfold mx mn
  split <;> split <;> (try split) <;> (try split) <;> (try split) <;> first | rfl | omega
theorem sign_e (a : Int) : integer_sign.f a = some (if a < 0 then -1 else if a > 0 then 1 else 0) := by
  unfold integer_sign.f; split <;> (try split) <;> rfl
theorem rcmp_e (k : Nat) (a b : Int) (ha : vld a = true) (hb : vld b = true) : manorboyref01_Cmp.f (k + 1) a b = some (if a < b then -1 else if a > b then 1 else 0, 0) := by
  unfold manorboyref01_Cmp.f manorboyref01_Cmp.j0
  simp only [rv_e, ha, hb, Option.bind_some]
  simp; split <;> (try split) <;> rfl
theorem cmp_e (k : Nat) (a b c d : Int) : integer_SpanCmp.f (k + 1) a b c d = some (if vspan a b = true ∧ vspan c d = true then (if a < d then -1 else if a > d then 1 else 0, if b < c then -1 else if b > c then 1 else 0, 0) else (0, 0, 1)) := by
  unfold integer_SpanCmp.f integer_SpanCmp.j0
  simp only [valid_e, sign_e, Option.bind_some]
  cases h1 : vspan a b <;> cases h2 : vspan c d <;> simp
  have := (vspan_iff _ _).mp h1
  have := (vspan_iff _ _).mp h2
  rw [w64 (n := a - d) (by omega) (by omega), w64 (n := b - c) (by omega) (by omega)]
  constructor
  · split <;> split <;> (try split) <;> (try split) <;> omega
  · split <;> split <;> (try split) <;> (try split) <;> omega
theorem rscmp_e (k : Nat) (a b c d : Int) : manorboyref01_SpanCmp.f (k + 2) a b c d = integer_SpanCmp.f 1 a b c d := by
  rw [cmp_e 0]
  unfold manorboyref01_SpanCmp.f manorboyref01_SpanCmp.j0
  simp only [rvalid_e, Option.bind_some]
  cases h1 : vspan a b <;> cases h2 : vspan c d <;> simp
  have v1 := (vspan_iff _ _).mp h1
  have v2 := (vspan_iff _ _).mp h2
  have V : ∀ n : Int, -2147483647 ≤ n → n ≤ 2147483647 → vld n = true := fun n x y => by unfold vld; simp; omega
  rw [rcmp_e k a d (V _ (by omega) (by omega)) (V _ (by omega) (by omega)), rcmp_e k b c (V _ (by omega) (by omega)) (V _ (by omega) (by omega))]
  rfl
theorem rcut_e (lo hi : Int) : manorboyref01_cut.f lo hi = some (cutS lo hi) := by
  unfold manorboyref01_cut.f cutS
  by_cases h1 : lo > 2147483647
  · simp only [if_pos h1, if_pos (show lo > 2147483647 ∨ hi < -2147483647 from Or.inl h1)]
  · by_cases h2 : hi < -2147483647
    · simp only [if_neg h1, if_pos h2, if_pos (show lo > 2147483647 ∨ hi < -2147483647 from Or.inr h2)]
    · have h0 : ¬ (lo > 2147483647 ∨ hi < -2147483647) := by omega
      simp only [if_neg h1, if_neg h2, if_neg h0]
      have e2 : vld hi = !decide (hi > 2147483647) := by unfold vld; rw [Bool.eq_iff_iff]; simp; omega
      by_cases h3 : lo < -2147483647
      · have e1 : vld lo = false := by unfold vld; simp; omega
        simp only [if_pos h3, e1]; simp [mx, mn, h3]
      · have e1 : vld lo = true := by unfold vld; simp; omega
        simp only [if_neg h3, e1, e2]; simp [mx, mn, h3]
theorem radd_e (a b c d : Int) : manorboyref01_SpanAdd.f a b c d = integer_SpanAdd.f a b c d := by
  unfold manorboyref01_SpanAdd.f integer_SpanAdd.f spansS
  simp only [rvalid_e, rcut_e, Option.bind_some]
  cases h1 : vspan a b <;> cases h2 : vspan c d <;> simp
  have := (vspan_iff _ _).mp h1
  have := (vspan_iff _ _).mp h2
  rw [w64 (n := a + c) (by omega) (by omega), w64 (n := b + d) (by omega) (by omega), lmin4, lmax4]
  have e1 : mn (mn (mn (a + c) (a + d)) (b + c)) (b + d) = a + c := by unfold mn; split <;> split <;> (try split) <;> omega
  have e2 : mx (mx (mx (a + c) (a + d)) (b + c)) (b + d) = b + d := by unfold mx; split <;> split <;> (try split) <;> omega
  rw [e1, e2]
theorem rsub_e (a b c d : Int) : manorboyref01_SpanSub.f a b c d = integer_SpanSub.f a b c d := by
  unfold manorboyref01_SpanSub.f integer_SpanSub.f spansS
  simp only [rvalid_e, rcut_e, Option.bind_some]
  cases h1 : vspan a b <;> cases h2 : vspan c d <;> simp
  have := (vspan_iff _ _).mp h1
  have := (vspan_iff _ _).mp h2
  rw [w64 (n := a - d) (by omega) (by omega), w64 (n := b - c) (by omega) (by omega), lmin4, lmax4]
  have e1 : mn (mn (mn (a - c) (a - d)) (b - c)) (b - d) = a - d := by unfold mn; split <;> split <;> (try split) <;> omega
  have e2 : mx (mx (mx (a - c) (a - d)) (b - c)) (b - d) = b - c := by unfold mx; split <;> split <;> (try split) <;> omega
  rw [e1, e2]
theorem rmul_e (a b c d : Int) : manorboyref01_SpanMul.f a b c d = integer_SpanMul.f a b c d := by
  unfold manorboyref01_SpanMul.f integer_SpanMul.f spansS
  simp only [rvalid_e, rcut_e, Option.bind_some]
  cases h1 : vspan a b <;> cases h2 : vspan c d <;> simp
  have ⟨⟨⟨p1, p2⟩, p3, p4⟩, p5⟩ := (vspan_iff _ _).mp h1
  have ⟨⟨⟨q1, q2⟩, q3, q4⟩, q5⟩ := (vspan_iff _ _).mp h2
  have M : ∀ x y : Int, -2147483647 ≤ x → x ≤ 2147483647 → -2147483647 ≤ y → y ≤ 2147483647 → wrap64 (x * y) = x * y := fun x y h1 h2 h3 h4 => by
    have := mul_in h1 h2 h3 h4
    exact w64 (by omega) (by omega)
  rw [M a c p1 p2 q1 q2, M a d p1 p2 q3 q4, M b c p3 p4 q1 q2, M b d p3 p4 q3 q4, lmin4, lmax4]
end Go.Proofs.Ytjclehdhjnmlpaa.T
