/- What the law IntegerTight's loop finds, beside what the spans of sums, differences and products announce. -/
import Derived.Test.YtjclehdhjnmlpaaPureSpanT
import Derived.Test.YtjclehdhjnmlpaaTx14
namespace Go.Proofs.Ytjclehdhjnmlpaa.T
open Go Go.RowKit Go.Proofs.Ytjclehdhjnmlpaa.Given Go.Proofs.YtjclehdhjnmlpaaW.PrintWords Go.Proofs.YtjclehdhjnmlpaaW.PrintLast Go.Proofs.YtjclehdhjnmlpaaW.PrintMore
set_option linter.unusedVariables false
set_option linter.unusedSimpArgs false

def opT (op x y : Int) : Int := if op = 0 then x + y else if op = 1 then x - y else x * y
def vstep (v : Int) (s : Int × Int × Int × Int) : Int × Int × Int × Int :=
  if vld v = true then (if s.2.2.1 = 0 then (v, v, s.2.2.1 + 1, s.2.2.2) else (mn s.1 v, mx s.2.1 v, s.2.2.1 + 1, s.2.2.2)) else (s.1, s.2.1, s.2.2.1, s.2.2.2 + 1)
def xT (a b : Int) (k : Nat) : Int := [a, a, b, b].getD k 0
def yT (c d : Int) (k : Nat) : Int := [c, d, c, d].getD k 0
def foundT (op a b c d : Int) : Nat → Int × Int × Int × Int
  | 0 => (0, 0, 0, 0)
  | k + 1 => vstep (opT op (xT a b k) (yT c d k)) (foundT op a b c d k)
theorem vstep_ok (v : Int) (s : Int × Int × Int × Int) : (vstep v s).2.2.1 = s.2.2.1 + (if vld v = true then 1 else 0) := by
  unfold vstep; split
  · split <;> rfl
  · simp
theorem vstep_out (v : Int) (s : Int × Int × Int × Int) : (vstep v s).2.2.2 = s.2.2.2 + (if vld v = true then 0 else 1) := by
  unfold vstep; split
  · split <;> simp
  · simp
theorem vstep_n (v : Int) (s : Int × Int × Int × Int) : s.2.2.1 ≤ (vstep v s).2.2.1 ∧ (vstep v s).2.2.1 ≤ s.2.2.1 + 1 ∧ s.2.2.2 ≤ (vstep v s).2.2.2 ∧ (vstep v s).2.2.2 ≤ s.2.2.2 + 1 := by
  have := vstep_ok v s
  have := vstep_out v s
  split at * <;> omega
def four (p q r s : Int) : Int × Int × Int × Int := vstep s (vstep r (vstep q (vstep p (0, 0, 0, 0))))
theorem vstep_in {v : Int} (h : vld v = true) {a b n o : Int} (hn : n ≠ 0) : vstep v (a, b, n, o) = (mn a v, mx b v, n + 1, o) := by
  unfold vstep; rw [if_pos h, if_neg hn]
theorem four_in {p q r s : Int} (h1 : vld p = true) (h2 : vld q = true) (h3 : vld r = true) (h4 : vld s = true) : four p q r s = (mn (mn (mn p q) r) s, mx (mx (mx p q) r) s, 4, 0) := by
  unfold four
  have e : vstep p (0, 0, 0, 0) = (p, p, 1, 0) := by unfold vstep; rw [if_pos h1]; rfl
  rw [e, vstep_in h2 (by omega), vstep_in h3 (by omega), vstep_in h4 (by omega)]; rfl
theorem four_cut (p q r s : Int) (lo hi : Int) (hlo : lo = mn (mn (mn p q) r) s) (hhi : hi = mx (mx (mx p q) r) s) :
    ((lo > 2147483647 ∨ hi < -2147483647) → (four p q r s).2.2.1 = 0) ∧ decide ((four p q r s).2.2.2 > 0) = (!(vld lo && vld hi)) ∧ ((vld lo && vld hi) = true → lo = (four p q r s).1 ∧ hi = (four p q r s).2.1) := by
  have ok : (four p q r s).2.2.1 = 0 + (if vld p = true then 1 else 0) + (if vld q = true then 1 else 0) + (if vld r = true then 1 else 0) + (if vld s = true then 1 else 0) := by
    unfold four; rw [vstep_ok, vstep_ok, vstep_ok, vstep_ok]
  have out : (four p q r s).2.2.2 = 0 + (if vld p = true then 0 else 1) + (if vld q = true then 0 else 1) + (if vld r = true then 0 else 1) + (if vld s = true then 0 else 1) := by
    unfold four; rw [vstep_out, vstep_out, vstep_out, vstep_out]
  have L : (lo ≤ p ∧ lo ≤ q ∧ lo ≤ r ∧ lo ≤ s) ∧ (lo = p ∨ lo = q ∨ lo = r ∨ lo = s) := by
    subst hlo; unfold mn; split <;> split <;> (try split) <;> omega
  have H : (p ≤ hi ∧ q ≤ hi ∧ r ≤ hi ∧ s ≤ hi) ∧ (hi = p ∨ hi = q ∨ hi = r ∨ hi = s) := by
    subst hhi; unfold mx; split <;> split <;> (try split) <;> omega
  have V : ∀ x : Int, vld x = true ↔ (-2147483647 ≤ x ∧ x ≤ 2147483647) := fun x => by unfold vld; simp
  have N : ∀ x : Int, vld x = false ↔ (x < -2147483647 ∨ 2147483647 < x) := fun x => by unfold vld; simp; omega
  refine ⟨fun h => ?_, ?_, fun h => ?_⟩
  · have z : ∀ x : Int, (lo ≤ x ∧ x ≤ hi) → vld x = false := fun x hx => (N x).mpr (by omega)
    rw [ok, z p (by omega), z q (by omega), z r (by omega), z s (by omega)]; rfl
  · cases h : (vld lo && vld hi) with
    | true =>
      have h' := h
      rw [Bool.and_eq_true, V, V] at h'
      rw [out, (V p).mpr (by omega), (V q).mpr (by omega), (V r).mpr (by omega), (V s).mpr (by omega)]; rfl
    | false =>
      have : vld lo = false ∨ vld hi = false := Bool.and_eq_false_iff.mp h
      have z : ∃ x, (x = p ∨ x = q ∨ x = r ∨ x = s) ∧ vld x = false := by
        rcases this with h | h
        · exact ⟨lo, L.2, h⟩
        · exact ⟨hi, H.2, h⟩
      obtain ⟨x, hx, hv⟩ := z
      have : (four p q r s).2.2.2 > 0 := by
        have B : ∀ y : Int, (0 : Int) ≤ (if vld y = true then 0 else 1) := fun y => by split <;> omega
        have O : (if vld x = true then (0 : Int) else 1) = 1 := by rw [hv]; rfl
        have b1 := B p
        have b2 := B q
        have b3 := B r
        have b4 := B s
        rcases hx with rfl | rfl | rfl | rfl <;> omega
      simpa using this
  · rw [Bool.and_eq_true, V, V] at h
    rw [four_in ((V p).mpr (by omega)) ((V q).mpr (by omega)) ((V r).mpr (by omega)) ((V s).mpr (by omega))]
    exact ⟨hlo, hhi⟩
theorem found_T (op a b c d : Int) : ∀ k : Nat, 0 ≤ (foundT op a b c d k).2.2.1 ∧ (foundT op a b c d k).2.2.1 ≤ k ∧ 0 ≤ (foundT op a b c d k).2.2.2 ∧ (foundT op a b c d k).2.2.2 ≤ k
  | 0 => ⟨Int.le_refl _, Int.le_refl _, Int.le_refl _, Int.le_refl _⟩
  | k + 1 => by
    have ih := found_T op a b c d k
    have h := vstep_n (opT op (xT a b k) (yT c d k)) (foundT op a b c d k)
    show 0 ≤ (vstep _ _).2.2.1 ∧ (vstep _ _).2.2.1 ≤ _ ∧ 0 ≤ (vstep _ _).2.2.2 ∧ (vstep _ _).2.2.2 ≤ _
    omega
/-- What 'apply' returns at two valid integers. -/
theorem apply_T {op x y : Int} (hx : vld x = true) (hy : vld y = true) : manorboylaw01_apply.f op x y = some (rng (opT op x y)) := by
  unfold manorboylaw01_apply.f opT integer_Add.f integer_Sub.f integer_Mul.f twoS
  rw [hx, hy]
  by_cases h0 : op = 0
  · simp [h0]
  · by_cases h1 : op = 1
    · simp [h0, h1]
    · simp [h0, h1]
/-- One round of the law's loop. -/
theorem meets_T (v : Int) (s : Int × Int × Int × Int) (h1 : 0 ≤ s.2.2.1) (h2 : s.2.2.1 ≤ 8) (h3 : 0 ≤ s.2.2.2) (h4 : s.2.2.2 ≤ 8) :
    manorboylaw01_Found_meets.f s.1 s.2.1 s.2.2.1 s.2.2.2 (rng v).1 (rng v).2 = some ((vstep v s).1, (vstep v s).2.1, (vstep v s).2.2.1, (vstep v s).2.2.2) := by
  have w1 : wrap64 (s.2.2.1 + 1) = s.2.2.1 + 1 := w64 (by omega) (by omega)
  have w2 : wrap64 (s.2.2.2 + 1) = s.2.2.2 + 1 := w64 (by omega) (by omega)
  have i1 : ∀ q : Int, mn q q = q := fun q => by unfold mn; split <;> omega
  have i2 : ∀ q : Int, mx q q = q := fun q => by unfold mx; split <;> omega
  unfold manorboylaw01_Found_meets.f rng vstep
  cases hv : vld v with
  | true =>
    by_cases hs : s.2.2.1 = 0
    · simp only [if_true, if_pos hs, i1, i2, w1]
    · simp only [if_true, if_neg hs, w1]
  | false => simp [w2]
theorem xT_vld {a b : Int} (h : vspan a b = true) : ∀ k < 4, vld (xT a b k) = true := by
  have := (vspan_iff _ _).mp h
  intro k hk
  rcases (by omega : k = 0 ∨ k = 1 ∨ k = 2 ∨ k = 3) with h | h | h | h <;> subst h <;> (unfold xT vld; simp; omega)
theorem yT_vld {a b : Int} (h : vspan a b = true) : ∀ k < 4, vld (yT a b k) = true := by
  have := (vspan_iff _ _).mp h
  intro k hk
  rcases (by omega : k = 0 ∨ k = 1 ∨ k = 2 ∨ k = 3) with h | h | h | h <;> subst h <;> (unfold yT vld; simp; omega)
/-- What 'spread' returns, beside what the loop has found. -/
theorem spread_T {op a b c d : Int} (ha : vspan a b = true) (hc : vspan c d = true) : ∃ (lo hi : Int) (may : Bool) (e : Int), manorboylaw01_spread.f op a b c d = some (lo, hi, may, e) ∧
    ((e = 3 ∧ (foundT op a b c d 4).2.2.1 = 0) ∨ (e = 0 ∧ decide ((foundT op a b c d 4).2.2.2 > 0) = may ∧ (may = false → lo = (foundT op a b c d 4).1 ∧ hi = (foundT op a b c d 4).2.1))) := by
  have F : foundT op a b c d 4 = four (opT op a c) (opT op a d) (opT op b c) (opT op b d) := rfl
  have S : manorboylaw01_spread.f op a b c d = some (spansS (fun x y => opT op x y) a b c d) := by
    unfold manorboylaw01_spread.f integer_SpanAdd.f integer_SpanSub.f integer_SpanMul.f opT
    by_cases h0 : op = 0
    · simp [h0]
    · by_cases h1 : op = 1
      · simp [h0, h1]
      · simp [h0, h1]
  have C := four_cut (opT op a c) (opT op a d) (opT op b c) (opT op b d) _ _ (lmin4 (opT op a c) (opT op a d) (opT op b c) (opT op b d)) (lmax4 (opT op a c) (opT op a d) (opT op b c) (opT op b d))
  rw [S, F]
  unfold spansS
  rw [ha, hc]
  unfold cutS
  generalize four (opT op a c) (opT op a d) (opT op b c) (opT op b d) = f at C ⊢
  generalize lmin [opT op a c, opT op a d, opT op b c, opT op b d] = lo at C ⊢
  generalize lmax [opT op a c, opT op a d, opT op b c, opT op b d] = hi at C ⊢
  by_cases h : lo > 2147483647 ∨ hi < -2147483647
  · refine ⟨0, 0, false, 3, by simp [h], Or.inl ⟨rfl, C.1 h⟩⟩
  · refine ⟨_, _, _, 0, by simp [h]; exact ⟨rfl, rfl, rfl⟩, Or.inr ⟨rfl, ?_, ?_⟩⟩
    · simpa using C.2.1
    · intro hm
      have hv : (vld lo && vld hi) = true := by simpa using hm
      have := C.2.2 hv
      have V : ∀ x : Int, vld x = true ↔ (-2147483647 ≤ x ∧ x ≤ 2147483647) := fun x => by unfold vld; simp
      rw [Bool.and_eq_true, V, V] at hv
      rw [← this.1, ← this.2]
      constructor
      · split <;> omega
      · split <;> omega
end Go.Proofs.Ytjclehdhjnmlpaa.T
