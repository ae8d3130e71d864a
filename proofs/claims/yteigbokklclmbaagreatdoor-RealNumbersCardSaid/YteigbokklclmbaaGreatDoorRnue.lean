/- Contracts and lemmas that the law's row leans on, joined by program (pack.py) out of the session's texts; no condition of its own. -/
import Derived.RowKit
import Derived.Test.YteigbokklclmbaaGreatDoorProg
import Derived.KernelRfl
import Derived.Below
import Derived.Deep.Draws
import Derived.Deep.AppendLies
import Derived.Maps.AppendAt
import Derived.OwnWalk
import Derived.Laws.BytesArg
import Derived.Laws.MakeOwn
import Derived.Laws.OwnMore
import Derived.Deep.OwnRows
import Derived.Tactics
import Derived.Lib.ConvBytes
import Derived.Laws.Slices
import Derived.WalkKit
import Derived.RowKit3
import Derived.Deep.LoopGhost
import Derived.Deep.QuietTactic
import Derived.BigQuiet
import Derived.WideLaws
import Derived.Deep.DeepCutAuto
import Derived.Deep.CutBlock
import Derived.Deep.RegionHeld3
import Derived.Laws.Rows
import Derived.Lib.AppendStr
import Derived.ArgAppend
import Derived.Laws.IdiomCopy
import Derived.OrdersHeld
import Derived.Laws.BitsLemmas
import Derived.Deep.Cut
import Derived.Test.YteigbokklclmbaaGreatDoorRows
import Derived.Test.YteigbokklclmbaaGreatDoorRnua
import Derived.Test.YteigbokklclmbaaGreatDoorRnub
import Derived.Test.YteigbokklclmbaaGreatDoorRnuc
import Derived.Test.YteigbokklclmbaaGreatDoorRnud
set_option linter.unusedVariables false
set_option linter.unusedSimpArgs false
set_option maxRecDepth 100000
set_option maxHeartbeats 8000000
section
namespace Go.Proofs.YteigbokklclmbaaGreatDoor.M
open Go Go.RowKit Go.Proofs.YteigbokklclmbaaGreatDoor.Given Go.Proofs.YteigbokklclmbaaGreatDoorW.PrintWords Go.Proofs.YteigbokklclmbaaGreatDoorW.PrintLast Go.Proofs.YteigbokklclmbaaGreatDoorW.PrintMore Go.Proofs.YteigbokklclmbaaGreatDoor.Z Go.Proofs.YteigbokklclmbaaGreatDoor.Z.Y Go.Proofs.YteigbokklclmbaaGreatDoor.Z.Y.V
theorem mulE_l1 (B : Nat) (hB : B = B15) (a b : List Int) (ha : InB B a) (hb : InB B b) (i : Nat) (hi : i < a.length) (hal : a.length ≤ 9000) (hbl : b.length ≤ 9000) {r : List Int} (T : Nat) :
    ∀ (d j : Nat) (x5 : List Int) (c : Nat), b.length = j + d → x5.length = a.length + b.length → InB B x5 → c < B → Aside0 (val B x5 + B ^ (i + j) * (c + (rd a (i : Int)).toNat * val B (b.drop j)) = T) → (∀ q : Nat, i + b.length ≤ q → rd x5 (q : Int) = 0) →
    (∀ x6 : List Int, x6.length = a.length + b.length → InB B x6 → val B x6 = T → (∀ q : Nat, i + b.length < q → rd x6 (q : Int) = 0) → Ev (fun k => manorboyref02_Nat_Mul.l0 k a b x6 ((i + 1 : Nat) : Int)) r) →
    Ev (fun k => manorboyref02_Nat_Mul.l1 k a b x5 (i : Int) (c : Int) (j : Int)) r
  | 0, j, x5, c, hd, hl, hI, hc, hT, hz, hk => by
    have hj : j = b.length := by omega
    subst hj
    have w2 : Aside0 (wrap64 ((i : Int) + 1) = ((i + 1 : Nat) : Int)) := Aside0.mk (by rw [w64 _ (by omega) (by omega)]; omega)
    replace hT := hT.out
    rw [val_drop_ge (Nat.le_refl _), Nat.mul_zero, Nat.add_zero] at hT
    by_cases h0 : (c : Int) > 0
    · have hB' : B = 32768 := hB
      have w1 : Aside0 (wrap64 ((i : Int) + (b.length : Int)) = ((i + b.length : Nat) : Int)) := Aside0.mk (by rw [w64 _ (by omega) (by omega)]; omega)
      have w3 : Aside0 (wrap64 ((b.length : Int) + 1) = ((b.length + 1 : Nat) : Int)) := Aside0.mk (by rw [w64 _ (by omega) (by omega)]; omega)
      have hr : rd x5 ((i + b.length : Nat) : Int) = 0 := hz _ (Nat.le_refl _)
      have w4 : Aside0 (wrap64 ((c : Int) + 0) = (c : Int)) := Aside0.mk (by rw [Int.add_zero]; exact w64 _ (by omega) (by omega))
      have e1 : Aside0 (Int.tmod (c : Int) 32768 = (c : Int)) := Aside0.mk (by rw [Int.tmod_eq_emod_of_nonneg (by omega)]; omega)
      have e2 : Aside0 (wrap64 (Int.tdiv (c : Int) 32768) = 0) := Aside0.mk (by rw [Int.tdiv_eq_ediv_of_nonneg (by omega), show (c : Int) / 32768 = 0 by omega]; exact w64 0 (by omega) (by omega))
      have ht : (decide ((c : Int) > 0)) = true := decide_eq_true h0
      have hix : ((i + b.length : Nat) : Int) < (x5.length : Int) := by omega
      refine Ev.step (f := fun k => manorboyref02_Nat_Mul.j2 k a b x5 (i : Int) (c : Int) (b.length : Int) true) (fun k => by rw [manorboyref02_Nat_Mul.l1, if_neg (by omega), ht]) ?_
      refine Ev.step (f := fun k => manorboyref02_Nat_Mul.l1 k a b (x5.set (i + b.length) (c : Int)) (i : Int) 0 ((b.length + 1 : Nat) : Int)) (fun k => by rw [manorboyref02_Nat_Mul.j2, if_pos rfl, w1.out, if_pos (Int.natCast_nonneg _), if_pos hix, if_neg (by omega), hr, w4.out, e1.out, e2.out, w3.out, Int.toNat_natCast]) ?_
      refine Ev.step (f := fun k => manorboyref02_Nat_Mul.j2 k a b (x5.set (i + b.length) (c : Int)) (i : Int) 0 ((b.length + 1 : Nat) : Int) false) (fun k => by rw [manorboyref02_Nat_Mul.l1, if_neg (by omega)]; rfl) ?_
      refine Ev.step (f := fun k => manorboyref02_Nat_Mul.l0 k a b (x5.set (i + b.length) (c : Int)) ((i + 1 : Nat) : Int)) (fun k => by rw [manorboyref02_Nat_Mul.j2, if_neg (by decide), w2.out]) ?_
      refine hk _ (by rw [List.length_set]; exact hl) (hI.set _ (by omega)) ?_ ?_
      · have f := val_set (B := B) x5 (i + b.length) (c : Int) (by omega)
        rw [← rd_nat, hr, Int.toNat_natCast, Int.toNat_zero, Nat.mul_zero, Nat.add_zero] at f
        omega
      · intro q hq
        have := hz q (by omega)
        rw [rd_nat] at this ⊢
        rw [List.getD_eq_getElem?_getD, List.getElem?_set_ne (by omega), ← List.getD_eq_getElem?_getD]; exact this
    · have c0 : c = 0 := by omega
      subst c0
      refine Ev.step (f := fun k => manorboyref02_Nat_Mul.j2 k a b x5 (i : Int) ((0 : Nat) : Int) (b.length : Int) false) (fun k => by rw [manorboyref02_Nat_Mul.l1, if_neg (by omega)]; rfl) ?_
      refine Ev.step (f := fun k => manorboyref02_Nat_Mul.l0 k a b x5 ((i + 1 : Nat) : Int)) (fun k => by rw [manorboyref02_Nat_Mul.j2, if_neg (by decide), w2.out]) ?_
      exact hk _ hl hI (by simpa using hT) (fun q hq => hz q (by omega))
  | d + 1, j, x5, c, hd, hl, hI, hc, hT, hz, hk => by
    have hB' : B = 32768 := hB
    have w1 : Aside0 (wrap64 ((i : Int) + (j : Int)) = ((i + j : Nat) : Int)) := Aside0.mk (by rw [w64 _ (by omega) (by omega)]; omega)
    have w2 : Aside0 (wrap64 ((j : Int) + 1) = ((j + 1 : Nat) : Int)) := Aside0.mk (by rw [w64 _ (by omega) (by omega)]; omega)
    have hra := rd15 (hB ▸ ha) i
    have hrb := rd15 (hB ▸ hb) j
    have hr5 := rd15 (hB ▸ hI) (i + j)
    obtain ⟨x', hx⟩ : ∃ x' : Nat, rd a (i : Int) = x' := ⟨(rd a (i : Int)).toNat, by omega⟩
    obtain ⟨y, hy⟩ : ∃ y : Nat, rd b (j : Int) = y := ⟨(rd b (j : Int)).toNat, by omega⟩
    obtain ⟨o, ho⟩ : ∃ o : Nat, rd x5 ((i + j : Nat) : Int) = o := ⟨(rd x5 ((i + j : Nat) : Int)).toNat, by omega⟩
    have hm : x' * y ≤ 32767 * 32767 := Nat.mul_le_mul (by omega) (by omega)
    have u1 : Aside0 (wrap64 ((x' : Int) * (y : Int)) = ((x' * y : Nat) : Int)) := Aside0.mk (by rw [← Int.natCast_mul, w64 _ (by omega) (by omega)])
    have u2 : Aside0 (wrap64 ((c : Int) + (o : Int)) = ((c + o : Nat) : Int)) := Aside0.mk (by rw [w64 _ (by omega) (by omega)]; omega)
    have u3 : Aside0 (wrap64 (((c + o : Nat) : Int) + ((x' * y : Nat) : Int)) = ((c + o + x' * y : Nat) : Int)) := Aside0.mk (by rw [w64 _ (by omega) (by omega)]; omega)
    have e1 : Aside0 (Int.tmod ((c + o + x' * y : Nat) : Int) 32768 = (((c + o + x' * y) % 32768 : Nat) : Int)) := Aside0.mk (by rw [Int.tmod_eq_emod_of_nonneg (by omega)]; omega)
    have e2 : Aside0 (wrap64 (Int.tdiv ((c + o + x' * y : Nat) : Int) 32768) = (((c + o + x' * y) / 32768 : Nat) : Int)) := Aside0.mk (by rw [Int.tdiv_eq_ediv_of_nonneg (by omega), w64 _ (by omega) (by omega)]; omega)
    have hix : ((i + j : Nat) : Int) < (x5.length : Int) := by omega
    refine Ev.step (f := fun k => manorboyref02_Nat_Mul.j2 k a b x5 (i : Int) (c : Int) (j : Int) true) (fun k => by rw [manorboyref02_Nat_Mul.l1, if_pos (by omega)]) ?_
    refine Ev.step (f := fun k => manorboyref02_Nat_Mul.l1 k a b (x5.set (i + j) (((c + o + x' * y) % 32768 : Nat) : Int)) (i : Int) (((c + o + x' * y) / 32768 : Nat) : Int) ((j + 1 : Nat) : Int)) (fun k => by
      rw [manorboyref02_Nat_Mul.j2, if_pos rfl, w1.out, if_pos (Int.natCast_nonneg _), if_pos hix, if_pos (by omega), if_pos (Int.natCast_nonneg _), if_pos (by omega), if_pos (Int.natCast_nonneg _), hx, hy, ho, u1.out, u2.out, u3.out, e1.out, e2.out, w2.out, Int.toNat_natCast]) ?_
    refine mulE_l1 B hB a b ha hb i hi hal hbl T d (j + 1) _ _ (by omega) (by rw [List.length_set]; exact hl) (hI.set _ (by omega)) (by omega) (Aside0.mk ?_) ?_ hk
    · replace hT := hT.out
      have f := val_set (B := B) x5 (i + j) (((c + o + x' * y) % 32768 : Nat) : Int) (by omega)
      rw [← rd_nat, ho, Int.toNat_natCast, Int.toNat_natCast] at f
      have g := val_drop (B := B) b j
      rw [← rd_nat, hy, Int.toNat_natCast] at g
      rw [g, hx, Int.toNat_natCast] at hT
      rw [← hT, show i + (j + 1) = (i + j) + 1 by omega, Nat.pow_succ, Nat.mul_assoc, hx]
      generalize B ^ (i + j) = P at *
      generalize val B (b.drop (j + 1)) = R at *
      rw [Int.toNat_natCast]
      refine Nat.add_right_cancel (m := P * o) ?_
      rw [Nat.add_right_comm, f, Nat.add_assoc (val B x5), Nat.add_assoc (val B x5), ← Nat.mul_add, ← Nat.mul_add]
      congr 2
      rw [hB']
      have : x' * (y + 32768 * R) = x' * y + 32768 * (x' * R) := by rw [Nat.mul_add, ← Nat.mul_assoc, Nat.mul_comm x' 32768, Nat.mul_assoc]
      rw [this, Nat.mul_add]
      generalize x' * R = Z
      generalize x' * y = W at *
      clear hT f g hm u1 u2 u3 e1 e2
      omega
    · intro q hq
      have := hz q (by omega)
      rw [rd_nat] at this ⊢
      rw [List.getD_eq_getElem?_getD, List.getElem?_set_ne (by omega), ← List.getD_eq_getElem?_getD]; exact this
theorem mulE_l0 (B : Nat) (hB : B = B15) (a b : List Int) (ha : InB B a) (hb : InB B b) (hla : a.length ≤ 9000) (hlb : b.length ≤ 9000) : ∀ (d i : Nat) (x5 : List Int), a.length = i + d → x5.length = a.length + b.length → InB B x5 → Aside0 (val B x5 + B ^ i * (val B (a.drop i) * val B b) = val B a * val B b) → (∀ q : Nat, i + b.length ≤ q → rd x5 (q : Int) = 0) →
    Ev (fun k => manorboyref02_Nat_Mul.l0 k a b x5 (i : Int)) (E (val B a * val B b))
  | 0, i, x5, hd, hl, hI, hT, hz => by
    replace hT := hT.out
    refine Ev.step (f := fun k => (manorboyref02_cut.f k x5).bind fun t => some t) (fun k => by rw [manorboyref02_Nat_Mul.l0, if_neg (by omega)]) ?_
    subst hB
    refine some_back (cut_ev hI (by omega) ?_)
    rw [val_drop_ge (by omega)] at hT
    simpa using hT
  | d + 1, i, x5, hd, hl, hI, hT, hz => by
    have hB' : B = 32768 := hB
    refine Ev.step (f := fun k => manorboyref02_Nat_Mul.l1 k a b x5 (i : Int) ((0 : Nat) : Int) ((0 : Nat) : Int)) (fun k => by rw [manorboyref02_Nat_Mul.l0, if_pos (by omega)]; rfl) ?_
    have g := val_drop (B := B) a i
    rw [← rd_nat] at g
    refine mulE_l1 B hB a b ha hb i (by omega) (by omega) (by omega) (val B x5 + B ^ i * ((rd a i).toNat * val B b)) b.length 0 x5 0 (by omega) hl hI (by omega) (Aside0.mk (by rw [Nat.add_zero, Nat.zero_add, List.drop_zero])) hz ?_
    intro x6 hl6 hI6 hv6 hz6
    refine mulE_l0 B hB a b ha hb hla hlb d (i + 1) x6 (by omega) hl6 hI6 (Aside0.mk ?_) (fun q hq => hz6 q (by omega))
    replace hT := hT.out
    rw [hv6, ← hT, g, Nat.pow_succ, Nat.mul_assoc, Nat.add_assoc, ← Nat.mul_add]
    congr 2
    rw [Nat.add_mul, Nat.mul_assoc]
theorem mulE_ev {a b : Nat} (ha : Se a) (hb : Se b) : Ev (fun k => manorboyref02_Nat_Mul.f k (E a) (E b)) (E (a * b)) := by
  unfold Se at ha hb
  have w : wrap64 (((E a).length : Int) + ((E b).length : Int)) = (((E a).length + (E b).length : Nat) : Int) := by rw [w64 _ (by omega) (by omega)]; omega
  refine Ev.congr (f := fun k => manorboyref02_Nat_Mul.l0 k (E a) (E b) (List.replicate ((E a).length + (E b).length) 0) ((0 : Nat) : Int)) (fun k => by unfold manorboyref02_Nat_Mul.f; rw [w, if_pos (Int.natCast_nonneg _), Int.toNat_natCast, if_pos (by omega)]; rfl) ?_
  have := mulE_l0 B15 rfl (E a) (E b) (E_in a) (E_in b) (by omega) (by omega) (E a).length 0 (List.replicate ((E a).length + (E b).length) 0) (by omega) (by simp) (InB.replicate (by decide) _) (Aside0.mk (by rw [val_replicate, Nat.pow_zero, List.drop_zero]; omega)) (fun q _ => by
    rw [rd_nat, List.getD_eq_getElem?_getD]
    rcases e : (List.replicate ((E a).length + (E b).length) (0 : Int))[q]? with _ | v
    · rfl
    · exact List.eq_of_mem_replicate (List.mem_of_getElem? e))
  rw [E_val, E_val] at this
  exact this
end Go.Proofs.YteigbokklclmbaaGreatDoor.M
end
section
namespace Go.Proofs.YteigbokklclmbaaGreatDoor.M
/-- The exponent (above the least one) and the mantissa of the real with an index. -/
def sh (i : Nat) : Nat := i / 8388608 - 1
def man (i : Nat) : Nat := i - sh i * 8388608
/-- The real with an index, in units of 2^-150. -/
def G (i : Nat) : Nat := man i * 2 ^ sh i
/-- The middle of two neighbours, in units of 2^-151. -/
def H (i : Nat) : Nat := G i + G (i + 1)
theorem G_succ (i : Nat) : G (i + 1) = G i + 2 ^ sh i := by
  have hs : (sh (i + 1) = sh i ∧ man (i + 1) = man i + 1) ∨ (sh (i + 1) = sh i + 1 ∧ man i = 16777215 ∧ man (i + 1) = 8388608) := by
    unfold man sh; omega
  unfold G
  rcases hs with ⟨h1, h2⟩ | ⟨h1, h2, h3⟩
  · rw [h1, h2, Nat.add_mul, Nat.one_mul]
  · rw [h1, h2, h3, Nat.pow_succ]; omega
theorem G_zero : G 0 = 0 := by unfold G man sh; rfl
theorem G_lt_succ (i : Nat) : G i < G (i + 1) := by
  rw [G_succ]; have := Nat.two_pow_pos (sh i); omega
theorem G_lt {i j : Nat} (h : i < j) : G i < G j := by
  induction h with
  | refl => exact G_lt_succ i
  | step _ ih => exact Nat.lt_trans ih (G_lt_succ _)
theorem G_le {i j : Nat} (h : i ≤ j) : G i ≤ G j := by
  rcases Nat.lt_or_ge i j with h' | h'
  · exact Nat.le_of_lt (G_lt h')
  · rw [Nat.le_antisymm h h']; exact Nat.le_refl _
theorem H_lt {i j : Nat} (h : i < j) : H i < H j := by
  unfold H; have h1 := G_lt h; have h2 := G_lt (show i + 1 < j + 1 by omega); omega
theorem H_le {i j : Nat} (h : i ≤ j) : H i ≤ H j := by
  rcases Nat.lt_or_ge i j with h' | h'
  · exact Nat.le_of_lt (H_lt h')
  · rw [Nat.le_antisymm h h']; exact Nat.le_refl _
theorem H_inj {i j : Nat} (h : H i = H j) : i = j := by
  rcases Nat.lt_trichotomy i j with h' | h' | h'
  · have := H_lt h'; omega
  · exact h'
  · have := H_lt h'; omega
theorem H_eq (i : Nat) : H i = (2 * man i + 1) * 2 ^ sh i := by
  unfold H; rw [G_succ]; unfold G
  rw [Nat.add_mul, Nat.one_mul, Nat.mul_assoc]; omega
theorem H_pos (i : Nat) : 0 < H i := by
  unfold H; have := G_lt_succ i; omega
/-- A mantissa and an exponent, also where the mantissa is one too great. -/
theorem G_at (m u : Nat) (hm : m ≤ 16777216) (hu : u = 0 ∨ 8388608 ≤ m) : G (m + u * 8388608) = m * 2 ^ u := by
  unfold G
  rcases Nat.lt_or_ge m 16777216 with h | h
  · have h1 : sh (m + u * 8388608) = u := by unfold sh; omega
    have h2 : man (m + u * 8388608) = m := by unfold man; rw [h1]; omega
    rw [h1, h2]
  · have e : m = 16777216 := by omega
    subst e
    have h1 : sh (16777216 + u * 8388608) = u + 1 := by unfold sh; omega
    have h2 : man (16777216 + u * 8388608) = 8388608 := by unfold man; rw [h1]; omega
    rw [h1, h2, Nat.pow_succ]; omega
/-- I is the index of the rounded value of N / D, which is in units of 2^-150: to the nearest, on the middle to the even one. -/
def Rd (N D I : Nat) : Prop := (I = 0 ∨ (H (I - 1) * D ≤ 2 * N ∧ (H (I - 1) * D = 2 * N → I % 2 = 0))) ∧ 2 * N ≤ H I * D ∧ (2 * N = H I * D → I % 2 = 0)
theorem Rd.mono {N D I N' D' J : Nat} (hD : 0 < D) (hD' : 0 < D') (h : Rd N D I) (h' : Rd N' D' J) (hle : N * D' ≤ N' * D) : I ≤ J := by
  rcases Nat.lt_or_ge J I with hlt | hge
  · exfalso
    obtain ⟨h1, _⟩ := h
    obtain ⟨_, h2, h3⟩ := h'
    rcases h1 with h1 | ⟨h1, h4⟩
    · omega
    · have hH : H J ≤ H (I - 1) := H_le (by omega)
      -- H (I-1) * D * D' ≤ 2 N D' ≤ 2 N' D ≤ H J * D' * D
      have a1 : H (I - 1) * D * D' ≤ 2 * N * D' := Nat.mul_le_mul_right _ h1
      have a2 : 2 * N' * D ≤ H J * D' * D := Nat.mul_le_mul_right _ h2
      have a3 : H J * D' * D ≤ H (I - 1) * D' * D := Nat.mul_le_mul_right _ (Nat.mul_le_mul_right _ hH)
      have e1 : H (I - 1) * D' * D = H (I - 1) * D * D' := by rw [Nat.mul_assoc, Nat.mul_comm D' D, ← Nat.mul_assoc]
      have e2 : 2 * N * D' = 2 * (N * D') := Nat.mul_assoc _ _ _
      have e3 : 2 * N' * D = 2 * (N' * D) := Nat.mul_assoc _ _ _
      have b1 : H (I - 1) * D * D' = 2 * N * D' := by omega
      have b2 : 2 * N' * D = H J * D' * D := by omega
      have b3 : H J * D' * D = H (I - 1) * D' * D := by omega
      have c1 := Nat.eq_of_mul_eq_mul_right hD' b1
      have c2 := Nat.eq_of_mul_eq_mul_right hD b2
      have c3 := Nat.eq_of_mul_eq_mul_right hD' (Nat.eq_of_mul_eq_mul_right hD b3)
      have := h4 c1
      have := h3 c2
      have := H_inj c3
      omega
  · exact hge
theorem Rd.only {N D I N' D' J : Nat} (hD : 0 < D) (hD' : 0 < D') (h : Rd N D I) (h' : Rd N' D' J) (he : N * D' = N' * D) : I = J :=
  Nat.le_antisymm (h.mono hD hD' h' (Nat.le_of_eq he)) (h'.mono hD' hD h (Nat.le_of_eq he.symm))
theorem Rd.exact (I D : Nat) (hD : 0 < D) : Rd (G I * D) D I := by
  have h1 : 2 * (G I * D) = 2 * G I * D := (Nat.mul_assoc _ _ _).symm
  refine ⟨?_, ?_, ?_⟩
  · rcases Nat.eq_zero_or_pos I with h | h
    · exact .inl h
    · right
      have : H (I - 1) < 2 * G I := by
        unfold H; rw [show I - 1 + 1 = I by omega]; have := G_lt (show I - 1 < I by omega); omega
      have := Nat.mul_lt_mul_of_pos_right this hD
      rw [h1]
      exact ⟨Nat.le_of_lt this, fun e => by omega⟩
  · rw [h1]; refine Nat.mul_le_mul_right _ ?_
    unfold H; have := G_lt_succ I; omega
  · intro e
    rw [h1] at e
    have := Nat.eq_of_mul_eq_mul_right hD e
    unfold H at this; have := G_lt_succ I; omega
/-- The same fraction, the same index. -/
theorem Rd.congr {N D I N' D' : Nat} (hD : 0 < D) (hD' : 0 < D') (h : Rd N D I) (he : N * D' = N' * D) : Rd N' D' I := by
  have key : ∀ X : Nat, (X * D ≤ 2 * N ↔ X * D' ≤ 2 * N') ∧ (X * D = 2 * N ↔ X * D' = 2 * N') ∧ (2 * N ≤ X * D ↔ 2 * N' ≤ X * D') := by
    intro X
    have e1 : X * D * D' = X * D' * D := by rw [Nat.mul_assoc, Nat.mul_comm D D', ← Nat.mul_assoc]
    have e2 : 2 * N * D' = 2 * N' * D := by rw [Nat.mul_assoc, he, ← Nat.mul_assoc]
    refine ⟨?_, ?_, ?_⟩
    · rw [← Nat.mul_le_mul_right_iff hD', e1, e2, Nat.mul_le_mul_right_iff hD]
    · constructor
      · intro h; exact Nat.eq_of_mul_eq_mul_right hD (by rw [← e1, ← e2, h])
      · intro h; exact Nat.eq_of_mul_eq_mul_right hD' (by rw [e1, e2, h])
    · rw [← Nat.mul_le_mul_right_iff hD', e1, e2, Nat.mul_le_mul_right_iff hD]
  obtain ⟨h1, h2, h3⟩ := h
  refine ⟨?_, (key _).2.2.1 h2, fun e => h3 ((key _).2.1.2 e.symm).symm⟩
  rcases h1 with h1 | ⟨h1, h4⟩
  · exact .inl h1
  · exact .inr ⟨(key _).1.1 h1, fun e => h4 ((key _).2.1.2 e)⟩
/-- What the rounding by hand comes to: of n / d in units of 2^(u - 150), with a quotient of at most 24 bits, is rounded so. -/
theorem Rd.of_quo (n d u : Nat) (hd : 0 < d) (hq : n / d < 16777216) (hu : u = 0 ∨ 8388608 ≤ n / d) :
    Rd (n * 2 ^ u) d ((n / d + if d < 2 * (n % d) ∨ (d = 2 * (n % d) ∧ n / d % 2 = 1) then 1 else 0) + u * 8388608) := by
  have hn := Nat.div_add_mod n d
  have hr := Nat.mod_lt n hd
  generalize n / d = m at *
  generalize n % d = r at *
  have hP := Nat.two_pow_pos u
  have hG := G_at m u (by omega) hu
  have hG1 : G (m + u * 8388608 + 1) = (m + 1) * 2 ^ u := by
    have := G_at (m + 1) u (by omega) (by omega)
    rw [← this]; congr 1; omega
  have hH : H (m + u * 8388608) = (2 * m + 1) * 2 ^ u := by
    unfold H; rw [hG, hG1, ← Nat.add_mul]; congr 1; omega
  have hpar : (m + u * 8388608) % 2 = m % 2 := by omega
  have e1 : 2 * (n * 2 ^ u) = 2 * n * 2 ^ u := (Nat.mul_assoc _ _ _).symm
  have e2 : (2 * m + 1) * 2 ^ u * d = (2 * m + 1) * d * 2 ^ u := by rw [Nat.mul_assoc, Nat.mul_comm (2 ^ u) d, ← Nat.mul_assoc]
  have e3 : (2 * m + 1) * d = 2 * (d * m) + d := by rw [Nat.add_mul, Nat.one_mul, Nat.mul_assoc, Nat.mul_comm m d]
  have hlow : ∀ J, J = m + u * 8388608 → J = 0 ∨ (H (J - 1) * d ≤ 2 * (n * 2 ^ u) ∧ (H (J - 1) * d = 2 * (n * 2 ^ u) → J % 2 = 0)) := by
    intro J hJ
    rcases Nat.eq_zero_or_pos J with h | h
    · exact .inl h
    · right
      have h1 : H (J - 1) < 2 * (m * 2 ^ u) := by
        unfold H; rw [show J - 1 + 1 = J by omega]
        have h2 := G_lt (show J - 1 < J by omega)
        have h3 : G J = m * 2 ^ u := by rw [hJ, hG]
        omega
      have h2 := Nat.mul_lt_mul_of_pos_right h1 hd
      have h3 : 2 * (m * 2 ^ u) * d ≤ 2 * (n * 2 ^ u) := by
        rw [Nat.mul_assoc]
        refine Nat.mul_le_mul_left _ ?_
        rw [Nat.mul_assoc, Nat.mul_comm (2 ^ u) d, ← Nat.mul_assoc]
        refine Nat.mul_le_mul_right _ ?_
        rw [Nat.mul_comm m d]; omega
      exact ⟨by omega, fun e => by omega⟩
  split
  · rename_i hc
    have hI : m + 1 + u * 8388608 = m + u * 8388608 + 1 := by omega
    rw [hI]
    refine ⟨.inr ?_, ?_, ?_⟩
    · rw [Nat.add_sub_cancel, hH, e1, e2]
      constructor
      · refine Nat.mul_le_mul_right _ ?_
        omega
      · intro e
        have := Nat.eq_of_mul_eq_mul_right hP e
        omega
    · have : 2 * ((m + 1) * 2 ^ u) ≤ H (m + u * 8388608 + 1) := by
        unfold H; rw [hG1]; have := G_lt_succ (m + u * 8388608 + 1); rw [hG1] at this; omega
      have h2 := Nat.mul_le_mul_right d this
      have h3 : 2 * (n * 2 ^ u) ≤ 2 * ((m + 1) * 2 ^ u) * d := by
        rw [Nat.mul_assoc]
        refine Nat.mul_le_mul_left _ ?_
        rw [Nat.mul_assoc, Nat.mul_comm (2 ^ u) d, ← Nat.mul_assoc]
        refine Nat.mul_le_mul_right _ ?_
        rw [Nat.add_mul, Nat.one_mul, Nat.mul_comm m d]; omega
      omega
    · intro e
      exfalso
      have : 2 * ((m + 1) * 2 ^ u) < H (m + u * 8388608 + 1) := by
        unfold H; rw [hG1]; have := G_lt_succ (m + u * 8388608 + 1); rw [hG1] at this; omega
      have h2 := Nat.mul_lt_mul_of_pos_right this hd
      have h3 : 2 * (n * 2 ^ u) ≤ 2 * ((m + 1) * 2 ^ u) * d := by
        rw [Nat.mul_assoc]
        refine Nat.mul_le_mul_left _ ?_
        rw [Nat.mul_assoc, Nat.mul_comm (2 ^ u) d, ← Nat.mul_assoc]
        refine Nat.mul_le_mul_right _ ?_
        rw [Nat.add_mul, Nat.one_mul, Nat.mul_comm m d]; omega
      omega
  · rename_i hc
    rw [Nat.add_zero]
    refine ⟨hlow _ rfl, ?_, ?_⟩
    · rw [hH, e1, e2]
      refine Nat.mul_le_mul_right _ ?_
      omega
    · rw [hH, e1, e2]
      intro e
      have := Nat.eq_of_mul_eq_mul_right hP e
      omega
/-- A fraction num * 2^e / den, as a fraction in units of 2^x. -/
def nx (e x : Int) (num : Nat) : Nat := if x ≤ e then num * 2 ^ (e - x).toNat else num
def dx (e x : Int) (den : Nat) : Nat := if x ≤ e then den else den * 2 ^ (x - e).toNat
theorem dx_pos {e x : Int} {den : Nat} (h : 0 < den) : 0 < dx e x den := by
  unfold dx; split
  · exact h
  · exact Nat.mul_pos h (Nat.two_pow_pos _)
theorem frac_step (e x : Int) (num den : Nat) : nx e x num * dx e (x + 1) den = 2 * (nx e (x + 1) num * dx e x den) := by
  unfold nx dx
  rcases Int.lt_trichotomy x e with h | h | h
  · rw [if_pos (by omega), if_pos (by omega), if_pos (by omega), if_pos (by omega), show (e - x).toNat = (e - (x + 1)).toNat + 1 by omega, Nat.pow_succ]
    rw [← Nat.mul_assoc, Nat.mul_comm (num * 2 ^ _) 2, Nat.mul_assoc 2]
  · subst h
    rw [if_pos (by omega), if_neg (by omega), if_neg (by omega), if_pos (by omega), show (x - x).toNat = 0 by omega, show (x + 1 - x).toNat = 1 by omega, Nat.pow_zero, Nat.mul_one, Nat.pow_one]
    rw [← Nat.mul_assoc, Nat.mul_comm _ 2]
  · rw [if_neg (by omega), if_neg (by omega), if_neg (by omega), if_neg (by omega), show (x + 1 - e).toNat = (x - e).toNat + 1 by omega, Nat.pow_succ]
    rw [← Nat.mul_assoc, ← Nat.mul_assoc, Nat.mul_comm _ 2, Nat.mul_assoc]
theorem frac_at (e : Int) (num den : Nat) (hden : 0 < den) : ∀ u : Nat, nx e (-150 + u) num * 2 ^ u * dx e (-150) den = nx e (-150) num * dx e (-150 + u) den
  | 0 => by simp
  | u + 1 => by
    have ih := frac_at e num den hden u
    have hs := frac_step e (-150 + u) num den
    have hx : (-150 + (u : Int) + 1) = (-150 + ((u + 1 : Nat) : Int)) := by omega
    rw [hx] at hs
    have hp : 0 < dx e (-150 + u) den := dx_pos hden
    refine Nat.eq_of_mul_eq_mul_right hp ?_
    -- n' * 2^(u+1) * D * d = N * d' * d ; n * d' = 2 n' d ; n 2^u D = N d
    generalize nx e (-150 + u) num = n at *
    generalize nx e (-150 + ((u + 1 : Nat) : Int)) num = n' at *
    generalize dx e (-150 + u) den = d at *
    generalize dx e (-150 + ((u + 1 : Nat) : Int)) den = d' at *
    generalize nx e (-150) num = N at *
    generalize dx e (-150) den = D at *
    have h1 : n' * 2 ^ (u + 1) * D * d = 2 * (n' * d) * (2 ^ u * D) := by
      rw [Nat.pow_succ]; ac_rfl
    rw [h1, ← hs]
    have h2 : n * d' * (2 ^ u * D) = n * 2 ^ u * D * d' := by ac_rfl
    rw [h2, ih]; ac_rfl
end Go.Proofs.YteigbokklclmbaaGreatDoor.M
end
section
namespace Go.Proofs.YteigbokklclmbaaGreatDoor.M
open Go Go.RowKit Go.Proofs.YteigbokklclmbaaGreatDoor.Given Go.Proofs.YteigbokklclmbaaGreatDoorW.PrintWords Go.Proofs.YteigbokklclmbaaGreatDoorW.PrintLast Go.Proofs.YteigbokklclmbaaGreatDoorW.PrintMore Go.Proofs.YteigbokklclmbaaGreatDoor.Z
/-- The real with an index, and what rounding to it answers (1000 in the exponent's place: it panics). -/
def atI (I : Nat) : Int × Int := if I = 0 then (0, 0) else ((man I : Int), (sh I : Int) - 150)
def rres (I : Nat) : Int × Int := if 2533359615 < I then (0, 1000) else atI I
theorem rounded_j4 (x m : Int) : Ev (fun k => real_rounded.j4 k x m) (if x > 150 then (0, 1000) else if m = 0 then (0, 0) else (m, x)) := by
  refine Ev.step (f := fun _ => some (if x > 150 then (0, 1000) else if m = 0 then (0, 0) else (m, x))) (fun k => ?_) (Ev.now _)
  rw [real_rounded.j4]
  split
  · rfl
  · split <;> rfl
theorem rounded_j3 (u m : Nat) (hu : u ≤ 60000) (hm : m ≤ 16777216) (hc : u = 0 ∨ 8388608 ≤ m) : Ev (fun k => real_rounded.j3 k (-150 + (u : Int)) (m : Int)) (rres (m + u * 8388608)) := by
  have w : wrap64 (-150 + (u : Int) + 1) = -150 + (u : Int) + 1 := w64 _ (by omega) (by omega)
  by_cases h : (m : Int) = 16777216
  · refine Ev.step (f := fun k => real_rounded.j4 k (-150 + (u : Int) + 1) 8388608) (fun k => by rw [real_rounded.j3, if_pos h, w]) ?_
    have := rounded_j4 (-150 + (u : Int) + 1) 8388608
    have e : (if -150 + (u : Int) + 1 > 150 then ((0 : Int), (1000 : Int)) else if (8388608 : Int) = 0 then (0, 0) else (8388608, -150 + (u : Int) + 1)) = rres (m + u * 8388608) := by
      unfold rres atI
      have hs : sh (m + u * 8388608) = u + 1 := by unfold sh; omega
      have hmn : man (m + u * 8388608) = 8388608 := by unfold man; rw [hs]; omega
      rw [hs, hmn]
      by_cases hg : -150 + (u : Int) + 1 > 150
      · rw [if_pos hg, if_pos (by omega)]
      · rw [if_neg hg, if_neg (by omega), if_neg (by omega), if_neg (by omega)]
        congr 1; omega
    rw [← e]; exact this
  · refine Ev.step (f := fun k => real_rounded.j4 k (-150 + (u : Int)) (m : Int)) (fun k => by rw [real_rounded.j3, if_neg h]) ?_
    have := rounded_j4 (-150 + (u : Int)) (m : Int)
    have e : (if -150 + (u : Int) > 150 then ((0 : Int), (1000 : Int)) else if (m : Int) = 0 then (0, 0) else ((m : Int), -150 + (u : Int))) = rres (m + u * 8388608) := by
      unfold rres atI
      have hs : sh (m + u * 8388608) = u := by unfold sh; omega
      have hmn : man (m + u * 8388608) = m := by unfold man; rw [hs]; omega
      rw [hs, hmn]
      by_cases hg : -150 + (u : Int) > 150
      · rw [if_pos hg, if_pos (by omega)]
      · by_cases hz : (m : Int) = 0
        · rw [if_neg hg, if_pos hz, if_neg (by omega), if_pos (by omega)]
        · rw [if_neg hg, if_neg hz, if_neg (by omega), if_neg (by omega)]
          congr 1 <;> omega
    rw [← e]; exact this
theorem rounded_j2 (u m : Nat) (b : Bool) (hu : u ≤ 60000) (hm : m < 16777216) (hc : u = 0 ∨ 8388608 ≤ m) : Ev (fun k => real_rounded.j2 k (-150 + (u : Int)) (m : Int) b) (rres ((m + if b = true then 1 else 0) + u * 8388608)) := by
  by_cases h : b = true
  · have w : wrap64 ((m : Int) + 1) = ((m + 1 : Nat) : Int) := by rw [w64 _ (by omega) (by omega)]; omega
    rw [if_pos h]
    refine Ev.step (fun k => by rw [real_rounded.j2, if_pos h, w]) (rounded_j3 u (m + 1) hu (by omega) (by omega))
  · rw [if_neg h, Nat.add_zero]
    exact Ev.step (fun k => by rw [real_rounded.j2, if_neg h]) (rounded_j3 u m hu (by omega) hc)
/-- Where the quotient has at most 24 bits. -/
theorem rounded_stop (num den n d u : Nat) (e : Int) (hd : 0 < d) (hn : bl n ≤ 30000) (hdd : bl d ≤ 29990) (hu : u ≤ 60000) (hq : n / d < 16777216) (hc : u = 0 ∨ 8388608 ≤ n / d) :
    Ev (fun k => real_rounded.j1 k (D num) e (D den) (-150 + (u : Int)) (D n) (D d)) (rres ((n / d + if d < 2 * (n % d) ∨ (d = 2 * (n % d) ∧ n / d % 2 = 1) then 1 else 0) + u * 8388608)) := by
  have hr := Nat.mod_lt n hd
  have b1 := bl_mono (Nat.le_of_lt hr)
  have b2 := bl_shift (n % d) 1
  rw [Nat.pow_one] at b2
  have b3 : bl (n / d) ≤ 24 := bl_le_iff.2 hq
  have hdiv := div_ev hd hn (show bl d ≤ 30000 by omega)
  clear hn
  generalize n / d = q at *
  generalize n % d = r at *
  have sq : Sm q := Sm.bl (by omega)
  have sr : Sm (r) := Sm.bl (by omega)
  have sr2 : Sm (r * 2) := Sm.bl (by omega)
  have sd : Sm d := Sm.bl (by omega)
  have hsh : Ev (fun k => real_nat_shl.f k (D (r)) 1) (D (r * 2)) := by
    have := shl_ev sr 1 (by decide)
    rw [Nat.pow_one] at this; exact this
  have hbl : ¬ ((bl (q) : Int) > 24) := by
    omega
  have w : wrap64 ((q : Nat) : Int) = ((q : Nat) : Int) := w64 _ (by omega) (by omega)
  refine Ev.step (fun k => by rw [real_rounded.j1]) ?_
  refine Ev.bind hdiv (Ev.bind (bits_ev sq) ?_)
  dsimp only
  refine Ev.congr (f := fun k => (real_nat_small.f k (D (q))).bind fun t195 => (real_nat_shl.f k (D (r)) 1).bind fun t196 => (real_nat_cmp.f k t196 (D d)).bind fun t199 => if t199 > 0 then real_rounded.j2 k (-150 + (u : Int)) (wrap64 t195) true else if t199 = 0 then real_rounded.j2 k (-150 + (u : Int)) (wrap64 t195) ((Int.tmod (wrap64 t195) 2) == 1) else real_rounded.j2 k (-150 + (u : Int)) (wrap64 t195) false) (fun k => by rw [if_neg hbl]) ?_
  refine Ev.bind (small_ev (by omega)) (Ev.bind hsh (Ev.bind (cmp_ev sr2 sd) ?_))
  rw [w]
  by_cases h1 : d < 2 * (r)
  · have e1 : cmpN (r * 2) d = 1 := by unfold cmpN; rw [if_neg (by omega), if_neg (by omega)]
    rw [e1, if_pos (Or.inl h1)]
    have := rounded_j2 u (q) true hu hq hc
    rw [if_pos rfl] at this
    exact Ev.congr (fun k => by rw [if_pos (by omega)]) this
  · by_cases h2 : d = 2 * (r)
    · have e1 : cmpN (r * 2) d = 0 := by unfold cmpN; rw [if_neg (by omega), if_pos (by omega)]
      rw [e1]
      have ht : (Int.tmod ((q : Nat) : Int) 2 == 1) = decide (q % 2 = 1) := by
        rw [Int.tmod_eq_emod_of_nonneg (by omega)]
        by_cases h : q % 2 = 1
        · rw [decide_eq_true h, beq_iff_eq]; omega
        · rw [decide_eq_false h, beq_eq_false_iff_ne]; omega
      have := rounded_j2 u (q) (decide (q % 2 = 1)) hu hq hc
      have e2 : (if decide (q % 2 = 1) = true then 1 else 0) = (if d < 2 * (r) ∨ (d = 2 * (r) ∧ q % 2 = 1) then 1 else 0) := by
        by_cases h : q % 2 = 1
        · rw [if_pos (by simpa using h), if_pos (Or.inr ⟨h2, h⟩)]
        · rw [if_neg (by simpa using h), if_neg (by rintro (h' | h') <;> omega)]
      rw [e2] at this
      exact Ev.congr (fun k => by rw [if_neg (by omega), if_pos rfl, ht]) this
    · have e1 : cmpN (r * 2) d = -1 := by unfold cmpN; rw [if_pos (by omega)]
      rw [e1, if_neg (by rintro (h' | h') <;> omega)]
      have := rounded_j2 u (q) false hu hq hc
      rw [if_neg (by decide)] at this
      exact Ev.congr (fun k => by rw [if_neg (by omega), if_neg (by omega)]) this
/-- The state of a round: how great the fraction's parts are, and how the shifts come to them. -/
theorem go_ (num den : Nat) (e : Int) (hnum : bl num ≤ 10000) (hden : 0 < den) (hden2 : bl den ≤ 10000) (he0 : -10000 ≤ e) (he1 : e ≤ 10000) (u : Nat) (hx : (-150 + (u : Int)) - e ≤ 10100) :
    bl (nx e (-150 + u) num) ≤ 30000 ∧ bl (dx e (-150 + u) den) ≤ 29990 ∧ ∀ r, Ev (fun k => real_rounded.j1 k (D num) e (D den) (-150 + (u : Int)) (D (nx e (-150 + u) num)) (D (dx e (-150 + u) den))) r → Ev (fun k => real_rounded.l0 k (D num) e (D den) (-150 + (u : Int))) r := by
  have sn : Sm num := Sm.bl (by omega)
  have sd : Sm den := Sm.bl (by omega)
  unfold nx dx
  by_cases h : -150 + (u : Int) ≤ e
  · rw [if_pos h, if_pos h]
    refine ⟨?_, by omega, fun r hr => ?_⟩
    · have := bl_shift num (e - (-150 + (u : Int))).toNat; omega
    · have w : wrap64 (e - (-150 + (u : Int))) = ((e - (-150 + (u : Int))).toNat : Int) := by rw [w64 _ (by omega) (by omega)]; omega
      refine Ev.step (f := fun k => (real_nat_shl.f k (D num) ((e - (-150 + (u : Int))).toNat : Int)).bind fun t => real_rounded.j1 k (D num) e (D den) (-150 + (u : Int)) t (D den)) (fun k => by rw [real_rounded.l0, if_pos (by omega), w]) ?_
      exact Ev.bind (shl_ev sn _ (by omega)) hr
  · rw [if_neg h, if_neg h]
    refine ⟨by omega, ?_, fun r hr => ?_⟩
    · have := bl_shift den ((-150 + (u : Int)) - e).toNat; omega
    · have w : wrap64 ((-150 + (u : Int)) - e) = (((-150 + (u : Int)) - e).toNat : Int) := by rw [w64 _ (by omega) (by omega)]; omega
      refine Ev.step (f := fun k => (real_nat_shl.f k (D den) (((-150 + (u : Int)) - e).toNat : Int)).bind fun t => real_rounded.j1 k (D num) e (D den) (-150 + (u : Int)) (D num) t) (fun k => by rw [real_rounded.l0, if_neg (by omega), w]) ?_
      exact Ev.bind (shl_ev sd _ (by omega)) hr
theorem stop_ (num den : Nat) (e : Int) (hnum : bl num ≤ 10000) (hden : 0 < den) (hden2 : bl den ≤ 10000) (he0 : -10000 ≤ e) (he1 : e ≤ 10000) (u : Nat) (hx : (-150 + (u : Int)) - e ≤ 10100)
    (hq : nx e (-150 + u) num / dx e (-150 + u) den < 16777216) (hge : u = 0 ∨ 8388608 * dx e (-150 + u) den ≤ nx e (-150 + u) num) :
    ∃ I, Rd (nx e (-150) num) (dx e (-150) den) I ∧ Ev (fun k => real_rounded.l0 k (D num) e (D den) (-150 + (u : Int))) (rres I) := by
  have hdp : 0 < dx e (-150 + u) den := dx_pos hden
  have hgo := go_ num den e hnum hden hden2 he0 he1 u hx
  have hc : u = 0 ∨ 8388608 ≤ nx e (-150 + u) num / dx e (-150 + u) den := by
    rcases hge with h | h
    · exact .inl h
    · right; rw [Nat.le_div_iff_mul_le hdp]; exact h
  refine ⟨_, Rd.congr hdp (dx_pos hden) (Rd.of_quo _ _ u hdp hq hc) (frac_at e num den hden u), hgo.2.2 _ ?_⟩
  exact rounded_stop num den _ _ u e hdp hgo.1 hgo.2.1 (by omega) hq hc
theorem rounded_l0 (num den : Nat) (e : Int) (hnum : bl num ≤ 10000) (hden : 0 < den) (hden2 : bl den ≤ 10000) (he0 : -10000 ≤ e) (he1 : e ≤ 10000) :
    ∀ (j u : Nat), (-150 + (u : Int)) - e + j ≤ 10100 → nx e (-150 + u) num < 2 ^ (24 + j) * dx e (-150 + u) den → (u = 0 ∨ 8388608 * dx e (-150 + u) den ≤ nx e (-150 + u) num) →
    ∃ I, Rd (nx e (-150) num) (dx e (-150) den) I ∧ Ev (fun k => real_rounded.l0 k (D num) e (D den) (-150 + (u : Int))) (rres I) := by
  intro j
  induction j with
  | zero => 
    intro u hx hlt hge
    rw [show (2 : Nat) ^ (24 + 0) = 16777216 by decide] at hlt
    exact stop_ num den e hnum hden hden2 he0 he1 u (by omega) (by rw [Nat.div_lt_iff_lt_mul (dx_pos hden)]; exact hlt) hge
  | succ j ih =>
    intro u hx hlt hge
    have hdp : 0 < dx e (-150 + u) den := dx_pos hden
    by_cases hq : nx e (-150 + u) num / dx e (-150 + u) den < 16777216
    · exact stop_ num den e hnum hden hden2 he0 he1 u (by omega) hq hge
    · have hq' : 16777216 * dx e (-150 + u) den ≤ nx e (-150 + u) num := by
        rw [← Nat.le_div_iff_mul_le hdp]; omega
      have hs := frac_step e (-150 + u) num den
      have hxx : (-150 + (u : Int) + 1) = (-150 + ((u + 1 : Nat) : Int)) := by omega
      rw [hxx] at hs
      have hdp' : 0 < dx e (-150 + ((u + 1 : Nat) : Int)) den := dx_pos hden
      have up : nx e (-150 + ((u + 1 : Nat) : Int)) num < 2 ^ (24 + j) * dx e (-150 + ((u + 1 : Nat) : Int)) den := by
        have h1 := Nat.mul_lt_mul_of_pos_right hlt hdp'
        rw [hs, show 24 + (j + 1) = (24 + j) + 1 from rfl, Nat.pow_succ] at h1
        clear hlt hge hq hq' hs ih
        generalize (2 : Nat) ^ (24 + j) = P at *
        generalize nx e (-150 + ((u + 1 : Nat) : Int)) num = n' at *
        generalize dx e (-150 + ((u + 1 : Nat) : Int)) den = d' at *
        generalize dx e (-150 + (u : Int)) den = d at *
        have h2 : P * 2 * d * d' = 2 * (P * d' * d) := by ac_rfl
        rw [h2] at h1
        exact Nat.lt_of_mul_lt_mul_right (a := d) (Nat.lt_of_mul_lt_mul_left (a := 2) h1)
      have low : 8388608 * dx e (-150 + ((u + 1 : Nat) : Int)) den ≤ nx e (-150 + ((u + 1 : Nat) : Int)) num := by
        have h1 := Nat.mul_le_mul_right (dx e (-150 + ((u + 1 : Nat) : Int)) den) hq'
        rw [hs] at h1
        clear hlt hge hq hq' hs ih up
        generalize nx e (-150 + ((u + 1 : Nat) : Int)) num = n' at *
        generalize dx e (-150 + ((u + 1 : Nat) : Int)) den = d' at *
        generalize dx e (-150 + (u : Int)) den = d at *
        have h2 : 16777216 * d * d' = 2 * (8388608 * d' * d) := by
          rw [show (16777216 : Nat) = 2 * 8388608 by decide]; ac_rfl
        rw [h2] at h1
        exact Nat.le_of_mul_le_mul_right (Nat.le_of_mul_le_mul_left h1 (by decide)) hdp
      obtain ⟨I, hR, hE⟩ := ih (u + 1) (by omega) up (.inr low)
      refine ⟨I, hR, ?_⟩
      have hgo := go_ num den e hnum hden hden2 he0 he1 u (by omega)
      have sq : Sm (nx e (-150 + u) num / dx e (-150 + u) den) := Sm.bl (by have := bl_mono (Nat.div_le_self (nx e (-150 + u) num) (dx e (-150 + u) den)); have := hgo.1; omega)
      have hbl : (bl (nx e (-150 + u) num / dx e (-150 + u) den) : Int) > 24 := by
        have : ¬ bl (nx e (-150 + u) num / dx e (-150 + u) den) ≤ 24 := fun h => hq (bl_le_iff.1 h)
        omega
      have w : wrap64 (-150 + (u : Int) + 1) = -150 + ((u + 1 : Nat) : Int) := by rw [w64 _ (by omega) (by omega)]; omega
      refine hgo.2.2 _ (Ev.step (fun k => by rw [real_rounded.j1]) ?_)
      refine Ev.bind (div_ev hdp hgo.1 (by have := hgo.2.1; omega)) (Ev.bind (bits_ev sq) ?_)
      dsimp only
      exact Ev.congr (fun k => by rw [if_pos hbl, w]) hE
theorem rounded_ev (num den : Nat) (e : Int) (hnum : bl num ≤ 10000) (hden : 0 < den) (hden2 : bl den ≤ 10000) (he0 : -10000 ≤ e) (he1 : e ≤ 10000) :
    ∃ I, Rd (nx e (-150) num) (dx e (-150) den) I ∧ Ev (fun k => real_rounded.f k (D num) e (D den)) (rres I) := by
  rcases Nat.eq_zero_or_pos num with h0 | h0
  · subst h0
    refine ⟨0, ⟨.inl rfl, ?_, fun _ => rfl⟩, ?_⟩
    · have : nx e (-150) 0 = 0 := by unfold nx; split <;> simp
      rw [this]; omega
    · refine Ev.congr (f := fun _ => some (0, 0)) (fun k => by rw [show D 0 = [] from dg_zero]; rfl) ?_
      exact Ev.now _
  · have sn : Sm num := Sm.bl (by omega)
    have sd : Sm den := Sm.bl (by omega)
    have hne : (D num).length ≠ 0 := fun e => by
      have := (dg_nil (n := num) B2).1 (List.eq_nil_of_length_eq_zero e); omega
    have w1 : wrap64 ((bl num : Int) - (bl den : Int)) = (bl num : Int) - (bl den : Int) := w64 _ (by omega) (by omega)
    have w2 : wrap64 ((bl num : Int) - (bl den : Int) + e) = (bl num : Int) - (bl den : Int) + e := w64 _ (by omega) (by omega)
    have w3 : wrap64 ((bl num : Int) - (bl den : Int) + e - 24) = (bl num : Int) - (bl den : Int) + e - 24 := w64 _ (by omega) (by omega)
    have w4 : wrap64 ((bl num : Int) - (bl den : Int) + e - 24 - 1) = (bl num : Int) - (bl den : Int) + e - 24 - 1 := w64 _ (by omega) (by omega)
    obtain ⟨u, hu⟩ : ∃ u : Nat, mx (-150) ((bl num : Int) - (bl den : Int) + e - 24 - 1) = -150 + (u : Int) := ⟨(mx (-150) ((bl num : Int) - (bl den : Int) + e - 24 - 1) + 150).toNat, by unfold mx; split <;> omega⟩
    have hu1 : (bl num : Int) - (bl den : Int) + e - 25 ≤ -150 + (u : Int) := by unfold mx at hu; split at hu <;> omega
    have hu2 : u = 0 ∨ (bl num : Int) - (bl den : Int) + e - 25 = -150 + (u : Int) := by unfold mx at hu; split at hu <;> omega
    have p1 := bl_pos' h0
    have p2 := bl_pos' hden
    obtain ⟨I, hR, hE⟩ := rounded_l0 num den e hnum hden hden2 he0 he1 2 u (by omega) (by
      have a1 := bl_lt num
      have a2 := bl_ge hden
      unfold nx dx
      by_cases h : -150 + (u : Int) ≤ e
      · rw [if_pos h, if_pos h]
        have c1 := Nat.mul_lt_mul_of_pos_right a1 (Nat.two_pow_pos (e - (-150 + (u : Int))).toNat)
        rw [← Nat.pow_add] at c1
        have c2 := Nat.mul_le_mul_left (2 ^ (24 + 2)) a2
        rw [← Nat.pow_add] at c2
        have c3 : 2 ^ (bl num + (e - (-150 + (u : Int))).toNat) ≤ 2 ^ (24 + 2 + (bl den - 1)) := Nat.pow_le_pow_right (by decide) (by omega)
        exact Nat.lt_of_lt_of_le c1 (Nat.le_trans c3 c2)
      · rw [if_neg h, if_neg h]
        have c2 := Nat.mul_le_mul_left (2 ^ (24 + 2)) (Nat.mul_le_mul_right (2 ^ ((-150 + (u : Int)) - e).toNat) a2)
        rw [← Nat.pow_add, ← Nat.pow_add] at c2
        have c3 : 2 ^ (bl num) ≤ 2 ^ (24 + 2 + (bl den - 1 + ((-150 + (u : Int)) - e).toNat)) := Nat.pow_le_pow_right (by decide) (by omega)
        exact Nat.lt_of_lt_of_le a1 (Nat.le_trans c3 c2)) (by
      rcases hu2 with hu2 | hu2
      · exact .inl hu2
      · right
        have a1 := bl_ge h0
        have a2 := bl_lt den
        unfold nx dx
        by_cases h : -150 + (u : Int) ≤ e
        · rw [if_pos h, if_pos h]
          have c1 := Nat.mul_le_mul_right (2 ^ (e - (-150 + (u : Int))).toNat) a1
          rw [← Nat.pow_add] at c1
          have c2 := Nat.mul_le_mul_left (2 ^ 23) (Nat.le_of_lt a2)
          rw [← Nat.pow_add] at c2
          have c3 : 2 ^ (23 + bl den) ≤ 2 ^ (bl num - 1 + (e - (-150 + (u : Int))).toNat) := Nat.pow_le_pow_right (by decide) (by omega)
          exact Nat.le_trans c2 (Nat.le_trans c3 c1)
        · rw [if_neg h, if_neg h]
          have c2 := Nat.mul_le_mul_left (2 ^ 23) (Nat.mul_le_mul_right (2 ^ ((-150 + (u : Int)) - e).toNat) (Nat.le_of_lt a2))
          rw [← Nat.pow_add, ← Nat.pow_add] at c2
          have c3 : 2 ^ (23 + (bl den + ((-150 + (u : Int)) - e).toNat)) ≤ 2 ^ (bl num - 1) := Nat.pow_le_pow_right (by decide) (by omega)
          exact Nat.le_trans c2 (Nat.le_trans c3 a1))
    refine ⟨I, hR, ?_⟩
    refine Ev.congr (f := fun k => (real_nat_bits.f k (D num)).bind fun t180 => (real_nat_bits.f k (D den)).bind fun t181 => real_rounded.l0 k (D num) e (D den) (mx (-150) (wrap64 (wrap64 (wrap64 (wrap64 (t180 - t181) + e) - 24) - 1)))) (fun k => by unfold real_rounded.f; rw [if_neg (by omega)]) ?_
    refine Ev.bind (bits_ev sn) (Ev.bind (bits_ev sd) ?_)
    rw [w1, w2, w3, w4, hu]
    exact hE
end Go.Proofs.YteigbokklclmbaaGreatDoor.M
end
section
namespace Go.Proofs.YteigbokklclmbaaGreatDoor.Z.Y.V
open Go.RowKit Go.Proofs.YteigbokklclmbaaGreatDoor.Given Go.Proofs.YteigbokklclmbaaGreatDoorW.PrintWords Go.Proofs.YteigbokklclmbaaGreatDoorW.PrintLast Go.Proofs.YteigbokklclmbaaGreatDoorW.PrintMore
attribute [local go_sem] max2_int min2_int max_two min_two max_three min_three max_four min_four

def manorboyref02_half.j0 : Nat → Int → Int → Int → Option (List Int)
 | 0, _, _, _ => none
 | k + 1, x4, x140000, x140001 => (manorboyref02_Small.f k (wrap64 ((wrap64 (2 * x140000)) + 1))).bind fun t140 => ((manorboyref02_Two.f (wrap64 (x4 + 150))).bind fun t143 => ((manorboyref02_Nat_Mul.f k t140 t143).bind fun t146 => (some t146)))
def manorboyref02_half.f (k : Nat) (a0 : Int) : Option (List Int) := (manorboyref02_At.f k a0).bind fun bt137 => (if a0 = 0 then (manorboyref02_half.j0 k (-150) bt137.1 bt137.2) else (manorboyref02_half.j0 k bt137.2 bt137.1 bt137.2))
theorem manorboyref02_half.calls (k : Nat) (a0 : Int) (r : List Int) (w : World) (h : manorboyref02_half.f k a0 = some r) :
  Calls Tryz.prog 108 #[.int .i64 a0] w fun e w' => ∃ v0_ : Value, e = .returned (v0_) ∧ Kd.R (Kd.int .i64) 3 w' w.heap.size (fun _ => True) v0_ r ∧ Below w.heap.size w w' := by
 have hu23 := Tryz.underlying23
 have HB := Aside0.mk (Below.refl w.heap.size w)
 have H := h; unfold manorboyref02_half.f at H; clear h
 replace H := Option.bind_eq_some_iff.mp H
 obtain ⟨⟨t137, t138⟩, A20, H⟩ := H
 try dsimp only at H
 have A2 := Aside0.mk A20
 clear A20
 have HC3 := Aside0.mk H
 clear H
 go_enter Tryz.func108, Tryz.ntmps108
 go_upto_if 10 with (first | ((with_reducible refine gate_callee (f := 56) rfl ?_); refine gL 6 Tryz.func56 #[.int .i64 a0] ?_; (with_reducible refine (manorboyref02_At.calls k a0 t137 t138 _ A2.out).mono ?_); rintro e w4 ⟨rfl, hb⟩; refine ⟨_, rfl, ?_⟩; replace HB := bs hb; (try clear hb); (try clear hk)) | ((with_reducible refine gate_dst (N := 3) rfl ?_); refine bxe 3 #[.int .i64 0, .int .i64 0] 23 ?_; intro gb139 hg w5 hbox hb; have BK139 := Aside0.mk hbox; have GW139 := ge hg; have GE139 := ge hg; replace HB := bs hb; clear hb hbox hg; have hcz6_0 := c20 BK139; have hcz6_1 := c21 BK139; have hfz6_0 := blk_frozen BK139.out 0; have hfz6_1 := blk_frozen BK139.out 1))
 (try simp only [Act.put, List.setIfInBounds_toArray, List.set_cons_zero, List.set_cons_succ])
 go_cut [4] (fun v4 wc => ∃ (kq : Nat) (x4_2 : Int), v4 = .int .i64 x4_2 ∧ Aside0 (manorboyref02_half.j0 kq x4_2 t137 t138 = some r) ∧ Aside0 (kq ≤ k) ∧ Aside0 (wc.heap[gb139]? = some (.cells #[.int .i64 t137, .int .i64 t138] 23 (0, 0))) ∧ Aside0 (Below w.heap.size w wc))
 case first => as_aux_lemma =>
  have H := HC3.out
  clear HC3
  by_cases c7 : a0 = 0
  ·rw [if_pos c7] at H
   have c7b0 : (a0 == 0) = true := beq_iff_eq.mpr c7
   have c7b1 : (a0 != 0) = false := bne_eq_false_iff_eq.mpr c7
   clear c7
   (first | rw [c7b0] | (simp only [i64_w, i32_w]; rw [c7b0]) | skip)
   have H' := Aside0.mk H
   clear H
   go_wp2
   go_meet
   case rel => exact ⟨_, ((-150)), (by first | rfl | (simp; done) | (simp [*]; done)), H', ⟨by first | omega | exact Nat.le_refl _⟩, ⟨by (with_reducible repeat (first | refine blk_drewN ?_ _ | refine blk_drew ?_ | refine blk_alloc ?_ _)); refine blk_put (cs := #[.int .i64 t137, .int .i64 0]) ?_ 1 _ rfl; (with_reducible repeat (first | refine blk_drewN ?_ _ | refine blk_drew ?_ | refine blk_alloc ?_ _)); refine blk_put (cs := #[.int .i64 0, .int .i64 0]) ?_ 0 _ rfl; (with_reducible repeat (first | refine blk_drewN ?_ _ | refine blk_drew ?_ | refine blk_alloc ?_ _)); exact BK139.out⟩, ⟨bz⟩⟩
  ·rw [if_neg c7] at H
   have c7b0 : (a0 == 0) = false := beq_eq_false_iff_ne.mpr c7
   have c7b1 : (a0 != 0) = true := bne_iff_ne.mpr c7
   (first | rw [c7b0] | (simp only [i64_w, i32_w]; rw [c7b0]) | skip)
   have H' := Aside0.mk H
   clear H
   go_wp2
   go_meet
   case rel => exact ⟨_, (t138), (by first | rfl | (simp; done) | (simp [*]; done)), H', ⟨by first | omega | exact Nat.le_refl _⟩, ⟨by (with_reducible repeat (first | refine blk_drewN ?_ _ | refine blk_drew ?_ | refine blk_alloc ?_ _)); refine blk_put (cs := #[.int .i64 t137, .int .i64 0]) ?_ 1 _ rfl; (with_reducible repeat (first | refine blk_drewN ?_ _ | refine blk_drew ?_ | refine blk_alloc ?_ _)); refine blk_put (cs := #[.int .i64 0, .int .i64 0]) ?_ 0 _ rfl; (with_reducible repeat (first | refine blk_drewN ?_ _ | refine blk_drew ?_ | refine blk_alloc ?_ _)); exact BK139.out⟩, ⟨bz⟩⟩
 case rest => as_aux_lemma =>
  clear HC3
  try clear c7
  try clear c7b0
  try clear c7b1
  try clear hcz6_0
  try clear hcz6_1
  try clear hfz6_0
  try clear hfz6_1
  obtain ⟨kq, x4_2, rfl, HA, HJ2, BK139, HB⟩ := hcut
  cases kq with
  | zero => exact absurd HA.out (by simp [manorboyref02_half.j0])
  | succ kj2 =>
   have H := HA.out
   clear HA
   simp only [manorboyref02_half.j0] at H
   replace H := Option.bind_eq_some_iff.mp H
   obtain ⟨t140, A80, H⟩ := H
   try dsimp only at H
   have A8 := Aside0.mk A80
   clear A80
   replace H := Option.bind_eq_some_iff.mp H
   obtain ⟨t143, A90, H⟩ := H
   try dsimp only at H
   have A9 := Aside0.mk A90
   clear A90
   replace H := Option.bind_eq_some_iff.mp H
   obtain ⟨t146, A100, H⟩ := H
   try dsimp only at H
   have A10 := Aside0.mk A100
   clear A100
   obtain rfl := Option.some.inj H
   have hcz11_0 := c20 BK139
   have hcz11_1 := c21 BK139
   have hfz11_0 := blk_frozen BK139.out 0
   have hfz11_1 := blk_frozen BK139.out 1
   go_wp2_with (first | ((with_reducible refine gate_callee (f := 85) rfl ?_); refine gL 15 Tryz.func85 #[.int .i64 (wrap64 ((wrap64 (2 * t137)) + 1))] ?_; (with_reducible refine (manorboyref02_Small.calls kj2 (wrap64 ((wrap64 (2 * t137)) + 1)) t140 _ A8.out).mono ?_); rintro e w12 ⟨v141, rfl, ho0, hb⟩; refine ⟨_, rfl, ?_⟩; have HO142 := Aside0.mk (Kd.R_lower ho0 (below_size bz)); replace BK139 := kb BK139 hb; replace HB := bs hb; (try clear hb); (try clear hk); (try clear ho0)) | ((with_reducible refine gate_callee (f := 107) rfl ?_); refine gL 18 Tryz.func107 #[.int .i64 (wrap64 (x4_2 + 150))] ?_; (with_reducible refine (manorboyref02_Two.calls (wrap64 (x4_2 + 150)) t143 _ A9.out).mono ?_); rintro e w13 ⟨v144, rfl, ho0, hb⟩; refine ⟨_, rfl, ?_⟩; have HO145 := Aside0.mk (Kd.R_lower (Kd.R_new' ho0 (Kd.R_lt (rz HO142))) (below_size bz)); replace HO142 := Aside0.mk (Kd.R_elder' (rz HO142) (Kd.R_base ho0) hb); replace BK139 := kb BK139 hb; replace HB := bs hb; (try clear hb); (try clear hk); (try clear ho0); obtain ⟨Ao14, co14, eo14⟩ := Kd.R_slice HO142.out; subst eo14; obtain ⟨Ao15, co15, eo15⟩ := Kd.R_slice HO145.out; subst eo15) | ((with_reducible refine gate_callee (f := 86) rfl ?_); refine gL 19 Tryz.func86 #[.slice Ao14 t140.length co14, .slice Ao15 t143.length co15] ?_; (with_reducible refine (manorboyref02_Nat_Mul.calls kj2 _ _ t140 _ _ t143 t146 _ ?side1 ?side2 ?side3 ?side4 A10.out).mono ?_); (case side1 => exact ccz (Kd.R_reads' HO142.out).2.2); (case side2 => exact (Kd.R_reads' HO142.out).2.1); (case side3 => exact ccz (Kd.R_reads' HO145.out).2.2); (case side4 => exact (Kd.R_reads' HO145.out).2.1); rintro e w16 ⟨v147, rfl, ho0, hb⟩; refine ⟨_, rfl, ?_⟩; have HO148 := Aside0.mk (Kd.R_lower (Kd.R_new' (Kd.R_new' ho0 (Kd.R_lt (rz HO142))) (Kd.R_lt (rz HO145))) (below_size bz)); replace HO142 := Aside0.mk (Kd.R_elder' (rz HO142) (Kd.R_base ho0) hb); replace HO145 := Aside0.mk (Kd.R_elder' (rz HO145) (Kd.R_base ho0) hb); replace BK139 := kb BK139 hb; replace HB := bs hb; (try clear hb); (try clear hk); (try clear ho0)))
   go_ret
   exact ⟨_, by first | rfl | (simp [errW_none, errW_some] <;> rfl) | (simp [*, errW_none, errW_some] <;> rfl), by (with_reducible repeat (first | apply Kd.R_alloc | apply Kd.R_drewN | apply Kd.R_drew)); exact Kd.R_mono HO148.out (fun _ hk => trivial), bz⟩

end Go.Proofs.YteigbokklclmbaaGreatDoor.Z.Y.V
end
section
namespace Go.Proofs.YteigbokklclmbaaGreatDoor.Given
open Go
theorem field23_0 (a b : Int) (w : World) : Sem.run Tryz.prog (Instr.field 23 (Value.agg #[Value.int .i64 a, Value.int .i64 b]) 0) w = .ok (Value.int .i64 a) w := by kernel_rfl
theorem field23_1 (a b : Int) (w : World) : Sem.run Tryz.prog (Instr.field 23 (Value.agg #[Value.int .i64 a, Value.int .i64 b]) 1) w = .ok (Value.int .i64 b) w := by kernel_rfl
theorem field50_0 (a b : Int) (c : Bool) (w : World) : Sem.run Tryz.prog (Instr.field 50 (Value.agg #[Value.int .i64 a, Value.int .i64 b, Value.bool c]) 0) w = .ok (Value.agg #[Value.int .i64 a, Value.int .i64 b]) w := by kernel_rfl
theorem field50_1 (a b : Int) (c : Bool) (w : World) : Sem.run Tryz.prog (Instr.field 50 (Value.agg #[Value.int .i64 a, Value.int .i64 b, Value.bool c]) 1) w = .ok (Value.bool c) w := by kernel_rfl
end Go.Proofs.YteigbokklclmbaaGreatDoor.Given
end
section
namespace Go.Proofs.YteigbokklclmbaaGreatDoor.Z.Y.V
open Go.RowKit Go.Proofs.YteigbokklclmbaaGreatDoor.Given Go.Proofs.YteigbokklclmbaaGreatDoorW.PrintWords Go.Proofs.YteigbokklclmbaaGreatDoorW.PrintLast Go.Proofs.YteigbokklclmbaaGreatDoorW.PrintMore
attribute [local go_sem] max2_int min2_int max_two min_two max_three min_three max_four min_four
attribute [local go_sem high] field23_0 field23_1

mutual
def manorboyref02_Quotient_Round.l0 : Nat → List Int → Int → Int → Bool → List Int → List Int → Option (Int × Int × Bool)
 | 0, _, _, _, _, _, _ => none
 | k + 1, x3, x4, x5, x150000, x150001, x150002 => if x4 < x5 then ((manorboyref02_half.f k (wrap64 (Int.tdiv (wrap64 (x4 + x5)) 2))).bind fun t157 => ((manorboyref02_Nat_Mul.f k t157 x150002).bind fun t160 => ((manorboyref02_Nat_Cmp.f k t160 x3).bind fun t163 => (if t163 ≥ 0 then (manorboyref02_Quotient_Round.l0 k x3 x4 (wrap64 (Int.tdiv (wrap64 (x4 + x5)) 2)) x150000 x150001 x150002) else (manorboyref02_Quotient_Round.l0 k x3 (wrap64 ((wrap64 (Int.tdiv (wrap64 (x4 + x5)) 2)) + 1)) x5 x150000 x150001 x150002))))) else (if x4 > 2533359615 then (some (0, 0, false)) else ((manorboyref02_half.f k x4).bind fun t164 => ((manorboyref02_Nat_Mul.f k t164 x150002).bind fun t167 => ((manorboyref02_Nat_Cmp.f k t167 x3).bind fun t170 => (if t170 = 0 then ((manorboyref02_At.f k x4).bind fun bt171 => (manorboyref02_Quotient_Round.j1 k x4 ((Int.tmod bt171.1 2) != 0) x150000 x150001 x150002)) else (manorboyref02_Quotient_Round.j1 k x4 false x150000 x150001 x150002))))))
def manorboyref02_Quotient_Round.j1 : Nat → Int → Bool → Bool → List Int → List Int → Option (Int × Int × Bool)
 | 0, _, _, _, _, _ => none
 | k + 1, x4, x47, x150000, x150001, x150002 => if x47 = true then (manorboyref02_Quotient_Round.j2 k (wrap64 (x4 + 1)) x150000 x150001 x150002) else (manorboyref02_Quotient_Round.j2 k x4 x150000 x150001 x150002)
def manorboyref02_Quotient_Round.j2 : Nat → Int → Bool → List Int → List Int → Option (Int × Int × Bool)
 | 0, _, _, _, _ => none
 | k + 1, x4, x150000, x150001, x150002 => if x4 > 2533359615 then (some (0, 0, false)) else ((manorboyref02_At.f k x4).bind fun bt173 => (if x150000 = true then ((manorboyref02_At.f k (wrap64 (-x4))).bind fun bt176 => (some (bt176.1, bt176.2, true))) else (some (bt173.1, bt173.2, true))))
end
def manorboyref02_Quotient_Round.f (k : Nat) (a0_0 : Bool) (l0_1 : List Int) (l0_2 : List Int) : Option (Int × Int × Bool) := (manorboyref02_Two.f 151).bind fun t151 => ((manorboyref02_Nat_Mul.f k l0_1 t151).bind fun t154 => (manorboyref02_Quotient_Round.l0 k t154 0 2533359616 a0_0 l0_1 l0_2))
def manorboyref02_Quotient_Round.T6 : Bool × List (List Nat × List Nat) := (true, [([], []), ([0], [0]), ([], []), ([2], [2]), ([1, 3, 1], [1, 3]), ([], []), ([4, 5, 4], [4, 5]), ([6], [6])])
def manorboyref02_Quotient_Round.B6 : List Nat := [0, 1, 0, 4, 15, 0, 63, 127]
theorem manorboyref02_Quotient_Round.tab6 : rtab .any (opsOf Tryz.f88 6) = manorboyref02_Quotient_Round.T6 := by kernel_rfl
theorem manorboyref02_Quotient_Round.bits6 : waitsOk manorboyref02_Quotient_Round.T6.2 manorboyref02_Quotient_Round.B6 = true := by kernel_rfl
def manorboyref02_Quotient_Round.T11 : Bool × List (List Nat × List Nat) := (true, [([], []), ([0], [0]), ([], []), ([2], [2]), ([1, 3, 1], [1, 3]), ([], []), ([4, 5, 4], [4, 5]), ([6], [6]), ([7, 6], [7]), ([8], [8]), ([9, 8, 8], [8, 9]), ([10, 8], [8, 10]), ([11, 8], [8, 11]), ([12, 8], [8, 12]), ([8, 13], [8, 13])])
def manorboyref02_Quotient_Round.B11 : List Nat := [0, 1, 0, 4, 15, 0, 63, 127, 255, 511, 1023, 2047, 4095, 8191, 16383]
theorem manorboyref02_Quotient_Round.tab11 : rtab .any (opsOf Tryz.f88 11) = manorboyref02_Quotient_Round.T11 := by kernel_rfl
theorem manorboyref02_Quotient_Round.bits11 : waitsOk manorboyref02_Quotient_Round.T11.2 manorboyref02_Quotient_Round.B11 = true := by kernel_rfl
theorem manorboyref02_Quotient_Round.calls (k : Nat) (a0_0 : Bool) (A0_1 : Option Addr) (c0_1 : Nat) (l0_1 : List Int) (A0_2 : Option Addr) (c0_2 : Nat) (l0_2 : List Int) (r1 : Int) (r2 : Int) (r3 : Bool) (w : World) (hr0_1 : Kd.C (Kd.int .i64) w A0_1 l0_1.length l0_1) (hc0_1 : l0_1.length ≤ c0_1) (hr0_2 : Kd.C (Kd.int .i64) w A0_2 l0_2.length l0_2) (hc0_2 : l0_2.length ≤ c0_2) (h : manorboyref02_Quotient_Round.f k a0_0 l0_1 l0_2 = some (r1, r2, r3)) :
  Calls Tryz.prog 88 #[.agg #[.bool a0_0, .slice A0_1 l0_1.length c0_1, .slice A0_2 l0_2.length c0_2]] w fun e w' => e = .returned (.agg #[.int .i64 r1, .int .i64 r2, .bool r3]) ∧ Below w.heap.size w w' := by
 have hu102 := Tryz.underlying102
 have hu50 := Tryz.underlying50
 have hu23 := Tryz.underlying23
 have HR0_1 := Aside0.mk hr0_1
 have HC0_1 := Aside0.mk hc0_1
 clear hr0_1 hc0_1
 have HR0_2 := Aside0.mk hr0_2
 have HC0_2 := Aside0.mk hc0_2
 clear hr0_2 hc0_2
 have HB := Aside0.mk (Below.refl w.heap.size w)
 have H := h; unfold manorboyref02_Quotient_Round.f at H; clear h
 replace H := Option.bind_eq_some_iff.mp H
 obtain ⟨t151, A20, H⟩ := H
 try dsimp only at H
 have A2 := Aside0.mk A20
 clear A20
 replace H := Option.bind_eq_some_iff.mp H
 obtain ⟨t154, A30, H⟩ := H
 try dsimp only at H
 have A3 := Aside0.mk A30
 clear A30
 have H' := Aside0.mk H
 clear H
 go_enter Tryz.func88, Tryz.ntmps88
 try go_wp2_with (first | ((with_reducible refine gate_dst (N := 1) rfl ?_); refine bxe 1 #[.bool a0_0, .slice A0_1 l0_1.length c0_1, .slice A0_2 l0_2.length c0_2] 102 ?_; intro gb149 hg w4 hbox hb; have BK149 := Aside0.mk hbox; have GW149 := ge hg; have GE149 := ge hg; replace HB := bs hb; clear hb hbox hg) | ((with_reducible refine gate_dst (N := 2) rfl ?_); refine bxe 2 #[.int .i64 0, .int .i64 0, .bool false] 50 ?_; intro gb150 hg w5 hbox hb; have BK150 := Aside0.mk hbox; have GW150 := ge hg; have GE150 := ge hg; have NB149_150 := nl BK149 hg; have NB150_149 := nr BK149 hg; replace BK149 := kb BK149 hb; replace HB := bs hb; clear hb hbox hg))
 replace BK149 := Aside0.mk (blk_drew BK149.out)
 replace BK150 := Aside0.mk (blk_drew BK150.out)
 replace HB := Aside0.mk (below_drew1 HB.out)
 refine start_ (n := 5) (S := fun w' => w'.cell? ⟨gb149, 0, none⟩ = some (.bool a0_0) ∧ w'.cell? ⟨gb149, 1, none⟩ = some (.slice A0_1 l0_1.length c0_1) ∧ w'.cell? ⟨gb149, 2, none⟩ = some (.slice A0_2 l0_2.length c0_2)) (ds := []) #[ff,ff,ff,ff,ff] (by kernel_rfl) rfl rfl ⟨bc 0 BK149, bc 1 BK149, bc 2 BK149⟩ (fun hHeld => ?_)
 generalize w5.drew = w6 at BK149 BK150 HB hHeld ⊢
 refine pure_ (i := 0) (N := some 8) (v := ?_) (a' := ?_) #[true, false, false, false, false] rfl rfl (by kernel_rfl) (fun _ _ _ h => h) (Or.inl ⟨by rfl, ?_⟩) ?_ ?_
 rotate_left
 ·intro w'
  go_simp
  with_reducible rfl
 rotate_left
 ·simp only [Act.put, List.setIfInBounds_toArray, List.set_cons_zero, List.set_cons_succ, i64_w, i32_w]
  rfl
 refine take_ (i := 1) (N := some 9) (v := ?_) (a' := ?_) #[true, true, false, false, false] rfl rfl (by kernel_rfl) (fun _ _ _ h => h) (Or.inl ⟨by rfl, ?_⟩) hHeld ?_ ?_
 rotate_left
 ·rintro w' ⟨s0, s1, s2⟩
  go_simp
  with_reducible rfl
 rotate_left
 ·simp only [Act.put, List.setIfInBounds_toArray, List.set_cons_zero, List.set_cons_succ, i64_w, i32_w]
  rfl
 refine one_ (i := 2) (N := some 10) #[true, true, true, false, false] rfl rfl (by kernel_rfl) (by decide) (fun K hK => ?_)
 refine goes_ Tryz.func107 (by kernel_rfl) rfl #[.int .i64 151] (by rfl) rfl rfl az ?_
 with_reducible refine (manorboyref02_Two.calls 151 t151 _ A2.out).mono ?_
 rintro e w7 ⟨v152, rfl, ho0, hb⟩
 refine ⟨_, rfl, ?_⟩
 have HO153 := Aside0.mk (Kd.R_lower ho0 (below_size bz))
 replace BK149 := kb BK149 hb
 replace BK150 := kb BK150 hb
 replace HB := bs hb
 (try clear hb)
 (try clear hk)
 (try clear ho0)
 obtain ⟨Ao8, co8, eo8⟩ := Kd.R_slice HO153.out
 (first | subst eo8 | (injection eo8 with f1_ f2_ f3_; have f4_ := f1_.symm; have f5_ := f3_.symm; clear f1_ f2_ f3_; subst f4_; subst f5_))
 refine hK.out _ _ ⟨bc 0 BK149, bc 1 BK149, bc 2 BK149⟩ (fun hHeld => ?_)
 clear hK K
 refine nrm (some 10) ?_
 refine one_ (i := 3) (N := some 11) #[true, true, true, true, false] rfl rfl (by kernel_rfl) (by decide) (fun K hK => ?_)
 refine goes_ Tryz.func86 (by kernel_rfl) rfl #[.slice A0_1 l0_1.length c0_1, .slice Ao8 t151.length co8] (by rfl) rfl rfl az ?_
 with_reducible refine (manorboyref02_Nat_Mul.calls k _ _ l0_1 _ _ t151 t154 _ ?side1 ?side2 ?side3 ?side4 A3.out).mono ?_
 (case side1 => exact ccz (Kd.C_below HR0_1.out HB.out))
 (case side2 => exact HC0_1.out)
 (case side3 => exact ccz (Kd.R_reads' HO153.out).2.2)
 (case side4 => exact (Kd.R_reads' HO153.out).2.1)
 rintro e w9 ⟨v155, rfl, ho0, hb⟩
 refine ⟨_, rfl, ?_⟩
 have HO156 := Aside0.mk (Kd.R_lower (Kd.R_new' ho0 (Kd.R_lt (rz HO153))) (below_size bz))
 replace HO153 := Aside0.mk (Kd.R_elder' (rz HO153) (Kd.R_base ho0) hb)
 replace BK149 := kb BK149 hb
 replace BK150 := kb BK150 hb
 replace HB := bs hb
 (try clear hb)
 (try clear hk)
 (try clear ho0)
 refine hK.out _ _ ⟨bc 0 BK149, bc 1 BK149, bc 2 BK149⟩ (fun hHeld => ?_)
 clear hK K
 refine nrm (some 11) ?_
 refine pure_ (i := 4) (N := some 3) (v := ?_) (a' := ?_) #[true, true, true, true, true] rfl rfl (by kernel_rfl) (fun _ _ _ h => h) (Or.inl ⟨by rfl, ?_⟩) ?_ ?_
 rotate_left
 ·intro w'
  go_simp
  with_reducible rfl
 rotate_left
 ·simp only [Act.put, List.setIfInBounds_toArray, List.set_cons_zero, List.set_cons_succ, i64_w, i32_w]
  rfl
 refine done_ (by kernel_rfl) ?_
 try go_wp2
 go_loopg [4, 5] k (fun kq v4 v5 w' => ∃ (x4_1 : Int) (x5_1 : Int), v4 = .int .i64 x4_1 ∧ v5 = .int .i64 x5_1 ∧ Aside0 (manorboyref02_Quotient_Round.l0 kq t154 x4_1 x5_1 a0_0 l0_1 l0_2 = some (r1, r2, r3)) ∧ Aside0 (kq ≤ k) ∧ Aside0 (Kd.R (Kd.int .i64) 3 w' w.heap.size (fun _ => True) v155 t154) ∧ Aside0 (w'.heap[gb149]? = some (.cells #[.bool a0_0, (.slice A0_1 l0_1.length c0_1), (.slice A0_2 l0_2.length c0_2)] 102 (0, 0))) ∧ Aside0 (w'.heap[gb150]? = some (.cells #[.int .i64 0, .int .i64 0, .bool false] 50 (0, 0))) ∧ Aside0 (Below w.heap.size w w'))
 case atStart => exact ⟨(0), (2533359616), (by first | rfl | (simp; done) | (simp [*]; done)), (by first | rfl | (simp; done) | (simp [*]; done)), H', ⟨Nat.le_refl _⟩, ⟨by (with_reducible repeat (first | apply Kd.R_alloc | apply Kd.R_drewN | apply Kd.R_drew)); exact Kd.R_mono HO156.out (fun _ hk => trivial)⟩, ⟨kz BK149⟩, ⟨kz BK150⟩, ⟨bz⟩⟩
 case round =>
  clear H'
  obtain ⟨x4_1, x5_1, rfl, rfl, HA, HK1, HO_3, BK149, BK150, HB⟩ := hrel
  cases gk with
  | zero => exact absurd HA.out (by simp [manorboyref02_Quotient_Round.l0])
  | succ k1 =>
   have H := HA.out
   clear HA
   simp only [manorboyref02_Quotient_Round.l0] at H
   by_cases c10 : x4_1 < x5_1
   ·rw [if_pos c10] at H
    have c10b0 : decide (x4_1 < x5_1) = true := decide_eq_true c10
    clear c10
    replace H := Option.bind_eq_some_iff.mp H
    obtain ⟨t157, A110, H⟩ := H
    try dsimp only at H
    have A11 := Aside0.mk A110
    clear A110
    replace H := Option.bind_eq_some_iff.mp H
    obtain ⟨t160, A120, H⟩ := H
    try dsimp only at H
    have A12 := Aside0.mk A120
    clear A120
    replace H := Option.bind_eq_some_iff.mp H
    obtain ⟨t163, A130, H⟩ := H
    try dsimp only at H
    have A13 := Aside0.mk A130
    clear A130
    try go_wp2
    replace HO_3 := Aside0.mk (Kd.R_drew HO_3.out)
    replace BK149 := Aside0.mk (blk_drew BK149.out)
    replace BK150 := Aside0.mk (blk_drew BK150.out)
    replace HB := Aside0.mk (below_drew1 HB.out)
    refine start_ (n := 8) (S := fun w' => w'.cell? ⟨gb149, 0, none⟩ = some (.bool a0_0) ∧ w'.cell? ⟨gb149, 1, none⟩ = some (.slice A0_1 l0_1.length c0_1) ∧ w'.cell? ⟨gb149, 2, none⟩ = some (.slice A0_2 l0_2.length c0_2)) (ds := []) #[ff,ff,ff,ff,ff,ff,ff,ff] (by kernel_rfl) rfl rfl ⟨bc 0 BK149, bc 1 BK149, bc 2 BK149⟩ (fun hHeld => ?_); refine with_tabW manorboyref02_Quotient_Round.tab6 manorboyref02_Quotient_Round.bits6 (fun HT_ HW_ => ?_)
    generalize wr.drew = w15 at HO_3 BK149 BK150 HB hHeld ⊢
    refine pur 0 (some 19) #[tt,ff,ff,ff,ff,ff,ff,ff] ?_
    refine pur 2 (some 21) #[tt,ff,tt,ff,ff,ff,ff,ff] ?_
    refine pur 5 (some 24) #[tt,ff,tt,ff,ff,tt,ff,ff] ?_
    refine take_ (i := 3) (N := some 22) (v := ?_) (a' := ?_) #[true, false, true, true, false, true, false, false] rfl rfl (take_ofW HT_.out HW_.out (by kernel_rfl)) (fun _ _ _ h => h) (Or.inl ⟨by rfl, ?_⟩) hHeld ?_ ?_
    rotate_left
    ·rintro w' ⟨s0, s1, s2⟩
     go_simp
     with_reducible rfl
    rotate_left
    ·simp only [Act.put, List.setIfInBounds_toArray, List.set_cons_zero, List.set_cons_succ, i64_w, i32_w]
     rfl
    refine on1 1 (some 20) #[tt,tt,tt,tt,ff,tt,ff,ff] (fun K hK => ?_)
    refine goes_ Tryz.func108 (by kernel_rfl) rfl #[.int .i64 (wrap64 (Int.tdiv (wrap64 (x4_1 + x5_1)) 2))] (by rfl) rfl rfl az ?_
    with_reducible refine (manorboyref02_half.calls k1 (wrap64 (Int.tdiv (wrap64 (x4_1 + x5_1)) 2)) t157 _ A11.out).mono ?_
    rintro e w16 ⟨v158, rfl, ho0, hb⟩
    refine ⟨_, rfl, ?_⟩
    have HO159 := Aside0.mk (Kd.R_lower (Kd.R_new' ho0 (Kd.R_lt (rz HO_3))) (below_size bz))
    replace HO_3 := Aside0.mk (Kd.R_elder' (rz HO_3) (Kd.R_base ho0) hb)
    replace BK149 := kb BK149 hb
    replace BK150 := kb BK150 hb
    replace HB := bs hb
    (try clear hb)
    (try clear hk)
    (try clear ho0)
    obtain ⟨Ao17, co17, eo17⟩ := Kd.R_slice HO159.out
    (first | subst eo17 | (injection eo17 with f1_ f2_ f3_; have f4_ := f1_.symm; have f5_ := f3_.symm; clear f1_ f2_ f3_; subst f4_; subst f5_))
    refine hK.out _ _ ⟨bc 0 BK149, bc 1 BK149, bc 2 BK149⟩ (fun hHeld => ?_)
    clear hK K
    refine nrm (some 20) ?_
    refine on1 4 (some 23) #[tt,tt,tt,tt,tt,tt,ff,ff] (fun K hK => ?_)
    refine goes_ Tryz.func86 (by kernel_rfl) rfl #[.slice Ao17 t157.length co17, .slice A0_2 l0_2.length c0_2] (by rfl) rfl rfl az ?_
    with_reducible refine (manorboyref02_Nat_Mul.calls k1 _ _ t157 _ _ l0_2 t160 _ ?side1 ?side2 ?side3 ?side4 A12.out).mono ?_
    (case side1 => exact ccz (Kd.R_reads' HO159.out).2.2)
    (case side2 => exact (Kd.R_reads' HO159.out).2.1)
    (case side3 => exact ccz (Kd.C_below HR0_2.out HB.out))
    (case side4 => exact HC0_2.out)
    rintro e w18 ⟨v161, rfl, ho0, hb⟩
    refine ⟨_, rfl, ?_⟩
    have HO162 := Aside0.mk (Kd.R_lower (Kd.R_new' (Kd.R_new' ho0 (Kd.R_lt (rz HO_3))) (Kd.R_lt (rz HO159))) (below_size bz))
    replace HO_3 := Aside0.mk (Kd.R_elder' (rz HO_3) (Kd.R_base ho0) hb)
    replace HO159 := Aside0.mk (Kd.R_elder' (rz HO159) (Kd.R_base ho0) hb)
    replace BK149 := kb BK149 hb
    replace BK150 := kb BK150 hb
    replace HB := bs hb
    (try clear hb)
    (try clear hk)
    (try clear ho0)
    obtain ⟨Ao19, co19, eo19⟩ := Kd.R_slice HO162.out
    (first | subst eo19 | (injection eo19 with f1_ f2_ f3_; have f4_ := f1_.symm; have f5_ := f3_.symm; clear f1_ f2_ f3_; subst f4_; subst f5_))
    obtain ⟨Ao20, co20, eo20⟩ := Kd.R_slice HO_3.out
    (first | subst eo20 | (injection eo20 with f1_ f2_ f3_; have f4_ := f1_.symm; have f5_ := f3_.symm; clear f1_ f2_ f3_; subst f4_; subst f5_))
    refine hK.out _ _ ⟨bc 0 BK149, bc 1 BK149, bc 2 BK149⟩ (fun hHeld => ?_)
    clear hK K
    refine nrm (some 23) ?_
    refine on1 6 (some 25) #[tt,tt,tt,tt,tt,tt,tt,ff] (fun K hK => ?_)
    refine goes_ Tryz.func104 (by kernel_rfl) rfl #[.slice Ao19 t160.length co19, .slice Ao20 t154.length co20] (by rfl) rfl rfl az ?_
    with_reducible refine (manorboyref02_Nat_Cmp.calls k1 _ _ t160 _ _ t154 t163 _ ?side1 ?side2 ?side3 ?side4 A13.out).mono ?_
    (case side1 => exact ccz (Kd.R_reads' HO162.out).2.2)
    (case side2 => exact (Kd.R_reads' HO162.out).2.1)
    (case side3 => exact ccz (Kd.R_reads' HO_3.out).2.2)
    (case side4 => exact (Kd.R_reads' HO_3.out).2.1)
    rintro e w' ⟨rfl, ⟨nd, rfl⟩⟩
    refine ⟨_, rfl, ?_⟩
    refine hK.out _ _ ⟨bc 0 BK149, bc 1 BK149, bc 2 BK149⟩ (fun hHeld => ?_)
    clear hK K
    refine nrm (some 25) ?_
    refine pur 7 (some 26) #[tt,tt,tt,tt,tt,tt,tt,tt] ?_
    refine done_ (done_of HT_.out (by kernel_rfl)) ?_
    by_cases c14 : t163 ≥ 0
    ·rw [if_pos c14] at H
     have c14b0 : decide (0 ≤ t163) = true := decide_eq_true c14
     clear c14
     have H' := Aside0.mk H
     clear H
     (first | rw [c14b0] | (simp only [i64_w, i32_w]; rw [c14b0]) | skip)
     try go_wp2
     go_roundg k1
     case measure => have := HK1.out; omega
     case rel => exact ⟨(x4_1), (wrap64 (Int.tdiv (wrap64 (x4_1 + x5_1)) 2)), (by first | rfl | (simp; done) | (simp [*]; done)), (by first | rfl | (simp; done) | (simp [*]; done)), H', ⟨by have := HK1.out; omega⟩, ⟨by (with_reducible repeat (first | apply Kd.R_alloc | apply Kd.R_drewN | apply Kd.R_drew)); exact Kd.R_mono HO_3.out (fun _ hk => trivial)⟩, ⟨kz BK149⟩, ⟨kz BK150⟩, ⟨bz⟩⟩
    ·rw [if_neg c14] at H
     have c14b0 : decide (0 ≤ t163) = false := decide_eq_false c14
     clear c14
     have H' := Aside0.mk H
     clear H
     (first | rw [c14b0] | (simp only [i64_w, i32_w]; rw [c14b0]) | skip)
     try go_wp2
     go_roundg k1
     case measure => have := HK1.out; omega
     case rel => exact ⟨(wrap64 ((wrap64 (Int.tdiv (wrap64 (x4_1 + x5_1)) 2)) + 1)), (x5_1), (by first | rfl | (simp; done) | (simp [*]; done)), (by first | rfl | (simp; done) | (simp [*]; done)), H', ⟨by have := HK1.out; omega⟩, ⟨by (with_reducible repeat (first | apply Kd.R_alloc | apply Kd.R_drewN | apply Kd.R_drew)); exact Kd.R_mono HO_3.out (fun _ hk => trivial)⟩, ⟨kz BK149⟩, ⟨kz BK150⟩, ⟨bz⟩⟩
   ·rw [if_neg c10] at H
    have c10b0 : decide (x4_1 < x5_1) = false := decide_eq_false c10
    clear c10
    by_cases c27 : x4_1 > 2533359615
    ·rw [if_pos c27] at H
     have c27b0 : decide (2533359615 < x4_1) = true := decide_eq_true c27
     clear c27
     simp only [Option.some.injEq, Prod.mk.injEq] at H
     obtain ⟨rfl, rfl, rfl⟩ := H
     have hnb28 := NB150_149.out
     have hnc28 := NB149_150.out
     have hcz29_0 : wr.cell? ⟨gb150, 0, none⟩ = some (.int .i64 0) := (blk_cell BK150.out 0).trans rfl
     have hcz29_1 : wr.cell? ⟨gb150, 1, none⟩ = some (.int .i64 0) := (blk_cell BK150.out 1).trans rfl
     have hcz29_2 : wr.cell? ⟨gb150, 2, none⟩ = some (.bool false) := (blk_cell BK150.out 2).trans rfl
     have hfz29_0 := blk_frozen BK150.out 0
     have hfz29_1 := blk_frozen BK150.out 1
     have hfz29_2 := blk_frozen BK150.out 2
     go_wp2
     refine bodyPost_ret (results_cell_row rfl _ _ gb150 50 #[.int .i64 0, .int .i64 0, .bool false] (0, 0) _ rfl (by (with_reducible repeat (first | refine blk_drewN ?_ _ | refine blk_drew ?_ | refine blk_alloc ?_ _)); refine blk_put (cs := #[.int .i64 0, .int .i64 0, .bool false]) ?_ 2 _ rfl; (with_reducible repeat (first | refine blk_drewN ?_ _ | refine blk_drew ?_ | refine blk_alloc ?_ _)); refine blk_put (cs := #[.int .i64 0, .int .i64 0, .bool false]) ?_ 1 _ rfl; (with_reducible repeat (first | refine blk_drewN ?_ _ | refine blk_drew ?_ | refine blk_alloc ?_ _)); refine blk_put (cs := #[.int .i64 0, .int .i64 0, .bool false]) ?_ 0 _ rfl; (with_reducible repeat (first | refine blk_drewN ?_ _ | refine blk_drew ?_ | refine blk_alloc ?_ _)); exact BK150.out) Tryz.underlying50 rfl (by kernel_rfl)) rfl ?_
     exact ⟨by first | rfl | (simp [errW_none, errW_some] <;> rfl) | (simp [*, errW_none, errW_some] <;> rfl), bz⟩
    ·rw [if_neg c27] at H
     have c27b0 : decide (2533359615 < x4_1) = false := decide_eq_false c27
     clear c27
     have HC30 := Aside0.mk H
     clear H
     go_upto_region 11 with (fail)
     go_cut [47] (fun v47 wc => ∃ (kq : Nat) (x47_29 : Bool), v47 = .bool x47_29 ∧ Aside0 (manorboyref02_Quotient_Round.j1 kq x4_1 x47_29 a0_0 l0_1 l0_2 = some (r1, r2, r3)) ∧ Aside0 (kq ≤ k1) ∧ Aside0 (wc.heap[gb149]? = some (.cells #[.bool a0_0, (.slice A0_1 l0_1.length c0_1), (.slice A0_2 l0_2.length c0_2)] 102 (0, 0))) ∧ Aside0 (wc.heap[gb150]? = some (.cells #[.int .i64 0, .int .i64 0, .bool false] 50 (0, 0))) ∧ Aside0 (Below w.heap.size w wc))
     case first => as_aux_lemma =>
      have H := HC30.out
      clear HC30
      replace H := Option.bind_eq_some_iff.mp H
      obtain ⟨t164, A310, H⟩ := H
      try dsimp only at H
      have A31 := Aside0.mk A310
      clear A310
      replace H := Option.bind_eq_some_iff.mp H
      obtain ⟨t167, A320, H⟩ := H
      try dsimp only at H
      have A32 := Aside0.mk A320
      clear A320
      replace H := Option.bind_eq_some_iff.mp H
      obtain ⟨t170, A330, H⟩ := H
      try dsimp only at H
      have A33 := Aside0.mk A330
      clear A330
      by_cases c34 : t170 = 0
      ·rw [if_pos c34] at H
       have c34b0 : (t170 == 0) = true := beq_iff_eq.mpr c34
       have c34b1 : (t170 != 0) = false := bne_eq_false_iff_eq.mpr c34
       clear c34
       (first | rw [c34b0] | (simp only [i64_w, i32_w]; rw [c34b0]) | skip)
       replace H := Option.bind_eq_some_iff.mp H
       obtain ⟨⟨t171, t172⟩, A350, H⟩ := H
       try dsimp only at H
       have A35 := Aside0.mk A350
       clear A350
       have H' := Aside0.mk H
       clear H
       try go_wp2
       replace HO_3 := Aside0.mk (Kd.R_drew HO_3.out)
       replace BK149 := Aside0.mk (blk_drew BK149.out)
       replace BK150 := Aside0.mk (blk_drew BK150.out)
       replace HB := Aside0.mk (below_drew1 HB.out)
       refine start_ (n := 15) (S := fun w' => w'.cell? ⟨gb149, 0, none⟩ = some (.bool a0_0) ∧ w'.cell? ⟨gb149, 1, none⟩ = some (.slice A0_1 l0_1.length c0_1) ∧ w'.cell? ⟨gb149, 2, none⟩ = some (.slice A0_2 l0_2.length c0_2)) (ds := []) #[ff,ff,ff,ff,ff,ff,ff,ff,ff,ff,ff,ff,ff,ff,ff] (by kernel_rfl) rfl rfl ⟨bc 0 BK149, bc 1 BK149, bc 2 BK149⟩ (fun hHeld => ?_); refine with_tabW manorboyref02_Quotient_Round.tab11 manorboyref02_Quotient_Round.bits11 (fun HT_ HW_ => ?_)
       generalize wr.drew = w36 at HO_3 BK149 BK150 HB hHeld ⊢
       refine pur 0 (some 33) #[tt,ff,ff,ff,ff,ff,ff,ff,ff,ff,ff,ff,ff,ff,ff] ?_
       refine pur 2 (some 35) #[tt,ff,tt,ff,ff,ff,ff,ff,ff,ff,ff,ff,ff,ff,ff] ?_
       refine pur 5 (some 38) #[tt,ff,tt,ff,ff,tt,ff,ff,ff,ff,ff,ff,ff,ff,ff] ?_
       refine take_ (i := 3) (N := some 36) (v := ?_) (a' := ?_) #[true, false, true, true, false, true, false, false, false, false, false, false, false, false, false] rfl rfl (take_ofW HT_.out HW_.out (by kernel_rfl)) (fun _ _ _ h => h) (Or.inl ⟨by rfl, ?_⟩) hHeld ?_ ?_
       rotate_left
       ·rintro w' ⟨s0, s1, s2⟩
        go_simp
        with_reducible rfl
       rotate_left
       ·simp only [Act.put, List.setIfInBounds_toArray, List.set_cons_zero, List.set_cons_succ, i64_w, i32_w]
        rfl
       refine on1 1 (some 34) #[tt,tt,tt,tt,ff,tt,ff,ff,ff,ff,ff,ff,ff,ff,ff] (fun K hK => ?_)
       refine goes_ Tryz.func108 (by kernel_rfl) rfl #[.int .i64 x4_1] (by rfl) rfl rfl az ?_
       with_reducible refine (manorboyref02_half.calls k1 x4_1 t164 _ A31.out).mono ?_
       rintro e w37 ⟨v165, rfl, ho0, hb⟩
       refine ⟨_, rfl, ?_⟩
       have HO166 := Aside0.mk (Kd.R_lower (Kd.R_new' ho0 (Kd.R_lt (rz HO_3))) (below_size bz))
       replace HO_3 := Aside0.mk (Kd.R_elder' (rz HO_3) (Kd.R_base ho0) hb)
       replace BK149 := kb BK149 hb
       replace BK150 := kb BK150 hb
       replace HB := bs hb
       (try clear hb)
       (try clear hk)
       (try clear ho0)
       obtain ⟨Ao38, co38, eo38⟩ := Kd.R_slice HO166.out
       (first | subst eo38 | (injection eo38 with f1_ f2_ f3_; have f4_ := f1_.symm; have f5_ := f3_.symm; clear f1_ f2_ f3_; subst f4_; subst f5_))
       refine hK.out _ _ ⟨bc 0 BK149, bc 1 BK149, bc 2 BK149⟩ (fun hHeld => ?_)
       clear hK K
       refine nrm (some 34) ?_
       refine on1 4 (some 37) #[tt,tt,tt,tt,tt,tt,ff,ff,ff,ff,ff,ff,ff,ff,ff] (fun K hK => ?_)
       refine goes_ Tryz.func86 (by kernel_rfl) rfl #[.slice Ao38 t164.length co38, .slice A0_2 l0_2.length c0_2] (by rfl) rfl rfl az ?_
       with_reducible refine (manorboyref02_Nat_Mul.calls k1 _ _ t164 _ _ l0_2 t167 _ ?side1 ?side2 ?side3 ?side4 A32.out).mono ?_
       (case side1 => exact ccz (Kd.R_reads' HO166.out).2.2)
       (case side2 => exact (Kd.R_reads' HO166.out).2.1)
       (case side3 => exact ccz (Kd.C_below HR0_2.out HB.out))
       (case side4 => exact HC0_2.out)
       rintro e w39 ⟨v168, rfl, ho0, hb⟩
       refine ⟨_, rfl, ?_⟩
       have HO169 := Aside0.mk (Kd.R_lower (Kd.R_new' (Kd.R_new' ho0 (Kd.R_lt (rz HO_3))) (Kd.R_lt (rz HO166))) (below_size bz))
       replace HO_3 := Aside0.mk (Kd.R_elder' (rz HO_3) (Kd.R_base ho0) hb)
       replace HO166 := Aside0.mk (Kd.R_elder' (rz HO166) (Kd.R_base ho0) hb)
       replace BK149 := kb BK149 hb
       replace BK150 := kb BK150 hb
       replace HB := bs hb
       (try clear hb)
       (try clear hk)
       (try clear ho0)
       obtain ⟨Ao40, co40, eo40⟩ := Kd.R_slice HO169.out
       (first | subst eo40 | (injection eo40 with f1_ f2_ f3_; have f4_ := f1_.symm; have f5_ := f3_.symm; clear f1_ f2_ f3_; subst f4_; subst f5_))
       obtain ⟨Ao41, co41, eo41⟩ := Kd.R_slice HO_3.out
       (first | subst eo41 | (injection eo41 with f1_ f2_ f3_; have f4_ := f1_.symm; have f5_ := f3_.symm; clear f1_ f2_ f3_; subst f4_; subst f5_))
       refine hK.out _ _ ⟨bc 0 BK149, bc 1 BK149, bc 2 BK149⟩ (fun hHeld => ?_)
       clear hK K
       refine nrm (some 37) ?_
       refine on1 6 (some 39) #[tt,tt,tt,tt,tt,tt,tt,ff,ff,ff,ff,ff,ff,ff,ff] (fun K hK => ?_)
       refine goes_ Tryz.func104 (by kernel_rfl) rfl #[.slice Ao40 t167.length co40, .slice Ao41 t154.length co41] (by rfl) rfl rfl az ?_
       with_reducible refine (manorboyref02_Nat_Cmp.calls k1 _ _ t167 _ _ t154 t170 _ ?side1 ?side2 ?side3 ?side4 A33.out).mono ?_
       (case side1 => exact ccz (Kd.R_reads' HO169.out).2.2)
       (case side2 => exact (Kd.R_reads' HO169.out).2.1)
       (case side3 => exact ccz (Kd.R_reads' HO_3.out).2.2)
       (case side4 => exact (Kd.R_reads' HO_3.out).2.1)
       rintro e w' ⟨rfl, ⟨nd, rfl⟩⟩
       refine ⟨_, rfl, ?_⟩
       refine hK.out _ _ ⟨bc 0 BK149, bc 1 BK149, bc 2 BK149⟩ (fun hHeld => ?_)
       clear hK K
       refine nrm (some 39) ?_
       refine pur 7 (some 40) #[tt,tt,tt,tt,tt,tt,tt,tt,ff,ff,ff,ff,ff,ff,ff] ?_
       refine pur 8 (some 41) #[tt,tt,tt,tt,tt,tt,tt,tt,tt,ff,ff,ff,ff,ff,ff] ?_
       refine pur 9 (some 42) #[tt,tt,tt,tt,tt,tt,tt,tt,tt,tt,ff,ff,ff,ff,ff] ?_
       refine on1 10 (some 43) #[tt,tt,tt,tt,tt,tt,tt,tt,tt,tt,tt,ff,ff,ff,ff] (fun K hK => ?_)
       refine goes_ Tryz.func56 (by kernel_rfl) rfl #[.int .i64 x4_1] (by rfl) rfl rfl az ?_
       with_reducible refine (manorboyref02_At.calls k1 x4_1 t171 t172 _ A35.out).mono ?_
       rintro e w42 ⟨rfl, hb⟩
       refine ⟨_, rfl, ?_⟩
       replace HO_3 := rb HO_3 hb
       replace HO166 := rb HO166 hb
       replace HO169 := rb HO169 hb
       replace BK149 := kb BK149 hb
       replace BK150 := kb BK150 hb
       replace HB := bs hb
       (try clear hb)
       (try clear hk)
       refine hK.out _ _ ⟨bc 0 BK149, bc 1 BK149, bc 2 BK149⟩ (fun hHeld => ?_)
       clear hK K
       refine nrm (some 43) ?_
       refine pur 11 (some 44) #[tt,tt,tt,tt,tt,tt,tt,tt,tt,tt,tt,tt,ff,ff,ff] ?_
       refine pur 12 (some 45) #[tt,tt,tt,tt,tt,tt,tt,tt,tt,tt,tt,tt,tt,ff,ff] ?_
       refine pur 13 (some 46) #[tt,tt,tt,tt,tt,tt,tt,tt,tt,tt,tt,tt,tt,tt,ff] ?_
       refine pur 14 (some 47) #[tt,tt,tt,tt,tt,tt,tt,tt,tt,tt,tt,tt,tt,tt,tt] ?_
       refine done_ (done_of HT_.out (by kernel_rfl)) ?_
       try go_wp2
       go_meet
       case rel => exact ⟨_, (((Int.tmod t171 2) != 0)), (by first | rfl | (simp; done) | (simp [*]; done)), H', ⟨by have := HK1.out; first | omega | exact Nat.le_refl _⟩, ⟨kz BK149⟩, ⟨kz BK150⟩, ⟨bz⟩⟩
      ·rw [if_neg c34] at H
       have c34b0 : (t170 == 0) = false := beq_eq_false_iff_ne.mpr c34
       have c34b1 : (t170 != 0) = true := bne_iff_ne.mpr c34
       (first | rw [c34b0] | (simp only [i64_w, i32_w]; rw [c34b0]) | skip)
       have H' := Aside0.mk H
       clear H
       try go_wp2
       replace HO_3 := Aside0.mk (Kd.R_drew HO_3.out)
       replace BK149 := Aside0.mk (blk_drew BK149.out)
       replace BK150 := Aside0.mk (blk_drew BK150.out)
       replace HB := Aside0.mk (below_drew1 HB.out)
       refine start_ (n := 15) (S := fun w' => w'.cell? ⟨gb149, 0, none⟩ = some (.bool a0_0) ∧ w'.cell? ⟨gb149, 1, none⟩ = some (.slice A0_1 l0_1.length c0_1) ∧ w'.cell? ⟨gb149, 2, none⟩ = some (.slice A0_2 l0_2.length c0_2)) (ds := []) #[ff,ff,ff,ff,ff,ff,ff,ff,ff,ff,ff,ff,ff,ff,ff] (by kernel_rfl) rfl rfl ⟨bc 0 BK149, bc 1 BK149, bc 2 BK149⟩ (fun hHeld => ?_); refine with_tabW manorboyref02_Quotient_Round.tab11 manorboyref02_Quotient_Round.bits11 (fun HT_ HW_ => ?_)
       generalize wr.drew = w43 at HO_3 BK149 BK150 HB hHeld ⊢
       refine pur 0 (some 33) #[tt,ff,ff,ff,ff,ff,ff,ff,ff,ff,ff,ff,ff,ff,ff] ?_
       refine pur 2 (some 35) #[tt,ff,tt,ff,ff,ff,ff,ff,ff,ff,ff,ff,ff,ff,ff] ?_
       refine pur 5 (some 38) #[tt,ff,tt,ff,ff,tt,ff,ff,ff,ff,ff,ff,ff,ff,ff] ?_
       refine take_ (i := 3) (N := some 36) (v := ?_) (a' := ?_) #[true, false, true, true, false, true, false, false, false, false, false, false, false, false, false] rfl rfl (take_ofW HT_.out HW_.out (by kernel_rfl)) (fun _ _ _ h => h) (Or.inl ⟨by rfl, ?_⟩) hHeld ?_ ?_
       rotate_left
       ·rintro w' ⟨s0, s1, s2⟩
        go_simp
        with_reducible rfl
       rotate_left
       ·simp only [Act.put, List.setIfInBounds_toArray, List.set_cons_zero, List.set_cons_succ, i64_w, i32_w]
        rfl
       refine on1 1 (some 34) #[tt,tt,tt,tt,ff,tt,ff,ff,ff,ff,ff,ff,ff,ff,ff] (fun K hK => ?_)
       refine goes_ Tryz.func108 (by kernel_rfl) rfl #[.int .i64 x4_1] (by rfl) rfl rfl az ?_
       with_reducible refine (manorboyref02_half.calls k1 x4_1 t164 _ A31.out).mono ?_
       rintro e w44 ⟨v165, rfl, ho0, hb⟩
       refine ⟨_, rfl, ?_⟩
       have HO166 := Aside0.mk (Kd.R_lower (Kd.R_new' ho0 (Kd.R_lt (rz HO_3))) (below_size bz))
       replace HO_3 := Aside0.mk (Kd.R_elder' (rz HO_3) (Kd.R_base ho0) hb)
       replace BK149 := kb BK149 hb
       replace BK150 := kb BK150 hb
       replace HB := bs hb
       (try clear hb)
       (try clear hk)
       (try clear ho0)
       obtain ⟨Ao45, co45, eo45⟩ := Kd.R_slice HO166.out
       (first | subst eo45 | (injection eo45 with f1_ f2_ f3_; have f4_ := f1_.symm; have f5_ := f3_.symm; clear f1_ f2_ f3_; subst f4_; subst f5_))
       refine hK.out _ _ ⟨bc 0 BK149, bc 1 BK149, bc 2 BK149⟩ (fun hHeld => ?_)
       clear hK K
       refine nrm (some 34) ?_
       refine on1 4 (some 37) #[tt,tt,tt,tt,tt,tt,ff,ff,ff,ff,ff,ff,ff,ff,ff] (fun K hK => ?_)
       refine goes_ Tryz.func86 (by kernel_rfl) rfl #[.slice Ao45 t164.length co45, .slice A0_2 l0_2.length c0_2] (by rfl) rfl rfl az ?_
       with_reducible refine (manorboyref02_Nat_Mul.calls k1 _ _ t164 _ _ l0_2 t167 _ ?side1 ?side2 ?side3 ?side4 A32.out).mono ?_
       (case side1 => exact ccz (Kd.R_reads' HO166.out).2.2)
       (case side2 => exact (Kd.R_reads' HO166.out).2.1)
       (case side3 => exact ccz (Kd.C_below HR0_2.out HB.out))
       (case side4 => exact HC0_2.out)
       rintro e w46 ⟨v168, rfl, ho0, hb⟩
       refine ⟨_, rfl, ?_⟩
       have HO169 := Aside0.mk (Kd.R_lower (Kd.R_new' (Kd.R_new' ho0 (Kd.R_lt (rz HO_3))) (Kd.R_lt (rz HO166))) (below_size bz))
       replace HO_3 := Aside0.mk (Kd.R_elder' (rz HO_3) (Kd.R_base ho0) hb)
       replace HO166 := Aside0.mk (Kd.R_elder' (rz HO166) (Kd.R_base ho0) hb)
       replace BK149 := kb BK149 hb
       replace BK150 := kb BK150 hb
       replace HB := bs hb
       (try clear hb)
       (try clear hk)
       (try clear ho0)
       obtain ⟨Ao47, co47, eo47⟩ := Kd.R_slice HO169.out
       (first | subst eo47 | (injection eo47 with f1_ f2_ f3_; have f4_ := f1_.symm; have f5_ := f3_.symm; clear f1_ f2_ f3_; subst f4_; subst f5_))
       obtain ⟨Ao48, co48, eo48⟩ := Kd.R_slice HO_3.out
       (first | subst eo48 | (injection eo48 with f1_ f2_ f3_; have f4_ := f1_.symm; have f5_ := f3_.symm; clear f1_ f2_ f3_; subst f4_; subst f5_))
       refine hK.out _ _ ⟨bc 0 BK149, bc 1 BK149, bc 2 BK149⟩ (fun hHeld => ?_)
       clear hK K
       refine nrm (some 37) ?_
       refine on1 6 (some 39) #[tt,tt,tt,tt,tt,tt,tt,ff,ff,ff,ff,ff,ff,ff,ff] (fun K hK => ?_)
       refine goes_ Tryz.func104 (by kernel_rfl) rfl #[.slice Ao47 t167.length co47, .slice Ao48 t154.length co48] (by rfl) rfl rfl az ?_
       with_reducible refine (manorboyref02_Nat_Cmp.calls k1 _ _ t167 _ _ t154 t170 _ ?side1 ?side2 ?side3 ?side4 A33.out).mono ?_
       (case side1 => exact ccz (Kd.R_reads' HO169.out).2.2)
       (case side2 => exact (Kd.R_reads' HO169.out).2.1)
       (case side3 => exact ccz (Kd.R_reads' HO_3.out).2.2)
       (case side4 => exact (Kd.R_reads' HO_3.out).2.1)
       rintro e w' ⟨rfl, ⟨nd, rfl⟩⟩
       refine ⟨_, rfl, ?_⟩
       refine hK.out _ _ ⟨bc 0 BK149, bc 1 BK149, bc 2 BK149⟩ (fun hHeld => ?_)
       clear hK K
       refine nrm (some 39) ?_
       refine pur 7 (some 40) #[tt,tt,tt,tt,tt,tt,tt,tt,ff,ff,ff,ff,ff,ff,ff] ?_
       refine pur 8 (some 41) #[tt,tt,tt,tt,tt,tt,tt,tt,tt,ff,ff,ff,ff,ff,ff] ?_
       refine pure_ (i := 9) (N := some 42) (v := undef) (a' := ?_) #[true, true, true, true, true, true, true, true, true, true, false, false, false, false, false] rfl rfl (any_of HT_.out (by kernel_rfl)) (fun _ _ _ h => h) (Or.inr ⟨by rfl, rfl⟩) ?_ ?_
       rotate_left
       ·simp only [Act.put, List.setIfInBounds_toArray, List.set_cons_zero, List.set_cons_succ, i64_w, i32_w]
        rfl
       refine pure_ (i := 10) (N := some 43) (v := undef) (a' := ?_) #[true, true, true, true, true, true, true, true, true, true, true, false, false, false, false] rfl rfl (any_of HT_.out (by kernel_rfl)) (fun _ _ _ h => h) (Or.inr ⟨by rfl, rfl⟩) ?_ ?_
       rotate_left
       ·simp only [Act.put, List.setIfInBounds_toArray, List.set_cons_zero, List.set_cons_succ, i64_w, i32_w]
        rfl
       refine pure_ (i := 11) (N := some 44) (v := undef) (a' := ?_) #[true, true, true, true, true, true, true, true, true, true, true, true, false, false, false] rfl rfl (any_of HT_.out (by kernel_rfl)) (fun _ _ _ h => h) (Or.inr ⟨by rfl, rfl⟩) ?_ ?_
       rotate_left
       ·simp only [Act.put, List.setIfInBounds_toArray, List.set_cons_zero, List.set_cons_succ, i64_w, i32_w]
        rfl
       refine pure_ (i := 12) (N := some 45) (v := undef) (a' := ?_) #[true, true, true, true, true, true, true, true, true, true, true, true, true, false, false] rfl rfl (any_of HT_.out (by kernel_rfl)) (fun _ _ _ h => h) (Or.inr ⟨by rfl, rfl⟩) ?_ ?_
       rotate_left
       ·simp only [Act.put, List.setIfInBounds_toArray, List.set_cons_zero, List.set_cons_succ, i64_w, i32_w]
        rfl
       refine pure_ (i := 13) (N := some 46) (v := undef) (a' := ?_) #[true, true, true, true, true, true, true, true, true, true, true, true, true, true, false] rfl rfl (any_of HT_.out (by kernel_rfl)) (fun _ _ _ h => h) (Or.inr ⟨by rfl, rfl⟩) ?_ ?_
       rotate_left
       ·simp only [Act.put, List.setIfInBounds_toArray, List.set_cons_zero, List.set_cons_succ, i64_w, i32_w]
        rfl
       refine pur 14 (some 47) #[tt,tt,tt,tt,tt,tt,tt,tt,tt,tt,tt,tt,tt,tt,tt] ?_
       refine done_ (done_of HT_.out (by kernel_rfl)) ?_
       try go_wp2
       go_meet
       case rel => exact ⟨_, (false), (by first | rfl | (simp; done) | (simp [*]; done)), H', ⟨by have := HK1.out; first | omega | exact Nat.le_refl _⟩, ⟨kz BK149⟩, ⟨kz BK150⟩, ⟨bz⟩⟩
     case rest => as_aux_lemma =>
      clear HC30
      try clear c10
      try clear c10b0
      try clear c27
      try clear c27b0
      try clear c34
      try clear c34b0
      try clear c34b1
      try clear hcz29_0
      try clear hcz29_1
      try clear hcz29_2
      try clear hfz29_0
      try clear hfz29_1
      try clear hfz29_2
      obtain ⟨kq, x47_29, rfl, HA, HJ29, BK149, BK150, HB⟩ := hcut
      cases kq with
      | zero => exact absurd HA.out (by simp [manorboyref02_Quotient_Round.j1])
      | succ kj29 =>
       have H := HA.out
       clear HA
       simp only [manorboyref02_Quotient_Round.j1] at H
       have HC49 := Aside0.mk H
       clear H
       go_upto_if 47 with (fail)
       go_cut [4] (fun v4 wc => ∃ (kq : Nat) (x4_48 : Int), v4 = .int .i64 x4_48 ∧ Aside0 (manorboyref02_Quotient_Round.j2 kq x4_48 a0_0 l0_1 l0_2 = some (r1, r2, r3)) ∧ Aside0 (kq ≤ kj29) ∧ Aside0 (wc.heap[gb149]? = some (.cells #[.bool a0_0, (.slice A0_1 l0_1.length c0_1), (.slice A0_2 l0_2.length c0_2)] 102 (0, 0))) ∧ Aside0 (wc.heap[gb150]? = some (.cells #[.int .i64 0, .int .i64 0, .bool false] 50 (0, 0))) ∧ Aside0 (Below w.heap.size w wc))
       case first => as_aux_lemma =>
        have H := HC49.out
        clear HC49
        by_cases c50 : x47_29 = true
        ·subst c50
         rw [if_pos rfl] at H
         have H' := Aside0.mk H
         clear H
         go_wp2
         go_meet
         case rel => exact ⟨_, (wrap64 (x4_1 + 1)), (by first | rfl | (simp; done) | (simp [*]; done)), H', ⟨by have := HK1.out; have := HJ29.out; first | omega | exact Nat.le_refl _⟩, ⟨kz BK149⟩, ⟨kz BK150⟩, ⟨bz⟩⟩
        ·replace c50 := Bool.eq_false_iff.mpr c50
         subst c50
         rw [if_neg (show ¬ (false = true) by decide)] at H
         have H' := Aside0.mk H
         clear H
         go_wp2
         go_meet
         case rel => exact ⟨_, (x4_1), (by first | rfl | (simp; done) | (simp [*]; done)), H', ⟨by have := HK1.out; have := HJ29.out; first | omega | exact Nat.le_refl _⟩, ⟨kz BK149⟩, ⟨kz BK150⟩, ⟨bz⟩⟩
       case rest => as_aux_lemma =>
        clear HC49
        try clear c10
        try clear c10b0
        try clear c27
        try clear c27b0
        try clear c34
        try clear c34b0
        try clear c34b1
        try clear c50
        try clear hcz29_0
        try clear hcz29_1
        try clear hcz29_2
        try clear hfz29_0
        try clear hfz29_1
        try clear hfz29_2
        obtain ⟨kq, x4_48, rfl, HA, HJ48, BK149, BK150, HB⟩ := hcut
        cases kq with
        | zero => exact absurd HA.out (by simp [manorboyref02_Quotient_Round.j2])
        | succ kj48 =>
         have H := HA.out
         clear HA
         simp only [manorboyref02_Quotient_Round.j2] at H
         by_cases c51 : x4_48 > 2533359615
         ·rw [if_pos c51] at H
          have c51b0 : decide (2533359615 < x4_48) = true := decide_eq_true c51
          clear c51
          simp only [Option.some.injEq, Prod.mk.injEq] at H
          obtain ⟨rfl, rfl, rfl⟩ := H
          have hnb52 := NB150_149.out
          have hnc52 := NB149_150.out
          have hcz53_0 : wc.cell? ⟨gb150, 0, none⟩ = some (.int .i64 0) := (blk_cell BK150.out 0).trans rfl
          have hcz53_1 : wc.cell? ⟨gb150, 1, none⟩ = some (.int .i64 0) := (blk_cell BK150.out 1).trans rfl
          have hcz53_2 : wc.cell? ⟨gb150, 2, none⟩ = some (.bool false) := (blk_cell BK150.out 2).trans rfl
          have hfz53_0 := blk_frozen BK150.out 0
          have hfz53_1 := blk_frozen BK150.out 1
          have hfz53_2 := blk_frozen BK150.out 2
          go_wp2
          refine bodyPost_ret (results_cell_row rfl _ _ gb150 50 #[.int .i64 0, .int .i64 0, .bool false] (0, 0) _ rfl (by (with_reducible repeat (first | refine blk_drewN ?_ _ | refine blk_drew ?_ | refine blk_alloc ?_ _)); refine blk_put (cs := #[.int .i64 0, .int .i64 0, .bool false]) ?_ 2 _ rfl; (with_reducible repeat (first | refine blk_drewN ?_ _ | refine blk_drew ?_ | refine blk_alloc ?_ _)); refine blk_put (cs := #[.int .i64 0, .int .i64 0, .bool false]) ?_ 1 _ rfl; (with_reducible repeat (first | refine blk_drewN ?_ _ | refine blk_drew ?_ | refine blk_alloc ?_ _)); refine blk_put (cs := #[.int .i64 0, .int .i64 0, .bool false]) ?_ 0 _ rfl; (with_reducible repeat (first | refine blk_drewN ?_ _ | refine blk_drew ?_ | refine blk_alloc ?_ _)); exact BK150.out) Tryz.underlying50 rfl (by kernel_rfl)) rfl ?_
          exact ⟨by first | rfl | (simp [errW_none, errW_some] <;> rfl) | (simp [*, errW_none, errW_some] <;> rfl), bz⟩
         ·rw [if_neg c51] at H
          have c51b0 : decide (2533359615 < x4_48) = false := decide_eq_false c51
          clear c51
          replace H := Option.bind_eq_some_iff.mp H
          obtain ⟨⟨t173, t174⟩, A540, H⟩ := H
          try dsimp only at H
          have A54 := Aside0.mk A540
          clear A540
          by_cases c55 : a0_0 = true
          ·subst c55
           rw [if_pos rfl] at H
           replace H := Option.bind_eq_some_iff.mp H
           obtain ⟨⟨t176, t177⟩, A560, H⟩ := H
           try dsimp only at H
           have A56 := Aside0.mk A560
           clear A560
           simp only [Option.some.injEq, Prod.mk.injEq] at H
           obtain ⟨rfl, rfl, rfl⟩ := H
           go_wp2_with (first | ((with_reducible refine gate_callee (f := 56) rfl ?_); refine gL 54 Tryz.func56 #[.int .i64 x4_48] ?_; (with_reducible refine (manorboyref02_At.calls kj48 x4_48 t173 t174 _ A54.out).mono ?_); rintro e w57 ⟨rfl, hb⟩; refine ⟨_, rfl, ?_⟩; replace BK149 := kb BK149 hb; replace BK150 := kb BK150 hb; replace HB := bs hb; (try clear hb); (try clear hk)) | ((with_reducible refine gate_dst (N := 7) rfl ?_); refine bxe 7 #[.int .i64 0, .int .i64 0] 23 ?_; intro gb175 hg w58 hbox hb; have BK175 := Aside0.mk hbox; have GW175 := ge hg; have GE175 := ge hg; have NB149_175 := nl BK149 hg; have NB175_149 := nr BK149 hg; have NB150_175 := nl BK150 hg; have NB175_150 := nr BK150 hg; replace BK149 := kb BK149 hb; replace BK150 := kb BK150 hb; replace HB := bs hb; clear hb hbox hg; have hnb59 := NB175_149.out; have hnc59 := NB149_175.out; have hnb60 := NB175_150.out; have hnc60 := NB150_175.out; have hcz61_0 := c20 BK175; have hcz61_1 := c21 BK175; have hfz61_0 := blk_frozen BK175.out 0; have hfz61_1 := blk_frozen BK175.out 1; have hnb62 := NB149_150.out; have hnc62 := NB150_149.out; have hcz63_0 : w58.cell? ⟨gb149, 0, none⟩ = some (.bool true) := (blk_cell BK149.out 0).trans rfl; have hcz63_1 : w58.cell? ⟨gb149, 1, none⟩ = some (.slice A0_1 l0_1.length c0_1) := (blk_cell BK149.out 1).trans rfl; have hcz63_2 : w58.cell? ⟨gb149, 2, none⟩ = some (.slice A0_2 l0_2.length c0_2) := (blk_cell BK149.out 2).trans rfl; have hfz63_0 := blk_frozen BK149.out 0; have hfz63_1 := blk_frozen BK149.out 1; have hfz63_2 := blk_frozen BK149.out 2) | ((with_reducible refine gate_callee (f := 56) rfl ?_); refine gL 59 Tryz.func56 #[.int .i64 (wrap64 (-x4_48))] ?_; (with_reducible refine (manorboyref02_At.calls kj48 (wrap64 (-x4_48)) t176 t177 _ A56.out).mono ?_); rintro e w64 ⟨rfl, hb⟩; refine ⟨_, rfl, ?_⟩; replace BK149 := Aside0.mk (blk_below (g := gb149) (o := .cells #[.bool true, .slice A0_1 l0_1.length c0_1, .slice A0_2 l0_2.length c0_2] 102 (0, 0)) (by (with_reducible repeat (first | refine blk_drewN ?_ _ | refine blk_drew ?_ | refine blk_alloc ?_ _)); refine blk_far ?_ NB149_175.out _; (with_reducible repeat (first | refine blk_drewN ?_ _ | refine blk_drew ?_ | refine blk_alloc ?_ _)); refine blk_far ?_ NB149_175.out _; (with_reducible repeat (first | refine blk_drewN ?_ _ | refine blk_drew ?_ | refine blk_alloc ?_ _)); exact BK149.out) hb); replace BK150 := Aside0.mk (blk_below (g := gb150) (o := .cells #[.int .i64 0, .int .i64 0, .bool false] 50 (0, 0)) (by (with_reducible repeat (first | refine blk_drewN ?_ _ | refine blk_drew ?_ | refine blk_alloc ?_ _)); refine blk_far ?_ NB150_175.out _; (with_reducible repeat (first | refine blk_drewN ?_ _ | refine blk_drew ?_ | refine blk_alloc ?_ _)); refine blk_far ?_ NB150_175.out _; (with_reducible repeat (first | refine blk_drewN ?_ _ | refine blk_drew ?_ | refine blk_alloc ?_ _)); exact BK150.out) hb); replace BK175 := Aside0.mk (blk_below (g := gb175) (o := .cells #[.int .i64 t173, .int .i64 t174] 23 (0, 0)) (by (with_reducible repeat (first | refine blk_drewN ?_ _ | refine blk_drew ?_ | refine blk_alloc ?_ _)); refine blk_put (cs := #[.int .i64 t173, .int .i64 0]) ?_ 1 _ rfl; (with_reducible repeat (first | refine blk_drewN ?_ _ | refine blk_drew ?_ | refine blk_alloc ?_ _)); refine blk_put (cs := #[.int .i64 0, .int .i64 0]) ?_ 0 _ rfl; (with_reducible repeat (first | refine blk_drewN ?_ _ | refine blk_drew ?_ | refine blk_alloc ?_ _)); exact BK175.out) hb); replace HB := bs hb; (try clear hb); (try clear hk); have hcz65_0 := c20 BK175; have hcz65_1 := c21 BK175; have hfz65_0 := blk_frozen BK175.out 0; have hfz65_1 := blk_frozen BK175.out 1; have hcz66_0 : w64.cell? ⟨gb150, 0, none⟩ = some (.int .i64 0) := (blk_cell BK150.out 0).trans rfl; have hcz66_1 : w64.cell? ⟨gb150, 1, none⟩ = some (.int .i64 0) := (blk_cell BK150.out 1).trans rfl; have hcz66_2 : w64.cell? ⟨gb150, 2, none⟩ = some (.bool false) := (blk_cell BK150.out 2).trans rfl; have hfz66_0 := blk_frozen BK150.out 0; have hfz66_1 := blk_frozen BK150.out 1; have hfz66_2 := blk_frozen BK150.out 2))
           refine bodyPost_ret (results_cell_row rfl _ _ gb150 50 #[.int .i64 t176, .int .i64 t177, .bool true] (0, 0) _ rfl (by (with_reducible repeat (first | refine blk_drewN ?_ _ | refine blk_drew ?_ | refine blk_alloc ?_ _)); refine blk_put (cs := #[.int .i64 t176, .int .i64 t177, .bool false]) ?_ 2 _ rfl; (with_reducible repeat (first | refine blk_drewN ?_ _ | refine blk_drew ?_ | refine blk_alloc ?_ _)); refine blk_put (cs := #[.int .i64 t176, .int .i64 0, .bool false]) ?_ 1 _ rfl; (with_reducible repeat (first | refine blk_drewN ?_ _ | refine blk_drew ?_ | refine blk_alloc ?_ _)); refine blk_put (cs := #[.int .i64 0, .int .i64 0, .bool false]) ?_ 0 _ rfl; (with_reducible repeat (first | refine blk_drewN ?_ _ | refine blk_drew ?_ | refine blk_alloc ?_ _)); refine blk_far ?_ NB150_175.out _; (with_reducible repeat (first | refine blk_drewN ?_ _ | refine blk_drew ?_ | refine blk_alloc ?_ _)); refine blk_far ?_ NB150_175.out _; (with_reducible repeat (first | refine blk_drewN ?_ _ | refine blk_drew ?_ | refine blk_alloc ?_ _)); exact BK150.out) Tryz.underlying50 rfl (by kernel_rfl)) rfl ?_
           exact ⟨by first | rfl | (simp [errW_none, errW_some] <;> rfl) | (simp [*, errW_none, errW_some] <;> rfl), bz⟩
          ·replace c55 := Bool.eq_false_iff.mpr c55
           subst c55
           rw [if_neg (show ¬ (false = true) by decide)] at H
           simp only [Option.some.injEq, Prod.mk.injEq] at H
           obtain ⟨rfl, rfl, rfl⟩ := H
           go_wp2_with (first | ((with_reducible refine gate_callee (f := 56) rfl ?_); refine gL 54 Tryz.func56 #[.int .i64 x4_48] ?_; (with_reducible refine (manorboyref02_At.calls kj48 x4_48 t173 t174 _ A54.out).mono ?_); rintro e w67 ⟨rfl, hb⟩; refine ⟨_, rfl, ?_⟩; replace BK149 := kb BK149 hb; replace BK150 := kb BK150 hb; replace HB := bs hb; (try clear hb); (try clear hk)) | ((with_reducible refine gate_dst (N := 7) rfl ?_); refine bxe 7 #[.int .i64 0, .int .i64 0] 23 ?_; intro gb175 hg w68 hbox hb; have BK175 := Aside0.mk hbox; have GW175 := ge hg; have GE175 := ge hg; have NB149_175 := nl BK149 hg; have NB175_149 := nr BK149 hg; have NB150_175 := nl BK150 hg; have NB175_150 := nr BK150 hg; replace BK149 := kb BK149 hb; replace BK150 := kb BK150 hb; replace HB := bs hb; clear hb hbox hg; have hnb69 := NB175_149.out; have hnc69 := NB149_175.out; have hnb70 := NB175_150.out; have hnc70 := NB150_175.out; have hcz71_0 := c20 BK175; have hcz71_1 := c21 BK175; have hfz71_0 := blk_frozen BK175.out 0; have hfz71_1 := blk_frozen BK175.out 1; have hnb72 := NB149_150.out; have hnc72 := NB150_149.out; have hcz73_0 : w68.cell? ⟨gb149, 0, none⟩ = some (.bool false) := (blk_cell BK149.out 0).trans rfl; have hcz73_1 : w68.cell? ⟨gb149, 1, none⟩ = some (.slice A0_1 l0_1.length c0_1) := (blk_cell BK149.out 1).trans rfl; have hcz73_2 : w68.cell? ⟨gb149, 2, none⟩ = some (.slice A0_2 l0_2.length c0_2) := (blk_cell BK149.out 2).trans rfl; have hfz73_0 := blk_frozen BK149.out 0; have hfz73_1 := blk_frozen BK149.out 1; have hfz73_2 := blk_frozen BK149.out 2; have hcz74_0 : w68.cell? ⟨gb150, 0, none⟩ = some (.int .i64 0) := (blk_cell BK150.out 0).trans rfl; have hcz74_1 : w68.cell? ⟨gb150, 1, none⟩ = some (.int .i64 0) := (blk_cell BK150.out 1).trans rfl; have hcz74_2 : w68.cell? ⟨gb150, 2, none⟩ = some (.bool false) := (blk_cell BK150.out 2).trans rfl; have hfz74_0 := blk_frozen BK150.out 0; have hfz74_1 := blk_frozen BK150.out 1; have hfz74_2 := blk_frozen BK150.out 2))
           refine bodyPost_ret (results_cell_row rfl _ _ gb150 50 #[.int .i64 t173, .int .i64 t174, .bool true] (0, 0) _ rfl (by (with_reducible repeat (first | refine blk_drewN ?_ _ | refine blk_drew ?_ | refine blk_alloc ?_ _)); refine blk_put (cs := #[.int .i64 t173, .int .i64 t174, .bool false]) ?_ 2 _ rfl; (with_reducible repeat (first | refine blk_drewN ?_ _ | refine blk_drew ?_ | refine blk_alloc ?_ _)); refine blk_put (cs := #[.int .i64 t173, .int .i64 0, .bool false]) ?_ 1 _ rfl; (with_reducible repeat (first | refine blk_drewN ?_ _ | refine blk_drew ?_ | refine blk_alloc ?_ _)); refine blk_put (cs := #[.int .i64 0, .int .i64 0, .bool false]) ?_ 0 _ rfl; (with_reducible repeat (first | refine blk_drewN ?_ _ | refine blk_drew ?_ | refine blk_alloc ?_ _)); refine blk_far ?_ NB150_175.out _; (with_reducible repeat (first | refine blk_drewN ?_ _ | refine blk_drew ?_ | refine blk_alloc ?_ _)); refine blk_far ?_ NB150_175.out _; (with_reducible repeat (first | refine blk_drewN ?_ _ | refine blk_drew ?_ | refine blk_alloc ?_ _)); exact BK150.out) Tryz.underlying50 rfl (by kernel_rfl)) rfl ?_
           exact ⟨by first | rfl | (simp [errW_none, errW_some] <;> rfl) | (simp [*, errW_none, errW_some] <;> rfl), bz⟩

end Go.Proofs.YteigbokklclmbaaGreatDoor.Z.Y.V
end
section
namespace Go.Proofs.YteigbokklclmbaaGreatDoor.M
open Go Go.RowKit Go.Proofs.YteigbokklclmbaaGreatDoor.Given Go.Proofs.YteigbokklclmbaaGreatDoorW.PrintWords Go.Proofs.YteigbokklclmbaaGreatDoorW.PrintLast Go.Proofs.YteigbokklclmbaaGreatDoorW.PrintMore Go.Proofs.YteigbokklclmbaaGreatDoor.Z Go.Proofs.YteigbokklclmbaaGreatDoor.Z.Y Go.Proofs.YteigbokklclmbaaGreatDoor.Z.Y.V
/-- A sign laid on a real. -/
def sgn (neg : Bool) (p : Int × Int) : Int × Int := (if neg = true then -p.1 else p.1, p.2)
theorem bl_two (s : Nat) : bl (2 ^ s) ≤ s + 1 := bl_le_iff.2 (Nat.pow_lt_pow_right (by decide) (by omega))
theorem man_bd (I : Nat) : man I < 16777216 := by unfold man sh; omega
theorem atE_ev (I : Nat) (h : I ≤ 2533359616) : Ev (fun k => manorboyref02_At.f k (I : Int)) (atI I) := by
  have hn : ¬ ((I : Int) < 0) := by omega
  refine Ev.step (f := fun _ => some (atI I)) (fun k => ?_) (Ev.now _)
  rw [manorboyref02_At.f, if_neg hn]
  unfold atI
  by_cases h1 : (I : Int) < 16777216
  · rw [if_pos h1]
    by_cases h0 : (I : Int) = 0
    · rw [if_pos h0, if_pos (by omega)]
    · rw [if_neg h0, if_neg (by omega)]
      have h2 : sh I = 0 := by unfold sh; omega
      have h3 : man I = I := by unfold man; rw [h2]; omega
      rw [h2, h3]; rfl
  · rw [if_neg h1, if_neg (by omega)]
    have e1 : wrap64 ((I : Int) / 8388608 - 1) = ((sh I : Nat) : Int) := by
      rw [w64 _ (by omega) (by omega)]; unfold sh; omega
    have e2 : wrap64 (((sh I : Nat) : Int) * 8388608) = ((sh I : Nat) : Int) * 8388608 := w64 _ (by unfold sh; omega) (by unfold sh; omega)
    have e3 : wrap64 ((I : Int) - ((sh I : Nat) : Int) * 8388608) = ((man I : Nat) : Int) := by
      rw [w64 _ (by unfold sh; omega) (by unfold sh; omega)]; unfold man sh; omega
    have e4 : wrap64 (((sh I : Nat) : Int) - 150) = ((sh I : Nat) : Int) - 150 := w64 _ (by unfold sh; omega) (by unfold sh; omega)
    rw [e1, e2, e3, e4]
theorem atN_ev (I : Nat) (h : I ≤ 2533359616) : Ev (fun k => manorboyref02_At.f k (-(I : Int))) (sgn true (atI I)) := by
  rcases Nat.eq_zero_or_pos I with h0 | h0
  · subst h0
    exact atE_ev 0 (by omega)
  · have w : wrap64 (- -(I : Int)) = (I : Int) := by rw [w64 _ (by omega) (by omega)]; omega
    refine Ev.step (f := fun k => (manorboyref02_At.f k (I : Int)).bind fun bt => some (wrap64 (-bt.1), bt.2)) (fun k => by rw [manorboyref02_At.f, if_pos (by omega), w]) ?_
    refine Ev.bind (atE_ev I h) ?_
    have hm := man_bd I
    have e : wrap64 (-(atI I).1) = -(atI I).1 := by
      unfold atI; rw [if_neg (by omega)]; exact w64 _ (by show -9223372036854775808 ≤ -((man I : Nat) : Int); omega) (by show -((man I : Nat) : Int) ≤ _; omega)
    rw [e]
    unfold sgn
    rw [if_pos rfl]; exact Ev.now _
theorem half_ev (I : Nat) (h : I ≤ 2533359616) : Ev (fun k => manorboyref02_half.f k (I : Int)) (E (H I)) := by
  have hm := man_bd I
  have hs : sh I ≤ 302 := by unfold sh; omega
  have w1 : wrap64 (2 * ((man I : Nat) : Int)) = ((2 * man I : Nat) : Int) := by rw [w64 _ (by omega) (by omega)]; omega
  have w2 : wrap64 (((2 * man I : Nat) : Int) + 1) = ((2 * man I + 1 : Nat) : Int) := by rw [w64 _ (by omega) (by omega)]; omega
  have key : ∀ (x4 b : Int), x4 = ((sh I : Nat) : Int) - 150 → Ev (fun k => manorboyref02_half.j0 k x4 ((man I : Nat) : Int) b) (E (H I)) := by
    intro x4 b hx
    have w3 : wrap64 (x4 + 150) = ((sh I : Nat) : Int) := by rw [w64 _ (by omega) (by omega)]; omega
    refine Ev.step (f := fun k => (manorboyref02_Small.f k ((2 * man I + 1 : Nat) : Int)).bind fun t140 => (manorboyref02_Two.f ((sh I : Nat) : Int)).bind fun t143 => (manorboyref02_Nat_Mul.f k t140 t143).bind fun t146 => some t146) (fun k => by rw [manorboyref02_half.j0, w1, w2, w3]) ?_
    refine Ev.bind (smallE_ev (by omega)) (Ev.bind (two_Ev _ (by omega)) ?_)
    have b1 : bl (2 * man I + 1) ≤ 25 := bl_le_iff.2 (by omega)
    have b2 := bl_two (sh I)
    have := mulE_ev (a := 2 * man I + 1) (b := 2 ^ sh I) (Se.of (by omega)) (Se.of (by omega))
    rw [← H_eq] at this
    exact some_back this
  refine Ev.congr (f := fun k => (manorboyref02_At.f k (I : Int)).bind fun bt137 => if (I : Int) = 0 then manorboyref02_half.j0 k (-150) bt137.1 bt137.2 else manorboyref02_half.j0 k bt137.2 bt137.1 bt137.2) (fun k => rfl) ?_
  refine Ev.bind (atE_ev I h) ?_
  rcases Nat.eq_zero_or_pos I with h0 | h0
  · subst h0
    exact Ev.congr (fun k => if_pos rfl) (key (-150) _ (by have : sh 0 = 0 := rfl; rw [this]; rfl))
  · have e : atI I = (((man I : Nat) : Int), ((sh I : Nat) : Int) - 150) := by unfold atI; rw [if_neg (by omega)]
    rw [e]
    exact Ev.congr (fun k => if_neg (by omega)) (key _ _ rfl)
theorem bl_H (I : Nat) (h : I ≤ 2533359616) : bl (H I) ≤ 328 := by
  have hm := man_bd I
  have hs : sh I ≤ 302 := by unfold sh; omega
  rw [H_eq]
  have b1 : bl (2 * man I + 1) ≤ 25 := bl_le_iff.2 (by omega)
  have := bl_shift (2 * man I + 1) (sh I)
  omega
theorem H_odd (I : Nat) : man I % 2 = I % 2 := by unfold man sh; omega
/-- What the specification's rounding answers. -/
def rref (neg : Bool) (I : Nat) : Int × Int × Bool := if 2533359615 < I then (0, 0, false) else ((sgn neg (atI I)).1, (sgn neg (atI I)).2, true)
theorem round_j2 (neg : Bool) (a b : List Int) (I : Nat) (h : I ≤ 2533359616) : Ev (fun k => manorboyref02_Quotient_Round.j2 k (I : Int) neg a b) (rref neg I) := by
  unfold rref
  by_cases hI : (I : Int) > 2533359615
  · rw [if_pos (by omega)]
    exact Ev.step (fun k => by rw [manorboyref02_Quotient_Round.j2, if_pos hI]) (Ev.now _)
  · rw [if_neg (by omega)]
    have w : wrap64 (-(I : Int)) = -(I : Int) := w64 _ (by omega) (by omega)
    refine Ev.step (f := fun k => (manorboyref02_At.f k (I : Int)).bind fun bt173 => if neg = true then (manorboyref02_At.f k (-(I : Int))).bind fun bt176 => some (bt176.1, bt176.2, true) else some (bt173.1, bt173.2, true)) (fun k => by rw [manorboyref02_Quotient_Round.j2, if_neg hI, w]) ?_
    refine Ev.bind (atE_ev I h) ?_
    by_cases hn : neg = true
    · subst hn
      exact Ev.congr (fun k => if_pos rfl) (Ev.bind (atN_ev I h) (Ev.now _))
    · have hn' : neg = false := by simpa using hn
      subst hn'
      exact Ev.congr (fun k => if_neg (by decide)) (Ev.now _)
theorem round_go (neg : Bool) (x3 a b : List Int) (lo hi mid : Nat) (hlt : lo < hi) (hhi : hi ≤ 2533359616) (hmid : mid = (lo + hi) / 2) (k : Nat) :
    manorboyref02_Quotient_Round.l0 (k + 1) x3 (lo : Int) (hi : Int) neg a b = (manorboyref02_half.f k (mid : Int)).bind fun t157 => (manorboyref02_Nat_Mul.f k t157 b).bind fun t160 => (manorboyref02_Nat_Cmp.f k t160 x3).bind fun t163 => if t163 ≥ 0 then manorboyref02_Quotient_Round.l0 k x3 (lo : Int) (mid : Int) neg a b else manorboyref02_Quotient_Round.l0 k x3 ((mid + 1 : Nat) : Int) (hi : Int) neg a b := by
  have w1 : wrap64 ((lo : Int) + (hi : Int)) = ((lo + hi : Nat) : Int) := by rw [w64 _ (by omega) (by omega)]; omega
  have w2 : wrap64 (Int.tdiv ((lo + hi : Nat) : Int) 2) = (mid : Int) := by rw [Int.tdiv_eq_ediv_of_nonneg (by omega), w64 _ (by omega) (by omega)]; omega
  have w3 : wrap64 ((mid : Int) + 1) = ((mid + 1 : Nat) : Int) := by rw [w64 _ (by omega) (by omega)]; omega
  rw [manorboyref02_Quotient_Round.l0, if_pos (by omega), w1, w2, w3]
theorem round_end (neg : Bool) (x3 a b : List Int) (lo : Nat) (hlo : lo ≤ 2533359615) (k : Nat) :
    manorboyref02_Quotient_Round.l0 (k + 1) x3 (lo : Int) (lo : Int) neg a b = (manorboyref02_half.f k (lo : Int)).bind fun t164 => (manorboyref02_Nat_Mul.f k t164 b).bind fun t167 => (manorboyref02_Nat_Cmp.f k t167 x3).bind fun t170 => if t170 = 0 then (manorboyref02_At.f k (lo : Int)).bind fun bt171 => manorboyref02_Quotient_Round.j1 k (lo : Int) ((Int.tmod bt171.1 2) != 0) neg a b else manorboyref02_Quotient_Round.j1 k (lo : Int) false neg a b := by
  rw [manorboyref02_Quotient_Round.l0, if_neg (by omega), if_neg (by omega)]
theorem round_over (neg : Bool) (x3 a b : List Int) (lo : Nat) (hlo : 2533359615 < lo) (k : Nat) : manorboyref02_Quotient_Round.l0 (k + 1) x3 (lo : Int) (lo : Int) neg a b = some (0, 0, false) := by
  rw [manorboyref02_Quotient_Round.l0, if_neg (by omega), if_pos (by omega)]
theorem round_j1 (neg : Bool) (a b : List Int) (lo : Nat) (h : lo ≤ 2533359615) (fl : Bool) (I : Nat) (he : I = lo + if fl = true then 1 else 0) : Ev (fun k => manorboyref02_Quotient_Round.j1 k (lo : Int) fl neg a b) (rref neg I) := by
  have w4 : wrap64 ((lo : Int) + 1) = ((lo + 1 : Nat) : Int) := by rw [w64 _ (by omega) (by omega)]; omega
  rw [he]
  by_cases hf : fl = true
  · rw [if_pos hf]
    exact Ev.step (fun k => by rw [manorboyref02_Quotient_Round.j1, if_pos hf, w4]) (round_j2 neg a b (lo + 1) (by omega))
  · rw [if_neg hf, Nat.add_zero]
    exact Ev.step (fun k => by rw [manorboyref02_Quotient_Round.j1, if_neg hf]) (round_j2 neg a b lo (by omega))
theorem at_par (lo : Nat) : ((Int.tmod (atI lo).1 2) != 0) = decide (lo % 2 = 1) := by
  have h1 := H_odd lo
  unfold atI
  rcases Nat.eq_zero_or_pos lo with h | h
  · subst h; rfl
  · rw [if_neg (by omega)]
    show (Int.tmod ((man lo : Nat) : Int) 2 != 0) = _
    rw [Int.tmod_eq_emod_of_nonneg (by omega)]
    by_cases hp : lo % 2 = 1
    · rw [decide_eq_true hp, bne_iff_ne]; omega
    · rw [decide_eq_false hp, bne_eq_false_iff_eq]; omega
theorem cmp_neg {x y : Nat} (h : x < y) : ¬ cmpN x y ≥ 0 := by unfold cmpN; rw [if_pos h]; decide
theorem cmp_nn {x y : Nat} (h : ¬ x < y) : cmpN x y ≥ 0 := by unfold cmpN; rw [if_neg h]; split <;> decide
theorem cmp_eq {x y : Nat} (h : x = y) : cmpN x y = 0 := by unfold cmpN; rw [if_neg (by omega), if_pos h]
theorem cmp_gt {x y : Nat} (h : y < x) : ¬ cmpN x y = 0 := by unfold cmpN; rw [if_neg (by omega), if_neg (by omega)]; decide
/-- Which index the search ends with. -/
theorem Rd.at_low {N D lo : Nat} (hD : 0 < D) (hlow : lo = 0 ∨ H (lo - 1) * D < 2 * N) (hge : 2 * N ≤ H lo * D) : Rd N D (lo + if decide (2 * N = H lo * D ∧ lo % 2 = 1) = true then 1 else 0) := by
  by_cases heq : 2 * N = H lo * D
  · by_cases hp : lo % 2 = 1
    · rw [if_pos (decide_eq_true ⟨heq, hp⟩)]
      have h1 := Nat.mul_lt_mul_of_pos_right (H_lt (show lo < lo + 1 by omega)) hD
      refine ⟨.inr ⟨?_, fun _ => by omega⟩, ?_, fun e => ?_⟩
      · rw [Nat.add_sub_cancel]; omega
      · omega
      · omega
    · rw [if_neg (by rw [decide_eq_true_eq]; rintro ⟨_, h⟩; exact hp h), Nat.add_zero]
      refine ⟨?_, hge, fun _ => by omega⟩
      rcases hlow with h | h
      · exact .inl h
      · exact .inr ⟨Nat.le_of_lt h, fun e => by omega⟩
  · rw [if_neg (by rw [decide_eq_true_eq]; rintro ⟨h, _⟩; exact heq h), Nat.add_zero]
    refine ⟨?_, hge, fun e => absurd e heq⟩
    rcases hlow with h | h
    · exact .inl h
    · exact .inr ⟨Nat.le_of_lt h, fun e => by omega⟩
theorem round_l0 (neg : Bool) (N D : Nat) (hD : 0 < D) (hN : bl (2 * N) ≤ 100000) (hDb : bl D ≤ 50000) (a : List Int) (I : Nat) (hR : Rd N D I) : ∀ (m lo hi : Nat), hi - lo < m → lo ≤ hi → hi ≤ 2533359616 →
    (∀ i, i < lo → H i * D < 2 * N) → (∀ i, hi ≤ i → i ≤ 2533359615 → 2 * N ≤ H i * D) → Ev (fun k => manorboyref02_Quotient_Round.l0 k (E (2 * N)) (lo : Int) (hi : Int) neg a (E D)) (rref neg I)
  | 0, lo, hi, hm, _, _, _, _ => by omega
  | m + 1, lo, hi, hm, hle, hhi, hlow, hup => by
    have sD : Se D := Se.of (by omega)
    have sN : Se (2 * N) := Se.of (by omega)
    have hmul : ∀ i : Nat, i ≤ 2533359616 → Ev (fun k => manorboyref02_Nat_Mul.f k (E (H i)) (E D)) (E (H i * D)) ∧ Se (H i * D) := fun i hi => by
      have b1 := bl_H i hi
      have b2 := bl_mul (H i) D
      exact ⟨mulE_ev (Se.of (by omega)) sD, Se.of (by omega)⟩
    by_cases hlt : lo < hi
    · obtain ⟨mid, hmid⟩ : ∃ mid, mid = (lo + hi) / 2 := ⟨_, rfl⟩
      have hm1 : mid < hi := by omega
      have hm2 : lo ≤ mid := by omega
      refine Ev.step (fun k => round_go neg _ a _ lo hi mid hlt hhi hmid k) ?_
      obtain ⟨hm3, hm4⟩ := hmul mid (by omega)
      refine Ev.bind (half_ev mid (by omega)) (Ev.bind hm3 (Ev.bind (cmpE_ev hm4 sN) ?_))
      by_cases hc : H mid * D < 2 * N
      · refine Ev.congr (fun k => if_neg (cmp_neg hc)) (round_l0 neg N D hD hN hDb a I hR m (mid + 1) hi (by omega) (by omega) hhi (fun i hi' => ?_) hup)
        exact Nat.lt_of_le_of_lt (Nat.mul_le_mul_right D (H_le (show i ≤ mid by omega))) hc
      · refine Ev.congr (fun k => if_pos (cmp_nn hc)) (round_l0 neg N D hD hN hDb a I hR m lo mid (by omega) (by omega) (by omega) hlow (fun i hi' hi2 => ?_))
        exact Nat.le_trans (Nat.le_of_not_lt hc) (Nat.mul_le_mul_right D (H_le hi'))
    · have hlh : hi = lo := by omega
      subst hlh
      by_cases hov : 2533359615 < hi
      · refine Ev.step (fun k => round_over neg _ a _ hi hov k) ?_
        have : rref neg I = (0, 0, false) := by
          unfold rref
          rw [if_pos]
          rcases Nat.lt_or_ge 2533359615 I with h | h
          · exact h
          · have h1 := hlow I (by omega)
            have h2 := hR.2.1
            omega
        rw [this]; exact Ev.now _
      · have hge := hup hi (Nat.le_refl _) (by omega)
        obtain ⟨hm3, hm4⟩ := hmul hi (by omega)
        refine Ev.step (fun k => round_end neg _ a _ hi (by omega) k) ?_
        refine Ev.bind (half_ev hi (by omega)) (Ev.bind hm3 (Ev.bind (cmpE_ev hm4 sN) ?_))
        have hlo2 : hi = 0 ∨ H (hi - 1) * D < 2 * N := by
          rcases Nat.eq_zero_or_pos hi with h | h
          · exact .inl h
          · exact .inr (hlow (hi - 1) (by omega))
        have hI := hR.only hD hD (Rd.at_low hD hlo2 hge) rfl
        by_cases heq : 2 * N = H hi * D
        · refine Ev.congr (fun k => if_pos (cmp_eq heq.symm)) ?_
          refine Ev.bind (atE_ev hi (by omega)) ?_
          rw [at_par]
          refine round_j1 neg a _ hi (by omega) _ I ?_
          rw [hI]
          congr 2
          rw [Bool.decide_and, decide_eq_true heq, Bool.true_and]
        · refine Ev.congr (fun k => if_neg (cmp_gt (by omega))) (round_j1 neg a _ hi (by omega) false I ?_)
          rw [hI]
          congr 2
          rw [Bool.decide_and, decide_eq_false heq, Bool.false_and]
/-- The specification's rounding of num / den. -/
theorem round_ev (neg : Bool) (num den I : Nat) (hD : 0 < den) (hN : bl num ≤ 90000) (hDb : bl den ≤ 50000) (hR : Rd (num * 2 ^ 150) den I) : Ev (fun k => manorboyref02_Quotient_Round.f k neg (E num) (E den)) (rref neg I) := by
  have b1 := bl_shift num 151
  have e2 : num * 2 ^ 151 = 2 * (num * 2 ^ 150) := by
    rw [show (151 : Nat) = 150 + 1 from rfl, Nat.pow_succ]; ac_rfl
  have b3 := bl_two 151
  refine Ev.congr (f := fun k => (manorboyref02_Two.f ((151 : Nat) : Int)).bind fun t151 => (manorboyref02_Nat_Mul.f k (E num) t151).bind fun t154 => manorboyref02_Quotient_Round.l0 k t154 ((0 : Nat) : Int) ((2533359616 : Nat) : Int) neg (E num) (E den)) (fun k => rfl) ?_
  refine Ev.bind (two_Ev 151 (by decide)) (Ev.bind (mulE_ev (Se.of (by omega)) (Se.of (by omega))) ?_)
  rw [e2] at b1 ⊢
  exact round_l0 neg (num * 2 ^ 150) den hD (by omega) hDb (E num) I hR (2533359616 + 1) 0 2533359616 (by omega) (by omega) (by omega) (fun i hi => by omega) (fun i hi hi2 => by omega)
end Go.Proofs.YteigbokklclmbaaGreatDoor.M
end
section
namespace Go.Proofs.YteigbokklclmbaaGreatDoor.Z.Y
open Go Go.RowKit Go.Proofs.YteigbokklclmbaaGreatDoor.Given Go.Proofs.YteigbokklclmbaaGreatDoorW.PrintWords Go.Proofs.YteigbokklclmbaaGreatDoorW.PrintLast Go.Proofs.YteigbokklclmbaaGreatDoorW.PrintMore
/-- What a valid real is. -/
def VR (a b : Int) : Prop := (a = 0 ∧ b = 0) ∨ (1 ≤ mx a (wrap64 (-a)) ∧ mx a (wrap64 (-a)) < 16777216 ∧ (b = -150 ∨ (8388608 ≤ mx a (wrap64 (-a)) ∧ -150 < b ∧ b ≤ 150)))
instance (a b : Int) : Decidable (VR a b) := by unfold VR; infer_instance
theorem valid_real (a b : Int) : real_Valid.f a b = some (decide (VR a b)) := by
  unfold real_Valid.f
  have hd : ∀ (p q : Prop) [Decidable p] [Decidable q], (p ↔ q) → decide p = decide q := fun p q _ _ h => by simp [h]
  have hv : VR a b ↔ ((a = 0 ∧ b = 0) ∨ (1 ≤ mx a (wrap64 (-a)) ∧ mx a (wrap64 (-a)) < 16777216 ∧ (b = -150 ∨ (8388608 ≤ mx a (wrap64 (-a)) ∧ -150 < b ∧ b ≤ 150)))) := Iff.rfl
  generalize mx a (wrap64 (-a)) = m at *
  by_cases h0 : a = 0 ∧ b = 0
  · have : decide (VR a b) = true := decide_eq_true (hv.2 (.inl h0))
    rw [this, if_pos (by simp [h0.1, h0.2])]
  · have h0' : ¬ ((a == 0 && (b == 0)) = true) := by simpa using h0
    rw [if_neg h0']
    by_cases h1 : m < 1
    · rw [if_pos h1]; congr 1; symm; rw [decide_eq_false_iff_not, hv]; rintro (h | h); exact h0 h; omega
    rw [if_neg h1]
    by_cases h2 : m ≥ 16777216
    · rw [if_pos h2]; congr 1; symm; rw [decide_eq_false_iff_not, hv]; rintro (h | h); exact h0 h; omega
    rw [if_neg h2]
    by_cases h3 : b = -150
    · rw [if_pos h3]; congr 1; symm; rw [decide_eq_true_eq, hv]; exact .inr ⟨by omega, by omega, .inl h3⟩
    rw [if_neg h3]
    by_cases h4 : m ≥ 8388608
    · rw [if_pos h4]
      by_cases h5 : b > -150
      · rw [if_pos h5]; congr 1; apply hd; rw [hv]
        constructor
        · intro h; exact .inr ⟨by omega, by omega, .inr ⟨h4, h5, h⟩⟩
        · rintro (h | h)
          · exact absurd h h0
          · omega
      · rw [if_neg h5]; congr 1; symm; rw [decide_eq_false_iff_not, hv]; rintro (h | h); exact h0 h; omega
    · rw [if_neg h4]; congr 1; symm; rw [decide_eq_false_iff_not, hv]; rintro (h | h); exact h0 h; omega
theorem VR_abs {a b : Int} (hw : -9223372036854775808 ≤ a ∧ a ≤ 9223372036854775807) (h : VR a b) : -16777216 < a ∧ a < 16777216 ∧ -150 ≤ b ∧ b ≤ 150 ∧ (b > -150 → a ≠ 0 → a ≤ -8388608 ∨ 8388608 ≤ a) := by
  unfold VR mx wrap64 at h
  rcases h with ⟨rfl, rfl⟩ | h
  · omega
  · split at h <;> omega
theorem valid_ref (a b : Int) (hw : -9223372036854775808 ≤ a ∧ a ≤ 9223372036854775807) : manorboyref02_Valid.f 3 a b = some (decide (VR a b)) := by
  have key : ∀ m : Int, m = (if a < 0 then wrap64 (-a) else a) → manorboyref02_Valid.j0 3 m a b = some (decide (VR a b)) := by
    intro m hm
    have hmx : (0 ≤ m → mx a (wrap64 (-a)) = m) ∧ (m < 0 → mx a (wrap64 (-a)) < 1) := by
      unfold mx wrap64; unfold wrap64 at hm; split at hm <;> split <;> omega
    have hm0 : m = 0 ↔ a = 0 := by unfold wrap64 at hm; split at hm <;> omega
    have hv : VR a b ↔ ((a = 0 ∧ b = 0) ∨ (1 ≤ mx a (wrap64 (-a)) ∧ mx a (wrap64 (-a)) < 16777216 ∧ (b = -150 ∨ (8388608 ≤ mx a (wrap64 (-a)) ∧ -150 < b ∧ b ≤ 150)))) := Iff.rfl
    rw [manorboyref02_Valid.j0]
    by_cases h0 : m = 0
    · rw [if_pos h0]
      have ha : a = 0 := hm0.1 h0
      rw [if_pos ha]
      have := hmx.1 (by omega)
      by_cases hb : b = 0
      · have : decide (VR a b) = true := decide_eq_true (hv.2 (.inl ⟨ha, hb⟩))
        rw [this, hb]; rfl
      · have hf : (b == 0) = false := by simpa using hb
        rw [hf]; congr 1; symm; rw [decide_eq_false_iff_not, hv]; rintro (h | h) <;> omega
    rw [if_neg h0]
    have ha : a ≠ 0 := fun e => h0 (hm0.2 e)
    have j1t : manorboyref02_Valid.j1 2 m true a b = some false := by rw [manorboyref02_Valid.j1, if_pos rfl]
    by_cases h1 : m < 0
    · rw [if_pos h1, j1t]; have := hmx.2 h1; congr 1; symm; rw [decide_eq_false_iff_not, hv]; rintro (h | h) <;> omega
    rw [if_neg h1]
    have e := hmx.1 (by omega)
    rw [e] at hv
    by_cases h2 : m ≥ 16777216
    · rw [if_pos h2, j1t]; congr 1; symm; rw [decide_eq_false_iff_not, hv]; rintro (h | h) <;> omega
    rw [if_neg h2]
    by_cases h3 : b < -150
    · rw [if_pos h3, j1t]; congr 1; symm; rw [decide_eq_false_iff_not, hv]; rintro (h | h) <;> omega
    rw [if_neg h3, manorboyref02_Valid.j1]
    by_cases h4 : b > 150
    · rw [if_pos (by simpa using h4)]; congr 1; symm; rw [decide_eq_false_iff_not, hv]; rintro (h | h) <;> omega
    rw [if_neg (by simpa using h4)]
    by_cases h5 : m ≥ 8388608
    · rw [if_pos h5]; congr 1; symm; rw [decide_eq_true_eq, hv]; refine .inr ⟨by omega, by omega, ?_⟩; omega
    rw [if_neg h5]
    by_cases h6 : b = -150
    · have : (b == -150) = true := by simpa using h6
      rw [this]; congr 1; symm; rw [decide_eq_true_eq, hv]; exact .inr ⟨by omega, by omega, .inl h6⟩
    · have : (b == -150) = false := by simpa using h6
      rw [this]; congr 1; symm; rw [decide_eq_false_iff_not, hv]; rintro (h | h) <;> omega
  unfold manorboyref02_Valid.f
  by_cases h : a < 0
  · rw [if_pos h]; exact key _ (by rw [if_pos h])
  · rw [if_neg h]; exact key _ (by rw [if_neg h])
def fl (a b : Int) : Int := if 0 ≤ b then a * 2 ^ b.toNat else a / 2 ^ (-b).toNat
end Go.Proofs.YteigbokklclmbaaGreatDoor.Z.Y
end
section
namespace Go.Proofs.YteigbokklclmbaaGreatDoor.Z.Y.V
open Go.RowKit Go.Proofs.YteigbokklclmbaaGreatDoor.Given Go.Proofs.YteigbokklclmbaaGreatDoorW.PrintWords Go.Proofs.YteigbokklclmbaaGreatDoorW.PrintLast Go.Proofs.YteigbokklclmbaaGreatDoorW.PrintMore
attribute [local go_sem] max2_int min2_int max_two min_two max_three min_three max_four min_four

def manorboyref02_Add.T4 : Bool × List (List Nat × List Nat) := (true, [([], []), ([0], [0]), ([], []), ([2], [2]), ([], []), ([4], [4]), ([3, 5], [3, 5]), ([], []), ([7], [7]), ([1, 6, 8], [1, 6, 8]), ([9, 6], [9]), ([10, 10, 0, 1, 2, 3, 4, 5, 6, 7, 8, 9, 10], [10])])
def manorboyref02_Add.B4 : List Nat := [0, 1, 0, 4, 0, 16, 60, 0, 128, 511, 1023, 2047]
theorem manorboyref02_Add.tab4 : rtab .any (opsOf Tryz.f36 4) = manorboyref02_Add.T4 := by kernel_rfl
theorem manorboyref02_Add.bits4 : waitsOk manorboyref02_Add.T4.2 manorboyref02_Add.B4 = true := by kernel_rfl
def manorboyref02_Add.T6 : Bool × List (List Nat × List Nat) := (true, [([], []), ([0], [0]), ([], []), ([2], [2]), ([], []), ([4], [4]), ([3, 5], [3, 5]), ([], []), ([7], [7]), ([1, 6, 8], [1, 6, 8]), ([9, 6], [9]), ([10, 10, 0, 1, 2, 3, 4, 5, 6, 7, 8, 9, 10], [10])])
def manorboyref02_Add.B6 : List Nat := [0, 1, 0, 4, 0, 16, 60, 0, 128, 511, 1023, 2047]
theorem manorboyref02_Add.tab6 : rtab .any (opsOf Tryz.f36 6) = manorboyref02_Add.T6 := by kernel_rfl
theorem manorboyref02_Add.bits6 : waitsOk manorboyref02_Add.T6.2 manorboyref02_Add.B6 = true := by kernel_rfl

def manorboyref02_Neg.f (a0_0 : Int) (a0_1 : Int) : Option (Int × Int) := some (wrap64 (-a0_0), a0_1)
theorem manorboyref02_Neg.calls (a0_0 : Int) (a0_1 : Int) (r1 : Int) (r2 : Int) (w : World) (h : manorboyref02_Neg.f a0_0 a0_1 = some (r1, r2)) :
  Calls Tryz.prog 61 #[.agg #[.int .i64 a0_0, .int .i64 a0_1]] w fun e w' => e = .returned (.agg #[.int .i64 r1, .int .i64 r2]) ∧ Below w.heap.size w w' := by
 have hu23 := Tryz.underlying23
 have HB := Aside0.mk (Below.refl w.heap.size w)
 have H := h; unfold manorboyref02_Neg.f at H; clear h
 simp only [Option.some.injEq, Prod.mk.injEq] at H
 obtain ⟨rfl, rfl⟩ := H
 go_enter Tryz.func61, Tryz.ntmps61
 go_wp2_with (first | ((with_reducible refine gate_dst (N := 1) rfl ?_); refine bxe 1 #[.int .i64 a0_0, .int .i64 a0_1] 23 ?_; intro gb252 hg w2 hbox hb; have BK252 := Aside0.mk hbox; have GW252 := ge hg; have GE252 := ge hg; replace HB := bs hb; clear hb hbox hg) | ((with_reducible refine gate_dst (N := 2) rfl ?_); refine bxe 2 #[.int .i64 0, .int .i64 0] 23 ?_; intro gb253 hg w3 hbox hb; have BK253 := Aside0.mk hbox; have GW253 := ge hg; have GE253 := ge hg; have NB252_253 := nl BK252 hg; have NB253_252 := nr BK252 hg; replace BK252 := kb BK252 hb; replace HB := bs hb; clear hb hbox hg; have hnb4 := NB252_253.out; have hnc4 := NB253_252.out; have hcz5_0 := c20 BK252; have hcz5_1 := c21 BK252; have hfz5_0 := blk_frozen BK252.out 0; have hfz5_1 := blk_frozen BK252.out 1; have hcz6_0 := c20 BK253; have hcz6_1 := c21 BK253; have hfz6_0 := blk_frozen BK253.out 0; have hfz6_1 := blk_frozen BK253.out 1))
 refine bodyPost_ret (results_cell_row rfl _ _ gb253 23 #[.int .i64 (wrap64 (-a0_0)), .int .i64 a0_1] (0, 0) _ rfl (by (with_reducible repeat (first | refine blk_drewN ?_ _ | refine blk_drew ?_ | refine blk_alloc ?_ _)); refine blk_put (cs := #[.int .i64 (wrap64 (-a0_0)), .int .i64 0]) ?_ 1 _ rfl; (with_reducible repeat (first | refine blk_drewN ?_ _ | refine blk_drew ?_ | refine blk_alloc ?_ _)); refine blk_put (cs := #[.int .i64 0, .int .i64 0]) ?_ 0 _ rfl; (with_reducible repeat (first | refine blk_drewN ?_ _ | refine blk_drew ?_ | refine blk_alloc ?_ _)); exact BK253.out) Tryz.underlying23 rfl (by kernel_rfl)) rfl ?_
 exact ⟨by first | rfl | (simp [errW_none, errW_some] <;> rfl) | (simp [*, errW_none, errW_some] <;> rfl), bz⟩

end Go.Proofs.YteigbokklclmbaaGreatDoor.Z.Y.V
end
section
namespace Go.Proofs.YteigbokklclmbaaGreatDoor.M
open Go Go.RowKit Go.Proofs.YteigbokklclmbaaGreatDoor.Given Go.Proofs.YteigbokklclmbaaGreatDoorW.PrintWords Go.Proofs.YteigbokklclmbaaGreatDoorW.PrintLast Go.Proofs.YteigbokklclmbaaGreatDoorW.PrintMore Go.Proofs.YteigbokklclmbaaGreatDoor.Z Go.Proofs.YteigbokklclmbaaGreatDoor.Z.Y Go.Proofs.YteigbokklclmbaaGreatDoor.Z.Y.V
/-- The range of an int. -/
def I64 (a : Int) : Prop := -9223372036854775808 ≤ a ∧ a ≤ 9223372036854775807
/-- What is known of the parts of a real. -/
def RC (a b : Int) : Prop := a.natAbs < 16777216 ∧ -150 ≤ b ∧ b ≤ 150
theorem VR.rc {a b : Int} (hw : I64 a) (h : VR a b) : RC a b := by
  obtain ⟨h1, h2, h3, h4, _⟩ := VR_abs hw h
  exact ⟨by omega, h3, h4⟩
/-- The index of a real's magnitude. -/
def ix (a b : Int) : Nat := if a = 0 then 0 else a.natAbs + (b + 150).toNat * 8388608
theorem VR.norm {a b : Int} (hw : I64 a) (h : VR a b) : (a = 0 ∧ b = 0) ∨ (a ≠ 0 ∧ ((b + 150).toNat = 0 ∨ 8388608 ≤ a.natAbs)) := by
  obtain ⟨h1, h2, h3, h4, h5⟩ := VR_abs hw h
  rcases h with ⟨h6, h7⟩ | h
  · exact .inl ⟨h6, h7⟩
  · right
    have ha : a ≠ 0 := by
      rintro rfl
      have : mx 0 (wrap64 (-0)) = 0 := by unfold mx wrap64; split <;> omega
      omega
    refine ⟨ha, ?_⟩
    by_cases hb : b > -150
    · right; have := h5 hb ha; omega
    · left; omega
theorem ix_le {a b : Int} (hw : I64 a) (h : VR a b) : ix a b ≤ 2533359615 := by
  unfold ix; have hr := VR.rc hw h; obtain ⟨h1, h2, h3⟩ := hr; split <;> omega
theorem ix_at {a b : Int} (hw : I64 a) (h : VR a b) : atI (ix a b) = ((a.natAbs : Int), b) := by
  have hr := VR.rc hw h
  obtain ⟨r1, r2, r3⟩ := hr
  unfold atI ix
  rcases VR.norm hw h with ⟨h1, h2⟩ | ⟨h1, h2⟩
  · rw [if_pos h1, if_pos rfl, h1, h2]; rfl
  · rw [if_neg h1, if_neg (by omega)]
    have e1 : sh (a.natAbs + (b + 150).toNat * 8388608) = (b + 150).toNat := by unfold sh; omega
    have e2 : man (a.natAbs + (b + 150).toNat * 8388608) = a.natAbs := by unfold man; rw [e1]; omega
    rw [e1, e2]; congr 1; omega
/-- The same ahead of 'caught'. -/
def sgnr (neg : Bool) (I : Nat) : Int × Int := (if neg = true then wrap64 (-(rres I).1) else (rres I).1, (rres I).2)
theorem signed_is (neg : Bool) (p : Int × Int) : real_signed.f neg p.1 p.2 = some (if neg = true then wrap64 (-p.1) else p.1, p.2) := by
  unfold real_signed.f; split <;> rfl
theorem signed_back (neg : Bool) (I : Nat) : ((real_signed.f neg (rres I).1 (rres I).2).bind fun bt => some (bt.1, bt.2)) = some (sgnr neg I) := by
  rw [signed_is]; rfl
theorem atI_bd (I : Nat) (h : I ≤ 2533359615) : 0 ≤ (atI I).1 ∧ (atI I).1 < 16777216 ∧ -150 ≤ (atI I).2 ∧ (atI I).2 ≤ 150 := by
  have hm := man_bd I
  unfold atI
  split
  · show (0 : Int) ≤ 0 ∧ (0 : Int) < 16777216 ∧ -150 ≤ (0 : Int) ∧ (0 : Int) ≤ 150; omega
  · show (0 : Int) ≤ ((man I : Nat) : Int) ∧ ((man I : Nat) : Int) < 16777216 ∧ -150 ≤ ((sh I : Nat) : Int) - 150 ∧ ((sh I : Nat) : Int) - 150 ≤ 150
    unfold sh; omega
theorem rres_in {I : Nat} (h : I ≤ 2533359615) : rres I = atI I := by unfold rres; rw [if_neg (by omega)]
theorem sgnr_in {neg : Bool} {I : Nat} (h : I ≤ 2533359615) : sgnr neg I = sgn neg (atI I) := by
  have hb := atI_bd I h
  have hw : wrap64 (-(atI I).1) = -(atI I).1 := w64 _ (by omega) (by omega)
  unfold sgnr sgn
  rw [rres_in h, hw]
theorem one_D : D 1 = [1] := dg_small B2 (by decide) (by decide)
theorem nx_at (e : Int) (h : -150 ≤ e) (n : Nat) : nx e (-150) n = n * 2 ^ (e + 150).toNat := by
  unfold nx; rw [if_pos h]; congr 2
theorem dx_at (e : Int) (h : -150 ≤ e) (n : Nat) : dx e (-150) n = n := by unfold dx; rw [if_pos h]
/-- The program's rounding of a whole number times a power of two. -/
theorem rounded_one (n : Nat) (e : Int) (hn : bl n ≤ 10000) (h0 : -150 ≤ e) (h1 : e ≤ 10000) : ∃ I, Rd (n * 2 ^ (e + 150).toNat) 1 I ∧ Ev (fun k => real_rounded.f k (D n) e [1]) (rres I) := by
  obtain ⟨I, hR, hE⟩ := rounded_ev n 1 e hn (by decide) (by rw [bl_one]; decide) (by omega) h1
  rw [nx_at e h0, dx_at e h0] at hR
  rw [one_D] at hE
  exact ⟨I, hR, hE⟩
theorem neg_VR {y0 y1 : Int} (wy : I64 y0) (hy : VR y0 y1) : VR (-y0) y1 ∧ I64 (-y0) ∧ wrap64 (-y0) = -y0 ∧ ix (-y0) y1 = ix y0 y1 := by
  have hr := VR.rc wy hy
  obtain ⟨h1, h2, h3⟩ := hr
  have hw : wrap64 (-y0) = -y0 := w64 _ (by omega) (by omega)
  refine ⟨?_, ⟨by omega, by omega⟩, hw, ?_⟩
  · unfold VR at hy ⊢
    rcases hy with ⟨h4, h5⟩ | h4
    · left; omega
    · right
      have e : mx (-y0) (wrap64 (- -y0)) = mx y0 (wrap64 (-y0)) := by
        rw [hw, w64 (- -y0) (by omega) (by omega)]; unfold mx; split <;> split <;> omega
      rw [e]; exact h4
  · unfold ix
    by_cases h : y0 = 0
    · rw [if_pos h, if_pos (by omega)]
    · rw [if_neg h, if_neg (by omega), Int.natAbs_neg]
theorem sanity_ev : Ev (fun k => manorboylaw02_sanity.f k) true := Ev.of (fun k => manorboylaw02_sanity.mono k) sanity_ok
theorem valid_ev (a b : Int) (hw : I64 a) : Ev (fun k => manorboyref02_Valid.f k a b) (decide (VR a b)) := Ev.of (fun k => manorboyref02_Valid.mono _ _ _) (valid_ref a b hw)
end Go.Proofs.YteigbokklclmbaaGreatDoor.M
end
section
namespace Go.Proofs.YteigbokklclmbaaGreatDoor.Z
open Go Go.RowKit Go.Proofs.YteigbokklclmbaaGreatDoor.Given Go.Proofs.YteigbokklclmbaaGreatDoorW.PrintWords Go.Proofs.YteigbokklclmbaaGreatDoorW.PrintLast Go.Proofs.YteigbokklclmbaaGreatDoorW.PrintMore
theorem cell_below {w W : World} {a : Addr} {v : Value} (hB : Below w.heap.size w W) (h : w.cell? a = some v) : W.cell? a = some v := (hB.cell (World.block_lt_of_cell? w _ h)).trans h
theorem index2g_c (ad : Addr) (c : Nat) (m0 e0 m1 e1 : Int) (v0 v1 : Bool) (h0 : real_Valid.f m0 e0 = some v0) (h1 : real_Valid.f m1 e1 = some v1) (w : World)
    (hb : w.cell? (ad.add 0) = some (.int .i64 m0) ∧ w.cell? (ad.add 1) = some (.int .i64 e0) ∧ w.cell? (ad.add 2) = some (.int .i64 m1) ∧ w.cell? (ad.add 3) = some (.int .i64 e1)) :
    Calls Tryz.prog 163 #[.slice (some ad) 2 c, .func (.func 144) #[] #[]] w fun en w' => en = .returned (.int .i64 (if v0 then (if v1 then -1 else 1) else 0)) ∧ Below w.heap.size w w' := by
  have H0 := Lib.hid h0
  have H1 := Lib.hid h1
  have HB := Lib.hid hb
  clear h0 h1 hb
  go_enter Tryz.func163, Tryz.ntmps163
  go_wp2
  go_loopg [5, 8] (3 : Nat) (fun kq v5 v8 wr => ∃ j : Nat, kq + j = 3 ∧ v8 = .int .i64 (j : Int) ∧ Below w.heap.size w wr ∧ (1 ≤ j → v0 = true) ∧ (2 ≤ j → v1 = true))
  case atStart => exact ⟨0, rfl, rfl, Below.refl _ w, by omega, by omega⟩
  case round =>
    obtain ⟨j, hj, rfl, hB, hv0, hv1⟩ := hrel
    have HB2 := Lib.hid hB
    have hbr : wr.cell? (ad.add 0) = some (.int .i64 m0) ∧ wr.cell? (ad.add 1) = some (.int .i64 e0) ∧ wr.cell? (ad.add 2) = some (.int .i64 m1) ∧ wr.cell? (ad.add 3) = some (.int .i64 e1) :=
      ⟨cell_below hB HB.out.1, cell_below hB HB.out.2.1, cell_below hB HB.out.2.2.1, cell_below hB HB.out.2.2.2⟩
    rcases (by omega : j = 0 ∨ j = 1 ∨ j = 2 ∨ j = 3) with h | h | h | h
    · subst h
      have c0 := hbr.1
      have c0' : wr.cell? ad = some (.int .i64 m0) := c0
      have c1 : wr.cell? ⟨ad.block, ad.off + 1, none⟩ = some (.int .i64 e0) := hbr.2.1
      clear hB hbr hv0 hv1
      cases v0
      · go_wp2_with fail
        refine (notValid_c m0 e0 _ H0.out _).mono ?_
        rintro en w1 ⟨rfl, hb⟩
        have hB : Below w.heap.size w w1 := HB2.out.trans (hb.mono HB2.out.size)
        clear hb
        go_wp2
        go_ret
        exact ⟨rfl, hB⟩
      · go_wp2_with fail
        refine (notValid_c m0 e0 _ H0.out _).mono ?_
        rintro en w1 ⟨rfl, hb⟩
        have hB : Below w.heap.size w w1 := HB2.out.trans (hb.mono HB2.out.size)
        clear hb
        go_wp2
        go_roundg (gk - 1)
        case measure => omega
        case rel => exact ⟨1, by omega, rfl, hB, fun _ => trivial, by omega⟩
    · subst h
      have c0 : wr.cell? ⟨ad.block, ad.off + 2, none⟩ = some (.int .i64 m1) := hbr.2.2.1
      have c1 : wr.cell? ⟨ad.block, ad.off + 2 + 1, none⟩ = some (.int .i64 e1) := hbr.2.2.2
      have hv := hv0 (Nat.le_refl _)
      subst hv
      clear hB hbr hv0 hv1
      cases v1
      · go_wp2_with fail
        refine (notValid_c m1 e1 _ H1.out _).mono ?_
        rintro en w1 ⟨rfl, hb⟩
        have hB : Below w.heap.size w w1 := HB2.out.trans (hb.mono HB2.out.size)
        clear hb
        go_wp2
        go_ret
        exact ⟨rfl, hB⟩
      · go_wp2_with fail
        refine (notValid_c m1 e1 _ H1.out _).mono ?_
        rintro en w1 ⟨rfl, hb⟩
        have hB : Below w.heap.size w w1 := HB2.out.trans (hb.mono HB2.out.size)
        clear hb
        go_wp2
        go_roundg (gk - 1)
        case measure => omega
        case rel => exact ⟨2, by omega, rfl, hB, fun _ => trivial, fun _ => trivial⟩
    · subst h
      have hva := hv0 (by omega)
      have hvb := hv1 (by omega)
      subst hva hvb
      clear hbr hv0 hv1
      go_wp2
      go_ret
      exact ⟨rfl, hB⟩
    · subst h
      have hva := hv0 (by omega)
      have hvb := hv1 (by omega)
      subst hva hvb
      clear hbr hv0 hv1
      go_wp2
      go_ret
      exact ⟨rfl, hB⟩
theorem contains2g_c (ad : Addr) (c : Nat) (m0 e0 m1 e1 : Int) (v0 v1 : Bool) (h0 : real_Valid.f m0 e0 = some v0) (h1 : real_Valid.f m1 e1 = some v1) (w : World)
    (hb : w.cell? (ad.add 0) = some (.int .i64 m0) ∧ w.cell? (ad.add 1) = some (.int .i64 e0) ∧ w.cell? (ad.add 2) = some (.int .i64 m1) ∧ w.cell? (ad.add 3) = some (.int .i64 e1)) :
    Calls Tryz.prog 143 #[.slice (some ad) 2 c, .func (.func 144) #[] #[]] w fun en w' => en = .returned (.bool (!(v0 && v1))) ∧ Below w.heap.size w w' := by
  have H := Lib.hid (index2g_c ad c m0 e0 m1 e1 v0 v1 h0 h1 w hb)
  clear h0 h1 hb
  go_enter Tryz.func143, Tryz.ntmps143
  go_wp2_with fail
  refine H.out.mono ?_
  rintro en w1 ⟨rfl, hB⟩
  clear H
  rcases v0 with _ | _ <;> rcases v1 with _ | _ <;> (go_wp2; go_ret; exact ⟨rfl, hB⟩)
theorem all2g_c (ad : Addr) (c : Nat) (m0 e0 m1 e1 : Int) (v0 v1 : Bool) (h0 : real_Valid.f m0 e0 = some v0) (h1 : real_Valid.f m1 e1 = some v1) (w : World)
    (hb : w.cell? (ad.add 0) = some (.int .i64 m0) ∧ w.cell? (ad.add 1) = some (.int .i64 e0) ∧ w.cell? (ad.add 2) = some (.int .i64 m1) ∧ w.cell? (ad.add 3) = some (.int .i64 e1)) :
    Calls Tryz.prog 99 #[.slice (some ad) 2 c] w fun en w' => en = .returned (.bool (v0 && v1)) ∧ Below w.heap.size w w' := by
  have H := Lib.hid (contains2g_c ad c m0 e0 m1 e1 v0 v1 h0 h1 w hb)
  clear h0 h1 hb
  go_enter Tryz.func99, Tryz.ntmps99
  go_wp2_with fail
  refine H.out.mono ?_
  rintro en w1 ⟨rfl, hB⟩
  clear H
  rcases v0 with _ | _ <;> rcases v1 with _ | _ <;> (go_wp2; go_ret; exact ⟨rfl, hB⟩)
end Go.Proofs.YteigbokklclmbaaGreatDoor.Z
end
section
namespace Go.Proofs.YteigbokklclmbaaGreatDoor.Z.Y.Q
open Go.RowKit Go.Proofs.YteigbokklclmbaaGreatDoor.Given Go.Proofs.YteigbokklclmbaaGreatDoorW.PrintWords Go.Proofs.YteigbokklclmbaaGreatDoorW.PrintLast Go.Proofs.YteigbokklclmbaaGreatDoorW.PrintMore
attribute [local go_sem] max2_int min2_int max_two min_two max_three min_three max_four min_four



def errW : Option Int → Value
  | none => .nilIface
  | some c => .iface 0 (.int .i64 c)
theorem errW_none : errW none = .nilIface := rfl
theorem errW_some (c : Int) : errW (some c) = .iface 0 (.int .i64 c) := rfl

-- the values' own types
structure S23 where
  f0 : Int
  f1 : Int
def z23 : S23 := ⟨(0 : Int), (0 : Int)⟩
def k23 : Kd S23 := Kd.iso (Kd.pair (Kd.int .i64) (Kd.int .i64)) (fun x : S23 => (x.f0, x.f1))
theorem k23_open {w : World} {x : S23} {cs : List Value} (h : k23.K w x cs) : cs = [.int .i64 x.f0, .int .i64 x.f1] := by
  obtain ⟨_, _, rfl, rfl, rfl⟩ := h
  exact rfl
theorem k23_mkM (w : World) (base : Nat) (ok : Nat → Prop) (x : S23)  : k23.M w base ok x [.int .i64 x.f0, .int .i64 x.f1] := ⟨[.int .i64 x.f0], [.int .i64 x.f1], rfl, rfl, rfl⟩
def rd_T23 (xs : List S23) (i : Int) : S23 := xs.getD i.toNat z23
theorem at_T23 {w : World} {A : Option Addr} {n : Nat} {xs : List S23} (h : Kd.C k23 w A n xs) (i : Int) (h0 : 0 ≤ i) (h1 : i < n) : ∃ ad , A = some ad ∧ w.cell? (ad.add (i.toNat * 2)) = some (.int .i64 (rd_T23 xs i).f0) ∧ w.cell? ⟨(ad.add (i.toNat * 2)).block, (ad.add (i.toNat * 2)).off + 1, none⟩ = some (.int .i64 (rd_T23 xs i).f1) := by
  obtain ⟨ad, c, e, _, hK, hc0⟩ := Kd.C_get h z23 i h0 h1
  have hc : ∀ j u, c[j]? = some u → w.cell? (ad.add (i.toNat * 2 + j)) = some u := hc0
  obtain rfl := k23_open hK
  exact ⟨ad, e, hc 0 _ rfl, by rw [← add_field _ _ 1 (by omega)]; exact hc 1 _ rfl⟩

end Go.Proofs.YteigbokklclmbaaGreatDoor.Z.Y.Q
end
section
namespace Go.Proofs.YteigbokklclmbaaGreatDoor.Z.Y.Q
open Go Go.RowKit Go.Proofs.YteigbokklclmbaaGreatDoor.Given Go.Proofs.YteigbokklclmbaaGreatDoorW.PrintWords Go.Proofs.YteigbokklclmbaaGreatDoorW.PrintLast Go.Proofs.YteigbokklclmbaaGreatDoorW.PrintMore
def real_all.f : List S23 → Option Bool
  | [a, b] => (real_Valid.f a.f0 a.f1).bind fun v0 => (real_Valid.f b.f0 b.f1).bind fun v1 => some (v0 && v1)
  | _ => none
theorem real_all.calls (A : Option Addr) (c : Nat) (xs : List S23) (r : Bool) (w : World) (HC : Kd.C k23 w A xs.length xs) (hc : xs.length ≤ c) (h : real_all.f xs = some r) :
    Calls Tryz.prog 99 #[.slice A xs.length c] w fun e w' => e = .returned (.bool r) ∧ Below w.heap.size w w' := by
  match xs, HC, hc, h with
  | [a, b], HC, hc, h =>
    obtain ⟨v0, h0, h⟩ := Option.bind_eq_some_iff.mp h
    obtain ⟨v1, h1, h⟩ := Option.bind_eq_some_iff.mp h
    obtain ⟨ad, e, c0, c1⟩ := at_T23 HC 0 (by decide) (by simp)
    obtain ⟨ad', e', c2, c3⟩ := at_T23 HC 1 (by decide) (by simp)
    subst e
    cases e'
    cases h
    exact all2g_c ad c a.f0 a.f1 b.f0 b.f1 v0 v1 h0 h1 w ⟨c0, c1, c2, c3⟩
  | [], _, _, h => cases h
  | [_], _, _, h => cases h
  | _ :: _ :: _ :: _, _, _, h => cases h
end Go.Proofs.YteigbokklclmbaaGreatDoor.Z.Y.Q
end
section
namespace Go.Proofs.YteigbokklclmbaaGreatDoor.Z.Y.Q
open Go.RowKit Go.Proofs.YteigbokklclmbaaGreatDoor.Given Go.Proofs.YteigbokklclmbaaGreatDoorW.PrintWords Go.Proofs.YteigbokklclmbaaGreatDoorW.PrintLast Go.Proofs.YteigbokklclmbaaGreatDoorW.PrintMore
attribute [local go_sem] max2_int min2_int max_two min_two max_three min_three max_four min_four

def real_Cmp.f (a0_0 : Int) (a0_1 : Int) (a1_0 : Int) (a1_1 : Int) : Option (Int × Int) := (real_all.f (([(⟨a0_0, a0_1⟩ : S23), (⟨a1_0, a1_1⟩ : S23)] : List (S23)))).bind fun t106 => (if t106 = true then ((real_index.f a0_0 a0_1).bind fun t107 => ((real_index.f a1_0 a1_1).bind fun t108 => ((real_sign.f (wrap64 (t107 - t108))).bind fun t109 => (some (t109, 0))))) else (some (0, 1)))
def real_Cmp.T3 : Bool × List (List Nat × List Nat) := (true, [([], []), ([0], [0]), ([], []), ([2, 1], [2]), ([1, 3], [1, 3]), ([4, 3], [4]), ([5, 5, 0, 1, 2, 3, 4, 5], [5]), ([6, 0, 1, 2, 3, 4, 5, 6], [])])
def real_Cmp.B3 : List Nat := [0, 1, 0, 7, 15, 31, 63, 127]
theorem real_Cmp.tab3 : rtab .any (opsOf Tryz.f48 3) = real_Cmp.T3 := by kernel_rfl
theorem real_Cmp.bits3 : waitsOk real_Cmp.T3.2 real_Cmp.B3 = true := by kernel_rfl
theorem real_Cmp.calls (a0_0 : Int) (a0_1 : Int) (a1_0 : Int) (a1_1 : Int) (r1 : Int) (r2 : Int) (w : World) (h : real_Cmp.f a0_0 a0_1 a1_0 a1_1 = some (r1, r2)) :
  Calls Tryz.prog 48 #[.agg #[.int .i64 a0_0, .int .i64 a0_1], .agg #[.int .i64 a1_0, .int .i64 a1_1]] w fun e w' => e = .returned (.tuple #[.int .i64 r1, .int .i64 r2]) ∧ Below w.heap.size w w' := by
 have hu23 := Tryz.underlying23
 have HB := Aside0.mk (Below.refl w.heap.size w)
 have H := h; unfold real_Cmp.f at H; clear h
 obtain ⟨y103, hy103⟩ : ∃ y_ : List (S23), y_ = (([(⟨a0_0, a0_1⟩ : S23), (⟨a1_0, a1_1⟩ : S23)] : List (S23))) := ⟨_, rfl⟩
 replace H : ((real_all.f y103).bind fun t106 => (if t106 = true then ((real_index.f a0_0 a0_1).bind fun t107 => ((real_index.f a1_0 a1_1).bind fun t108 => ((real_sign.f (wrap64 (t107 - t108))).bind fun t109 => (some (t109, 0))))) else (some (0, 1)))) = some (r1, r2) := by first | (rw [hy103]; with_reducible exact H) | (have H2_ := (Option.bind_some _ _).symm.trans H; rw [hy103]; with_reducible exact H2_) | (have H2_ := (Option.bind_some _ _).symm.trans H; with_reducible exact H2_) | with_reducible exact H | (rw [hy103]; exact H) | exact H
 have Ny103 := Aside0.mk hy103
 clear hy103
 replace H := Option.bind_eq_some_iff.mp H
 obtain ⟨t106, A30, H⟩ := H
 try dsimp only at H
 have A3 := Aside0.mk A30
 clear A30
 by_cases c4 : t106 = true
 ·subst c4
  rw [if_pos rfl] at H
  replace H := Option.bind_eq_some_iff.mp H
  obtain ⟨t107, A50, H⟩ := H
  try dsimp only at H
  have A5 := Aside0.mk A50
  clear A50
  replace H := Option.bind_eq_some_iff.mp H
  obtain ⟨t108, A60, H⟩ := H
  try dsimp only at H
  have A6 := Aside0.mk A60
  clear A60
  replace H := Option.bind_eq_some_iff.mp H
  obtain ⟨t109, A70, H⟩ := H
  try dsimp only at H
  have A7 := Aside0.mk A70
  clear A70
  simp only [Option.some.injEq, Prod.mk.injEq] at H
  obtain ⟨rfl, rfl⟩ := H
  go_enter Tryz.func48, Tryz.ntmps48
  try go_wp2_with (first | ((with_reducible refine gate_dst (N := 2) rfl ?_); refine bxe 2 #[.int .i64 a0_0, .int .i64 a0_1] 23 ?_; intro gb101 hg w8 hbox hb; have BK101 := Aside0.mk hbox; have GW101 := ge hg; have GE101 := ge hg; replace HB := bs hb; clear hb hbox hg) | ((with_reducible refine gate_dst (N := 3) rfl ?_); refine bxe 3 #[.int .i64 a1_0, .int .i64 a1_1] 23 ?_; intro gb102 hg w9 hbox hb; have BK102 := Aside0.mk hbox; have GW102 := ge hg; have GE102 := ge hg; have NB101_102 := nl BK101 hg; have NB102_101 := nr BK101 hg; replace BK101 := kb BK101 hb; replace HB := bs hb; clear hb hbox hg; have hnb10 := NB101_102.out; have hnc10 := NB102_101.out; have hcz11_0 := Given.c20 BK101; have hcz11_1 := Given.c21 BK101; have hfz11_0 := blk_frozen BK101.out 0; have hfz11_1 := blk_frozen BK101.out 1; have hcz12_0 := Given.c20 BK102; have hcz12_1 := Given.c21 BK102; have hfz12_0 := blk_frozen BK102.out 0; have hfz12_1 := blk_frozen BK102.out 1) | ((with_reducible refine gate_dst (N := 8) rfl ?_); refine Kd.R_lit k23 _ 23 ?hg (N := 8) ?hd (xs := ([(⟨a0_0, a0_1⟩ : S23), (⟨a1_0, a1_1⟩ : S23)] : List (S23))) (inner := [.int .i64 a0_0, .int .i64 a0_1, .int .i64 a1_0, .int .i64 a1_1]) (ok := fun _ => True) (okp := fun _ => True) ?hr ?hp (fun _ hk => hk) trivial (Below.refl _ _) (Nat.le_refl _) (by simp) ?_; (case hd => rfl); (case hg => rfl); (case hr => first | (go_simp; done) | (go_simp; rfl)); (case hp => exact (Reps.c2 (show Kd.M k23 _ _ _ (⟨a0_0, a0_1⟩ : S23) [.int .i64 a0_0, .int .i64 a0_1] from (k23_mkM _ _ _ (⟨a0_0, a0_1⟩ : S23) )) (Reps.c2 (show Kd.M k23 _ _ _ (⟨a1_0, a1_1⟩ : S23) [.int .i64 a1_0, .int .i64 a1_1] from (k23_mkM _ _ _ (⟨a1_0, a1_1⟩ : S23) )) (Reps.none _ _)))); intro v104 w13 ho14 hb hg_ hnew_; clear hg_ hnew_; (first | rw [← Ny103.out] at ho14 | (simp only [Int.reduceToNat] at ho14; rw [← Ny103.out] at ho14)); have HO105 := Aside0.mk (Kd.R_lower (Kd.R_newB (Kd.R_newB ho14 (g := gb101) (o := .cells #[.int .i64 a0_0, .int .i64 a0_1] 23 (0, 0)) (kz BK101)) (g := gb102) (o := .cells #[.int .i64 a1_0, .int .i64 a1_1] 23 (0, 0)) (kz BK102)) (below_size bz)); replace BK101 := kb BK101 hb; replace BK102 := kb BK102 hb; replace HB := bs hb; clear hb ho14; obtain ⟨Ao15, co15, eo15⟩ := Kd.R_slice HO105.out; subst eo15) | ((with_reducible refine gate_callee (f := 99) rfl ?_); refine gL 9 Tryz.func99 #[.slice Ao15 y103.length co15] ?_; (with_reducible refine (real_all.calls _ _ y103 true _ ?side1 ?side2 A3.out).mono ?_); (case side1 => exact ccz (Kd.R_reads' HO105.out).2.2); (case side2 => exact (Kd.R_reads' HO105.out).2.1); rintro e w16 ⟨rfl, hb⟩; refine ⟨_, rfl, ?_⟩; replace HO105 := rb HO105 hb; replace BK101 := kb BK101 hb; replace BK102 := kb BK102 hb; replace HB := bs hb; (try clear hb); (try clear hk)))
  replace HO105 := Aside0.mk (Kd.R_drew HO105.out)
  replace BK101 := Aside0.mk (blk_drew BK101.out)
  replace BK102 := Aside0.mk (blk_drew BK102.out)
  replace HB := Aside0.mk (below_drew1 HB.out)
  refine start_ (n := 8) (S := fun w' => w'.cell? ⟨gb101, 0, none⟩ = some (.int .i64 a0_0) ∧ w'.cell? ⟨gb101, 1, none⟩ = some (.int .i64 a0_1) ∧ w'.cell? ⟨gb102, 0, none⟩ = some (.int .i64 a1_0) ∧ w'.cell? ⟨gb102, 1, none⟩ = some (.int .i64 a1_1)) (ds := []) #[ff,ff,ff,ff,ff,ff,ff,ff] (by kernel_rfl) rfl rfl ⟨bc 0 BK101, bc 1 BK101, bc 0 BK102, bc 1 BK102⟩ (fun hHeld => ?_); refine with_tabW real_Cmp.tab3 real_Cmp.bits3 (fun HT_ HW_ => ?_)
  generalize w16.drew = w17 at HO105 BK101 BK102 HB hHeld ⊢
  refine tk4 0 (some 11) #[tt,ff,ff,ff,ff,ff,ff,ff] ?_
  refine tk4 2 (some 13) #[tt,ff,tt,ff,ff,ff,ff,ff] ?_
  refine on1 1 (some 12) #[tt,tt,tt,ff,ff,ff,ff,ff] (fun K hK => ?_)
  refine goes_ Tryz.func110 (by kernel_rfl) rfl #[.agg #[.int .i64 a0_0, .int .i64 a0_1]] (by rfl) rfl rfl az ?_
  with_reducible refine (real_index.calls a0_0 a0_1 t107 _ A5.out).mono ?_
  rintro e w18 ⟨rfl, hb⟩
  refine ⟨_, rfl, ?_⟩
  replace HO105 := rb HO105 hb
  replace BK101 := kb BK101 hb
  replace BK102 := kb BK102 hb
  replace HB := bs hb
  (try clear hb)
  (try clear hk)
  refine hK.out _ _ ⟨bc 0 BK101, bc 1 BK101, bc 0 BK102, bc 1 BK102⟩ (fun hHeld => ?_)
  clear hK K
  refine nrm (some 12) ?_
  refine on1 3 (some 14) #[tt,tt,tt,tt,ff,ff,ff,ff] (fun K hK => ?_)
  refine goes_ Tryz.func110 (by kernel_rfl) rfl #[.agg #[.int .i64 a1_0, .int .i64 a1_1]] (by rfl) rfl rfl az ?_
  with_reducible refine (real_index.calls a1_0 a1_1 t108 _ A6.out).mono ?_
  rintro e w19 ⟨rfl, hb⟩
  refine ⟨_, rfl, ?_⟩
  replace HO105 := rb HO105 hb
  replace BK101 := kb BK101 hb
  replace BK102 := kb BK102 hb
  replace HB := bs hb
  (try clear hb)
  (try clear hk)
  refine hK.out _ _ ⟨bc 0 BK101, bc 1 BK101, bc 0 BK102, bc 1 BK102⟩ (fun hHeld => ?_)
  clear hK K
  refine nrm (some 14) ?_
  refine pur 4 (some 15) #[tt,tt,tt,tt,tt,ff,ff,ff] ?_
  refine on1 5 (some 16) #[tt,tt,tt,tt,tt,tt,ff,ff] (fun K hK => ?_)
  refine goes_ Tryz.func109 (by kernel_rfl) rfl #[.int .i64 (wrap64 (t107 - t108))] (by rfl) rfl rfl az ?_
  with_reducible refine (real_sign.calls (wrap64 (t107 - t108)) t109 _ A7.out).mono ?_
  rintro e w' ⟨rfl, ⟨nd, rfl⟩⟩
  refine ⟨_, rfl, ?_⟩
  refine hK.out _ _ ⟨bc 0 BK101, bc 1 BK101, bc 0 BK102, bc 1 BK102⟩ (fun hHeld => ?_)
  clear hK K
  refine nrm (some 16) ?_
  refine pur 6 (some 4) #[tt,tt,tt,tt,tt,tt,tt,ff] ?_
  refine pur 7 (some 5) #[tt,tt,tt,tt,tt,tt,tt,tt] ?_
  refine done_ (done_of HT_.out (by kernel_rfl)) ?_
  try go_wp2
  go_ret2
  exact ⟨by first | rfl | (simp [errW_none, errW_some] <;> rfl) | (simp [*, errW_none, errW_some] <;> rfl), bz⟩
 ·replace c4 := Bool.eq_false_iff.mpr c4
  subst c4
  rw [if_neg (show ¬ (false = true) by decide)] at H
  simp only [Option.some.injEq, Prod.mk.injEq] at H
  obtain ⟨rfl, rfl⟩ := H
  go_enter Tryz.func48, Tryz.ntmps48
  go_wp2_with (first | ((with_reducible refine gate_dst (N := 2) rfl ?_); refine bxe 2 #[.int .i64 a0_0, .int .i64 a0_1] 23 ?_; intro gb101 hg w20 hbox hb; have BK101 := Aside0.mk hbox; have GW101 := ge hg; have GE101 := ge hg; replace HB := bs hb; clear hb hbox hg) | ((with_reducible refine gate_dst (N := 3) rfl ?_); refine bxe 3 #[.int .i64 a1_0, .int .i64 a1_1] 23 ?_; intro gb102 hg w21 hbox hb; have BK102 := Aside0.mk hbox; have GW102 := ge hg; have GE102 := ge hg; have NB101_102 := nl BK101 hg; have NB102_101 := nr BK101 hg; replace BK101 := kb BK101 hb; replace HB := bs hb; clear hb hbox hg; have hnb22 := NB101_102.out; have hnc22 := NB102_101.out; have hcz23_0 := Given.c20 BK101; have hcz23_1 := Given.c21 BK101; have hfz23_0 := blk_frozen BK101.out 0; have hfz23_1 := blk_frozen BK101.out 1; have hcz24_0 := Given.c20 BK102; have hcz24_1 := Given.c21 BK102; have hfz24_0 := blk_frozen BK102.out 0; have hfz24_1 := blk_frozen BK102.out 1) | ((with_reducible refine gate_dst (N := 8) rfl ?_); refine Kd.R_lit k23 _ 23 ?hg (N := 8) ?hd (xs := ([(⟨a0_0, a0_1⟩ : S23), (⟨a1_0, a1_1⟩ : S23)] : List (S23))) (inner := [.int .i64 a0_0, .int .i64 a0_1, .int .i64 a1_0, .int .i64 a1_1]) (ok := fun _ => True) (okp := fun _ => True) ?hr ?hp (fun _ hk => hk) trivial (Below.refl _ _) (Nat.le_refl _) (by simp) ?_; (case hd => rfl); (case hg => rfl); (case hr => first | (go_simp; done) | (go_simp; rfl)); (case hp => exact (Reps.c2 (show Kd.M k23 _ _ _ (⟨a0_0, a0_1⟩ : S23) [.int .i64 a0_0, .int .i64 a0_1] from (k23_mkM _ _ _ (⟨a0_0, a0_1⟩ : S23) )) (Reps.c2 (show Kd.M k23 _ _ _ (⟨a1_0, a1_1⟩ : S23) [.int .i64 a1_0, .int .i64 a1_1] from (k23_mkM _ _ _ (⟨a1_0, a1_1⟩ : S23) )) (Reps.none _ _)))); intro v104 w25 ho26 hb hg_ hnew_; clear hg_ hnew_; (first | rw [← Ny103.out] at ho26 | (simp only [Int.reduceToNat] at ho26; rw [← Ny103.out] at ho26)); have HO105 := Aside0.mk (Kd.R_lower (Kd.R_newB (Kd.R_newB ho26 (g := gb101) (o := .cells #[.int .i64 a0_0, .int .i64 a0_1] 23 (0, 0)) (kz BK101)) (g := gb102) (o := .cells #[.int .i64 a1_0, .int .i64 a1_1] 23 (0, 0)) (kz BK102)) (below_size bz)); replace BK101 := kb BK101 hb; replace BK102 := kb BK102 hb; replace HB := bs hb; clear hb ho26; obtain ⟨Ao27, co27, eo27⟩ := Kd.R_slice HO105.out; subst eo27) | ((with_reducible refine gate_callee (f := 99) rfl ?_); refine gL 9 Tryz.func99 #[.slice Ao27 y103.length co27] ?_; (with_reducible refine (real_all.calls _ _ y103 false _ ?side1 ?side2 A3.out).mono ?_); (case side1 => exact ccz (Kd.R_reads' HO105.out).2.2); (case side2 => exact (Kd.R_reads' HO105.out).2.1); rintro e w28 ⟨rfl, hb⟩; refine ⟨_, rfl, ?_⟩; replace HO105 := rb HO105 hb; replace BK101 := kb BK101 hb; replace BK102 := kb BK102 hb; replace HB := bs hb; (try clear hb); (try clear hk)))
  go_ret2
  exact ⟨by first | rfl | (simp [errW_none, errW_some] <;> rfl) | (simp [*, errW_none, errW_some] <;> rfl), bz⟩

end Go.Proofs.YteigbokklclmbaaGreatDoor.Z.Y.Q
end
section
namespace Go.Proofs.YteigbokklclmbaaGreatDoor.M
open Go Go.RowKit Go.Proofs.YteigbokklclmbaaGreatDoor.Given Go.Proofs.YteigbokklclmbaaGreatDoorW.PrintWords Go.Proofs.YteigbokklclmbaaGreatDoorW.PrintLast Go.Proofs.YteigbokklclmbaaGreatDoorW.PrintMore Go.Proofs.YteigbokklclmbaaGreatDoor.Z Go.Proofs.YteigbokklclmbaaGreatDoor.Z.Y Go.Proofs.YteigbokklclmbaaGreatDoor.Z.Y.Q
/-- The range of the indices. -/
def IR (n : Int) : Prop := -2533359615 ≤ n ∧ n ≤ 2533359615
/-- The real with a signed index. -/
def rl (n : Int) : Int × Int := sgn (decide (n < 0)) (atI n.natAbs)
/-- The signed index of a real. -/
def sx (a b : Int) : Int := if a < 0 then -((ix a b : Nat) : Int) else ((ix a b : Nat) : Int)
theorem abs_mx (n : Int) (h : IR n) : mx n (wrap64 (-n)) = ((n.natAbs : Nat) : Int) := mag_abs n (by have := h.1; omega) (by have := h.2; omega)
theorem at_ev {n : Int} (h : IR n) : real_at.f n = some (rl n) := by
  obtain ⟨h0, h1⟩ := h
  have hm := abs_mx n ⟨h0, h1⟩
  unfold real_at.f rl
  rw [hm]
  generalize hN : n.natAbs = N at *
  have hb := atI_bd N (by omega)
  by_cases hs : ((N : Nat) : Int) < 16777216
  · rw [if_pos hs]
    by_cases hz : ((N : Nat) : Int) = 0
    · rw [if_pos hz]
      have : N = 0 := by omega
      subst this
      unfold sgn atI; rw [if_pos rfl]
      split <;> rfl
    · rw [if_neg hz, signed_is (decide (n < 0)) (((N : Nat) : Int), -150)]
      have e1 : sh N = 0 := by unfold sh; omega
      have e2 : man N = N := by unfold man; rw [e1]; omega
      have e3 : atI N = (((N : Nat) : Int), -150) := by unfold atI; rw [if_neg (by omega), e1, e2]; rfl
      rw [e3]
      unfold sgn
      show some ((if decide (n < 0) = true then wrap64 (-((N : Nat) : Int)) else ((N : Nat) : Int)), (-150 : Int)) = _
      rw [w64 (-((N : Nat) : Int)) (by omega) (by omega)]
  · rw [if_neg hs]
    have e1 : Int.tmod ((N : Nat) : Int) 8388608 = ((N % 8388608 : Nat) : Int) := by rw [Int.tmod_eq_emod_of_nonneg (by omega)]; omega
    have e2 : Int.tdiv ((N : Nat) : Int) 8388608 = ((N / 8388608 : Nat) : Int) := by rw [Int.tdiv_eq_ediv_of_nonneg (by omega)]; omega
    have e3 : wrap64 (((N % 8388608 : Nat) : Int) + 8388608) = ((man N : Nat) : Int) := by
      rw [w64 _ (by omega) (by omega)]; unfold man sh; omega
    have e4 : wrap64 (wrap64 (wrap64 ((N / 8388608 : Nat) : Int) - 1) + -150) = ((sh N : Nat) : Int) - 150 := by
      rw [w64 ((N / 8388608 : Nat) : Int) (by omega) (by omega), w64 (((N / 8388608 : Nat) : Int) - 1) (by omega) (by omega), w64 _ (by omega) (by omega)]
      unfold sh; omega
    rw [e1, e2, e3, e4, signed_is (decide (n < 0)) (((man N : Nat) : Int), ((sh N : Nat) : Int) - 150)]
    have e5 : atI N = (((man N : Nat) : Int), ((sh N : Nat) : Int) - 150) := by unfold atI; rw [if_neg (by omega)]
    have hmb := man_bd N
    rw [e5]
    unfold sgn
    show some ((if decide (n < 0) = true then wrap64 (-((man N : Nat) : Int)) else ((man N : Nat) : Int)), ((sh N : Nat) : Int) - 150) = _
    rw [w64 (-((man N : Nat) : Int)) (by omega) (by omega)]
theorem At_ev {n : Int} (h : IR n) : real_At.f n = some ((rl n).1, (rl n).2, 0) := by
  unfold real_At.f; rw [if_neg (by have := h.1; omega), if_neg (by have := h.2; omega), at_ev h]; rfl
theorem sx_IR {a b : Int} (hw : I64 a) (h : VR a b) : IR (sx a b) := by
  have := ix_le hw h
  unfold sx; exact ⟨by split <;> omega, by split <;> omega⟩
theorem index_ev {a b : Int} (hw : I64 a) (h : VR a b) : real_index.f a b = some (sx a b) := by
  obtain ⟨h1, h2, h3⟩ := VR.rc hw h
  have hm := mag_abs a (by omega) (by omega)
  unfold real_index.f sx ix
  by_cases h0 : a = 0
  · rw [if_pos h0, if_pos h0, if_neg (by omega)]; rfl
  · rw [if_neg h0, if_neg h0, hm, w64 (b - -150) (by omega) (by omega), w64 ((b - -150) * 8388608) (by omega) (by omega), w64 (((a.natAbs : Nat) : Int) + (b - -150) * 8388608) (by omega) (by omega)]
    by_cases hn : a < 0
    · rw [if_pos hn, if_pos hn, w64 _ (by omega) (by omega)]; congr 1; omega
    · rw [if_neg hn, if_neg hn]; congr 1; omega
theorem Index_ev {a b : Int} (hw : I64 a) (h : VR a b) : real_Index.f a b = some (sx a b, 0) := by
  unfold real_Index.f; rw [valid_real, decide_eq_true h]; rw [Option.bind_some, if_pos rfl, index_ev hw h]; rfl
theorem Next_ev {a b : Int} (hw : I64 a) (h : VR a b) : real_Next.f a b = some (if sx a b + 1 > 2533359615 then (0, 0, 3) else ((rl (sx a b + 1)).1, (rl (sx a b + 1)).2, 0)) := by
  obtain ⟨h0, h1⟩ := sx_IR hw h
  unfold real_Next.f; rw [valid_real, decide_eq_true h]; rw [Option.bind_some, if_pos rfl, index_ev hw h]; simp only [Option.bind_some]
  rw [w64 _ (by omega) (by omega)]
  by_cases hc : sx a b + 1 > 2533359615
  · rw [if_pos hc, if_pos hc]
  · rw [if_neg hc, if_neg hc, at_ev ⟨by omega, by omega⟩]; rfl
/-- The comparison of two whole numbers. -/
def cmpI (x y : Int) : Int := if x < y then -1 else if x > y then 1 else 0
theorem Cmp_ev {a b c d : Int} (wa : I64 a) (wc : I64 c) (h : VR a b) (h' : VR c d) : real_Cmp.f a b c d = some (cmpI (sx a b) (sx c d), 0) := by
  obtain ⟨h0, h1⟩ := sx_IR wa h
  obtain ⟨h2, h3⟩ := sx_IR wc h'
  unfold real_Cmp.f
  show (((real_Valid.f a b).bind fun v0 => (real_Valid.f c d).bind fun v1 => some (v0 && v1)).bind _) = _
  rw [valid_real, valid_real, decide_eq_true h, decide_eq_true h']
  simp only [Option.bind_some, Bool.and_true]
  rw [if_pos trivial, index_ev wa h, index_ev wc h']
  simp only [Option.bind_some]
  rw [w64 _ (by omega) (by omega)]
  unfold real_sign.f cmpI
  by_cases hl : sx a b - sx c d < 0
  · rw [if_pos hl, if_pos (show sx a b < sx c d by omega)]; rfl
  · by_cases hg : sx a b - sx c d > 0
    · rw [if_neg hl, if_pos hg, if_neg (show ¬ sx a b < sx c d by omega), if_pos (show sx a b > sx c d by omega)]; rfl
    · rw [if_neg hl, if_neg hg, if_neg (show ¬ sx a b < sx c d by omega), if_neg (show ¬ sx a b > sx c d by omega)]; rfl
theorem Valid_ev {a b : Int} (h : VR a b) : real_Valid.f a b = some true := by rw [valid_real, decide_eq_true h]
/-- A signed number. -/
def sval (neg : Bool) (n : Nat) : Int := if neg = true then -(n : Int) else (n : Int)
theorem H_two (I : Nat) : H I = G I + G (I + 1) := rfl
/-- The rounded value is a nearest one among those above 0. -/
theorem Rd.near {N I : Nat} (h : Rd N 1 I) (K : Nat) : ((G I : Int) - N).natAbs ≤ ((G K : Int) - N).natAbs := by
  obtain ⟨h1, h2, h3⟩ := h
  rw [Nat.mul_one] at h2 h3
  rcases Nat.lt_trichotomy K I with hk | hk | hk
  · rcases h1 with h1 | ⟨h1, _⟩
    · omega
    · rw [Nat.mul_one] at h1
      have h4 := G_le (show K ≤ I - 1 by omega)
      have h5 := H_two (I - 1)
      rw [show I - 1 + 1 = I by omega] at h5
      have h6 := G_lt (show I - 1 < I by omega)
      omega
  · rw [hk]; exact Nat.le_refl _
  · have h4 := G_le (show I + 1 ≤ K by omega)
    have h5 := H_two I
    have h6 := G_lt_succ I
    omega
/-- .. and among all. -/
theorem Rd.nearest {N I : Nat} (h : Rd N 1 I) (neg σ : Bool) (K : Nat) : (sval neg (G I) - sval neg N).natAbs ≤ (sval σ (G K) - sval neg N).natAbs := by
  have h1 := Rd.near h K
  have h0 := Rd.near h 0
  rw [G_zero] at h0
  unfold sval
  cases neg <;> cases σ <;> simp only [if_true, if_false, Bool.false_eq_true] <;> omega
theorem sgn_rl (neg : Bool) (I : Nat) : sgn neg (atI I) = rl (if neg = true then -((I : Nat) : Int) else ((I : Nat) : Int)) := by
  unfold rl
  rcases Nat.eq_zero_or_pos I with h | h
  · subst h; cases neg <;> rfl
  · cases neg
    · simp only [if_false, Bool.false_eq_true, Int.natAbs_natCast]; rw [decide_eq_false (by omega)]
    · simp only [if_true, Int.natAbs_neg, Int.natAbs_natCast]; rw [decide_eq_true (by omega)]
end Go.Proofs.YteigbokklclmbaaGreatDoor.M
end
section
namespace Go.Proofs.YteigbokklclmbaaGreatDoor.Z
open Go Go.RowKit Go.Proofs.YteigbokklclmbaaGreatDoor.Given Go.Proofs.YteigbokklclmbaaGreatDoorW.PrintWords Go.Proofs.YteigbokklclmbaaGreatDoorW.PrintLast Go.Proofs.YteigbokklclmbaaGreatDoorW.PrintMore
/-- The blocks of the walk: e, the result; below them all is as it was. -/
structure SqI (w : World) (be bz : Nat) (e : Int) (w' : World) : Prop where
  ke : w'.heap[be]? = some (.cells #[.int .i64 e] 3 (0, 0))
  kz : w'.heap[bz]? = some (.cells #[.int .i64 0, .int .i64 0] 23 (0, 0))
  hB : Below w.heap.size w w'
  le : w.heap.size ≤ be
  lz : w.heap.size ≤ bz
  ne : bz ≠ be
theorem SqI.step {w : World} {be bz : Nat} {e : Int} {w' w'' : World} (h : SqI w be bz e w') (hb : Below w'.heap.size w' w'') : SqI w be bz e w'' :=
  { ke := blk_below h.ke hb, kz := blk_below h.kz hb, hB := h.hB.trans (hb.mono h.hB.size), le := h.le, lz := h.lz, ne := h.ne }
theorem SqI.put {w : World} {be bz : Nat} {e : Int} {w' : World} (h : SqI w be bz e w') (e' : Int) : SqI w be bz e' (w'.setCell ⟨be, 0, none⟩ (.int .i64 e')) :=
  { ke := heap_setCell_same w' be 0 _ _ (.int .i64 e') h.ke, kz := (heap_setCell_other _ _ _ _ h.ne).trans h.kz, hB := h.hB.setCell h.le _, le := h.le, lz := h.lz, ne := h.ne }
theorem SqI.drew {w : World} {be bz : Nat} {e : Int} {w' : World} (h : SqI w be bz e w') : SqI w be bz e w'.drew := h.step (below_drew1 (Below.refl _ _))
structure SqJ (w : World) (be bz : Nat) (e : Int) (br : Nat) (r : Int) (w' : World) : Prop extends SqI w be bz e w' where
  kr : w'.heap[br]? = some (.cells #[.int .u64 r] 72 (0, 0))
  lr : w.heap.size ≤ br
  n1 : be ≠ br
  n2 : bz ≠ br
theorem SqJ.step {w : World} {be bz : Nat} {e : Int} {br : Nat} {r : Int} {w' w'' : World} (h : SqJ w be bz e br r w') (hb : Below w'.heap.size w' w'') : SqJ w be bz e br r w'' :=
  { h.toSqI.step hb with kr := blk_below h.kr hb, lr := h.lr, n1 := h.n1, n2 := h.n2 }
theorem SqJ.put {w : World} {be bz : Nat} {e : Int} {br : Nat} {r : Int} {w' : World} (h : SqJ w be bz e br r w') (r' : Int) : SqJ w be bz e br r' (w'.setCell ⟨br, 0, none⟩ (.int .u64 r')) :=
  { ke := (heap_setCell_other _ _ _ _ h.n1).trans h.ke, kz := (heap_setCell_other _ _ _ _ h.n2).trans h.kz, hB := h.hB.setCell h.lr _, le := h.le, lz := h.lz, ne := h.ne, kr := heap_setCell_same w' br 0 _ _ (.int .u64 r') h.kr, lr := h.lr, n1 := h.n1, n2 := h.n2 }
theorem SqI.box {w : World} {be bz : Nat} {e : Int} {w' : World} (h : SqI w be bz e w') (r : Int) : SqJ w be bz e w'.heap.size r (w'.alloc (.cells #[.int .u64 r] 72)) :=
  { h.step ((Below.refl _ w').alloc (Nat.le_refl _) _) with kr := blk_new _ _, lr := h.hB.size, n1 := by have := blk_lt h.ke; omega, n2 := by have := blk_lt h.kz; omega }
end Go.Proofs.YteigbokklclmbaaGreatDoor.Z
end
section
namespace Go.Proofs.YteigbokklclmbaaGreatDoor.M
open Go Go.RowKit Go.Proofs.YteigbokklclmbaaGreatDoor.Given Go.Proofs.YteigbokklclmbaaGreatDoorW.PrintWords Go.Proofs.YteigbokklclmbaaGreatDoorW.PrintLast Go.Proofs.YteigbokklclmbaaGreatDoorW.PrintMore Go.Proofs.YteigbokklclmbaaGreatDoor.Z Go.Proofs.YteigbokklclmbaaGreatDoor.Z.Y Go.Proofs.YteigbokklclmbaaGreatDoor.Z.Y.V Go.Proofs.YteigbokklclmbaaGreatDoor.Z.Y.Q
theorem Rd.nil {D I : Nat} (hD : 0 < D) (h : Rd 0 D I) : I = 0 := by
  rcases h.1 with h | ⟨h, _⟩
  · exact h
  · have := Nat.mul_pos (H_pos (I - 1)) hD
    omega
/-- What Sqrt comes to: M times a power of four, its whole root, and a bit for the rest. -/
structure SqR (V : Int) (M R s a I : Nat) : Prop where
  hV : V * 2 ^ 150 = ((4 * M * 4 ^ a : Nat) : Int)
  hM : M = 0 ∨ (2 ^ 58 ≤ M ∧ M < 2 ^ 60)
  hR : R * R ≤ M ∧ M < (R + 1) * (R + 1)
  hs : (R * R = M ∧ s = 0) ∨ (¬ R * R = M ∧ s = 1)
  hI : Rd ((2 * R + s) * 2 ^ a) 1 I
theorem SqR.mono {V W : Int} {M R s a I N S t b J : Nat} (h : SqR V M R s a I) (h' : SqR W N S t b J) (hle : V ≤ W) : I ≤ J := by
  refine h.hI.mono (by decide) (by decide) h'.hI ?_
  rw [Nat.mul_one, Nat.mul_one]
  have hle2 : 4 * M * 4 ^ a ≤ 4 * N * 4 ^ b := by
    have h1 : V * 2 ^ 150 ≤ W * 2 ^ 150 := Int.mul_le_mul_of_nonneg_right hle (Int.le_of_lt (Int.pow_pos (by decide)))
    rw [h.hV, h'.hV] at h1
    exact Int.ofNat_le.1 h1
  rw [Nat.mul_assoc, Nat.mul_assoc] at hle2
  have hle3 : M * 4 ^ a ≤ N * 4 ^ b := Nat.le_of_mul_le_mul_left hle2 (by decide)
  have pa : 0 < 4 ^ a := Nat.pow_pos (by decide)
  have pb : 0 < 4 ^ b := Nat.pow_pos (by decide)
  have hs := h.hs
  have ht := h'.hs
  have hR := h.hR
  have hS := h'.hR
  rcases h.hM with hM | ⟨hM1, hM2⟩
  · have hR0 : R = 0 := by
      rcases Nat.eq_zero_or_pos R with h | h
      · exact h
      · have := Nat.mul_pos h h; omega
    subst hR0 hM
    rcases hs with ⟨_, rfl⟩ | ⟨h, _⟩
    · simp
    · exact absurd rfl h
  · rcases h'.hM with hN | ⟨hN1, hN2⟩
    · rw [hN, Nat.zero_mul] at hle3
      have := Nat.mul_pos (show 0 < M by omega) pa
      omega
    · have big : ∀ {M R : Nat}, 2 ^ 58 ≤ M → M < 2 ^ 60 → R * R ≤ M → M < (R + 1) * (R + 1) → 2 ^ 29 ≤ R ∧ R < 2 ^ 30 := by
        intro M R h1 h2 h3 h4
        constructor
        · rcases Nat.lt_or_ge R (2 ^ 29) with h | h
          · have : (R + 1) * (R + 1) ≤ 2 ^ 29 * 2 ^ 29 := Nat.mul_le_mul h h
            omega
          · exact h
        · rcases Nat.lt_or_ge R (2 ^ 30) with h | h
          · exact h
          · have : 2 ^ 30 * 2 ^ 30 ≤ R * R := Nat.mul_le_mul h h
            omega
      obtain ⟨r1, r2⟩ := big hM1 hM2 hR.1 hR.2
      obtain ⟨s1, s2⟩ := big hN1 hN2 hS.1 hS.2
      rcases Nat.lt_trichotomy a b with hab | hab | hab
      · have e1 : 2 ^ (a + 1) ≤ 2 ^ b := Nat.pow_le_pow_right (by decide) hab
        calc (2 * R + s) * 2 ^ a ≤ 2 ^ 31 * 2 ^ a := Nat.mul_le_mul_right _ (by omega)
          _ = 2 ^ 30 * 2 ^ (a + 1) := by rw [Nat.pow_succ 2 a]; omega
          _ ≤ 2 ^ 30 * 2 ^ b := Nat.mul_le_mul_left _ e1
          _ ≤ (2 * S + t) * 2 ^ b := Nat.mul_le_mul_right _ (by omega)
      · subst hab
        have hMN : M ≤ N := Nat.le_of_mul_le_mul_right hle3 pa
        refine Nat.mul_le_mul_right _ ?_
        rcases Nat.lt_trichotomy R S with hRS | hRS | hRS
        · omega
        · subst hRS
          rcases hs with ⟨_, rfl⟩ | ⟨h1, rfl⟩ <;> rcases ht with ⟨h2, rfl⟩ | ⟨h2, rfl⟩ <;> omega
        · have : (S + 1) * (S + 1) ≤ R * R := Nat.mul_le_mul hRS hRS
          omega
      · exfalso
        have e1 : 4 ^ (b + 1) ≤ 4 ^ a := Nat.pow_le_pow_right (by decide) hab
        have e2 : 2 ^ 58 * 4 ^ (b + 1) ≤ M * 4 ^ a := Nat.mul_le_mul hM1 e1
        have e3 : N * 4 ^ b < 2 ^ 60 * 4 ^ b := Nat.mul_lt_mul_of_pos_right hN2 pb
        rw [Nat.pow_succ] at e2
        omega
end Go.Proofs.YteigbokklclmbaaGreatDoor.M
end
section
namespace Go.Proofs.YteigbokklclmbaaGreatDoor.Z.Y.V
open Go.RowKit Go.Proofs.YteigbokklclmbaaGreatDoor.Given Go.Proofs.YteigbokklclmbaaGreatDoorW.PrintWords Go.Proofs.YteigbokklclmbaaGreatDoorW.PrintLast Go.Proofs.YteigbokklclmbaaGreatDoorW.PrintMore
attribute [local go_sem] max2_int min2_int max_two min_two max_three min_three max_four min_four
attribute [local go_sem high] field23_0 field23_1 field50_0 field50_1

def real_Neg.f (a0_0 : Int) (a0_1 : Int) : Option (Int × Int × Int) := (real_Valid.f a0_0 a0_1).bind fun t286 => (if t286 = true then ((real_signed.f true a0_0 a0_1).bind fun bt287 => (some (bt287.1, bt287.2, 0))) else (some (0, 0, 1)))
theorem real_Neg.calls (a0_0 : Int) (a0_1 : Int) (r1 : Int) (r2 : Int) (r3 : Int) (w : World) (h : real_Neg.f a0_0 a0_1 = some (r1, r2, r3)) :
  Calls Tryz.prog 47 #[.agg #[.int .i64 a0_0, .int .i64 a0_1]] w fun e w' => e = .returned (.tuple #[.agg #[.int .i64 r1, .int .i64 r2], .int .i64 r3]) ∧ Below w.heap.size w w' := by
 have hu23 := Tryz.underlying23
 have HB := Aside0.mk (Below.refl w.heap.size w)
 have H := h; unfold real_Neg.f at H; clear h
 replace H := Option.bind_eq_some_iff.mp H
 obtain ⟨t286, A20, H⟩ := H
 try dsimp only at H
 have A2 := Aside0.mk A20
 clear A20
 by_cases c3 : t286 = true
 ·subst c3
  rw [if_pos rfl] at H
  replace H := Option.bind_eq_some_iff.mp H
  obtain ⟨⟨t287, t288⟩, A40, H⟩ := H
  try dsimp only at H
  have A4 := Aside0.mk A40
  clear A40
  simp only [Option.some.injEq, Prod.mk.injEq] at H
  obtain ⟨rfl, rfl, rfl⟩ := H
  go_enter Tryz.func47, Tryz.ntmps47
  go_wp2_with (first | ((with_reducible refine gate_dst (N := 1) rfl ?_); refine bxe 1 #[.int .i64 a0_0, .int .i64 a0_1] 23 ?_; intro gb284 hg w5 hbox hb; have BK284 := Aside0.mk hbox; have GW284 := ge hg; have GE284 := ge hg; replace HB := bs hb; clear hb hbox hg) | ((with_reducible refine gate_dst (N := 2) rfl ?_); refine bxe 2 #[.int .i64 0, .int .i64 0] 23 ?_; intro gb285 hg w6 hbox hb; have BK285 := Aside0.mk hbox; have GW285 := ge hg; have GE285 := ge hg; have NB284_285 := nl BK284 hg; have NB285_284 := nr BK284 hg; replace BK284 := kb BK284 hb; replace HB := bs hb; clear hb hbox hg; have hnb7 := NB284_285.out; have hnc7 := NB285_284.out; have hcz8_0 := c20 BK284; have hcz8_1 := c21 BK284; have hfz8_0 := blk_frozen BK284.out 0; have hfz8_1 := blk_frozen BK284.out 1) | ((with_reducible refine gate_callee (f := 53) rfl ?_); refine gL 5 Tryz.func53 #[.agg #[.int .i64 a0_0, .int .i64 a0_1]] ?_; (with_reducible refine (real_Valid.calls a0_0 a0_1 true _ A2.out).mono ?_); rintro e w9 ⟨rfl, hb⟩; refine ⟨_, rfl, ?_⟩; replace BK284 := kb BK284 hb; replace BK285 := kb BK285 hb; replace HB := bs hb; (try clear hb); have hcz10_0 := c20 BK284; have hcz10_1 := c21 BK284; have hfz10_0 := blk_frozen BK284.out 0; have hfz10_1 := blk_frozen BK284.out 1) | ((with_reducible refine gate_callee (f := 80) rfl ?_); refine gL 9 Tryz.func80 #[.bool true, .agg #[.int .i64 a0_0, .int .i64 a0_1]] ?_; (with_reducible refine (real_signed.calls true a0_0 a0_1 t287 t288 _ A4.out).mono ?_); rintro e w11 ⟨rfl, hb⟩; refine ⟨_, rfl, ?_⟩; replace BK284 := kb BK284 hb; replace BK285 := kb BK285 hb; replace HB := bs hb; (try clear hb); have hcz12_0 := c20 BK285; have hcz12_1 := c21 BK285; have hfz12_0 := blk_frozen BK285.out 0; have hfz12_1 := blk_frozen BK285.out 1))
  refine bodyPost_ret (results_ct rfl _ _ gb285 23 #[.int .i64 t287, .int .i64 t288] (0, 0) _ rfl (by (with_reducible repeat (first | refine blk_drewN ?_ _ | refine blk_drew ?_ | refine blk_alloc ?_ _)); refine blk_put (cs := #[.int .i64 t287, .int .i64 0]) ?_ 1 _ rfl; (with_reducible repeat (first | refine blk_drewN ?_ _ | refine blk_drew ?_ | refine blk_alloc ?_ _)); refine blk_put (cs := #[.int .i64 0, .int .i64 0]) ?_ 0 _ rfl; (with_reducible repeat (first | refine blk_drewN ?_ _ | refine blk_drew ?_ | refine blk_alloc ?_ _)); exact BK285.out) Tryz.underlying23 rfl (by kernel_rfl)) rfl ?_
  exact ⟨by first | rfl | (simp [errW_none, errW_some] <;> rfl) | (simp [*, errW_none, errW_some] <;> rfl), bz⟩
 ·replace c3 := Bool.eq_false_iff.mpr c3
  subst c3
  rw [if_neg (show ¬ (false = true) by decide)] at H
  simp only [Option.some.injEq, Prod.mk.injEq] at H
  obtain ⟨rfl, rfl, rfl⟩ := H
  go_enter Tryz.func47, Tryz.ntmps47
  go_wp2_with (first | ((with_reducible refine gate_dst (N := 1) rfl ?_); refine bxe 1 #[.int .i64 a0_0, .int .i64 a0_1] 23 ?_; intro gb284 hg w13 hbox hb; have BK284 := Aside0.mk hbox; have GW284 := ge hg; have GE284 := ge hg; replace HB := bs hb; clear hb hbox hg) | ((with_reducible refine gate_dst (N := 2) rfl ?_); refine bxe 2 #[.int .i64 0, .int .i64 0] 23 ?_; intro gb285 hg w14 hbox hb; have BK285 := Aside0.mk hbox; have GW285 := ge hg; have GE285 := ge hg; have NB284_285 := nl BK284 hg; have NB285_284 := nr BK284 hg; replace BK284 := kb BK284 hb; replace HB := bs hb; clear hb hbox hg; have hnb15 := NB284_285.out; have hnc15 := NB285_284.out; have hcz16_0 := c20 BK284; have hcz16_1 := c21 BK284; have hfz16_0 := blk_frozen BK284.out 0; have hfz16_1 := blk_frozen BK284.out 1) | ((with_reducible refine gate_callee (f := 53) rfl ?_); refine gL 5 Tryz.func53 #[.agg #[.int .i64 a0_0, .int .i64 a0_1]] ?_; (with_reducible refine (real_Valid.calls a0_0 a0_1 false _ A2.out).mono ?_); rintro e w17 ⟨rfl, hb⟩; refine ⟨_, rfl, ?_⟩; replace BK284 := kb BK284 hb; replace BK285 := kb BK285 hb; replace HB := bs hb; (try clear hb); have hcz18_0 := c20 BK285; have hcz18_1 := c21 BK285; have hfz18_0 := blk_frozen BK285.out 0; have hfz18_1 := blk_frozen BK285.out 1))
  refine bodyPost_ret (results_ct rfl _ _ gb285 23 #[.int .i64 0, .int .i64 0] (0, 0) _ rfl (by (with_reducible repeat (first | refine blk_drewN ?_ _ | refine blk_drew ?_ | refine blk_alloc ?_ _)); refine blk_put (cs := #[.int .i64 0, .int .i64 0]) ?_ 1 _ rfl; (with_reducible repeat (first | refine blk_drewN ?_ _ | refine blk_drew ?_ | refine blk_alloc ?_ _)); refine blk_put (cs := #[.int .i64 0, .int .i64 0]) ?_ 0 _ rfl; (with_reducible repeat (first | refine blk_drewN ?_ _ | refine blk_drew ?_ | refine blk_alloc ?_ _)); exact BK285.out) Tryz.underlying23 rfl (by kernel_rfl)) rfl ?_
  exact ⟨by first | rfl | (simp [errW_none, errW_some] <;> rfl) | (simp [*, errW_none, errW_some] <;> rfl), bz⟩

def manorboyref02_FromInt.f (k : Nat) (a0 : Int) : Option (Int × Int) := if a0 ≥ 0 then ((manorboyref02_Small.f k a0).bind fun t290 => ((manorboyref02_Small.f k 1).bind fun t293 => ((manorboyref02_Quotient_Round.f k false t290 t293).bind fun bt296 => (some (bt296.1, bt296.2.1))))) else ((manorboyref02_Small.f k (wrap64 (-(wrap64 (a0 + 1))))).bind fun t299 => ((manorboyref02_Small.f k 1).bind fun t302 => ((manorboyref02_Nat_Add.f k t299 t302).bind fun t305 => ((manorboyref02_Small.f k 1).bind fun t308 => ((manorboyref02_Quotient_Round.f k true t305 t308).bind fun bt311 => (some (bt311.1, bt311.2.1)))))))
theorem manorboyref02_FromInt.calls (k : Nat) (a0 : Int) (r1 : Int) (r2 : Int) (w : World) (h : manorboyref02_FromInt.f k a0 = some (r1, r2)) :
  Calls Tryz.prog 57 #[.int .i64 a0] w fun e w' => e = .returned (.agg #[.int .i64 r1, .int .i64 r2]) ∧ Below w.heap.size w w' := by
 have hu23 := Tryz.underlying23
 have hu102 := Tryz.underlying102
 have HB := Aside0.mk (Below.refl w.heap.size w)
 have H := h; unfold manorboyref02_FromInt.f at H; clear h
 by_cases c2 : a0 ≥ 0
 ·rw [if_pos c2] at H
  have c2b0 : decide (0 ≤ a0) = true := decide_eq_true c2
  clear c2
  replace H := Option.bind_eq_some_iff.mp H
  obtain ⟨t290, A30, H⟩ := H
  try dsimp only at H
  have A3 := Aside0.mk A30
  clear A30
  replace H := Option.bind_eq_some_iff.mp H
  obtain ⟨t293, A40, H⟩ := H
  try dsimp only at H
  have A4 := Aside0.mk A40
  clear A40
  replace H := Option.bind_eq_some_iff.mp H
  obtain ⟨⟨t296, t297, t298⟩, A50, H⟩ := H
  try dsimp only at H
  have A5 := Aside0.mk A50
  clear A50
  simp only [Option.some.injEq, Prod.mk.injEq] at H
  obtain ⟨rfl, rfl⟩ := H
  go_enter Tryz.func57, Tryz.ntmps57
  go_wp2_with (first | ((with_reducible refine gate_dst (N := 2) rfl ?_); refine bxe 2 #[.int .i64 0, .int .i64 0] 23 ?_; intro gb289 hg w6 hbox hb; have BK289 := Aside0.mk hbox; have GW289 := ge hg; have GE289 := ge hg; replace HB := bs hb; clear hb hbox hg) | ((with_reducible refine gate_callee (f := 85) rfl ?_); refine gL 6 Tryz.func85 #[.int .i64 a0] ?_; (with_reducible refine (manorboyref02_Small.calls k a0 t290 _ A3.out).mono ?_); rintro e w7 ⟨v291, rfl, ho0, hb⟩; refine ⟨_, rfl, ?_⟩; have HO292 := Aside0.mk (Kd.R_lower ho0 (below_size bz)); replace BK289 := kb BK289 hb; replace HB := bs hb; (try clear hb); (try clear ho0)) | ((with_reducible refine gate_callee (f := 85) rfl ?_); refine gL 7 Tryz.func85 #[.int .i64 1] ?_; (with_reducible refine (manorboyref02_Small.calls k 1 t293 _ A4.out).mono ?_); rintro e w8 ⟨v294, rfl, ho0, hb⟩; refine ⟨_, rfl, ?_⟩; have HO295 := Aside0.mk (Kd.R_lower (Kd.R_new' ho0 (Kd.R_lt (rz HO292))) (below_size bz)); replace HO292 := Aside0.mk (Kd.R_elder' (rz HO292) (Kd.R_base ho0) hb); replace BK289 := kb BK289 hb; replace HB := bs hb; (try clear hb); (try clear ho0); obtain ⟨Ao9, co9, eo9⟩ := Kd.R_slice HO295.out; subst eo9; obtain ⟨Ao10, co10, eo10⟩ := Kd.R_slice HO292.out; subst eo10) | ((with_reducible refine gate_callee (f := 88) rfl ?_); refine gL 9 Tryz.func88 #[.agg #[.bool false, .slice Ao10 t290.length co10, .slice Ao9 t293.length co9]] ?_; (with_reducible refine (manorboyref02_Quotient_Round.calls k false _ _ t290 _ _ t293 t296 t297 t298 _ ?side1 ?side2 ?side3 ?side4 A5.out).mono ?_); (case side1 => exact ccz (Kd.R_reads' HO292.out).2.2); (case side2 => exact (Kd.R_reads' HO292.out).2.1); (case side3 => exact ccz (Kd.R_reads' HO295.out).2.2); (case side4 => exact (Kd.R_reads' HO295.out).2.1); rintro e w11 ⟨rfl, hb⟩; refine ⟨_, rfl, ?_⟩; replace HO292 := rb HO292 hb; replace HO295 := rb HO295 hb; replace BK289 := kb BK289 hb; replace HB := bs hb; (try clear hb); have hcz12_0 := c20 BK289; have hcz12_1 := c21 BK289; have hfz12_0 := blk_frozen BK289.out 0; have hfz12_1 := blk_frozen BK289.out 1))
  refine bodyPost_ret (results_cell_row rfl _ _ gb289 23 #[.int .i64 t296, .int .i64 t297] (0, 0) _ rfl (by (with_reducible repeat (first | refine blk_drewN ?_ _ | refine blk_drew ?_ | refine blk_alloc ?_ _)); refine blk_put (cs := #[.int .i64 t296, .int .i64 0]) ?_ 1 _ rfl; (with_reducible repeat (first | refine blk_drewN ?_ _ | refine blk_drew ?_ | refine blk_alloc ?_ _)); refine blk_put (cs := #[.int .i64 0, .int .i64 0]) ?_ 0 _ rfl; (with_reducible repeat (first | refine blk_drewN ?_ _ | refine blk_drew ?_ | refine blk_alloc ?_ _)); exact BK289.out) Tryz.underlying23 rfl (by kernel_rfl)) rfl ?_
  exact ⟨by first | rfl | (simp [errW_none, errW_some] <;> rfl) | (simp [*, errW_none, errW_some] <;> rfl), bz⟩
 ·rw [if_neg c2] at H
  have c2b0 : decide (0 ≤ a0) = false := decide_eq_false c2
  clear c2
  replace H := Option.bind_eq_some_iff.mp H
  obtain ⟨t299, A130, H⟩ := H
  try dsimp only at H
  have A13 := Aside0.mk A130
  clear A130
  replace H := Option.bind_eq_some_iff.mp H
  obtain ⟨t302, A140, H⟩ := H
  try dsimp only at H
  have A14 := Aside0.mk A140
  clear A140
  replace H := Option.bind_eq_some_iff.mp H
  obtain ⟨t305, A150, H⟩ := H
  try dsimp only at H
  have A15 := Aside0.mk A150
  clear A150
  replace H := Option.bind_eq_some_iff.mp H
  obtain ⟨t308, A160, H⟩ := H
  try dsimp only at H
  have A16 := Aside0.mk A160
  clear A160
  replace H := Option.bind_eq_some_iff.mp H
  obtain ⟨⟨t311, t312, t313⟩, A170, H⟩ := H
  try dsimp only at H
  have A17 := Aside0.mk A170
  clear A170
  simp only [Option.some.injEq, Prod.mk.injEq] at H
  obtain ⟨rfl, rfl⟩ := H
  go_enter Tryz.func57, Tryz.ntmps57
  go_wp2_with (first | ((with_reducible refine gate_dst (N := 2) rfl ?_); refine bxe 2 #[.int .i64 0, .int .i64 0] 23 ?_; intro gb289 hg w18 hbox hb; have BK289 := Aside0.mk hbox; have GW289 := ge hg; have GE289 := ge hg; replace HB := bs hb; clear hb hbox hg) | ((with_reducible refine gate_callee (f := 85) rfl ?_); refine gL 14 Tryz.func85 #[.int .i64 (wrap64 (-(wrap64 (a0 + 1))))] ?_; (with_reducible refine (manorboyref02_Small.calls k (wrap64 (-(wrap64 (a0 + 1)))) t299 _ A13.out).mono ?_); rintro e w19 ⟨v300, rfl, ho0, hb⟩; refine ⟨_, rfl, ?_⟩; have HO301 := Aside0.mk (Kd.R_lower ho0 (below_size bz)); replace BK289 := kb BK289 hb; replace HB := bs hb; (try clear hb); (try clear ho0)) | ((with_reducible refine gate_callee (f := 85) rfl ?_); refine gL 15 Tryz.func85 #[.int .i64 1] ?_; (with_reducible refine (manorboyref02_Small.calls k 1 t302 _ A14.out).mono ?_); rintro e w20 ⟨v303, rfl, ho0, hb⟩; refine ⟨_, rfl, ?_⟩; have HO304 := Aside0.mk (Kd.R_lower (Kd.R_new' ho0 (Kd.R_lt (rz HO301))) (below_size bz)); replace HO301 := Aside0.mk (Kd.R_elder' (rz HO301) (Kd.R_base ho0) hb); replace BK289 := kb BK289 hb; replace HB := bs hb; (try clear hb); (try clear ho0); obtain ⟨Ao21, co21, eo21⟩ := Kd.R_slice HO301.out; subst eo21; obtain ⟨Ao22, co22, eo22⟩ := Kd.R_slice HO304.out; subst eo22) | ((with_reducible refine gate_callee (f := 103) rfl ?_); refine gL 16 Tryz.func103 #[.slice Ao21 t299.length co21, .slice Ao22 t302.length co22] ?_; (with_reducible refine (manorboyref02_Nat_Add.calls k _ _ t299 _ _ t302 t305 _ ?side1 ?side2 ?side3 ?side4 A15.out).mono ?_); (case side1 => exact ccz (Kd.R_reads' HO301.out).2.2); (case side2 => exact (Kd.R_reads' HO301.out).2.1); (case side3 => exact ccz (Kd.R_reads' HO304.out).2.2); (case side4 => exact (Kd.R_reads' HO304.out).2.1); rintro e w23 ⟨v306, rfl, ho0, hb⟩; refine ⟨_, rfl, ?_⟩; have HO307 := Aside0.mk (Kd.R_lower (Kd.R_new' (Kd.R_new' ho0 (Kd.R_lt (rz HO301))) (Kd.R_lt (rz HO304))) (below_size bz)); replace HO301 := Aside0.mk (Kd.R_elder' (rz HO301) (Kd.R_base ho0) hb); replace HO304 := Aside0.mk (Kd.R_elder' (rz HO304) (Kd.R_base ho0) hb); replace BK289 := kb BK289 hb; replace HB := bs hb; (try clear hb); (try clear ho0)) | ((with_reducible refine gate_callee (f := 85) rfl ?_); refine gL 17 Tryz.func85 #[.int .i64 1] ?_; (with_reducible refine (manorboyref02_Small.calls k 1 t308 _ A16.out).mono ?_); rintro e w24 ⟨v309, rfl, ho0, hb⟩; refine ⟨_, rfl, ?_⟩; have HO310 := Aside0.mk (Kd.R_lower (Kd.R_new' (Kd.R_new' (Kd.R_new' ho0 (Kd.R_lt (rz HO301))) (Kd.R_lt (rz HO304))) (Kd.R_lt (rz HO307))) (below_size bz)); replace HO301 := Aside0.mk (Kd.R_elder' (rz HO301) (Kd.R_base ho0) hb); replace HO304 := Aside0.mk (Kd.R_elder' (rz HO304) (Kd.R_base ho0) hb); replace HO307 := Aside0.mk (Kd.R_elder' (rz HO307) (Kd.R_base ho0) hb); replace BK289 := kb BK289 hb; replace HB := bs hb; (try clear hb); (try clear ho0); obtain ⟨Ao25, co25, eo25⟩ := Kd.R_slice HO310.out; subst eo25; obtain ⟨Ao26, co26, eo26⟩ := Kd.R_slice HO307.out; subst eo26) | ((with_reducible refine gate_callee (f := 88) rfl ?_); refine gL 19 Tryz.func88 #[.agg #[.bool true, .slice Ao26 t305.length co26, .slice Ao25 t308.length co25]] ?_; (with_reducible refine (manorboyref02_Quotient_Round.calls k true _ _ t305 _ _ t308 t311 t312 t313 _ ?side1 ?side2 ?side3 ?side4 A17.out).mono ?_); (case side1 => exact ccz (Kd.R_reads' HO307.out).2.2); (case side2 => exact (Kd.R_reads' HO307.out).2.1); (case side3 => exact ccz (Kd.R_reads' HO310.out).2.2); (case side4 => exact (Kd.R_reads' HO310.out).2.1); rintro e w27 ⟨rfl, hb⟩; refine ⟨_, rfl, ?_⟩; replace HO301 := rb HO301 hb; replace HO304 := rb HO304 hb; replace HO307 := rb HO307 hb; replace HO310 := rb HO310 hb; replace BK289 := kb BK289 hb; replace HB := bs hb; (try clear hb); have hcz28_0 := c20 BK289; have hcz28_1 := c21 BK289; have hfz28_0 := blk_frozen BK289.out 0; have hfz28_1 := blk_frozen BK289.out 1))
  refine bodyPost_ret (results_cell_row rfl _ _ gb289 23 #[.int .i64 t311, .int .i64 t312] (0, 0) _ rfl (by (with_reducible repeat (first | refine blk_drewN ?_ _ | refine blk_drew ?_ | refine blk_alloc ?_ _)); refine blk_put (cs := #[.int .i64 t311, .int .i64 0]) ?_ 1 _ rfl; (with_reducible repeat (first | refine blk_drewN ?_ _ | refine blk_drew ?_ | refine blk_alloc ?_ _)); refine blk_put (cs := #[.int .i64 0, .int .i64 0]) ?_ 0 _ rfl; (with_reducible repeat (first | refine blk_drewN ?_ _ | refine blk_drew ?_ | refine blk_alloc ?_ _)); exact BK289.out) Tryz.underlying23 rfl (by kernel_rfl)) rfl ?_
  exact ⟨by first | rfl | (simp [errW_none, errW_some] <;> rfl) | (simp [*, errW_none, errW_some] <;> rfl), bz⟩

def real_Abs.f (a0_0 : Int) (a0_1 : Int) : Option (Int × Int × Int) := (real_Valid.f a0_0 a0_1).bind fun t316 => (if t316 = true then ((real_signed.f (decide (a0_0 < 0)) a0_0 a0_1).bind fun bt317 => (some (bt317.1, bt317.2, 0))) else (some (0, 0, 1)))
theorem real_Abs.calls (a0_0 : Int) (a0_1 : Int) (r1 : Int) (r2 : Int) (r3 : Int) (w : World) (h : real_Abs.f a0_0 a0_1 = some (r1, r2, r3)) :
  Calls Tryz.prog 58 #[.agg #[.int .i64 a0_0, .int .i64 a0_1]] w fun e w' => e = .returned (.tuple #[.agg #[.int .i64 r1, .int .i64 r2], .int .i64 r3]) ∧ Below w.heap.size w w' := by
 have hu23 := Tryz.underlying23
 have HB := Aside0.mk (Below.refl w.heap.size w)
 have H := h; unfold real_Abs.f at H; clear h
 replace H := Option.bind_eq_some_iff.mp H
 obtain ⟨t316, A20, H⟩ := H
 try dsimp only at H
 have A2 := Aside0.mk A20
 clear A20
 by_cases c3 : t316 = true
 ·subst c3
  rw [if_pos rfl] at H
  replace H := Option.bind_eq_some_iff.mp H
  obtain ⟨⟨t317, t318⟩, A40, H⟩ := H
  try dsimp only at H
  have A4 := Aside0.mk A40
  clear A40
  simp only [Option.some.injEq, Prod.mk.injEq] at H
  obtain ⟨rfl, rfl, rfl⟩ := H
  go_enter Tryz.func58, Tryz.ntmps58
  go_wp2_with (first | ((with_reducible refine gate_dst (N := 1) rfl ?_); refine bxe 1 #[.int .i64 a0_0, .int .i64 a0_1] 23 ?_; intro gb314 hg w5 hbox hb; have BK314 := Aside0.mk hbox; have GW314 := ge hg; have GE314 := ge hg; replace HB := bs hb; clear hb hbox hg) | ((with_reducible refine gate_dst (N := 2) rfl ?_); refine bxe 2 #[.int .i64 0, .int .i64 0] 23 ?_; intro gb315 hg w6 hbox hb; have BK315 := Aside0.mk hbox; have GW315 := ge hg; have GE315 := ge hg; have NB314_315 := nl BK314 hg; have NB315_314 := nr BK314 hg; replace BK314 := kb BK314 hb; replace HB := bs hb; clear hb hbox hg; have hnb7 := NB314_315.out; have hnc7 := NB315_314.out; have hcz8_0 := c20 BK314; have hcz8_1 := c21 BK314; have hfz8_0 := blk_frozen BK314.out 0; have hfz8_1 := blk_frozen BK314.out 1) | ((with_reducible refine gate_callee (f := 53) rfl ?_); refine gL 5 Tryz.func53 #[.agg #[.int .i64 a0_0, .int .i64 a0_1]] ?_; (with_reducible refine (real_Valid.calls a0_0 a0_1 true _ A2.out).mono ?_); rintro e w9 ⟨rfl, hb⟩; refine ⟨_, rfl, ?_⟩; replace BK314 := kb BK314 hb; replace BK315 := kb BK315 hb; replace HB := bs hb; (try clear hb); have hcz10_0 := c20 BK314; have hcz10_1 := c21 BK314; have hfz10_0 := blk_frozen BK314.out 0; have hfz10_1 := blk_frozen BK314.out 1) | ((with_reducible refine gate_callee (f := 80) rfl ?_); refine gL 12 Tryz.func80 #[.bool (decide (a0_0 < 0)), .agg #[.int .i64 a0_0, .int .i64 a0_1]] ?_; (with_reducible refine (real_signed.calls (decide (a0_0 < 0)) a0_0 a0_1 t317 t318 _ A4.out).mono ?_); rintro e w11 ⟨rfl, hb⟩; refine ⟨_, rfl, ?_⟩; replace BK314 := kb BK314 hb; replace BK315 := kb BK315 hb; replace HB := bs hb; (try clear hb); have hcz12_0 := c20 BK315; have hcz12_1 := c21 BK315; have hfz12_0 := blk_frozen BK315.out 0; have hfz12_1 := blk_frozen BK315.out 1))
  refine bodyPost_ret (results_ct rfl _ _ gb315 23 #[.int .i64 t317, .int .i64 t318] (0, 0) _ rfl (by (with_reducible repeat (first | refine blk_drewN ?_ _ | refine blk_drew ?_ | refine blk_alloc ?_ _)); refine blk_put (cs := #[.int .i64 t317, .int .i64 0]) ?_ 1 _ rfl; (with_reducible repeat (first | refine blk_drewN ?_ _ | refine blk_drew ?_ | refine blk_alloc ?_ _)); refine blk_put (cs := #[.int .i64 0, .int .i64 0]) ?_ 0 _ rfl; (with_reducible repeat (first | refine blk_drewN ?_ _ | refine blk_drew ?_ | refine blk_alloc ?_ _)); exact BK315.out) Tryz.underlying23 rfl (by kernel_rfl)) rfl ?_
  exact ⟨by first | rfl | (simp [errW_none, errW_some] <;> rfl) | (simp [*, errW_none, errW_some] <;> rfl), bz⟩
 ·replace c3 := Bool.eq_false_iff.mpr c3
  subst c3
  rw [if_neg (show ¬ (false = true) by decide)] at H
  simp only [Option.some.injEq, Prod.mk.injEq] at H
  obtain ⟨rfl, rfl, rfl⟩ := H
  go_enter Tryz.func58, Tryz.ntmps58
  go_wp2_with (first | ((with_reducible refine gate_dst (N := 1) rfl ?_); refine bxe 1 #[.int .i64 a0_0, .int .i64 a0_1] 23 ?_; intro gb314 hg w13 hbox hb; have BK314 := Aside0.mk hbox; have GW314 := ge hg; have GE314 := ge hg; replace HB := bs hb; clear hb hbox hg) | ((with_reducible refine gate_dst (N := 2) rfl ?_); refine bxe 2 #[.int .i64 0, .int .i64 0] 23 ?_; intro gb315 hg w14 hbox hb; have BK315 := Aside0.mk hbox; have GW315 := ge hg; have GE315 := ge hg; have NB314_315 := nl BK314 hg; have NB315_314 := nr BK314 hg; replace BK314 := kb BK314 hb; replace HB := bs hb; clear hb hbox hg; have hnb15 := NB314_315.out; have hnc15 := NB315_314.out; have hcz16_0 := c20 BK314; have hcz16_1 := c21 BK314; have hfz16_0 := blk_frozen BK314.out 0; have hfz16_1 := blk_frozen BK314.out 1) | ((with_reducible refine gate_callee (f := 53) rfl ?_); refine gL 5 Tryz.func53 #[.agg #[.int .i64 a0_0, .int .i64 a0_1]] ?_; (with_reducible refine (real_Valid.calls a0_0 a0_1 false _ A2.out).mono ?_); rintro e w17 ⟨rfl, hb⟩; refine ⟨_, rfl, ?_⟩; replace BK314 := kb BK314 hb; replace BK315 := kb BK315 hb; replace HB := bs hb; (try clear hb); have hcz18_0 := c20 BK315; have hcz18_1 := c21 BK315; have hfz18_0 := blk_frozen BK315.out 0; have hfz18_1 := blk_frozen BK315.out 1))
  refine bodyPost_ret (results_ct rfl _ _ gb315 23 #[.int .i64 0, .int .i64 0] (0, 0) _ rfl (by (with_reducible repeat (first | refine blk_drewN ?_ _ | refine blk_drew ?_ | refine blk_alloc ?_ _)); refine blk_put (cs := #[.int .i64 0, .int .i64 0]) ?_ 1 _ rfl; (with_reducible repeat (first | refine blk_drewN ?_ _ | refine blk_drew ?_ | refine blk_alloc ?_ _)); refine blk_put (cs := #[.int .i64 0, .int .i64 0]) ?_ 0 _ rfl; (with_reducible repeat (first | refine blk_drewN ?_ _ | refine blk_drew ?_ | refine blk_alloc ?_ _)); exact BK315.out) Tryz.underlying23 rfl (by kernel_rfl)) rfl ?_
  exact ⟨by first | rfl | (simp [errW_none, errW_some] <;> rfl) | (simp [*, errW_none, errW_some] <;> rfl), bz⟩

def real_Sign.f (a0_0 : Int) (a0_1 : Int) : Option (Int × Int) := (real_Valid.f a0_0 a0_1).bind fun t320 => (if t320 = true then ((real_sign.f a0_0).bind fun t321 => (some (t321, 0))) else (some (0, 1)))
theorem real_Sign.calls (a0_0 : Int) (a0_1 : Int) (r1 : Int) (r2 : Int) (w : World) (h : real_Sign.f a0_0 a0_1 = some (r1, r2)) :
  Calls Tryz.prog 59 #[.agg #[.int .i64 a0_0, .int .i64 a0_1]] w fun e w' => e = .returned (.tuple #[.int .i64 r1, .int .i64 r2]) ∧ Below w.heap.size w w' := by
 have hu23 := Tryz.underlying23
 have HB := Aside0.mk (Below.refl w.heap.size w)
 have H := h; unfold real_Sign.f at H; clear h
 replace H := Option.bind_eq_some_iff.mp H
 obtain ⟨t320, A20, H⟩ := H
 try dsimp only at H
 have A2 := Aside0.mk A20
 clear A20
 by_cases c3 : t320 = true
 ·subst c3
  rw [if_pos rfl] at H
  replace H := Option.bind_eq_some_iff.mp H
  obtain ⟨t321, A40, H⟩ := H
  try dsimp only at H
  have A4 := Aside0.mk A40
  clear A40
  simp only [Option.some.injEq, Prod.mk.injEq] at H
  obtain ⟨rfl, rfl⟩ := H
  go_enter Tryz.func59, Tryz.ntmps59
  go_wp2_with (first | ((with_reducible refine gate_dst (N := 1) rfl ?_); refine bxe 1 #[.int .i64 a0_0, .int .i64 a0_1] 23 ?_; intro gb319 hg w5 hbox hb; have BK319 := Aside0.mk hbox; have GW319 := ge hg; have GE319 := ge hg; replace HB := bs hb; clear hb hbox hg; have hcz6_0 := c20 BK319; have hcz6_1 := c21 BK319; have hfz6_0 := blk_frozen BK319.out 0; have hfz6_1 := blk_frozen BK319.out 1) | ((with_reducible refine gate_callee (f := 53) rfl ?_); refine gL 5 Tryz.func53 #[.agg #[.int .i64 a0_0, .int .i64 a0_1]] ?_; (with_reducible refine (real_Valid.calls a0_0 a0_1 true _ A2.out).mono ?_); rintro e w7 ⟨rfl, hb⟩; refine ⟨_, rfl, ?_⟩; replace BK319 := kb BK319 hb; replace HB := bs hb; (try clear hb); have hcz8_0 := c20 BK319; have hcz8_1 := c21 BK319; have hfz8_0 := blk_frozen BK319.out 0; have hfz8_1 := blk_frozen BK319.out 1) | ((with_reducible refine gate_callee (f := 109) rfl ?_); refine gL 9 Tryz.func109 #[.int .i64 a0_0] ?_; (with_reducible refine (real_sign.calls a0_0 t321 _ A4.out).mono ?_); rintro e w' ⟨rfl, ⟨nd, rfl⟩⟩; refine ⟨_, rfl, ?_⟩))
  go_ret2
  exact ⟨by first | rfl | (simp [errW_none, errW_some] <;> rfl) | (simp [*, errW_none, errW_some] <;> rfl), bz⟩
 ·replace c3 := Bool.eq_false_iff.mpr c3
  subst c3
  rw [if_neg (show ¬ (false = true) by decide)] at H
  simp only [Option.some.injEq, Prod.mk.injEq] at H
  obtain ⟨rfl, rfl⟩ := H
  go_enter Tryz.func59, Tryz.ntmps59
  go_wp2_with (first | ((with_reducible refine gate_dst (N := 1) rfl ?_); refine bxe 1 #[.int .i64 a0_0, .int .i64 a0_1] 23 ?_; intro gb319 hg w9 hbox hb; have BK319 := Aside0.mk hbox; have GW319 := ge hg; have GE319 := ge hg; replace HB := bs hb; clear hb hbox hg; have hcz10_0 := c20 BK319; have hcz10_1 := c21 BK319; have hfz10_0 := blk_frozen BK319.out 0; have hfz10_1 := blk_frozen BK319.out 1) | ((with_reducible refine gate_callee (f := 53) rfl ?_); refine gL 5 Tryz.func53 #[.agg #[.int .i64 a0_0, .int .i64 a0_1]] ?_; (with_reducible refine (real_Valid.calls a0_0 a0_1 false _ A2.out).mono ?_); rintro e w11 ⟨rfl, hb⟩; refine ⟨_, rfl, ?_⟩; replace BK319 := kb BK319 hb; replace HB := bs hb; (try clear hb)))
  go_ret2
  exact ⟨by first | rfl | (simp [errW_none, errW_some] <;> rfl) | (simp [*, errW_none, errW_some] <;> rfl), bz⟩

def manorboyref02_Index.f : Nat → Int → Int → Option (Int)
 | 0, _, _ => none
 | k + 1, a0_0, a0_1 => if a0_0 < 0 then ((manorboyref02_Index.f k (wrap64 (-a0_0)) a0_1).bind fun t323 => (some (wrap64 (-t323)))) else (if a0_0 = 0 then (some 0) else (some (wrap64 (a0_0 + (wrap64 ((wrap64 (a0_1 + 150)) * 8388608))))))
theorem manorboyref02_Index.calls (k : Nat) : ∀ (a0_0 : Int) (a0_1 : Int) (r : Int) (w : World) (h : manorboyref02_Index.f k a0_0 a0_1 = some r),
  Calls Tryz.prog 62 #[.agg #[.int .i64 a0_0, .int .i64 a0_1]] w fun e w' => e = .returned (.int .i64 r) ∧ Below w.heap.size w w' := by
 induction k using Nat.strongRecOn with
 | _ k ih =>
 intro a0_0 a0_1 r w h
 cases k with
 | zero => exact absurd h (by simp [manorboyref02_Index.f])
 | succ k =>
 simp only [manorboyref02_Index.f] at h
 have hu23 := Tryz.underlying23
 have HB := Aside0.mk (Below.refl w.heap.size w)
 have H := h; clear h
 by_cases c2 : a0_0 < 0
 ·rw [if_pos c2] at H
  have c2b0 : decide (a0_0 < 0) = true := decide_eq_true c2
  clear c2
  replace H := Option.bind_eq_some_iff.mp H
  obtain ⟨t323, A30, H⟩ := H
  try dsimp only at H
  have A3 := Aside0.mk A30
  clear A30
  obtain rfl := Option.some.inj H
  go_enter Tryz.func62, Tryz.ntmps62
  go_wp2_with (first | ((with_reducible refine gate_dst (N := 1) rfl ?_); refine bxe 1 #[.int .i64 a0_0, .int .i64 a0_1] 23 ?_; intro gb322 hg w4 hbox hb; have BK322 := Aside0.mk hbox; have GW322 := ge hg; have GE322 := ge hg; replace HB := bs hb; clear hb hbox hg; have hcz5_0 := c20 BK322; have hcz5_1 := c21 BK322; have hfz5_0 := blk_frozen BK322.out 0; have hfz5_1 := blk_frozen BK322.out 1) | ((with_reducible refine gate_callee (f := 62) rfl ?_); refine gL 12 Tryz.func62 #[.agg #[.int .i64 (wrap64 (-a0_0)), .int .i64 a0_1]] ?_; (with_reducible refine (ih k (by omega) (wrap64 (-a0_0)) a0_1 t323 _ A3.out).mono ?_); rintro e w6 ⟨rfl, hb⟩; refine ⟨_, rfl, ?_⟩; replace BK322 := kb BK322 hb; replace HB := bs hb; (try clear hb)))
  go_ret
  exact ⟨by first | rfl | (simp [errW_none, errW_some] <;> rfl) | (simp [*, errW_none, errW_some] <;> rfl), bz⟩
 ·rw [if_neg c2] at H
  have c2b0 : decide (a0_0 < 0) = false := decide_eq_false c2
  clear c2
  by_cases c7 : a0_0 = 0
  ·rw [if_pos c7] at H
   have c7b0 : (a0_0 == 0) = true := beq_iff_eq.mpr c7
   have c7b1 : (a0_0 != 0) = false := bne_eq_false_iff_eq.mpr c7
   clear c7
   obtain rfl := Option.some.inj H
   go_enter Tryz.func62, Tryz.ntmps62
   go_wp2_with (first | ((with_reducible refine gate_dst (N := 1) rfl ?_); refine bxe 1 #[.int .i64 a0_0, .int .i64 a0_1] 23 ?_; intro gb322 hg w8 hbox hb; have BK322 := Aside0.mk hbox; have GW322 := ge hg; have GE322 := ge hg; replace HB := bs hb; clear hb hbox hg; have hcz9_0 := c20 BK322; have hcz9_1 := c21 BK322; have hfz9_0 := blk_frozen BK322.out 0; have hfz9_1 := blk_frozen BK322.out 1))
   go_ret
   exact ⟨by first | rfl | (simp [errW_none, errW_some] <;> rfl) | (simp [*, errW_none, errW_some] <;> rfl), bz⟩
  ·rw [if_neg c7] at H
   have c7b0 : (a0_0 == 0) = false := beq_eq_false_iff_ne.mpr c7
   have c7b1 : (a0_0 != 0) = true := bne_iff_ne.mpr c7
   obtain rfl := Option.some.inj H
   go_enter Tryz.func62, Tryz.ntmps62
   go_wp2_with (first | ((with_reducible refine gate_dst (N := 1) rfl ?_); refine bxe 1 #[.int .i64 a0_0, .int .i64 a0_1] 23 ?_; intro gb322 hg w10 hbox hb; have BK322 := Aside0.mk hbox; have GW322 := ge hg; have GE322 := ge hg; replace HB := bs hb; clear hb hbox hg; have hcz11_0 := c20 BK322; have hcz11_1 := c21 BK322; have hfz11_0 := blk_frozen BK322.out 0; have hfz11_1 := blk_frozen BK322.out 1))
   go_ret
   exact ⟨by first | rfl | (simp [errW_none, errW_some] <;> rfl) | (simp [*, errW_none, errW_some] <;> rfl), bz⟩

def manorboyref02_Compare.f (a0 : Int) (a1 : Int) : Option (Int) := if a0 < a1 then (some (-1)) else (if a0 > a1 then (some 1) else (some 0))
theorem manorboyref02_Compare.calls (a0 : Int) (a1 : Int) (r : Int) (w : World) (h : manorboyref02_Compare.f a0 a1 = some r) :
  Calls Tryz.prog 63 #[.int .i64 a0, .int .i64 a1] w fun e w' => e = .returned (.int .i64 r) ∧ Drawn0 w w' := by
 have H := h; unfold manorboyref02_Compare.f at H; clear h
 by_cases c3 : a0 < a1
 ·rw [if_pos c3] at H
  have c3b0 : decide (a0 < a1) = true := decide_eq_true c3
  clear c3
  obtain rfl := Option.some.inj H
  go_enter Tryz.func63, Tryz.ntmps63
  go_wp2
  go_ret
  exact ⟨by first | rfl | (simp; done) | (simp [*]; done) | (exfalso; simp at *; done), by repeat (first | exact Drawn0.refl _ | apply Drawn0.step)⟩
 ·rw [if_neg c3] at H
  have c3b0 : decide (a0 < a1) = false := decide_eq_false c3
  clear c3
  by_cases c4 : a0 > a1
  ·rw [if_pos c4] at H
   have c4b0 : decide (a1 < a0) = true := decide_eq_true c4
   clear c4
   obtain rfl := Option.some.inj H
   go_enter Tryz.func63, Tryz.ntmps63
   go_wp2
   go_ret
   exact ⟨by first | rfl | (simp; done) | (simp [*]; done) | (exfalso; simp at *; done), by repeat (first | exact Drawn0.refl _ | apply Drawn0.step)⟩
  ·rw [if_neg c4] at H
   have c4b0 : decide (a1 < a0) = false := decide_eq_false c4
   clear c4
   obtain rfl := Option.some.inj H
   go_enter Tryz.func63, Tryz.ntmps63
   go_wp2
   go_ret
   exact ⟨by first | rfl | (simp; done) | (simp [*]; done) | (exfalso; simp at *; done), by repeat (first | exact Drawn0.refl _ | apply Drawn0.step)⟩

def manorboyref02_Cmp.f (k : Nat) (a0_0 : Int) (a0_1 : Int) (a1_0 : Int) (a1_1 : Int) : Option (Int) := (manorboyref02_Index.f k a0_0 a0_1).bind fun t326 => ((manorboyref02_Index.f k a1_0 a1_1).bind fun t327 => ((manorboyref02_Compare.f t326 t327).bind fun t328 => (some t328)))
theorem manorboyref02_Cmp.calls (k : Nat) (a0_0 : Int) (a0_1 : Int) (a1_0 : Int) (a1_1 : Int) (r : Int) (w : World) (h : manorboyref02_Cmp.f k a0_0 a0_1 a1_0 a1_1 = some r) :
  Calls Tryz.prog 60 #[.agg #[.int .i64 a0_0, .int .i64 a0_1], .agg #[.int .i64 a1_0, .int .i64 a1_1]] w fun e w' => e = .returned (.int .i64 r) ∧ Below w.heap.size w w' := by
 have hu23 := Tryz.underlying23
 have HB := Aside0.mk (Below.refl w.heap.size w)
 have H := h; unfold manorboyref02_Cmp.f at H; clear h
 replace H := Option.bind_eq_some_iff.mp H
 obtain ⟨t326, A30, H⟩ := H
 try dsimp only at H
 have A3 := Aside0.mk A30
 clear A30
 replace H := Option.bind_eq_some_iff.mp H
 obtain ⟨t327, A40, H⟩ := H
 try dsimp only at H
 have A4 := Aside0.mk A40
 clear A40
 replace H := Option.bind_eq_some_iff.mp H
 obtain ⟨t328, A50, H⟩ := H
 try dsimp only at H
 have A5 := Aside0.mk A50
 clear A50
 obtain rfl := Option.some.inj H
 go_enter Tryz.func60, Tryz.ntmps60
 try go_wp2_with (first | ((with_reducible refine gate_dst (N := 2) rfl ?_); refine bxe 2 #[.int .i64 a0_0, .int .i64 a0_1] 23 ?_; intro gb324 hg w6 hbox hb; have BK324 := Aside0.mk hbox; have GW324 := ge hg; have GE324 := ge hg; replace HB := bs hb; clear hb hbox hg) | ((with_reducible refine gate_dst (N := 3) rfl ?_); refine bxe 3 #[.int .i64 a1_0, .int .i64 a1_1] 23 ?_; intro gb325 hg w7 hbox hb; have BK325 := Aside0.mk hbox; have GW325 := ge hg; have GE325 := ge hg; have NB324_325 := nl BK324 hg; have NB325_324 := nr BK324 hg; replace BK324 := kb BK324 hb; replace HB := bs hb; clear hb hbox hg))
 replace BK324 := Aside0.mk (blk_drew BK324.out)
 replace BK325 := Aside0.mk (blk_drew BK325.out)
 replace HB := Aside0.mk (below_drew1 HB.out)
 refine start_ (n := 6) (S := fun w' => w'.cell? ⟨gb324, 0, none⟩ = some (.int .i64 a0_0) ∧ w'.cell? ⟨gb324, 1, none⟩ = some (.int .i64 a0_1) ∧ w'.cell? ⟨gb325, 0, none⟩ = some (.int .i64 a1_0) ∧ w'.cell? ⟨gb325, 1, none⟩ = some (.int .i64 a1_1)) (ds := []) #[ff,ff,ff,ff,ff,ff] (by kernel_rfl) rfl rfl ⟨bc 0 BK324, bc 1 BK324, bc 0 BK325, bc 1 BK325⟩ (fun hHeld => ?_)
 generalize w7.drew = w8 at BK324 BK325 HB hHeld ⊢
 refine take_ (i := 0) (N := some 5) (v := ?_) (a' := ?_) #[true, false, false, false, false, false] rfl rfl (by kernel_rfl) (fun _ _ _ h => h) (Or.inl ⟨by rfl, ?_⟩) hHeld ?_ ?_
 rotate_left
 ·rintro w' ⟨s0, s1, s2, s3⟩
  go_simp
  with_reducible rfl
 rotate_left
 ·simp only [Act.put, List.setIfInBounds_toArray, List.set_cons_zero, List.set_cons_succ, i64_w, i32_w]
  rfl
 refine take_ (i := 2) (N := some 7) (v := ?_) (a' := ?_) #[true, false, true, false, false, false] rfl rfl (by kernel_rfl) (fun _ _ _ h => h) (Or.inl ⟨by rfl, ?_⟩) hHeld ?_ ?_
 rotate_left
 ·rintro w' ⟨s0, s1, s2, s3⟩
  go_simp
  with_reducible rfl
 rotate_left
 ·simp only [Act.put, List.setIfInBounds_toArray, List.set_cons_zero, List.set_cons_succ, i64_w, i32_w]
  rfl
 refine one_ (i := 1) (N := some 6) #[true, true, true, false, false, false] rfl rfl (by kernel_rfl) (by decide) (fun K hK => ?_)
 refine goes_ Tryz.func62 (by kernel_rfl) rfl #[.agg #[.int .i64 a0_0, .int .i64 a0_1]] (by rfl) rfl rfl az ?_
 with_reducible refine (manorboyref02_Index.calls k a0_0 a0_1 t326 _ A3.out).mono ?_
 rintro e w9 ⟨rfl, hb⟩
 refine ⟨_, rfl, ?_⟩
 replace BK324 := kb BK324 hb
 replace BK325 := kb BK325 hb
 replace HB := bs hb
 (try clear hb)
 refine hK.out _ _ ⟨bc 0 BK324, bc 1 BK324, bc 0 BK325, bc 1 BK325⟩ (fun hHeld => ?_)
 clear hK K
 refine nrm (some 6) ?_
 refine one_ (i := 3) (N := some 8) #[true, true, true, true, false, false] rfl rfl (by kernel_rfl) (by decide) (fun K hK => ?_)
 refine goes_ Tryz.func62 (by kernel_rfl) rfl #[.agg #[.int .i64 a1_0, .int .i64 a1_1]] (by rfl) rfl rfl az ?_
 with_reducible refine (manorboyref02_Index.calls k a1_0 a1_1 t327 _ A4.out).mono ?_
 rintro e w10 ⟨rfl, hb⟩
 refine ⟨_, rfl, ?_⟩
 replace BK324 := kb BK324 hb
 replace BK325 := kb BK325 hb
 replace HB := bs hb
 (try clear hb)
 refine hK.out _ _ ⟨bc 0 BK324, bc 1 BK324, bc 0 BK325, bc 1 BK325⟩ (fun hHeld => ?_)
 clear hK K
 refine nrm (some 8) ?_
 refine one_ (i := 4) (N := some 9) #[true, true, true, true, true, false] rfl rfl (by kernel_rfl) (by decide) (fun K hK => ?_)
 refine goes_ Tryz.func63 (by kernel_rfl) rfl #[.int .i64 t326, .int .i64 t327] (by rfl) rfl rfl az ?_
 with_reducible refine (manorboyref02_Compare.calls t326 t327 t328 _ A5.out).mono ?_
 rintro e w' ⟨rfl, ⟨nd, rfl⟩⟩
 refine ⟨_, rfl, ?_⟩
 refine hK.out _ _ ⟨bc 0 BK324, bc 1 BK324, bc 0 BK325, bc 1 BK325⟩ (fun hHeld => ?_)
 clear hK K
 refine nrm (some 9) ?_
 refine pure_ (i := 5) (N := some 4) (v := ?_) (a' := ?_) #[true, true, true, true, true, true] rfl rfl (by kernel_rfl) (fun _ _ _ h => h) (Or.inl ⟨by rfl, ?_⟩) ?_ ?_
 rotate_left
 ·intro w'
  go_simp
  with_reducible rfl
 rotate_left
 ·simp only [Act.put, List.setIfInBounds_toArray, List.set_cons_zero, List.set_cons_succ, i64_w, i32_w]
  rfl
 refine done_ (by kernel_rfl) ?_
 try go_wp2
 go_ret
 exact ⟨by first | rfl | (simp [errW_none, errW_some] <;> rfl) | (simp [*, errW_none, errW_some] <;> rfl), bz⟩

-- NOT PRINTED: function 15 (manorboylaw02_RealNumbers)

end Go.Proofs.YteigbokklclmbaaGreatDoor.Z.Y.V
end
section
namespace Go.Proofs.YteigbokklclmbaaGreatDoor.M
open Go Go.RowKit Go.Proofs.YteigbokklclmbaaGreatDoor.Given Go.Proofs.YteigbokklclmbaaGreatDoorW.PrintWords Go.Proofs.YteigbokklclmbaaGreatDoorW.PrintLast Go.Proofs.YteigbokklclmbaaGreatDoorW.PrintMore Go.Proofs.YteigbokklclmbaaGreatDoor.Z Go.Proofs.YteigbokklclmbaaGreatDoor.Z.Y Go.Proofs.YteigbokklclmbaaGreatDoor.Z.Y.V Go.Proofs.YteigbokklclmbaaGreatDoor.Z.Y.Q
theorem Neg_ev {a b : Int} (hw : I64 a) (h : VR a b) : real_Neg.f a b = some (-a, b, 0) := by
  obtain ⟨_, _, hw', _⟩ := neg_VR hw h
  rw [real_Neg.f, Valid_ev h, Option.bind_some, if_pos rfl, signed_is true (a, b), Option.bind_some]
  rw [if_pos rfl]
  show some (wrap64 (-a), b, 0) = _
  rw [hw']
theorem fromA_ev (n : Int) (h0 : -9223372036854775808 ≤ n) (h1 : n ≤ 9223372036854775807) : ∃ I, Rd (n.natAbs * 2 ^ 150) 1 I ∧ I ≤ 2533359615 ∧ Ev (fun k => real_FromIntN.f k n) (sgn (decide (n < 0)) (atI I)) := by
  have b1 : bl n.natAbs ≤ 64 := bl_le_iff.2 (by omega)
  obtain ⟨I, hR, hE⟩ := rounded_one n.natAbs 0 (by omega) (by omega) (by omega)
  have e150 : ((0 : Int) + 150).toNat = 150 := rfl
  rw [e150] at hR
  have hI : I ≤ 2533359615 := by
    have hG : G (8388608 + 190 * 8388608) = 9223372036854775808 * 2 ^ 150 := by
      rw [G_at 8388608 190 (by decide) (by decide), show (9223372036854775808 : Nat) = 8388608 * 2 ^ 40 by decide, Nat.mul_assoc, ← Nat.pow_add]
    have he := Rd.exact (8388608 + 190 * 8388608) 1 (by decide)
    rw [hG] at he
    have := hR.mono (by decide) (by decide) he (by
      rw [Nat.mul_one, Nat.mul_one, Nat.mul_one]
      exact Nat.mul_le_mul_right _ (by omega))
    omega
  refine ⟨I, hR, hI, ?_⟩
  have hb := atI_bd I hI
  have hj : Ev (fun k => real_FromInt.j0 k n ((n.natAbs : Nat) : Int)) (sgn (decide (n < 0)) (atI I)) := by
    refine Ev.step (fun k => by rw [real_FromInt.j0]) ?_
    refine Ev.bind (natOf_ev n.natAbs (by omega)) (Ev.bind hE ?_)
    rw [← sgnr_in hI]
    exact Ev.congr (fun k => signed_back _ I) (Ev.now _)
  have hf : Ev (fun k => real_FromInt.f k n) (sgn (decide (n < 0)) (atI I)) := by
    by_cases hn : n < 0
    · have u1 : IntKind.u64.wrap n = n + 18446744073709551616 := by
        have : IntKind.u64.wrap n = n % 18446744073709551616 := by simp [IntKind.wrap, IntKind.bits, IntKind.signed]
        rw [this]; omega
      have u2 : IntKind.u64.wrap (-(n + 18446744073709551616)) = ((n.natAbs : Nat) : Int) := by
        have : IntKind.u64.wrap (-(n + 18446744073709551616)) = (-(n + 18446744073709551616)) % 18446744073709551616 := by simp [IntKind.wrap, IntKind.bits, IntKind.signed]
        rw [this]; omega
      exact Ev.congr (fun k => by unfold real_FromInt.f; rw [if_pos hn, u1, u2]) hj
    · have u1 : IntKind.u64.wrap n = ((n.natAbs : Nat) : Int) := by rw [wu64 _ (by omega) (by omega)]; omega
      exact Ev.congr (fun k => by unfold real_FromInt.f; rw [if_neg hn, u1]) hj
  refine Ev.congr (f := fun k => (real_FromInt.f k n).bind fun r => if r.2 = 1000 then none else some r) (fun k => rfl) (Ev.bind hf ?_)
  have h2 : ¬ (sgn (decide (n < 0)) (atI I)).2 = 1000 := by unfold sgn; show ¬ (atI I).2 = 1000; omega
  exact Ev.congr (fun k => if_neg h2) (Ev.now _)
theorem AbsN_ev {a b : Int} (hw : I64 a) (h : VR a b) : real_Abs.f a b = some ((atI (ix a b)).1, (atI (ix a b)).2, 0) := by
  obtain ⟨_, _, hw', _⟩ := neg_VR hw h
  rw [ix_at hw h, real_Abs.f, Valid_ev h, Option.bind_some, if_pos rfl, signed_is (decide (a < 0)) (a, b), Option.bind_some]
  by_cases hn : a < 0
  · rw [if_pos (decide_eq_true hn)]
    show some (wrap64 (-a), b, 0) = _
    rw [hw', show -a = ((a.natAbs : Nat) : Int) by omega]
  · rw [if_neg (by rw [decide_eq_false hn]; decide)]
    show some (a, b, 0) = _
    rw [show a = ((a.natAbs : Nat) : Int) by omega]; rfl
theorem rref_in {neg : Bool} {I : Nat} (h : I ≤ 2533359615) : rref neg I = ((sgn neg (atI I)).1, (sgn neg (atI I)).2, true) := by unfold rref; rw [if_neg (by omega)]
theorem ref_from_ev {n : Int} (w : I64 n) {I : Nat} (hI : I ≤ 2533359615) (hR : Rd (n.natAbs * 2 ^ 150) 1 I) : Ev (fun k => manorboyref02_FromInt.f k n) (sgn (decide (n < 0)) (atI I)) := by
  obtain ⟨w0, w1⟩ := w
  have b1 : bl n.natAbs ≤ 64 := bl_le_iff.2 (by omega)
  have h1 : Ev (fun k => manorboyref02_Small.f k 1) (E 1) := smallE_ev (n := 1) (by decide)
  have hb : bl 1 ≤ 1 := bl_le_iff.2 (by decide)
  by_cases h : n ≥ 0
  · have hr := round_ev false n.natAbs 1 I (by decide) (by omega) (by omega) hR
    have hs := smallE_ev (n := n.natAbs) (by omega)
    rw [show ((n.natAbs : Nat) : Int) = n by omega] at hs
    rw [decide_eq_false (show ¬ n < 0 by omega)]
    refine Ev.congr (fun k => by unfold manorboyref02_FromInt.f; rw [if_pos h]) (Ev.bind hs (Ev.bind h1 (Ev.bind hr ?_)))
    rw [rref_in hI]
    exact Ev.now _
  · have hr := round_ev true n.natAbs 1 I (by decide) (by omega) (by omega) hR
    have hs := smallE_ev (n := n.natAbs - 1) (by omega)
    have e : wrap64 (-(wrap64 (n + 1))) = ((n.natAbs - 1 : Nat) : Int) := by rw [w64 (n + 1) (by omega) (by omega), w64 _ (by omega) (by omega)]; omega
    have b2 := bl_mono (Nat.sub_le n.natAbs 1)
    have ha := addE_ev (a := n.natAbs - 1) (b := 1) (Se.of (by omega)) (Se.of (by omega))
    rw [show n.natAbs - 1 + 1 = n.natAbs by omega] at ha
    rw [decide_eq_true (show n < 0 by omega)]
    refine Ev.congr (fun k => by unfold manorboyref02_FromInt.f; rw [if_neg h, e]) (Ev.bind hs (Ev.bind h1 (Ev.bind ha (Ev.bind h1 (Ev.bind hr ?_)))))
    rw [rref_in hI]
    exact Ev.now _
theorem index_pos {a b : Int} (h0 : 0 < a) (h1 : a < 16777216) (h2 : -150 ≤ b) (h3 : b ≤ 150) (k : Nat) : manorboyref02_Index.f (k + 1) a b = some ((ix a b : Nat) : Int) := by
  rw [manorboyref02_Index.f, if_neg (by omega), if_neg (by omega), w64 (b + 150) (by omega) (by omega), w64 ((b + 150) * 8388608) (by omega) (by omega), w64 _ (by omega) (by omega)]
  unfold ix
  rw [if_neg (by omega)]
  congr 1; omega
theorem ref_index_ev {a b : Int} (hw : I64 a) (h : VR a b) : Ev (fun k => manorboyref02_Index.f k a b) (sx a b) := by
  obtain ⟨r1, r2, r3⟩ := VR.rc hw h
  obtain ⟨hn, wn, hw', hi⟩ := neg_VR hw h
  have hl := ix_le hw h
  unfold sx
  by_cases hneg : a < 0
  · rw [if_pos hneg]
    refine Ev.step (f := fun k => (manorboyref02_Index.f k (-a) b).bind fun t => some (wrap64 (-t))) (fun k => by rw [manorboyref02_Index.f, if_pos hneg, hw']) ?_
    refine Ev.step (f := fun k => some (-((ix a b : Nat) : Int))) (fun k => ?_) (Ev.now _)
    rw [index_pos (by omega) (by omega) r2 r3, hi, Option.bind_some, w64 _ (by omega) (by omega)]
  · rw [if_neg hneg]
    by_cases h0 : a = 0
    · refine Ev.step (f := fun k => some ((ix a b : Nat) : Int)) (fun k => ?_) (Ev.now _)
      rw [manorboyref02_Index.f, if_neg hneg, if_pos h0]; unfold ix; rw [if_pos h0]; rfl
    · exact Ev.step (f := fun k => some ((ix a b : Nat) : Int)) (fun k => index_pos (by omega) (by omega) r2 r3 k) (Ev.now _)
theorem ref_cmp_ev {a b c d : Int} (wa : I64 a) (wc : I64 c) (h : VR a b) (h' : VR c d) : Ev (fun k => manorboyref02_Cmp.f k a b c d) (cmpI (sx a b) (sx c d)) := by
  refine Ev.congr (fun k => by unfold manorboyref02_Cmp.f; rfl) (Ev.bind (ref_index_ev wa h) (Ev.bind (ref_index_ev wc h') ?_))
  refine Ev.congr (f := fun _ => some (cmpI (sx a b) (sx c d))) (fun k => ?_) (Ev.now _)
  unfold manorboyref02_Compare.f cmpI
  split
  · rfl
  · split <;> rfl
theorem ref_at_ev {n : Int} (h : IR n) : Ev (fun k => manorboyref02_At.f k n) (rl n) := by
  obtain ⟨h0, h1⟩ := h
  by_cases hn : n < 0
  · have h2 := atN_ev n.natAbs (by omega)
    rw [sgn_rl, if_pos rfl, show -((n.natAbs : Nat) : Int) = n by omega] at h2
    exact h2
  · have h2 := atE_ev n.natAbs (by omega)
    have h3 : atI n.natAbs = sgn false (atI n.natAbs) := rfl
    rw [h3, sgn_rl, if_neg (by decide), show ((n.natAbs : Nat) : Int) = n by omega] at h2
    exact h2
theorem At_out {n : Int} (h : ¬ IR n) : real_At.f n = some (0, 0, 1) := by
  unfold real_At.f IR at *
  by_cases h1 : n < -2533359615
  · rw [if_pos h1]
  · rw [if_neg h1, if_pos (by omega)]
theorem Valid_no {a b : Int} (h : ¬ VR a b) : real_Valid.f a b = some false := by rw [valid_real, decide_eq_false h]
theorem Index_no {a b : Int} (h : ¬ VR a b) : real_Index.f a b = some (0, 1) := by unfold real_Index.f; rw [Valid_no h]; rfl
theorem Next_no {a b : Int} (h : ¬ VR a b) : real_Next.f a b = some (0, 0, 1) := by unfold real_Next.f; rw [Valid_no h]; rfl
theorem Neg_no {a b : Int} (h : ¬ VR a b) : real_Neg.f a b = some (0, 0, 1) := by unfold real_Neg.f; rw [Valid_no h]; rfl
theorem Abs_no {a b : Int} (h : ¬ VR a b) : real_Abs.f a b = some (0, 0, 1) := by unfold real_Abs.f; rw [Valid_no h]; rfl
theorem Sign_no {a b : Int} (h : ¬ VR a b) : real_Sign.f a b = some (0, 1) := by unfold real_Sign.f; rw [Valid_no h]; rfl
theorem Cmp_no {a b c d : Int} (h : ¬ (VR a b ∧ VR c d)) : real_Cmp.f a b c d = some (0, 1) := by
  unfold real_Cmp.f
  show (((real_Valid.f a b).bind fun v0 => (real_Valid.f c d).bind fun v1 => some (v0 && v1)).bind _) = _
  rw [valid_real, valid_real]
  have : (decide (VR a b) && decide (VR c d)) = false := by
    rw [← Bool.decide_and]; exact decide_eq_false h
  simp only [Option.bind_some, this]
  rfl
theorem compare_is (a b : Int) : manorboyref02_Compare.f a b = some (cmpI a b) := by
  unfold manorboyref02_Compare.f cmpI
  split
  · rfl
  · split <;> rfl
theorem Sign_ev {a b : Int} (h : VR a b) : real_Sign.f a b = some (cmpI a 0, 0) := by
  unfold real_Sign.f real_sign.f cmpI
  rw [Valid_ev h, Option.bind_some, if_pos rfl]
  split
  · rfl
  · split <;> rfl
end Go.Proofs.YteigbokklclmbaaGreatDoor.M
end
section
namespace Go.Proofs.YteigbokklclmbaaGreatDoor.Z
open Go Go.RowKit Go.Proofs.YteigbokklclmbaaGreatDoor.Given Go.Proofs.YteigbokklclmbaaGreatDoorW.PrintWords Go.Proofs.YteigbokklclmbaaGreatDoorW.PrintLast Go.Proofs.YteigbokklclmbaaGreatDoorW.PrintMore Go.Proofs.YteigbokklclmbaaGreatDoor.Z.Y.Q
/-- The blocks l lie in w', made since w; all elder memory is as it was. -/
def Bs (w : World) (l : List (Nat × Int × Int)) (w' : World) : Prop :=
  Below w.heap.size w w' ∧ (∀ p, p ∈ l → w'.heap[p.1]? = some (.cells #[.int .i64 p.2.1, .int .i64 p.2.2] 23 (0, 0)) ∧ w.heap.size ≤ p.1) ∧ (l.map Prod.fst).Nodup
theorem Bs.nil (w : World) : Bs w [] w := ⟨Below.refl _ _, fun _ h => (by cases h), List.nodup_nil⟩
theorem Bs.step {w w' w'' : World} {l : List (Nat × Int × Int)} (h : Bs w l w') (hb : Below w'.heap.size w' w'') : Bs w l w'' :=
  ⟨h.1.trans (hb.mono h.1.size), fun p hp => ⟨blk_below (h.2.1 p hp).1 hb, (h.2.1 p hp).2⟩, h.2.2⟩
theorem Bs.box {w w' : World} {l : List (Nat × Int × Int)} (h : Bs w l w') (m e : Int) : Bs w ((w'.heap.size, m, e) :: l) (w'.alloc (.cells #[.int .i64 m, .int .i64 e] 23)) := by
  refine ⟨h.1.alloc h.1.size _, fun p hp => ?_, ?_⟩
  · rcases List.mem_cons.1 hp with rfl | hp
    · exact ⟨blk_new _ _, h.1.size⟩
    · exact ⟨blk_alloc (h.2.1 p hp).1 _, (h.2.1 p hp).2⟩
  · rw [List.map_cons, List.nodup_cons]
    refine ⟨fun hm => ?_, h.2.2⟩
    obtain ⟨p, hp, he⟩ := List.mem_map.1 hm
    have := blk_lt (h.2.1 p hp).1
    omega
theorem Bs.put {w w' : World} (l1 l2 : List (Nat × Int × Int)) (b : Nat) (m0 e0 : Int) (h : Bs w (l1 ++ (b, m0, e0) :: l2) w') (m e : Int) :
    Bs w (l1 ++ (b, m, e) :: l2) ((w'.setCell ⟨b, 0, none⟩ (.int .i64 m)).setCell ⟨b, 1, none⟩ (.int .i64 e)) := by
  have hb := h.2.1 (b, m0, e0) (by simp)
  have hn := h.2.2
  rw [List.map_append, List.map_cons] at hn
  have far : ∀ p, p ∈ l1 ∨ p ∈ l2 → p.1 ≠ b := by
    intro p hp he
    rw [List.nodup_append] at hn
    rcases hp with hp | hp
    · exact hn.2.2 p.1 (List.mem_map_of_mem hp) b (by simp) he
    · have hm := List.mem_map_of_mem (f := Prod.fst) hp
      rw [he] at hm
      exact (List.nodup_cons.1 hn.2.1).1 hm
  refine ⟨(h.1.setCell hb.2 _).setCell hb.2 _, fun p hp => ?_, by rw [List.map_append, List.map_cons]; exact hn⟩
  by_cases hpb : p ∈ l1 ∨ p ∈ l2
  · have hf := far p hpb
    have h0 := h.2.1 p (by rcases hpb with h | h <;> simp [h])
    exact ⟨(heap_setCell_other _ _ _ _ hf).trans ((heap_setCell_other _ _ _ _ hf).trans h0.1), h0.2⟩
  · have he : p = (b, m, e) := by
      rcases List.mem_append.1 hp with hp | hp
      · exact absurd (.inl hp) hpb
      · rcases List.mem_cons.1 hp with hp | hp
        · exact hp
        · exact absurd (.inr hp) hpb
    subst he
    exact ⟨heap_setCell_same (w'.setCell ⟨b, 0, none⟩ (.int .i64 m)) b 1 _ _ (.int .i64 e) (heap_setCell_same w' b 0 _ _ (.int .i64 m) hb.1), hb.2⟩
/-- What the walk asks of each block. -/
def BsAll (w : World) : List (Nat × Int × Int) → Prop
  | [] => True
  | p :: l => (w.cell? ⟨p.1, 0, none⟩ = some (.int .i64 p.2.1) ∧ w.cell? ⟨p.1, 1, none⟩ = some (.int .i64 p.2.2) ∧ w.frozen? ⟨p.1, 0, none⟩ = false ∧ w.frozen? ⟨p.1, 1, none⟩ = false ∧ p.1 < w.heap.size) ∧ BsAll w l
theorem bs_all {w : World} : ∀ (l : List (Nat × Int × Int)), (∀ p, p ∈ l → w.heap[p.1]? = some (.cells #[.int .i64 p.2.1, .int .i64 p.2.2] 23 (0, 0))) → BsAll w l
  | [], _ => trivial
  | p :: l, h => ⟨⟨(blk_cell (h p (by simp)) 0).trans rfl, (blk_cell (h p (by simp)) 1).trans rfl, blk_frozen (h p (by simp)) 0, blk_frozen (h p (by simp)) 1, blk_lt (h p (by simp))⟩, bs_all l (fun q hq => h q (by simp [hq]))⟩
theorem Bs.all {w w' : World} {l : List (Nat × Int × Int)} (h : Bs w l w') : BsAll w' l := bs_all l (fun p hp => (h.2.1 p hp).1)
end Go.Proofs.YteigbokklclmbaaGreatDoor.Z
end
section
namespace Go.Proofs.YteigbokklclmbaaGreatDoor.Z
open Go Go.RowKit Go.Proofs.YteigbokklclmbaaGreatDoor.Given Go.Proofs.YteigbokklclmbaaGreatDoorW.PrintWords Go.Proofs.YteigbokklclmbaaGreatDoorW.PrintLast Go.Proofs.YteigbokklclmbaaGreatDoorW.PrintMore Go.Proofs.YteigbokklclmbaaGreatDoor.Z.Y.Q Go.Proofs.YteigbokklclmbaaGreatDoor.Z.Y.V
theorem Bs.drew {w w' : World} {l : List (Nat × Int × Int)} (h : Bs w l w') : Bs w l w'.drew := h.step (below_drew1 (Below.refl _ _))
theorem Bs.ne {w w' : World} {l : List (Nat × Int × Int)} (h : Bs w l w') {i j : Nat} (hij : i < j) (hj : j < l.length) : (l[i]'(by omega)).1 ≠ l[j].1 := by
  have hp := h.2.2
  rw [List.Nodup, List.pairwise_map] at hp
  exact List.pairwise_iff_getElem.1 hp i j (by omega) hj hij
end Go.Proofs.YteigbokklclmbaaGreatDoor.Z
namespace Go.Proofs.YteigbokklclmbaaGreatDoor.Z.Y
open Go Go.RowKit Go.Proofs.YteigbokklclmbaaGreatDoor.Given Go.Proofs.YteigbokklclmbaaGreatDoorW.PrintWords Go.Proofs.YteigbokklclmbaaGreatDoorW.PrintLast Go.Proofs.YteigbokklclmbaaGreatDoorW.PrintMore Go.Proofs.YteigbokklclmbaaGreatDoor.Z.Y.Q Go.Proofs.YteigbokklclmbaaGreatDoor.Z.Y.V
end Go.Proofs.YteigbokklclmbaaGreatDoor.Z.Y
end
section
namespace Go.Proofs.YteigbokklclmbaaGreatDoor.Z.Y
open Go Go.RowKit Go.Proofs.YteigbokklclmbaaGreatDoor.Given Go.Proofs.YteigbokklclmbaaGreatDoorW.PrintWords Go.Proofs.YteigbokklclmbaaGreatDoorW.PrintLast Go.Proofs.YteigbokklclmbaaGreatDoorW.PrintMore Go.Proofs.YteigbokklclmbaaGreatDoor.Z.Y.Q Go.Proofs.YteigbokklclmbaaGreatDoor.Z.Y.V
def numbT3 : Bool × List (List Nat × List Nat) := (true, [([], []), ([], []), ([], []), ([2], [2]), ([0, 1, 3, 3], [0, 1, 3]), ([4], [4])])
def numbB3 : List Nat := [0, 0, 0, 4, 15, 31]
theorem numbTab3 : rtab .any (opsOf Tryz.f15 3) = numbT3 := by kernel_rfl
theorem numbBits3 : waitsOk numbT3.2 numbB3 = true := by kernel_rfl
def numbT7 : Bool × List (List Nat × List Nat) := (true, [([], []), ([0], [0]), ([], []), ([2, 1], [2]), ([1, 3], [1, 3]), ([4, 3], [4]), ([5], [5]), ([6, 5, 5], [5, 6]), ([5], [5]), ([8, 7, 5], [5, 8]), ([7, 9, 5], [5, 7, 9]), ([5, 10], [5, 10])])
def numbB7 : List Nat := [0, 1, 0, 7, 15, 31, 63, 127, 63, 511, 1023, 2047]
theorem numbTab7 : rtab .any (opsOf Tryz.f15 7) = numbT7 := by kernel_rfl
theorem numbBits7 : waitsOk numbT7.2 numbB7 = true := by kernel_rfl
def numbT22 : Bool × List (List Nat × List Nat) := (true, [([], []), ([0], [0]), ([1], [1]), ([2], [2]), ([2], [2]), ([4, 2, 2], [2, 4]), ([3, 5, 2], [2, 3, 5]), ([2, 6], [2, 6]), ([7, 5], [7]), ([8], [8]), ([8], [8]), ([8], [8]), ([11, 8, 8], [8, 11]), ([9, 10, 12, 12, 8], [8, 9, 10, 12]), ([13, 8], [8, 13]), ([8, 14], [8, 14]), ([15, 13], [15]), ([16], [16]), ([16], [16]), ([16], [16]), ([17, 18, 19, 16, 16], [16, 17, 18, 19]), ([20, 16], [16, 20]), ([16, 21], [16, 21]), ([22, 20], [22]), ([23], [23]), ([24, 23], [23, 24]), ([23, 25], [23, 25]), ([26, 23], [26]), ([27], [27]), ([27], [27]), ([29, 27], [27, 29]), ([30, 27, 27], [27, 30]), ([28, 31, 27], [27, 28, 31]), ([27, 32], [27, 32])])
def numbB22 : List Nat := [0, 1, 3, 7, 7, 23, 63, 127, 255, 511, 511, 511, 2559, 8191, 16383, 32767, 65535, 131071, 131071, 131071, 1048575, 2097151, 4194303, 8388607, 16777215, 33554431, 67108863, 134217727, 268435455, 268435455, 805306367, 1879048191, 4294967295, 8589934591]
theorem numbTab22 : rtab .any (opsOf Tryz.f15 22) = numbT22 := by kernel_rfl
theorem numbBits22 : waitsOk numbT22.2 numbB22 = true := by kernel_rfl
def numbT26 : Bool × List (List Nat × List Nat) := (true, [([], []), ([0, 0], [0]), ([1], [1]), ([1], [1]), ([1], [1]), ([4, 1], [1, 4]), ([5, 1, 1], [1, 5]), ([2, 3, 6, 6, 1], [1, 2, 3, 6]), ([1, 7], [1, 7]), ([8, 7, 0, 1, 2, 3, 4, 5, 6, 7, 8], [8])])
def numbB26 : List Nat := [0, 1, 3, 3, 3, 19, 51, 127, 255, 511]
theorem numbTab26 : rtab .any (opsOf Tryz.f15 26) = numbT26 := by kernel_rfl
theorem numbBits26 : waitsOk numbT26.2 numbB26 = true := by kernel_rfl
theorem bsBelN {w w' : World} {l : List (Nat × Int × Int)} (h : Bs w l w') : Below w.heap.size w w' := h.1
theorem compareB (a0 a1 r : Int) (w : World) (h : manorboyref02_Compare.f a0 a1 = some r) : Calls Tryz.prog 63 #[.int .i64 a0, .int .i64 a1] w fun e w' => e = .returned (.int .i64 r) ∧ Below w.heap.size w w' := (manorboyref02_Compare.calls a0 a1 r w h).mono fun _ _ h => ⟨h.1, h.2.below⟩
theorem numb_c (k : Nat) (x0 x1 y0 y1 idx n t0 t1 t2 u0 u1 i0 i1 n0 n1 n2 g0 g1 g2 b0 b1 b2 s0 s1 c0 c1 : Int) (inr bv by_ : Bool) (hat : real_At.f idx = some (t0, t1, t2)) (hinr : inr = decide (-2533359615 ≤ idx ∧ idx ≤ 2533359615)) (hin : inr = true → t2 = 0 ∧ manorboyref02_At.f k idx = some (t0, t1)) (hout : inr = false → t0 = 0 ∧ t1 = 0 ∧ t2 = 1) (hfi : real_FromIntN.f k n = some (u0, u1)) (hrf : manorboyref02_FromInt.f k n = some (u0, u1)) (hv : real_Valid.f x0 x1 = some bv) (hrv : manorboyref02_Valid.f k x0 x1 = some bv) (hi : real_Index.f x0 x1 = some (i0, i1)) (hn : real_Next.f x0 x1 = some (n0, n1, n2)) (hg : real_Neg.f x0 x1 = some (g0, g1, g2)) (hb : real_Abs.f x0 x1 = some (b0, b1, b2)) (hsg : real_Sign.f x0 x1 = some (s0, s1)) (hc : real_Cmp.f x0 x1 y0 y1 = some (c0, c1)) (hinv : bv = false → i0 = 0 ∧ i1 = 1 ∧ n0 = 0 ∧ n1 = 0 ∧ n2 = 1 ∧ g0 = 0 ∧ g1 = 0 ∧ g2 = 1 ∧ b0 = 0 ∧ b1 = 0 ∧ b2 = 1 ∧ s0 = 0 ∧ s1 = 1 ∧ c0 = 0 ∧ c1 = 1) (hval : bv = true → i1 = 0 ∧ g2 = 0 ∧ b2 = 0 ∧ s1 = 0) (hry : manorboyref02_Valid.f k y0 y1 = some by_) (hyn : bv = true → by_ = false → c0 = 0 ∧ c1 = 1) (hyv : bv = true → by_ = true → c1 = 0 ∧ manorboyref02_Cmp.f k x0 x1 y0 y1 = some c0) (hw1 : bv = true → x0 < 0 → manorboyref02_Neg.f x0 x1 = some (b0, b1)) (hw2 : bv = true → ¬ x0 < 0 → b0 = x0 ∧ b1 = x1) (hri : bv = true → manorboyref02_Index.f k x0 x1 = some i0) (hrn : bv = true → manorboyref02_Neg.f x0 x1 = some (g0, g1)) (hrc : bv = true → manorboyref02_Compare.f x0 0 = some s0) (hmx : bv = true → i0 = 2533359615 → n0 = 0 ∧ n1 = 0 ∧ n2 = 3) (hnm : bv = true → ¬ i0 = 2533359615 → n2 = 0 ∧ manorboyref02_At.f k (wrap64 (i0 + 1)) = some (n0, n1)) (hs : manorboylaw02_sanity.f k = some true) (w : World) (ht : Table w) :
    Calls Tryz.prog 15 #[.agg #[.int .i64 x0, .int .i64 x1], .agg #[.int .i64 y0, .int .i64 y1], .int .i64 idx, .int .i64 n] w fun e w' => e = .returned (.bool true) ∧ Below w.heap.size w w' := by
  have HT := Aside0.mk (Lib.tabBelow_of_tabIs ht)
  have HAT := Lib.hid hat
  have HINR := Lib.hid hinr
  have HIN := Lib.hid hin
  have HOUT := Lib.hid hout
  have HFI := Lib.hid hfi
  have HRF := Lib.hid hrf
  have HV := Lib.hid hv
  have HRV := Lib.hid hrv
  have HI := Lib.hid hi
  have HN := Lib.hid hn
  have HG := Lib.hid hg
  have HB := Lib.hid hb
  have HSG := Lib.hid hsg
  have HC := Lib.hid hc
  have HINV := Lib.hid hinv
  have HVAL := Lib.hid hval
  have HRY := Lib.hid hry
  have HYN := Lib.hid hyn
  have HYV := Lib.hid hyv
  have HW1 := Lib.hid hw1
  have HW2 := Lib.hid hw2
  have HRI := Lib.hid hri
  have HRN := Lib.hid hrn
  have HRC := Lib.hid hrc
  have HMX := Lib.hid hmx
  have HNM := Lib.hid hnm
  have HS := Lib.hid hs
  clear ht hat hinr hin hout hfi hrf hv hrv hi hn hg hb hsg hc hinv hval hry hyn hyv hw1 hw2 hri hrn hrc hmx hnm hs
  have hu23 := Tryz.underlying23
  go_enter Tryz.func15, Tryz.ntmps15
  have H := Lib.hid (Bs.nil w)
  go_wp2_with fail
  refine (real_At.calls idx t0 t1 t2 _ HAT.out).mono ?_
  rintro _ w1 ⟨rfl, hb⟩
  replace H := Lib.hid (show Bs w [((w.alloc (.cells #[.int .i64 x0, .int .i64 x1] 23)).heap.size, y0, y1), (w.heap.size, x0, x1)] w1 from (((H.out).box (x0) (x1)).box (y0) (y1)).step hb)
  clear hb
  obtain ⟨⟨fy_0, fy_1, fy_2, fy_3, fy_4⟩, ⟨fx_0, fx_1, fx_2, fx_3, fx_4⟩, -⟩ := H.out.all
  simp only [World.size_alloc] at H
  clear fy_0 fy_1 fy_2 fy_3 fy_4 fx_0 fx_1 fx_2 fx_3 fx_4
  go_upto_region 2 with fail
  replace H := Lib.hid (show Bs w [(w1.heap.size, t0, t1), ((w.heap.size + 1), y0, y1), (w.heap.size, x0, x1)] _ from (H.out).box (t0) (t1))
  go_cut [33] (fun v33 wc => v33 = .bool inr ∧ Aside0 (Bs w [(w1.heap.size, t0, t1), ((w.heap.size + 1), y0, y1), (w.heap.size, x0, x1)] wc))
  case first => as_aux_lemma =>
    have hinr := HINR.out
    by_cases q1 : -2533359615 ≤ idx
    rotate_left
    · have hv : inr = false := by rw [hinr]; exact decide_eq_false (by omega)
      have d1 : decide (-2533359615 ≤ idx) = false := decide_eq_false q1
      go_wp2
      go_meet
      case rel => exact ⟨by rw [hv] <;> (first | rfl | (simp [*]; done)), ⟨H.out⟩⟩
    by_cases q2 : idx ≤ 2533359615
    rotate_left
    · have hv : inr = false := by rw [hinr]; exact decide_eq_false (by omega)
      have d1 : decide (-2533359615 ≤ idx) = true := decide_eq_true q1
      have d2 : decide (idx ≤ 2533359615) = false := decide_eq_false q2
      go_wp2
      go_meet
      case rel => exact ⟨by rw [hv] <;> (first | rfl | (simp [*]; done)), ⟨H.out⟩⟩
    · have hv : inr = true := by rw [hinr]; exact decide_eq_true (by omega)
      have d1 : decide (-2533359615 ≤ idx) = true := decide_eq_true q1
      have d2 : decide (idx ≤ 2533359615) = true := decide_eq_true q2
      go_wp2
      go_meet
      case rel => exact ⟨by rw [hv] <;> (first | rfl | (simp [*]; done)), ⟨H.out⟩⟩
  case rest => as_aux_lemma =>
    obtain ⟨rfl, HJ⟩ := hcut
    replace H := Lib.hid HJ.out
    clear HJ
    go_upto_if 33 with fail
    go_cut [] (fun we => Aside0 (Bs w [(w1.heap.size, t0, t1), ((w.heap.size + 1), y0, y1), (w.heap.size, x0, x1)] we))
    case first => as_aux_lemma =>
      rcases hb : inr with _ | _
      · obtain ⟨rfl, rfl, rfl⟩ := HOUT.out hb
        obtain ⟨⟨fat_0, fat_1, fat_2, fat_3, fat_4⟩, -, -, -⟩ := H.out.all
        go_wp2
        go_meet
        case rel => exact ⟨H.out⟩
      · obtain ⟨rfl, hra⟩ := HIN.out hb
        have HRA := Lib.hid hra
        clear hra
        have HIT := Lib.hid (show manorboylaw02_is.f t0 t1 0 t0 t1 = some true by simp [manorboylaw02_is.f])
        go_wp2_with fail
        replace H := Lib.hid H.out.drew
        refine start_ (n := 6) (S := fun w' => BsAll w' [(w1.heap.size, t0, t1), ((w.heap.size + 1), y0, y1), (w.heap.size, x0, x1)]) (ds := []) #[ff,ff,ff,ff,ff,ff] (by kernel_rfl) rfl rfl H.out.all (fun hHeld => ?_); refine with_tabW numbTab3 numbBits3 (fun HT_ HW_ => ?_)
        generalize World.drew _ = wd at H hHeld ⊢
        refine pur 1 (some 35) #[ff,tt,ff,ff,ff,ff] ?_
        refine pur 2 (some 36) #[ff,tt,tt,ff,ff,ff] ?_
        refine take_ (i := 0) (N := some 34) (v := ?_) (a' := ?_) #[true, true, true, false, false, false] rfl rfl (take_ofW HT_.out HW_.out (by kernel_rfl)) (fun _ _ _ h => h) (Or.inl ⟨by rfl, ?_⟩) hHeld ?_ ?_
        rotate_left
        · intro w' hS
          obtain ⟨s0, s1, -⟩ := hS.1
          clear hS
          go_simp
          with_reducible rfl
        rotate_left
        · simp only [Act.put, List.setIfInBounds_toArray, List.set_cons_zero, List.set_cons_succ, i64_w, i32_w]
          rfl
        refine on1 3 (some 37) #[tt,tt,tt,tt,ff,ff] (fun K hK => ?_)
        refine gsz Tryz.func56 #[.int .i64 idx] ?_
        with_reducible refine (manorboyref02_At.calls k idx t0 t1 _ HRA.out).mono ?_
        rintro _ w' ⟨rfl, hb⟩
        refine ⟨_, rfl, ?_⟩
        replace H := Lib.hid (H.out.step hb)
        clear hb
        refine hK.out _ _ H.out.all (fun hHeld => ?_)
        clear hK K
        refine nrm (some 37) ?_
        refine on1 4 (some 38) #[tt,tt,tt,tt,tt,ff] (fun K hK => ?_)
        refine gsz Tryz.func39 #[.agg #[.int .i64 t0, .int .i64 t1], .int .i64 0, .agg #[.int .i64 t0, .int .i64 t1]] ?_
        with_reducible refine (manorboylaw02_is.calls t0 t1 0 t0 t1 true _ HIT.out).mono ?_
        rintro _ w' ⟨rfl, hb⟩
        refine ⟨_, rfl, ?_⟩
        replace H := Lib.hid (H.out.step hb)
        clear hb
        refine hK.out _ _ H.out.all (fun hHeld => ?_)
        clear hK K
        refine nrm (some 38) ?_
        refine pur 5 (some 39) #[tt,tt,tt,tt,tt,tt] ?_
        refine done_ (done_of HT_.out (by kernel_rfl)) ?_
        try go_wp2
        go_meet
        case rel => exact ⟨H.out⟩
    case rest => as_aux_lemma =>
      replace H := Lib.hid hcut.out
      clear hcut
      go_upto_region 7 with fail
      go_cut [58] (fun v58 wf => v58 = .bool false ∧ Aside0 (Bs w [(w1.heap.size, t0, t1), ((w.heap.size + 1), y0, y1), (w.heap.size, x0, x1)] wf))
      case first => as_aux_lemma =>
        replace H := Lib.hid H.out.drew
        refine start_ (n := 12) (S := fun w' => BsAll w' [(w1.heap.size, t0, t1), ((w.heap.size + 1), y0, y1), (w.heap.size, x0, x1)]) (ds := []) #[ff,ff,ff,ff,ff,ff,ff,ff,ff,ff,ff,ff] (by kernel_rfl) rfl rfl H.out.all (fun hHeld => ?_); refine with_tabW numbTab7 numbBits7 (fun HT_ HW_ => ?_)
        generalize World.drew _ = wd at H hHeld ⊢
        refine pur 0 (some 47) #[tt,ff,ff,ff,ff,ff,ff,ff,ff,ff,ff,ff] ?_
        refine pur 2 (some 49) #[tt,ff,tt,ff,ff,ff,ff,ff,ff,ff,ff,ff] ?_
        refine on1 1 (some 48) #[tt,tt,tt,ff,ff,ff,ff,ff,ff,ff,ff,ff] (fun K hK => ?_)
        refine gsz Tryz.func31 #[.int .i64 n] ?_
        with_reducible refine (real_FromIntN.calls k n u0 u1 _ HFI.out).mono ?_
        rintro _ w' ⟨rfl, hb⟩
        refine ⟨_, rfl, ?_⟩
        replace H := Lib.hid (H.out.step hb)
        clear hb
        refine hK.out _ _ H.out.all (fun hHeld => ?_)
        clear hK K
        refine nrm (some 48) ?_
        refine on1 3 (some 50) #[tt,tt,tt,tt,ff,ff,ff,ff,ff,ff,ff,ff] (fun K hK => ?_)
        refine gsz Tryz.func57 #[.int .i64 n] ?_
        with_reducible refine (manorboyref02_FromInt.calls k n u0 u1 _ HRF.out).mono ?_
        rintro _ w' ⟨rfl, hb⟩
        refine ⟨_, rfl, ?_⟩
        replace H := Lib.hid (H.out.step hb)
        clear hb
        refine hK.out _ _ H.out.all (fun hHeld => ?_)
        clear hK K
        refine nrm (some 50) ?_
        refine pure_ (i := 4) (N := some 51) (v := .bool false) (a' := ?_) #[true, true, true, true, true, false, false, false, false, false, false, false] rfl rfl (any_of HT_.out (by kernel_rfl)) (fun _ _ _ h => h) (Or.inl ⟨by rfl, ?_⟩) ?_ ?_
        · intro w'
          go_simp
          all_goals (first | with_reducible rfl | rfl | (simp only [bne_self_eq_false]; done) | (simp only [bne_self_eq_false]; rfl))
        rotate_left
        · simp only [Act.put, List.setIfInBounds_toArray, List.set_cons_zero, List.set_cons_succ, i64_w, i32_w]
          rfl
        refine pur 5 (some 52) #[tt,tt,tt,tt,tt,tt,ff,ff,ff,ff,ff,ff] ?_
        refine take_ (i := 6) (N := some 53) (v := ?_) (a' := ?_) #[true, true, true, true, true, true, true, false, false, false, false, false] rfl rfl (take_ofW HT_.out HW_.out (by kernel_rfl)) (fun _ _ _ h => h) (Or.inl ⟨by rfl, ?_⟩) hHeld ?_ ?_
        rotate_left
        · intro w' hS
          obtain ⟨s0, s1, -⟩ := hS.2.2.1
          clear hS
          go_simp
          with_reducible rfl
        rotate_left
        · simp only [Act.put, List.setIfInBounds_toArray, List.set_cons_zero, List.set_cons_succ, i64_w, i32_w]
          rfl
        refine take_ (i := 8) (N := some 55) (v := ?_) (a' := ?_) #[true, true, true, true, true, true, true, false, true, false, false, false] rfl rfl (take_ofW HT_.out HW_.out (by kernel_rfl)) (fun _ _ _ h => h) (Or.inl ⟨by rfl, ?_⟩) hHeld ?_ ?_
        rotate_left
        · intro w' hS
          obtain ⟨s0, s1, -⟩ := hS.2.2.1
          clear hS
          go_simp
          with_reducible rfl
        rotate_left
        · simp only [Act.put, List.setIfInBounds_toArray, List.set_cons_zero, List.set_cons_succ, i64_w, i32_w]
          rfl
        refine on1 7 (some 54) #[tt,tt,tt,tt,tt,tt,tt,tt,tt,ff,ff,ff] (fun K hK => ?_)
        refine gsz Tryz.func53 #[.agg #[.int .i64 x0, .int .i64 x1]] ?_
        with_reducible refine (real_Valid.calls x0 x1 bv _ HV.out).mono ?_
        rintro _ w' ⟨rfl, hb⟩
        refine ⟨_, rfl, ?_⟩
        replace H := Lib.hid (H.out.step hb)
        clear hb
        refine hK.out _ _ H.out.all (fun hHeld => ?_)
        clear hK K
        refine nrm (some 54) ?_
        refine on1 9 (some 56) #[tt,tt,tt,tt,tt,tt,tt,tt,tt,tt,ff,ff] (fun K hK => ?_)
        refine gsz Tryz.func18 #[.agg #[.int .i64 x0, .int .i64 x1]] ?_
        with_reducible refine (manorboyref02_Valid.calls k x0 x1 bv _ HRV.out).mono ?_
        rintro _ w' ⟨rfl, hb⟩
        refine ⟨_, rfl, ?_⟩
        replace H := Lib.hid (H.out.step hb)
        clear hb
        refine hK.out _ _ H.out.all (fun hHeld => ?_)
        clear hK K
        refine nrm (some 56) ?_
        refine pure_ (i := 10) (N := some 57) (v := .bool false) (a' := ?_) #[true, true, true, true, true, true, true, true, true, true, true, false] rfl rfl (any_of HT_.out (by kernel_rfl)) (fun _ _ _ h => h) (Or.inl ⟨by rfl, ?_⟩) ?_ ?_
        · intro w'
          go_simp
          all_goals (first | with_reducible rfl | rfl | (simp only [bne_self_eq_false]; done) | (simp only [bne_self_eq_false]; rfl))
        rotate_left
        · simp only [Act.put, List.setIfInBounds_toArray, List.set_cons_zero, List.set_cons_succ, i64_w, i32_w]
          rfl
        refine pur 11 (some 58) #[tt,tt,tt,tt,tt,tt,tt,tt,tt,tt,tt,tt] ?_
        refine done_ (done_of HT_.out (by kernel_rfl)) ?_
        try go_wp2
        go_meet
        case rel => exact ⟨by first | rfl | (simp [*]; done), ⟨H.out⟩⟩
      case rest => as_aux_lemma =>
        obtain ⟨rfl, HJ⟩ := hcut
        replace H := Lib.hid HJ.out
        clear HJ
        obtain ⟨⟨fat_0, fat_1, fat_2, fat_3, fat_4⟩, ⟨fy_0, fy_1, fy_2, fy_3, fy_4⟩, ⟨fx_0, fx_1, fx_2, fx_3, fx_4⟩, -⟩ := H.out.all
        go_wp2_with fail
        refine (real_Index.calls x0 x1 i0 i1 _ HI.out).mono ?_
        rintro _ w2 ⟨rfl, hb⟩
        replace H := Lib.hid (show Bs w [(w1.heap.size, t0, t1), ((w.heap.size + 1), y0, y1), (w.heap.size, x0, x1)] w2 from (H.out).step hb)
        clear fat_0 fat_1 fat_2 fat_3 fat_4 fy_0 fy_1 fy_2 fy_3 fy_4 fx_0 fx_1 fx_2 fx_3 fx_4
        clear hb
        obtain ⟨⟨fat_0, fat_1, fat_2, fat_3, fat_4⟩, ⟨fy_0, fy_1, fy_2, fy_3, fy_4⟩, ⟨fx_0, fx_1, fx_2, fx_3, fx_4⟩, -⟩ := H.out.all
        go_wp2_with fail
        refine (real_Next.calls x0 x1 n0 n1 n2 _ HN.out).mono ?_
        rintro _ w3 ⟨rfl, hb⟩
        replace H := Lib.hid (show Bs w [(w1.heap.size, t0, t1), ((w.heap.size + 1), y0, y1), (w.heap.size, x0, x1)] w3 from (H.out).step hb)
        clear fat_0 fat_1 fat_2 fat_3 fat_4 fy_0 fy_1 fy_2 fy_3 fy_4 fx_0 fx_1 fx_2 fx_3 fx_4
        clear hb
        obtain ⟨⟨fat_0, fat_1, fat_2, fat_3, fat_4⟩, ⟨fy_0, fy_1, fy_2, fy_3, fy_4⟩, ⟨fx_0, fx_1, fx_2, fx_3, fx_4⟩, -⟩ := H.out.all
        go_wp2_with fail
        refine (real_Neg.calls x0 x1 g0 g1 g2 _ HG.out).mono ?_
        rintro _ w4 ⟨rfl, hb⟩
        replace H := Lib.hid (show Bs w [(w3.heap.size, n0, n1), (w1.heap.size, t0, t1), ((w.heap.size + 1), y0, y1), (w.heap.size, x0, x1)] w4 from ((H.out).box (n0) (n1)).step hb)
        clear fat_0 fat_1 fat_2 fat_3 fat_4 fy_0 fy_1 fy_2 fy_3 fy_4 fx_0 fx_1 fx_2 fx_3 fx_4
        clear hb
        obtain ⟨⟨fnx_0, fnx_1, fnx_2, fnx_3, fnx_4⟩, ⟨fat_0, fat_1, fat_2, fat_3, fat_4⟩, ⟨fy_0, fy_1, fy_2, fy_3, fy_4⟩, ⟨fx_0, fx_1, fx_2, fx_3, fx_4⟩, -⟩ := H.out.all
        go_wp2_with fail
        refine (real_Abs.calls x0 x1 b0 b1 b2 _ HB.out).mono ?_
        rintro _ w5 ⟨rfl, hb⟩
        replace H := Lib.hid (show Bs w [(w4.heap.size, g0, g1), (w3.heap.size, n0, n1), (w1.heap.size, t0, t1), ((w.heap.size + 1), y0, y1), (w.heap.size, x0, x1)] w5 from ((H.out).box (g0) (g1)).step hb)
        clear fnx_0 fnx_1 fnx_2 fnx_3 fnx_4 fat_0 fat_1 fat_2 fat_3 fat_4 fy_0 fy_1 fy_2 fy_3 fy_4 fx_0 fx_1 fx_2 fx_3 fx_4
        clear hb
        obtain ⟨⟨fng_0, fng_1, fng_2, fng_3, fng_4⟩, ⟨fnx_0, fnx_1, fnx_2, fnx_3, fnx_4⟩, ⟨fat_0, fat_1, fat_2, fat_3, fat_4⟩, ⟨fy_0, fy_1, fy_2, fy_3, fy_4⟩, ⟨fx_0, fx_1, fx_2, fx_3, fx_4⟩, -⟩ := H.out.all
        go_wp2_with fail
        refine (real_Sign.calls x0 x1 s0 s1 _ HSG.out).mono ?_
        rintro _ w6 ⟨rfl, hb⟩
        replace H := Lib.hid (show Bs w [(w5.heap.size, b0, b1), (w4.heap.size, g0, g1), (w3.heap.size, n0, n1), (w1.heap.size, t0, t1), ((w.heap.size + 1), y0, y1), (w.heap.size, x0, x1)] w6 from ((H.out).box (b0) (b1)).step hb)
        clear fng_0 fng_1 fng_2 fng_3 fng_4 fnx_0 fnx_1 fnx_2 fnx_3 fnx_4 fat_0 fat_1 fat_2 fat_3 fat_4 fy_0 fy_1 fy_2 fy_3 fy_4 fx_0 fx_1 fx_2 fx_3 fx_4
        clear hb
        obtain ⟨⟨fab_0, fab_1, fab_2, fab_3, fab_4⟩, ⟨fng_0, fng_1, fng_2, fng_3, fng_4⟩, ⟨fnx_0, fnx_1, fnx_2, fnx_3, fnx_4⟩, ⟨fat_0, fat_1, fat_2, fat_3, fat_4⟩, ⟨fy_0, fy_1, fy_2, fy_3, fy_4⟩, ⟨fx_0, fx_1, fx_2, fx_3, fx_4⟩, -⟩ := H.out.all
        go_wp2_with fail
        refine (Q.real_Cmp.calls x0 x1 y0 y1 c0 c1 _ HC.out).mono ?_
        rintro _ w7 ⟨rfl, hb⟩
        replace H := Lib.hid (show Bs w [(w5.heap.size, b0, b1), (w4.heap.size, g0, g1), (w3.heap.size, n0, n1), (w1.heap.size, t0, t1), ((w.heap.size + 1), y0, y1), (w.heap.size, x0, x1)] w7 from (H.out).step hb)
        clear fab_0 fab_1 fab_2 fab_3 fab_4 fng_0 fng_1 fng_2 fng_3 fng_4 fnx_0 fnx_1 fnx_2 fnx_3 fnx_4 fat_0 fat_1 fat_2 fat_3 fat_4 fy_0 fy_1 fy_2 fy_3 fy_4 fx_0 fx_1 fx_2 fx_3 fx_4
        clear hb
        obtain ⟨⟨fab_0, fab_1, fab_2, fab_3, fab_4⟩, ⟨fng_0, fng_1, fng_2, fng_3, fng_4⟩, ⟨fnx_0, fnx_1, fnx_2, fnx_3, fnx_4⟩, ⟨fat_0, fat_1, fat_2, fat_3, fat_4⟩, ⟨fy_0, fy_1, fy_2, fy_3, fy_4⟩, ⟨fx_0, fx_1, fx_2, fx_3, fx_4⟩, -⟩ := H.out.all
        go_wp2_with fail
        refine (manorboyref02_Valid.calls k x0 x1 bv _ HRV.out).mono ?_
        rintro _ w8 ⟨rfl, hb⟩
        replace H := Lib.hid (show Bs w [(w5.heap.size, b0, b1), (w4.heap.size, g0, g1), (w3.heap.size, n0, n1), (w1.heap.size, t0, t1), ((w.heap.size + 1), y0, y1), (w.heap.size, x0, x1)] w8 from (H.out).step hb)
        clear fab_0 fab_1 fab_2 fab_3 fab_4 fng_0 fng_1 fng_2 fng_3 fng_4 fnx_0 fnx_1 fnx_2 fnx_3 fnx_4 fat_0 fat_1 fat_2 fat_3 fat_4 fy_0 fy_1 fy_2 fy_3 fy_4 fx_0 fx_1 fx_2 fx_3 fx_4
        clear hb
        obtain ⟨⟨fab_0, fab_1, fab_2, fab_3, fab_4⟩, ⟨fng_0, fng_1, fng_2, fng_3, fng_4⟩, ⟨fnx_0, fnx_1, fnx_2, fnx_3, fnx_4⟩, ⟨fat_0, fat_1, fat_2, fat_3, fat_4⟩, ⟨fy_0, fy_1, fy_2, fy_3, fy_4⟩, ⟨fx_0, fx_1, fx_2, fx_3, fx_4⟩, -⟩ := H.out.all
        rcases hb : bv with _ | _
        · obtain ⟨rfl, rfl, rfl, rfl, rfl, rfl, rfl, rfl, rfl, rfl, rfl, rfl, rfl, rfl, rfl⟩ := HINV.out hb
          clear fab_0 fab_1 fab_2 fab_3 fab_4 fng_0 fng_1 fng_2 fng_3 fng_4 fnx_0 fnx_1 fnx_2 fnx_3 fnx_4 fat_0 fat_1 fat_2 fat_3 fat_4 fy_0 fy_1 fy_2 fy_3 fy_4 fx_0 fx_1 fx_2 fx_3 fx_4
          obtain ⟨⟨fab_0, fab_1, fab_2, fab_3, fab_4⟩, ⟨fng_0, fng_1, fng_2, fng_3, fng_4⟩, ⟨fnx_0, fnx_1, fnx_2, fnx_3, fnx_4⟩, -, -, -, -⟩ := H.out.all
          go_wp2_with fail
          refine (manorboylaw02_sanity.calls k true _ HS.out rfl (tabAt HT.out H.out.1)).mono ?_
          rintro _ wz ⟨rfl, hb'⟩
          replace H := Lib.hid (H.out.step hb')
          clear fab_0 fab_1 fab_2 fab_3 fab_4 fng_0 fng_1 fng_2 fng_3 fng_4 fnx_0 fnx_1 fnx_2 fnx_3 fnx_4
          clear hb'
          obtain ⟨⟨fab_0, fab_1, fab_2, fab_3, fab_4⟩, ⟨fng_0, fng_1, fng_2, fng_3, fng_4⟩, ⟨fnx_0, fnx_1, fnx_2, fnx_3, fnx_4⟩, -, -, -, -⟩ := H.out.all
          have hB := H.out.1
          go_wp2
          go_ret
          exact ⟨rfl, hB⟩
        · obtain ⟨rfl, rfl, rfl, rfl⟩ := HVAL.out hb
          go_upto_region 17 with fail
          go_cut [170] (fun v170 wg => v170 = .bool false ∧ Aside0 (Bs w [(w5.heap.size, b0, b1), (w4.heap.size, g0, g1), (w3.heap.size, n0, n1), (w1.heap.size, t0, t1), ((w.heap.size + 1), y0, y1), (w.heap.size, x0, x1)] wg))
          case first => as_aux_lemma =>
            go_wp2_with fail
            refine (manorboyref02_Valid.calls k y0 y1 by_ _ HRY.out).mono ?_
            rintro _ wh ⟨rfl, hb'⟩
            replace H := Lib.hid (H.out.step hb')
            clear fab_0 fab_1 fab_2 fab_3 fab_4 fng_0 fng_1 fng_2 fng_3 fng_4 fnx_0 fnx_1 fnx_2 fnx_3 fnx_4 fat_0 fat_1 fat_2 fat_3 fat_4 fy_0 fy_1 fy_2 fy_3 fy_4 fx_0 fx_1 fx_2 fx_3 fx_4
            clear hb'
            obtain ⟨-, -, -, -, ⟨fy_0, fy_1, fy_2, fy_3, fy_4⟩, ⟨fx_0, fx_1, fx_2, fx_3, fx_4⟩, -⟩ := H.out.all
            rcases hy : by_ with _ | _
            · obtain ⟨rfl, rfl⟩ := HYN.out hb hy
              go_wp2_with fail
              refine (manorboyref02_Valid.calls k y0 y1 false _ (hy ▸ HRY.out)).mono ?_
              rintro _ wi ⟨rfl, hb'⟩
              replace H := Lib.hid (H.out.step hb')
              clear fy_0 fy_1 fy_2 fy_3 fy_4 fx_0 fx_1 fx_2 fx_3 fx_4 hb'
              obtain ⟨-, -, -, -, ⟨fy_0, fy_1, fy_2, fy_3, fy_4⟩, ⟨fx_0, fx_1, fx_2, fx_3, fx_4⟩, -⟩ := H.out.all
              go_wp2
              go_meet
              case rel => exact ⟨by first | rfl | (simp [*]; done), ⟨H.out⟩⟩
            · obtain ⟨rfl, hcm⟩ := HYV.out hb hy
              have HCM := Lib.hid hcm
              clear hcm
              go_wp2_with fail
              refine (manorboyref02_Valid.calls k y0 y1 true _ (hy ▸ HRY.out)).mono ?_
              rintro _ wi ⟨rfl, hb'⟩
              replace H := Lib.hid (H.out.step hb')
              clear fy_0 fy_1 fy_2 fy_3 fy_4 fx_0 fx_1 fx_2 fx_3 fx_4 hb'
              obtain ⟨-, -, -, -, ⟨fy_0, fy_1, fy_2, fy_3, fy_4⟩, ⟨fx_0, fx_1, fx_2, fx_3, fx_4⟩, -⟩ := H.out.all
              go_wp2_with fail
              refine (manorboyref02_Cmp.calls k x0 x1 y0 y1 c0 _ HCM.out).mono ?_
              rintro _ wj ⟨rfl, hb'⟩
              replace H := Lib.hid (H.out.step hb')
              clear fy_0 fy_1 fy_2 fy_3 fy_4 fx_0 fx_1 fx_2 fx_3 fx_4
              clear hb'
              go_wp2
              go_meet
              case rel => exact ⟨by first | rfl | (simp [*]; done), ⟨H.out⟩⟩
          case rest => as_aux_lemma =>
            obtain ⟨rfl, HJ⟩ := hcut
            clear fab_0 fab_1 fab_2 fab_3 fab_4 fng_0 fng_1 fng_2 fng_3 fng_4 fnx_0 fnx_1 fnx_2 fnx_3 fnx_4 fat_0 fat_1 fat_2 fat_3 fat_4 fy_0 fy_1 fy_2 fy_3 fy_4 fx_0 fx_1 fx_2 fx_3 fx_4
            replace H := Lib.hid HJ.out
            clear HJ
            rename World => wg
            obtain ⟨-, -, -, -, -, ⟨fx_0, fx_1, fx_2, fx_3, fx_4⟩, -⟩ := H.out.all
            go_upto_region 19 with fail
            go_upto_region 20 with fail
            go_upto_if 174 with fail
            replace H := Lib.hid (show Bs w [(wg.heap.size, x0, x1), (w5.heap.size, b0, b1), (w4.heap.size, g0, g1), (w3.heap.size, n0, n1), (w1.heap.size, t0, t1), ((w.heap.size + 1), y0, y1), (w.heap.size, x0, x1)] _ from (H.out).box (x0) (x1))
            clear fx_0 fx_1 fx_2 fx_3 fx_4
            go_cut [] (fun wk => Aside0 (Bs w [(wg.heap.size, b0, b1), (w5.heap.size, b0, b1), (w4.heap.size, g0, g1), (w3.heap.size, n0, n1), (w1.heap.size, t0, t1), ((w.heap.size + 1), y0, y1), (w.heap.size, x0, x1)] wk))
            case first => as_aux_lemma =>
              by_cases hx0 : x0 < 0
              · have hxb : decide (x0 < 0) = true := decide_eq_true hx0
                (first | rw [hxb] | skip)
                obtain ⟨⟨fwt_0, fwt_1, fwt_2, fwt_3, fwt_4⟩, -, -, -, -, -, ⟨fx_0, fx_1, fx_2, fx_3, fx_4⟩, -⟩ := H.out.all
                go_wp2_with fail
                refine (manorboyref02_Neg.calls x0 x1 b0 b1 _ (HW1.out hb hx0)).mono ?_
                rintro _ wl ⟨rfl, hb'⟩
                replace H := Lib.hid (H.out.step hb')
                clear fwt_0 fwt_1 fwt_2 fwt_3 fwt_4 fx_0 fx_1 fx_2 fx_3 fx_4
                clear hb'
                obtain ⟨⟨fwt_0, fwt_1, fwt_2, fwt_3, fwt_4⟩, -, -, -, -, -, -, -⟩ := H.out.all
                go_wp2
                go_meet
                case rel => exact ⟨Bs.put [] [(w5.heap.size, b0, b1), (w4.heap.size, g0, g1), (w3.heap.size, n0, n1), (w1.heap.size, t0, t1), ((w.heap.size + 1), y0, y1), (w.heap.size, x0, x1)] (wg.heap.size) (x0) (x1) H.out (b0) (b1)⟩
              · have hxb : decide (x0 < 0) = false := decide_eq_false hx0
                (first | rw [hxb] | skip)
                have HE := Lib.hid (HW2.out hb (by omega))
                go_wp2_with fail
                go_meet
                case rel => exact ⟨by obtain ⟨e1, e2⟩ := HE.out; subst e1 e2; exact H.out⟩
            case rest => as_aux_lemma =>
              replace H := Lib.hid hcut.out
              clear hcut
              go_upto_region 22 with fail
              go_cut [210] (fun v210 wm => v210 = .bool false ∧ Aside0 (Bs w [(wg.heap.size, b0, b1), (w5.heap.size, b0, b1), (w4.heap.size, g0, g1), (w3.heap.size, n0, n1), (w1.heap.size, t0, t1), ((w.heap.size + 1), y0, y1), (w.heap.size, x0, x1)] wm))
              case first => as_aux_lemma =>
                have HIG := Lib.hid (show manorboylaw02_is.f g0 g1 0 g0 g1 = some true by simp [manorboylaw02_is.f])
                have HIB := Lib.hid (show manorboylaw02_is.f b0 b1 0 b0 b1 = some true by simp [manorboylaw02_is.f])
                replace H := Lib.hid H.out.drew
                refine start_ (n := 34) (S := fun w' => BsAll w' [(wg.heap.size, b0, b1), (w5.heap.size, b0, b1), (w4.heap.size, g0, g1), (w3.heap.size, n0, n1), (w1.heap.size, t0, t1), ((w.heap.size + 1), y0, y1), (w.heap.size, x0, x1)]) (ds := []) #[ff,ff,ff,ff,ff,ff,ff,ff,ff,ff,ff,ff,ff,ff,ff,ff,ff,ff,ff,ff,ff,ff,ff,ff,ff,ff,ff,ff,ff,ff,ff,ff,ff,ff] (by kernel_rfl) rfl rfl H.out.all (fun hHeld => ?_); refine with_tabW numbTab22 numbBits22 (fun HT_ HW_ => ?_)
                generalize World.drew _ = wd at H hHeld ⊢
                refine pur 0 (some 177) #[tt,ff,ff,ff,ff,ff,ff,ff,ff,ff,ff,ff,ff,ff,ff,ff,ff,ff,ff,ff,ff,ff,ff,ff,ff,ff,ff,ff,ff,ff,ff,ff,ff,ff] ?_
                refine pure_ (i := 1) (N := some 178) (v := .bool false) (a' := ?_) #[true, true, false, false, false, false, false, false, false, false, false, false, false, false, false, false, false, false, false, false, false, false, false, false, false, false, false, false, false, false, false, false, false, false] rfl rfl (any_of HT_.out (by kernel_rfl)) (fun _ _ _ h => h) (Or.inl ⟨by rfl, ?_⟩) ?_ ?_
                · intro w'
                  go_simp
                  all_goals (first | with_reducible rfl | rfl | (simp only [bne_self_eq_false]; done) | (simp only [bne_self_eq_false]; rfl))
                rotate_left
                · simp only [Act.put, List.setIfInBounds_toArray, List.set_cons_zero, List.set_cons_succ, i64_w, i32_w]
                  rfl
                refine pur 2 (some 179) #[tt,tt,tt,ff,ff,ff,ff,ff,ff,ff,ff,ff,ff,ff,ff,ff,ff,ff,ff,ff,ff,ff,ff,ff,ff,ff,ff,ff,ff,ff,ff,ff,ff,ff] ?_
                refine pur 3 (some 180) #[tt,tt,tt,tt,ff,ff,ff,ff,ff,ff,ff,ff,ff,ff,ff,ff,ff,ff,ff,ff,ff,ff,ff,ff,ff,ff,ff,ff,ff,ff,ff,ff,ff,ff] ?_
                refine take_ (i := 4) (N := some 181) (v := ?_) (a' := ?_) #[true, true, true, true, true, false, false, false, false, false, false, false, false, false, false, false, false, false, false, false, false, false, false, false, false, false, false, false, false, false, false, false, false, false] rfl rfl (take_ofW HT_.out HW_.out (by kernel_rfl)) (fun _ _ _ h => h) (Or.inl ⟨by rfl, ?_⟩) hHeld ?_ ?_
                rotate_left
                · intro w' hS
                  obtain ⟨s0, s1, -⟩ := hS.2.2.2.2.2.2.1
                  clear hS
                  go_simp
                  with_reducible rfl
                rotate_left
                · simp only [Act.put, List.setIfInBounds_toArray, List.set_cons_zero, List.set_cons_succ, i64_w, i32_w]
                  rfl
                refine on1 5 (some 182) #[tt,tt,tt,tt,tt,tt,ff,ff,ff,ff,ff,ff,ff,ff,ff,ff,ff,ff,ff,ff,ff,ff,ff,ff,ff,ff,ff,ff,ff,ff,ff,ff,ff,ff] (fun K hK => ?_)
                refine gsz Tryz.func62 #[.agg #[.int .i64 x0, .int .i64 x1]] ?_
                with_reducible refine (manorboyref02_Index.calls k x0 x1 i0 _ (HRI.out hb)).mono ?_
                rintro _ w' ⟨rfl, hb⟩
                refine ⟨_, rfl, ?_⟩
                replace H := Lib.hid (H.out.step hb)
                clear hb
                refine hK.out _ _ H.out.all (fun hHeld => ?_)
                clear hK K
                refine nrm (some 182) ?_
                refine pure_ (i := 6) (N := some 183) (v := .bool false) (a' := ?_) #[true, true, true, true, true, true, true, false, false, false, false, false, false, false, false, false, false, false, false, false, false, false, false, false, false, false, false, false, false, false, false, false, false, false] rfl rfl (any_of HT_.out (by kernel_rfl)) (fun _ _ _ h => h) (Or.inl ⟨by rfl, ?_⟩) ?_ ?_
                · intro w'
                  go_simp
                  all_goals (first | with_reducible rfl | rfl | (simp only [bne_self_eq_false]; done) | (simp only [bne_self_eq_false]; rfl))
                rotate_left
                · simp only [Act.put, List.setIfInBounds_toArray, List.set_cons_zero, List.set_cons_succ, i64_w, i32_w]
                  rfl
                refine pur 7 (some 184) #[tt,tt,tt,tt,tt,tt,tt,tt,ff,ff,ff,ff,ff,ff,ff,ff,ff,ff,ff,ff,ff,ff,ff,ff,ff,ff,ff,ff,ff,ff,ff,ff,ff,ff] ?_
                refine pur 8 (some 185) #[tt,tt,tt,tt,tt,tt,tt,tt,tt,ff,ff,ff,ff,ff,ff,ff,ff,ff,ff,ff,ff,ff,ff,ff,ff,ff,ff,ff,ff,ff,ff,ff,ff,ff] ?_
                refine pur 10 (some 187) #[tt,tt,tt,tt,tt,tt,tt,tt,tt,ff,tt,ff,ff,ff,ff,ff,ff,ff,ff,ff,ff,ff,ff,ff,ff,ff,ff,ff,ff,ff,ff,ff,ff,ff] ?_
                refine take_ (i := 9) (N := some 186) (v := ?_) (a' := ?_) #[true, true, true, true, true, true, true, true, true, true, true, false, false, false, false, false, false, false, false, false, false, false, false, false, false, false, false, false, false, false, false, false, false, false] rfl rfl (take_ofW HT_.out HW_.out (by kernel_rfl)) (fun _ _ _ h => h) (Or.inl ⟨by rfl, ?_⟩) hHeld ?_ ?_
                rotate_left
                · intro w' hS
                  obtain ⟨s0, s1, -⟩ := hS.2.2.1
                  clear hS
                  go_simp
                  with_reducible rfl
                rotate_left
                · simp only [Act.put, List.setIfInBounds_toArray, List.set_cons_zero, List.set_cons_succ, i64_w, i32_w]
                  rfl
                refine take_ (i := 11) (N := some 188) (v := ?_) (a' := ?_) #[true, true, true, true, true, true, true, true, true, true, true, true, false, false, false, false, false, false, false, false, false, false, false, false, false, false, false, false, false, false, false, false, false, false] rfl rfl (take_ofW HT_.out HW_.out (by kernel_rfl)) (fun _ _ _ h => h) (Or.inl ⟨by rfl, ?_⟩) hHeld ?_ ?_
                rotate_left
                · intro w' hS
                  obtain ⟨s0, s1, -⟩ := hS.2.2.2.2.2.2.1
                  clear hS
                  go_simp
                  with_reducible rfl
                rotate_left
                · simp only [Act.put, List.setIfInBounds_toArray, List.set_cons_zero, List.set_cons_succ, i64_w, i32_w]
                  rfl
                refine on1 12 (some 189) #[tt,tt,tt,tt,tt,tt,tt,tt,tt,tt,tt,tt,tt,ff,ff,ff,ff,ff,ff,ff,ff,ff,ff,ff,ff,ff,ff,ff,ff,ff,ff,ff,ff,ff] (fun K hK => ?_)
                refine gsz Tryz.func61 #[.agg #[.int .i64 x0, .int .i64 x1]] ?_
                with_reducible refine (manorboyref02_Neg.calls x0 x1 g0 g1 _ (HRN.out hb)).mono ?_
                rintro _ w' ⟨rfl, hb⟩
                refine ⟨_, rfl, ?_⟩
                replace H := Lib.hid (H.out.step hb)
                clear hb
                refine hK.out _ _ H.out.all (fun hHeld => ?_)
                clear hK K
                refine nrm (some 189) ?_
                refine on1 13 (some 190) #[tt,tt,tt,tt,tt,tt,tt,tt,tt,tt,tt,tt,tt,tt,ff,ff,ff,ff,ff,ff,ff,ff,ff,ff,ff,ff,ff,ff,ff,ff,ff,ff,ff,ff] (fun K hK => ?_)
                refine gsz Tryz.func39 #[.agg #[.int .i64 g0, .int .i64 g1], .int .i64 0, .agg #[.int .i64 g0, .int .i64 g1]] ?_
                with_reducible refine (manorboylaw02_is.calls g0 g1 0 g0 g1 true _ HIG.out).mono ?_
                rintro _ w' ⟨rfl, hb⟩
                refine ⟨_, rfl, ?_⟩
                replace H := Lib.hid (H.out.step hb)
                clear hb
                refine hK.out _ _ H.out.all (fun hHeld => ?_)
                clear hK K
                refine nrm (some 190) ?_
                refine pur 14 (some 191) #[tt,tt,tt,tt,tt,tt,tt,tt,tt,tt,tt,tt,tt,tt,tt,ff,ff,ff,ff,ff,ff,ff,ff,ff,ff,ff,ff,ff,ff,ff,ff,ff,ff,ff] ?_
                refine pur 15 (some 192) #[tt,tt,tt,tt,tt,tt,tt,tt,tt,tt,tt,tt,tt,tt,tt,tt,ff,ff,ff,ff,ff,ff,ff,ff,ff,ff,ff,ff,ff,ff,ff,ff,ff,ff] ?_
                refine pur 16 (some 193) #[tt,tt,tt,tt,tt,tt,tt,tt,tt,tt,tt,tt,tt,tt,tt,tt,tt,ff,ff,ff,ff,ff,ff,ff,ff,ff,ff,ff,ff,ff,ff,ff,ff,ff] ?_
                refine pur 18 (some 195) #[tt,tt,tt,tt,tt,tt,tt,tt,tt,tt,tt,tt,tt,tt,tt,tt,tt,ff,tt,ff,ff,ff,ff,ff,ff,ff,ff,ff,ff,ff,ff,ff,ff,ff] ?_
                refine take_ (i := 17) (N := some 194) (v := ?_) (a' := ?_) #[true, true, true, true, true, true, true, true, true, true, true, true, true, true, true, true, true, true, true, false, false, false, false, false, false, false, false, false, false, false, false, false, false, false] rfl rfl (take_ofW HT_.out HW_.out (by kernel_rfl)) (fun _ _ _ h => h) (Or.inl ⟨by rfl, ?_⟩) hHeld ?_ ?_
                rotate_left
                · intro w' hS
                  obtain ⟨s0, s1, -⟩ := hS.2.1
                  clear hS
                  go_simp
                  with_reducible rfl
                rotate_left
                · simp only [Act.put, List.setIfInBounds_toArray, List.set_cons_zero, List.set_cons_succ, i64_w, i32_w]
                  rfl
                refine take_ (i := 19) (N := some 196) (v := ?_) (a' := ?_) #[true, true, true, true, true, true, true, true, true, true, true, true, true, true, true, true, true, true, true, true, false, false, false, false, false, false, false, false, false, false, false, false, false, false] rfl rfl (take_ofW HT_.out HW_.out (by kernel_rfl)) (fun _ _ _ h => h) (Or.inl ⟨by rfl, ?_⟩) hHeld ?_ ?_
                rotate_left
                · intro w' hS
                  obtain ⟨s0, s1, -⟩ := hS.1
                  clear hS
                  go_simp
                  with_reducible rfl
                rotate_left
                · simp only [Act.put, List.setIfInBounds_toArray, List.set_cons_zero, List.set_cons_succ, i64_w, i32_w]
                  rfl
                refine on1 20 (some 197) #[tt,tt,tt,tt,tt,tt,tt,tt,tt,tt,tt,tt,tt,tt,tt,tt,tt,tt,tt,tt,tt,ff,ff,ff,ff,ff,ff,ff,ff,ff,ff,ff,ff,ff] (fun K hK => ?_)
                refine gsz Tryz.func39 #[.agg #[.int .i64 b0, .int .i64 b1], .int .i64 0, .agg #[.int .i64 b0, .int .i64 b1]] ?_
                with_reducible refine (manorboylaw02_is.calls b0 b1 0 b0 b1 true _ HIB.out).mono ?_
                rintro _ w' ⟨rfl, hb⟩
                refine ⟨_, rfl, ?_⟩
                replace H := Lib.hid (H.out.step hb)
                clear hb
                refine hK.out _ _ H.out.all (fun hHeld => ?_)
                clear hK K
                refine nrm (some 197) ?_
                refine pur 21 (some 198) #[tt,tt,tt,tt,tt,tt,tt,tt,tt,tt,tt,tt,tt,tt,tt,tt,tt,tt,tt,tt,tt,tt,ff,ff,ff,ff,ff,ff,ff,ff,ff,ff,ff,ff] ?_
                refine pur 22 (some 199) #[tt,tt,tt,tt,tt,tt,tt,tt,tt,tt,tt,tt,tt,tt,tt,tt,tt,tt,tt,tt,tt,tt,tt,ff,ff,ff,ff,ff,ff,ff,ff,ff,ff,ff] ?_
                refine pur 23 (some 200) #[tt,tt,tt,tt,tt,tt,tt,tt,tt,tt,tt,tt,tt,tt,tt,tt,tt,tt,tt,tt,tt,tt,tt,tt,ff,ff,ff,ff,ff,ff,ff,ff,ff,ff] ?_
                refine pur 24 (some 201) #[tt,tt,tt,tt,tt,tt,tt,tt,tt,tt,tt,tt,tt,tt,tt,tt,tt,tt,tt,tt,tt,tt,tt,tt,tt,ff,ff,ff,ff,ff,ff,ff,ff,ff] ?_
                refine pure_ (i := 25) (N := some 202) (v := .bool false) (a' := ?_) #[true, true, true, true, true, true, true, true, true, true, true, true, true, true, true, true, true, true, true, true, true, true, true, true, true, true, false, false, false, false, false, false, false, false] rfl rfl (any_of HT_.out (by kernel_rfl)) (fun _ _ _ h => h) (Or.inl ⟨by rfl, ?_⟩) ?_ ?_
                · intro w'
                  go_simp
                  all_goals (first | with_reducible rfl | rfl | (simp only [bne_self_eq_false]; done) | (simp only [bne_self_eq_false]; rfl))
                rotate_left
                · simp only [Act.put, List.setIfInBounds_toArray, List.set_cons_zero, List.set_cons_succ, i64_w, i32_w]
                  rfl
                refine pur 26 (some 203) #[tt,tt,tt,tt,tt,tt,tt,tt,tt,tt,tt,tt,tt,tt,tt,tt,tt,tt,tt,tt,tt,tt,tt,tt,tt,tt,tt,ff,ff,ff,ff,ff,ff,ff] ?_
                refine pur 27 (some 204) #[tt,tt,tt,tt,tt,tt,tt,tt,tt,tt,tt,tt,tt,tt,tt,tt,tt,tt,tt,tt,tt,tt,tt,tt,tt,tt,tt,tt,ff,ff,ff,ff,ff,ff] ?_
                refine pur 28 (some 205) #[tt,tt,tt,tt,tt,tt,tt,tt,tt,tt,tt,tt,tt,tt,tt,tt,tt,tt,tt,tt,tt,tt,tt,tt,tt,tt,tt,tt,tt,ff,ff,ff,ff,ff] ?_
                refine pur 29 (some 206) #[tt,tt,tt,tt,tt,tt,tt,tt,tt,tt,tt,tt,tt,tt,tt,tt,tt,tt,tt,tt,tt,tt,tt,tt,tt,tt,tt,tt,tt,tt,ff,ff,ff,ff] ?_
                refine take_ (i := 30) (N := some 207) (v := ?_) (a' := ?_) #[true, true, true, true, true, true, true, true, true, true, true, true, true, true, true, true, true, true, true, true, true, true, true, true, true, true, true, true, true, true, true, false, false, false] rfl rfl (take_ofW HT_.out HW_.out (by kernel_rfl)) (fun _ _ _ h => h) (Or.inl ⟨by rfl, ?_⟩) hHeld ?_ ?_
                rotate_left
                · intro w' hS
                  obtain ⟨s0, s1, -⟩ := hS.2.2.2.2.2.2.1
                  clear hS
                  go_simp
                  with_reducible rfl
                rotate_left
                · simp only [Act.put, List.setIfInBounds_toArray, List.set_cons_zero, List.set_cons_succ, i64_w, i32_w]
                  rfl
                refine on1 31 (some 208) #[tt,tt,tt,tt,tt,tt,tt,tt,tt,tt,tt,tt,tt,tt,tt,tt,tt,tt,tt,tt,tt,tt,tt,tt,tt,tt,tt,tt,tt,tt,tt,tt,ff,ff] (fun K hK => ?_)
                refine gsz Tryz.func63 #[.int .i64 x0, .int .i64 0] ?_
                with_reducible refine (compareB x0 0 s0 _ (HRC.out hb)).mono ?_
                rintro _ w' ⟨rfl, hb⟩
                refine ⟨_, rfl, ?_⟩
                replace H := Lib.hid (H.out.step hb)
                clear hb
                refine hK.out _ _ H.out.all (fun hHeld => ?_)
                clear hK K
                refine nrm (some 208) ?_
                refine pure_ (i := 32) (N := some 209) (v := .bool false) (a' := ?_) #[true, true, true, true, true, true, true, true, true, true, true, true, true, true, true, true, true, true, true, true, true, true, true, true, true, true, true, true, true, true, true, true, true, false] rfl rfl (any_of HT_.out (by kernel_rfl)) (fun _ _ _ h => h) (Or.inl ⟨by rfl, ?_⟩) ?_ ?_
                · intro w'
                  go_simp
                  all_goals (first | with_reducible rfl | rfl | (simp only [bne_self_eq_false]; done) | (simp only [bne_self_eq_false]; rfl))
                rotate_left
                · simp only [Act.put, List.setIfInBounds_toArray, List.set_cons_zero, List.set_cons_succ, i64_w, i32_w]
                  rfl
                refine pur 33 (some 210) #[tt,tt,tt,tt,tt,tt,tt,tt,tt,tt,tt,tt,tt,tt,tt,tt,tt,tt,tt,tt,tt,tt,tt,tt,tt,tt,tt,tt,tt,tt,tt,tt,tt,tt] ?_
                refine done_ (done_of HT_.out (by kernel_rfl)) ?_
                try go_wp2
                go_meet
                case rel => exact ⟨by first | rfl | (simp [*]; done), ⟨H.out⟩⟩
              case rest => as_aux_lemma =>
                obtain ⟨rfl, HJ⟩ := hcut
                replace H := Lib.hid HJ.out
                clear HJ
                by_cases him : i0 = 2533359615
                · obtain ⟨rfl, rfl, rfl⟩ := HMX.out hb him
                  have himb : (i0 == 2533359615) = true := by simp [him]
                  go_wp2_with fail
                  refine (manorboylaw02_sanity.calls k true _ HS.out rfl (tabAt HT.out H.out.1)).mono ?_
                  rintro _ wz ⟨rfl, hb'⟩
                  replace H := Lib.hid (H.out.step hb')
                  clear hb'
                  obtain ⟨-, -, -, ⟨fnx_0, fnx_1, fnx_2, fnx_3, fnx_4⟩, -, -, -, -⟩ := H.out.all
                  have hB := H.out.1
                  go_wp2
                  go_ret
                  exact ⟨rfl, hB⟩
                · obtain ⟨rfl, hra⟩ := HNM.out hb him
                  have himb : (i0 == 2533359615) = false := by simp [him]
                  have HRA := Lib.hid hra
                  clear hra
                  have HIT := Lib.hid (show manorboylaw02_is.f n0 n1 0 n0 n1 = some true by simp [manorboylaw02_is.f])
                  go_upto_region 26 with fail
                  replace H := Lib.hid H.out.drew
                  refine start_ (n := 10) (S := fun w' => BsAll w' [(wg.heap.size, b0, b1), (w5.heap.size, b0, b1), (w4.heap.size, g0, g1), (w3.heap.size, n0, n1), (w1.heap.size, t0, t1), ((w.heap.size + 1), y0, y1), (w.heap.size, x0, x1)]) (ds := []) #[ff,ff,ff,ff,ff,ff,ff,ff,ff,ff] (by kernel_rfl) rfl rfl H.out.all (fun hHeld => ?_); refine with_tabW numbTab26 numbBits26 (fun HT_ HW_ => ?_)
                  generalize World.drew _ = wd at H hHeld ⊢
                  refine on1 0 (some 223) #[tt,ff,ff,ff,ff,ff,ff,ff,ff,ff] (fun K hK => ?_)
                  refine gsz Tryz.func19 #[] ?_
                  with_reducible refine (manorboylaw02_sanity.calls k true _ HS.out rfl (tabAt HT.out (bsBelN H.out))).mono ?_
                  rintro _ w' ⟨rfl, hb⟩
                  refine ⟨_, rfl, ?_⟩
                  replace H := Lib.hid (H.out.step hb)
                  clear hb
                  refine hK.out _ _ H.out.all (fun hHeld => ?_)
                  clear hK K
                  refine nrm (some 223) ?_
                  refine pur 1 (some 224) #[tt,tt,ff,ff,ff,ff,ff,ff,ff,ff] ?_
                  refine pur 3 (some 226) #[tt,tt,ff,tt,ff,ff,ff,ff,ff,ff] ?_
                  refine pur 4 (some 227) #[tt,tt,ff,tt,tt,ff,ff,ff,ff,ff] ?_
                  refine pur 5 (some 228) #[tt,tt,ff,tt,tt,tt,ff,ff,ff,ff] ?_
                  refine take_ (i := 2) (N := some 225) (v := ?_) (a' := ?_) #[true, true, true, true, true, true, false, false, false, false] rfl rfl (take_ofW HT_.out HW_.out (by kernel_rfl)) (fun _ _ _ h => h) (Or.inl ⟨by rfl, ?_⟩) hHeld ?_ ?_
                  rotate_left
                  · intro w' hS
                    obtain ⟨s0, s1, -⟩ := hS.2.2.2.1
                    clear hS
                    go_simp
                    with_reducible rfl
                  rotate_left
                  · simp only [Act.put, List.setIfInBounds_toArray, List.set_cons_zero, List.set_cons_succ, i64_w, i32_w]
                    rfl
                  refine on1 6 (some 229) #[tt,tt,tt,tt,tt,tt,tt,ff,ff,ff] (fun K hK => ?_)
                  refine gsz Tryz.func56 #[.int .i64 (wrap64 (i0 + 1))] ?_
                  with_reducible refine (manorboyref02_At.calls k (wrap64 (i0 + 1)) n0 n1 _ HRA.out).mono ?_
                  rintro _ w' ⟨rfl, hb⟩
                  refine ⟨_, rfl, ?_⟩
                  replace H := Lib.hid (H.out.step hb)
                  clear hb
                  refine hK.out _ _ H.out.all (fun hHeld => ?_)
                  clear hK K
                  refine nrm (some 229) ?_
                  refine on1 7 (some 230) #[tt,tt,tt,tt,tt,tt,tt,tt,ff,ff] (fun K hK => ?_)
                  refine gsz Tryz.func39 #[.agg #[.int .i64 n0, .int .i64 n1], .int .i64 0, .agg #[.int .i64 n0, .int .i64 n1]] ?_
                  with_reducible refine (manorboylaw02_is.calls n0 n1 0 n0 n1 true _ HIT.out).mono ?_
                  rintro _ w' ⟨rfl, hb⟩
                  refine ⟨_, rfl, ?_⟩
                  replace H := Lib.hid (H.out.step hb)
                  clear hb
                  refine hK.out _ _ H.out.all (fun hHeld => ?_)
                  clear hK K
                  refine nrm (some 230) ?_
                  refine pur 8 (some 231) #[tt,tt,tt,tt,tt,tt,tt,tt,tt,ff] ?_
                  refine pur 9 (some 8) #[tt,tt,tt,tt,tt,tt,tt,tt,tt,tt] ?_
                  refine done_ (done_of HT_.out (by kernel_rfl)) ?_
                  have hB := H.out.1
                  try go_wp2
                  go_ret
                  exact ⟨rfl, hB⟩
end Go.Proofs.YteigbokklclmbaaGreatDoor.Z.Y
end
section
namespace Go.Proofs.YteigbokklclmbaaGreatDoor.M
open Go Go.RowKit Go.Proofs.YteigbokklclmbaaGreatDoor.Given Go.Proofs.YteigbokklclmbaaGreatDoorW.PrintWords Go.Proofs.YteigbokklclmbaaGreatDoorW.PrintLast Go.Proofs.YteigbokklclmbaaGreatDoorW.PrintMore Go.Proofs.YteigbokklclmbaaGreatDoor.Z Go.Proofs.YteigbokklclmbaaGreatDoor.Z.Y Go.Proofs.YteigbokklclmbaaGreatDoor.Z.Y.V Go.Proofs.YteigbokklclmbaaGreatDoor.Z.Y.Q
theorem Ev.cond {α : Type} {p : Prop} {f : Nat → Option α} {r : α} (h : p → Ev f r) : ∃ K, ∀ k, K ≤ k → p → f k = some r := by
  by_cases hp : p
  · obtain ⟨K, hK⟩ := h hp
    exact ⟨K, fun k hk _ => hK k hk⟩
  · exact ⟨0, fun _ _ h => absurd h hp⟩
def NumbH (k : Nat) (x0 x1 y0 y1 idx n : Int) : Prop := ∃ t0 t1 t2 u0 u1 i0 i1 n0 n1 n2 g0 g1 g2 b0 b1 b2 s0 s1 c0 c1 : Int, ∃ inr bv by_ : Bool, (real_At.f idx = some (t0, t1, t2)) ∧ (inr = decide (-2533359615 ≤ idx ∧ idx ≤ 2533359615)) ∧ (inr = true → t2 = 0 ∧ manorboyref02_At.f k idx = some (t0, t1)) ∧ (inr = false → t0 = 0 ∧ t1 = 0 ∧ t2 = 1) ∧ (real_FromIntN.f k n = some (u0, u1)) ∧ (manorboyref02_FromInt.f k n = some (u0, u1)) ∧ (real_Valid.f x0 x1 = some bv) ∧ (manorboyref02_Valid.f k x0 x1 = some bv) ∧ (real_Index.f x0 x1 = some (i0, i1)) ∧ (real_Next.f x0 x1 = some (n0, n1, n2)) ∧ (real_Neg.f x0 x1 = some (g0, g1, g2)) ∧ (real_Abs.f x0 x1 = some (b0, b1, b2)) ∧ (real_Sign.f x0 x1 = some (s0, s1)) ∧ (real_Cmp.f x0 x1 y0 y1 = some (c0, c1)) ∧ (bv = false → i0 = 0 ∧ i1 = 1 ∧ n0 = 0 ∧ n1 = 0 ∧ n2 = 1 ∧ g0 = 0 ∧ g1 = 0 ∧ g2 = 1 ∧ b0 = 0 ∧ b1 = 0 ∧ b2 = 1 ∧ s0 = 0 ∧ s1 = 1 ∧ c0 = 0 ∧ c1 = 1) ∧ (bv = true → i1 = 0 ∧ g2 = 0 ∧ b2 = 0 ∧ s1 = 0) ∧ (manorboyref02_Valid.f k y0 y1 = some by_) ∧ (bv = true → by_ = false → c0 = 0 ∧ c1 = 1) ∧ (bv = true → by_ = true → c1 = 0 ∧ manorboyref02_Cmp.f k x0 x1 y0 y1 = some c0) ∧ (bv = true → x0 < 0 → manorboyref02_Neg.f x0 x1 = some (b0, b1)) ∧ (bv = true → ¬ x0 < 0 → b0 = x0 ∧ b1 = x1) ∧ (bv = true → manorboyref02_Index.f k x0 x1 = some i0) ∧ (bv = true → manorboyref02_Neg.f x0 x1 = some (g0, g1)) ∧ (bv = true → manorboyref02_Compare.f x0 0 = some s0) ∧ (bv = true → i0 = 2533359615 → n0 = 0 ∧ n1 = 0 ∧ n2 = 3) ∧ (bv = true → ¬ i0 = 2533359615 → n2 = 0 ∧ manorboyref02_At.f k (wrap64 (i0 + 1)) = some (n0, n1)) ∧ (manorboylaw02_sanity.f k = some true)
theorem numb_pure (x0 x1 y0 y1 idx n : Int) (wx : I64 x0) (_ : I64 x1) (wy : I64 y0) (_ : I64 y1) (wi : I64 idx) (wn : I64 n) : ∃ k, NumbH k x0 x1 y0 y1 idx n := by
  obtain ⟨t0, t1, t2, eAt, hin, hout⟩ : ∃ t0 t1 t2 : Int, real_At.f idx = some (t0, t1, t2) ∧ (IR idx → t2 = 0 ∧ Ev (fun k => manorboyref02_At.f k idx) (t0, t1)) ∧ (¬ IR idx → t0 = 0 ∧ t1 = 0 ∧ t2 = 1) := by
    by_cases h : IR idx
    · exact ⟨_, _, _, At_ev h, fun _ => ⟨rfl, ref_at_ev h⟩, fun h' => absurd h h'⟩
    · exact ⟨_, _, _, At_out h, fun h' => absurd h' h, fun _ => ⟨rfl, rfl, rfl⟩⟩
  obtain ⟨kA, EA⟩ := Ev.cond (fun h => (hin h).2)
  obtain ⟨I, hR, hI, ⟨k1, E1⟩⟩ := fromA_ev n wn.1 wn.2
  obtain ⟨k2, E2⟩ := ref_from_ev wn hI hR
  obtain ⟨k3, E3⟩ := valid_ev x0 x1 wx
  obtain ⟨k4, E4⟩ := valid_ev y0 y1 wy
  obtain ⟨c0, c1, eC, hno, hyes⟩ : ∃ c0 c1 : Int, real_Cmp.f x0 x1 y0 y1 = some (c0, c1) ∧ (¬ (VR x0 x1 ∧ VR y0 y1) → c0 = 0 ∧ c1 = 1) ∧ (VR x0 x1 ∧ VR y0 y1 → c1 = 0 ∧ Ev (fun k => manorboyref02_Cmp.f k x0 x1 y0 y1) c0) := by
    by_cases h : VR x0 x1 ∧ VR y0 y1
    · exact ⟨_, _, Cmp_ev wx wy h.1 h.2, fun h' => absurd h h', fun _ => ⟨rfl, ref_cmp_ev wx wy h.1 h.2⟩⟩
    · exact ⟨_, _, Cmp_no h, fun _ => ⟨rfl, rfl⟩, fun h' => absurd h' h⟩
  obtain ⟨k5, E5⟩ := Ev.cond (fun h => (hyes h).2)
  obtain ⟨k6, E6⟩ := Ev.cond (fun h : VR x0 x1 => ref_index_ev wx h)
  obtain ⟨k8, E8⟩ := sanity_ev
  by_cases hv : VR x0 x1
  · obtain ⟨vn, wn', hw', _⟩ := neg_VR wx hv
    obtain ⟨s0, s1⟩ := sx_IR wx hv
    have hat := ix_at wx hv
    obtain ⟨n0, n1, n2, eN, hmx, hnm⟩ : ∃ n0 n1 n2 : Int, real_Next.f x0 x1 = some (n0, n1, n2) ∧ (sx x0 x1 = 2533359615 → n0 = 0 ∧ n1 = 0 ∧ n2 = 3) ∧ (¬ sx x0 x1 = 2533359615 → n2 = 0 ∧ Ev (fun k => manorboyref02_At.f k (wrap64 (sx x0 x1 + 1))) (n0, n1)) := by
      have h := Next_ev wx hv
      by_cases hm : sx x0 x1 = 2533359615
      · rw [if_pos (by omega)] at h
        exact ⟨_, _, _, h, fun _ => ⟨rfl, rfl, rfl⟩, fun h' => absurd hm h'⟩
      · rw [if_neg (by omega)] at h
        refine ⟨_, _, _, h, fun h' => absurd h' hm, fun _ => ⟨rfl, ?_⟩⟩
        rw [w64 _ (by omega) (by omega)]
        exact ref_at_ev ⟨by omega, by omega⟩
    obtain ⟨k7, E7⟩ := Ev.cond (fun h => (hnm h).2)
    obtain ⟨K, hK⟩ : ∃ K, K = kA + k1 + k2 + k3 + k4 + k5 + k6 + k7 + k8 := ⟨_, rfl⟩
    have en : manorboyref02_Neg.f x0 x1 = some (-x0, x1) := by unfold manorboyref02_Neg.f; rw [hw']
    refine ⟨K, t0, t1, t2, _, _, sx x0 x1, 0, n0, n1, n2, -x0, x1, 0, (atI (ix x0 x1)).1, (atI (ix x0 x1)).2, 0, cmpI x0 0, 0, c0, c1, _, true, decide (VR y0 y1),
      eAt, rfl, fun h => ?_, fun h => hout (by have := of_decide_eq_false h; exact this), E1 K (by omega), E2 K (by omega), Valid_ev hv, (by have h := E3 K (by omega); rw [decide_eq_true hv] at h; exact h),
      Index_ev wx hv, eN, Neg_ev wx hv, AbsN_ev wx hv, Sign_ev hv, eC, fun h => absurd h (by decide), fun _ => ⟨rfl, rfl, rfl, rfl⟩, E4 K (by omega),
      fun _ h => hno (fun h' => of_decide_eq_false h h'.2), fun _ h => ?_, fun _ h => ?_, fun _ h => ?_, fun _ => E6 K (by omega) hv, fun _ => en, fun _ => compare_is _ _, fun _ h => hmx h, fun _ h => ?_, E8 K (by omega)⟩
    · have hi : IR idx := show -2533359615 ≤ idx ∧ idx ≤ 2533359615 from of_decide_eq_true h
      exact ⟨(hin hi).1, EA K (by omega) hi⟩
    · have h2 := of_decide_eq_true h
      exact ⟨(hyes ⟨hv, h2⟩).1, E5 K (by omega) ⟨hv, h2⟩⟩
    · rw [hat, en]; congr 2; omega
    · rw [hat]; exact ⟨by dsimp only; omega, rfl⟩
    · exact ⟨(hnm h).1, E7 K (by omega) h⟩
  · obtain ⟨K, hK⟩ : ∃ K, K = kA + k1 + k2 + k3 + k4 + k5 + k6 + k8 := ⟨_, rfl⟩
    obtain ⟨rfl, rfl⟩ := hno (fun h => hv h.1)
    refine ⟨K, t0, t1, t2, _, _, 0, 1, 0, 0, 1, 0, 0, 1, 0, 0, 1, 0, 1, 0, 1, _, false, decide (VR y0 y1),
      eAt, rfl, fun h => ?_, fun h => hout (by have := of_decide_eq_false h; exact this), E1 K (by omega), E2 K (by omega), Valid_no hv, (by have h := E3 K (by omega); rw [decide_eq_false hv] at h; exact h),
      Index_no hv, Next_no hv, Neg_no hv, Abs_no hv, Sign_no hv, eC, fun _ => ⟨rfl, rfl, rfl, rfl, rfl, rfl, rfl, rfl, rfl, rfl, rfl, rfl, rfl, rfl, rfl⟩, fun h => absurd h (by decide), E4 K (by omega),
      fun h => absurd h (by decide), fun h => absurd h (by decide), fun h => absurd h (by decide), fun h => absurd h (by decide), fun h => absurd h (by decide), fun h => absurd h (by decide), fun h => absurd h (by decide), fun h => absurd h (by decide), fun h => absurd h (by decide), E8 K (by omega)⟩
    have hi : IR idx := show -2533359615 ≤ idx ∧ idx ≤ 2533359615 from of_decide_eq_true h
    exact ⟨(hin hi).1, EA K (by omega) hi⟩
theorem numb_calls (k : Nat) (x0 x1 y0 y1 idx n : Int) (r : Bool) (w : World) (h : NumbH k x0 x1 y0 y1 idx n) (hr : r = true) (ht : Table w) :
    Calls Tryz.prog 15 #[.agg #[.int .i64 x0, .int .i64 x1], .agg #[.int .i64 y0, .int .i64 y1], .int .i64 idx, .int .i64 n] w fun e w' => e = .returned (.bool r) ∧ Below w.heap.size w w' := by
  subst hr
  obtain ⟨t0, t1, t2, u0, u1, i0, i1, n0, n1, n2, g0, g1, g2, b0, b1, b2, s0, s1, c0, c1, inr, bv, by_, gq0, gq1, gq2, gq3, gq4, gq5, gq6, gq7, gq8, gq9, gq10, gq11, gq12, gq13, gq14, gq15, gq16, gq17, gq18, gq19, gq20, gq21, gq22, gq23, gq24, gq25, gq26⟩ := h
  exact numb_c k x0 x1 y0 y1 idx n t0 t1 t2 u0 u1 i0 i1 n0 n1 n2 g0 g1 g2 b0 b1 b2 s0 s1 c0 c1 inr bv by_ gq0 gq1 gq2 gq3 gq4 gq5 gq6 gq7 gq8 gq9 gq10 gq11 gq12 gq13 gq14 gq15 gq16 gq17 gq18 gq19 gq20 gq21 gq22 gq23 gq24 gq25 gq26 w ht
end Go.Proofs.YteigbokklclmbaaGreatDoor.M
end
section
namespace Go.Proofs.YteigbokklclmbaaGreatDoor.Given
open Go
theorem gT : Tryz.prog.globalNamed "internal/strconv.uint64pow10" = some 0 := by kernel_rfl
theorem gTType : (Tryz.prog.globals[0]?).map (·.type) = some 188 := by kernel_rfl
theorem pow10_datum : (Rows.laid_internal_strconv_uint64pow10 : DataW Unit) = Lib.tabData .u64 Lib.pow10Tab := by kernel_rfl
theorem table_of {W : World} (h : laidMet Tryz.prog [("math/bits.deBruijn32tab", Rows.laid_math_bits_deBruijn32tab), ("math/bits.deBruijn64tab", Rows.laid_math_bits_deBruijn64tab), ("internal/strconv.uint64pow10", Rows.laid_internal_strconv_uint64pow10), ("unicode/utf8.acceptRanges", Rows.laid_unicode_utf8_acceptRanges), ("unicode/utf8.first", Rows.laid_unicode_utf8_first)] W) : Z.Table W := by
  obtain ⟨ps, ⟨_, _, _, _, _, _, _, _, _, _, ⟨_, _, _, _, _, _, _, _, _, _, ⟨g, t, cs, f, p, q, hg, ht, hv, hd, _, _⟩, _⟩, _⟩, _⟩ := h
  obtain rfl := Option.some.inj (gT.symm.trans hg)
  obtain rfl := Option.some.inj (gTType.symm.trans ht)
  rw [pow10_datum] at hd
  show Lib.TabIs _ _ _ _ _
  unfold Lib.TabIs
  rw [hv, ← Lib.cells_of_tab Tryz.underlying188 Tryz.underlying72 (by kernel_rfl) (by kernel_rfl) hd]
theorem i64_lit {a : Int} (h : (Lit.int IntKind.i64 a).wf = true) : -9223372036854775808 ≤ a ∧ a ≤ 9223372036854775807 := by
  have h1 : (decide ((-9223372036854775808 : Int) ≤ a) && decide (a ≤ (9223372036854775807 : Int))) = true := h
  simpa using h1
end Go.Proofs.YteigbokklclmbaaGreatDoor.Given
end
