/- Contracts and lemmas that the law's row leans on, joined by program (pack.py) out of the session's texts; no condition of its own. -/
import Derived.Test.YteigbokklclmbaaGreatDoorProg
import Derived.Below
import Derived.Deep.Draws
import Derived.Deep.AppendLies
import Derived.Maps.AppendAt
import Derived.OwnWalk
import Derived.Laws.BytesArg
import Derived.Laws.MakeOwn
import Derived.Laws.OwnMore
import Derived.Deep.OwnRows
import Derived.Tactics
import Derived.Lib.ConvBytes
import Derived.Laws.Slices
import Derived.WalkKit
import Derived.KernelRfl
import Derived.RowKit3
import Derived.Deep.LoopGhost
import Derived.Deep.QuietTactic
import Derived.BigQuiet
import Derived.WideLaws
import Derived.Deep.DeepCutAuto
import Derived.Deep.CutBlock
import Derived.Deep.RegionHeld3
import Derived.Laws.Rows
import Derived.Lib.AppendStr
import Derived.ArgAppend
import Derived.Laws.IdiomCopy
import Derived.OrdersHeld
import Derived.Laws.BitsLemmas
import Derived.RowKit
import Derived.Test.YteigbokklclmbaaGreatDoorRpxa
import Derived.Test.YteigbokklclmbaaGreatDoorRpxb
import Derived.Test.YteigbokklclmbaaGreatDoorRpxc
set_option linter.unusedVariables false
set_option linter.unusedSimpArgs false
set_option maxRecDepth 100000
set_option maxHeartbeats 8000000
section
namespace Go.Proofs.YteigbokklclmbaaGreatDoor.Z
open Go Go.RowKit Go.Shelf Go.Proofs.YteigbokklclmbaaGreatDoor.Given Go.Proofs.YteigbokklclmbaaGreatDoorW.PrintWords Go.Proofs.YteigbokklclmbaaGreatDoorW.PrintLast Go.Proofs.YteigbokklclmbaaGreatDoorW.PrintMore
attribute [local go_sem] Oper.semAt_some
theorem upO {α : Type} {f : Nat → Option α} (h : ∀ k, LeO (f k) (f (k + 1))) {k k' : Nat} (hk : k ≤ k') {r : α} (e : f k = some r) : f k' = some r := by
  induction hk with
  | refl => exact e
  | step _ ih => exact h _ _ ih
def numStep (k : Nat) (n : List Int) (d : Int) : Option (List Int) := (real_nat_mul.f k n [10]).bind fun a => (real_natOf.f k (IntKind.u64.wrap d)).bind fun b => real_nat_add.f k a b
theorem numStep_mono (n : List Int) (d : Int) (k : Nat) : LeO (numStep k n d) (numStep (k + 1) n d) :=
  LeO.bind (real_nat_mul.mono _ _ _) (fun a => LeO.bind (real_natOf.mono _ _) (fun b => real_nat_add.mono _ _ _))
theorem numStep_of {k k1 k2 k3 : Nat} {n a b c : List Int} {d : Int} (e1 : k1 ≤ k) (e2 : k2 ≤ k) (e3 : k3 ≤ k) (h1 : real_nat_mul.f k1 n [10] = some a) (h2 : real_natOf.f k2 (IntKind.u64.wrap d) = some b) (h3 : real_nat_add.f k3 a b = some c) : numStep k n d = some c := by
  have h1' := upO (f := fun k => real_nat_mul.f k n [10]) (fun k => real_nat_mul.mono _ _ _) e1 h1
  have h2' := upO (f := fun k => real_natOf.f k (IntKind.u64.wrap d)) (fun k => real_natOf.mono _ _) e2 h2
  have h3' := upO (f := fun k => real_nat_add.f k a b) (fun k => real_nat_add.mono _ _ _) e3 h3
  unfold numStep
  refine Option.bind_eq_some_iff.mpr ⟨a, h1', Option.bind_eq_some_iff.mpr ⟨b, h2', h3'⟩⟩
def numL (k : Nat) : List Int → List Int → Option (List Int)
  | [], n => some n
  | d :: ds, n => (numStep k n d).bind fun c => numL k ds c
theorem numL_mono : ∀ (l n : List Int) (k : Nat), LeO (numL k l n) (numL (k + 1) l n)
  | [], n, k => LeO.refl _
  | d :: ds, n, k => LeO.bind (numStep_mono _ _ _) (fun c => numL_mono ds c k)
def NumE (l n r : List Int) : Prop := ∃ k, numL k l n = some r
theorem numE_only {l n a b : List Int} (h : NumE l n a) (h' : NumE l n b) : a = b := by
  obtain ⟨k, h⟩ := h
  obtain ⟨k', h'⟩ := h'
  have e := upO (numL_mono l n) (Nat.le_max_left k k') h
  have e' := upO (numL_mono l n) (Nat.le_max_right k k') h'
  exact Option.some.inj (e.symm.trans e')
theorem numL_snoc (k : Nat) : ∀ (l n r c : List Int) (d : Int), numL k l n = some r → numStep k r d = some c → numL k (l ++ [d]) n = some c
  | [], n, r, c, d, h, hs => by
    cases h
    exact Option.bind_eq_some_iff.mpr ⟨c, hs, rfl⟩
  | e :: ds, n, r, c, d, h, hs => by
    obtain ⟨m, h1, h2⟩ := Option.bind_eq_some_iff.mp h
    exact Option.bind_eq_some_iff.mpr ⟨m, h1, numL_snoc k ds m r c d h2 hs⟩
theorem numE_snoc {l n r a b c : List Int} {d : Int} {k1 k2 k3 : Nat} (h : NumE l n r) (h1 : real_nat_mul.f k1 r [10] = some a) (h2 : real_natOf.f k2 (IntKind.u64.wrap d) = some b) (h3 : real_nat_add.f k3 a b = some c) : NumE (l ++ [d]) n c := by
  obtain ⟨k, h⟩ := h
  refine ⟨k + k1 + k2 + k3, numL_snoc _ l n r c d (upO (numL_mono l n) (by omega) h) (numStep_of (by omega) (by omega) (by omega) h1 h2 h3)⟩
/-- A number of digits lies where it lay when a block turns that is no cells. -/
theorem nat32_kept {W W' : World} {row : Option Nat} {v : Value} {l : List Int} (h : Nat32 W v l) (hg : W.grownBy W' row) (hr : ∀ r, row = some r → ∃ o : Obj, W.heap[r]? = some o ∧ o.isCells = false) : Nat32 W' v l := by
  obtain ⟨A, c, rfl, hc, hC⟩ := h
  refine ⟨A, c, rfl, hc, ?_⟩
  have h := Kd.reads_of_C (enc := Value.int .u32) (d := (0 : Int)) (h1 := fun _ => rfl) hC
  refine Kd.C_of_reads (enc := Value.int .u32) (d := (0 : Int)) (h1 := fun _ => rfl) ⟨h.1, h.2.1, fun hn => ?_⟩
  obtain ⟨ad, e, hc⟩ := h.2.2 hn
  exact ⟨ad, e, fun j hj => Go.cell_kept (hc j hj) hg hr⟩
theorem nat32_set {W : World} {b : Nat} {t : TypeId} {u v v' : Value} {l : List Int} (h : Nat32 W v l) (hb : W.heap[b]? = some (.cells #[u] t (0, 0))) (hu : ∀ n, u ≠ .int .u32 n) : Nat32 (W.setCell ⟨b, 0, none⟩ v') v l := by
  obtain ⟨A, c, rfl, hc, hC⟩ := h
  refine ⟨A, c, rfl, hc, ?_⟩
  have h := Kd.reads_of_C (enc := Value.int .u32) (d := (0 : Int)) (h1 := fun _ => rfl) hC
  refine Kd.C_of_reads (enc := Value.int .u32) (d := (0 : Int)) (h1 := fun _ => rfl) ⟨h.1, h.2.1, fun hn => ?_⟩
  obtain ⟨ad, e, hc⟩ := h.2.2 hn
  refine ⟨ad, e, fun j hj => ?_⟩
  have hj' := hc j hj
  rw [World.cell?_setCell_other]
  · exact hj'
  · intro e'
    rw [← e', (blk_cell hb 0)] at hj'
    exact hu _ (Option.some.inj hj')
def real_number.f (k : Nat) (s : ByteArray) (n : List Int) : Option (List Int × Int × ByteArray) := if n.length + s.size < 100000000000 then (numL k (digs s) n).bind fun r => some (r, ((digs s).length : Int), s.extract (digs s).length s.size) else none
theorem number_in (k : Nat) (s : ByteArray) (A0 : Option Addr) (c0 : Nat) (l0 : List Int) (r1 : List Int) (r2 : Int) (r3 : ByteArray) (w : World) (hr0 : Kd.C (Kd.int .u32) w A0 l0.length l0) (hc0 : l0.length ≤ c0) (h : real_number.f k s l0 = some (r1, r2, r3)) :
    CallsIn Fence.wide 9 Tryz.prog 77 #[.string s, .slice A0 l0.length c0] w fun e W' => (∃ v, Nat32 W' v r1 ∧ e = .returned (.tuple #[v, .int .i64 r2, .string r3])) ∧ Below w.heap.size w W' := by
  have H := Lib.hid h
  have HR := Lib.hid hr0
  clear h hr0
  refine callsIn_of_wp_marks Tryz.func77 rfl trivial ?_ rfl
  simp only [Tryz.ntmps77, List.size_toArray, List.length_cons, List.length_nil, Nat.reduceAdd, Nat.reduceSub, Array.replicate_succ, Array.replicate_zero, List.push_toArray, List.append_toArray, List.nil_append, List.cons_append]
  gi_wp2_with (refine ⟨trivial, ?_⟩; gi_at_call 115; refine (callsIn_wide.2 (digits_c s _)).mono ?_; rintro e w' ⟨rfl, rfl⟩)
  have hlen : l0.length + s.size < 100000000000 := by
    have h := H.out
    unfold real_number.f at h
    by_cases hl : l0.length + s.size < 100000000000
    · exact hl
    · rw [if_neg hl] at h; cases h
  have hB0 : Below w.heap.size w (((w.alloc (.cells #[Value.slice A0 l0.length c0] 87)).alloc (.cells #[Value.int IntKind.i64 0] 3)).alloc (.cells #[Value.string s] 9)) := (((Below.refl _ w).alloc (Nat.le_refl _) _).alloc (by simp only [World.size_alloc]; omega) _).alloc (by simp only [World.size_alloc]; omega) _
  obtain ⟨w0, hw0⟩ : ∃ w0, (((w.alloc (.cells #[Value.slice A0 l0.length c0] 87)).alloc (.cells #[Value.int IntKind.i64 0] 3)).alloc (.cells #[Value.string s] 9)) = w0 := ⟨_, rfl⟩
  have k0 : w0.heap[w.heap.size]? = some (.cells #[Value.slice A0 l0.length c0] 87 (0, 0)) := by
    rw [← hw0]; exact blk_alloc (blk_alloc (new_at _ _ _ rfl) _) _
  have k1 : w0.heap[w.heap.size + 1]? = some (.cells #[Value.int .i64 0] 3 (0, 0)) := by
    rw [← hw0]; exact blk_alloc (new_at _ _ _ (by simp only [World.size_alloc])) _
  have k2 : w0.heap[w.heap.size + 1 + 1]? = some (.cells #[Value.string s] 9 (0, 0)) := by
    rw [← hw0]; exact new_at _ _ _ (by simp only [World.size_alloc])
  have hs0 : w0.heap.size = w.heap.size + 1 + 1 + 1 := by rw [← hw0]; simp only [World.size_alloc]
  rw [hw0] at hB0 ⊢
  refine wpIn_rangeFunc_ownF rfl (by omega) (gf := 147) (lb := #[.pointer (some ⟨w.heap.size + 1 + 1, 0, none⟩)]) rfl trivial (enters_ Tryz.func147 (by kernel_rfl) rfl)
    (digits_stops 8 (by omega) (w.heap.size + 1 + 1) s (by omega) w0 (by omega) ((blk_cell k2 0).trans rfl)) KB_t (KB_b (by omega)) (Below.refl _ _) (fun _ => rfl)
    (fun pre W => (∃ n v, NumE pre l0 n ∧ n.length ≤ l0.length + 3 * pre.length ∧ Boxed W w.heap.size 87 v ∧ Nat32 W v n ∧ Boxed W (w.heap.size + 1) 3 (.int .i64 (pre.length : Int)) ∧ Boxed W (w.heap.size + 1 + 1) 9 (.string s)) ∧ Below w.heap.size w W)
    (fun _ _ _ => False)
    (OwnFrom.and (Own.from (fun pre A B row hs hg hr => by
      obtain ⟨n, v, h1, h2, h3, h4, h5, h6⟩ := hs
      exact ⟨n, v, h1, h2, h3.kept hg (fun e => by obtain ⟨o, ho, hc⟩ := hr _ e.symm; rw [show A.heap[w.heap.size]? = _ from h3] at ho; cases ho; cases hc), nat32_kept h4 hg hr, h5.kept hg (fun e => by obtain ⟨o, ho, hc⟩ := hr _ e.symm; rw [show A.heap[w.heap.size + 1]? = _ from h5] at ho; cases ho; cases hc), h6.kept hg (fun e => by obtain ⟨o, ho, hc⟩ := hr _ e.symm; rw [show A.heap[w.heap.size + 1 + 1]? = _ from h6] at ho; cases ho; cases hc)⟩) _) (ownFrom_below (Nat.le_refl _) (by omega)))
    (fun _ _ _ _ _ hs _ _ => hs)
    ⟨⟨l0, _, ⟨0, rfl⟩, by simp, k0, ⟨A0, c0, rfl, hc0, Kd.C_below HR.out (hB0.mono (Nat.le_refl _))⟩, k1, k2⟩, hB0⟩
    (fun x => { tmps := #[Value.string s, Value.slice A0 l0.length c0, undef, Value.pointer (some { block := w.heap.size, off := 0 }), Value.slice none 0 0, Value.int IntKind.i64 0, Value.string { data := #[] }, Value.pointer (some { block := w.heap.size + 1, off := 0 }), .int .i64 x, Value.string s, Value.func (Fn.func 147) #[] #[Value.pointer (some { block := w.heap.size + 1 + 1, off := 0 })], .int .i64 x, undef, undef, undef, undef, undef, undef, undef, undef, undef, undef, undef, undef, undef, undef], defers := [] }) ?assign ?body ?done ?stop
  case assign =>
    intro l x W K hK
    gi_wp2
    exact hK
  case body =>
    rintro l pre x W ⟨⟨n, v, hE, hn, hb0, ⟨A, c, rfl, hc, hC⟩, hb1, hb2⟩, hB⟩ hpre
    have l2 := hb2.lt
    have HBz := Lib.hid hb2
    have HE := Lib.hid hE
    have HC := Lib.hid hC
    have HBx := Lib.hid hb0
    have HBy := Lib.hid hb1
    have HBB := Lib.hid hB
    obtain ⟨k1, a, hm, ha⟩ := mul_total n [10] (by simp; omega)
    obtain ⟨k2, b, ho, hb⟩ := natOf_total (IntKind.u64.wrap x)
    obtain ⟨k3, e, hadd, he⟩ := add_total a b (n.length + 2) (by omega) (by simp at ha; omega) (by omega)
    have HM := Lib.hid (fun (W : World) (h1 : Kd.C (Kd.int .u32) W A n.length n) (A1 : Option Addr) (h2 : Kd.C (Kd.int .u32) W A1 1 [10]) => real_nat_mul.calls k1 A c n A1 1 [10] a W h1 hc h2 (Nat.le_refl _) hm)
    have HO := Lib.hid (fun (W : World) => real_natOf.calls k2 (IntKind.u64.wrap x) b W ho)
    have HA := Lib.hid hadd
    have hm' := hm
    have ho' := ho
    have c0 := hb0.cell
    have f0 := hb0.frozen
    have c1 := hb1.cell
    have f1 := hb1.frozen
    clear hE hC hm ho hadd
    replace hm' := Lib.hid hm'
    replace ho' := Lib.hid ho'
    gi_wp2_with fail
    refine ⟨trivial, CallsIn.inRound l (callsIn_wide.2 ((HM.out _ (Kd.C_below HC.out ((Below.refl _ W).alloc (Nat.le_refl _) _)) _ (one_C _ _ _)).mono ?_))⟩
    rintro e1 w1 ⟨v1, rfl, hV1, hB1⟩
    have hW1 : Below W.heap.size W w1 := ((Below.refl _ W).alloc (Nat.le_refl _) _).trans (hB1.mono (by simp))
    have hN1 := nat32_of_V hV1
    clear hV1 hB1
    gi_wp2_with fail
    refine ⟨trivial, CallsIn.inRound l (callsIn_wide.2 ((HO.out _).mono ?_))⟩
    rintro e2 w2 ⟨v2, rfl, hV2, hB2⟩
    have hW2 : Below W.heap.size W w2 := hW1.trans (hB2.mono hW1.size)
    have hN2 := nat32_of_V hV2
    have hN1' := hN1.below hB2
    clear hV2 hB2 hN1 hW1
    obtain ⟨A1, ca1, rfl, hc1, hC1⟩ := hN1'
    obtain ⟨A2, ca2, rfl, hc2, hC2⟩ := hN2
    gi_wp2_with fail
    refine ⟨trivial, CallsIn.inRound l (callsIn_wide.2 ((real_nat_add.calls k3 A1 ca1 a A2 ca2 b e w2 hC1 hc1 hC2 hc2 HA.out).mono ?_))⟩
    rintro e3 w3 ⟨v3, rfl, hV3, hB3⟩
    have hW3 : Below W.heap.size W w3 := hW2.trans (hB3.mono hW2.size)
    have hN3 := nat32_of_V hV3
    clear hV3 hB3 hW2
    obtain ⟨A3, ca3, rfl, hc3, hC3⟩ := hN3
    have b0 : w3.heap[w.heap.size]? = some (.cells #[Value.slice A n.length c] 87 (0, 0)) := blk_below HBx.out hW3
    have b1 : w3.heap[w.heap.size + 1]? = some (.cells #[Value.int .i64 (pre.length : Int)] 3 (0, 0)) := blk_below HBy.out hW3
    have q0 := (blk_cell b0 0).trans rfl
    have q1 := (blk_cell b1 0).trans rfl
    have g0 := blk_frozen b0 0
    have g1 := blk_frozen b1 0
    clear c0 f0 c1 f1
    gi_wp2
    have hN3 : Nat32 w3 (.slice A3 e.length ca3) e := ⟨A3, ca3, rfl, hc3, hC3⟩
    have t0 := heap_setCell_same w3 w.heap.size 0 _ _ (.slice A3 e.length ca3) b0
    have t1 : (w3.setCell ⟨w.heap.size, 0, none⟩ (.slice A3 e.length ca3)).heap[w.heap.size + 1]? = _ := (heap_setCell_other _ _ _ _ (by simp only; omega)).trans b1
    have u0 := (heap_setCell_other (w3.setCell ⟨w.heap.size, 0, none⟩ (.slice A3 e.length ca3)) ⟨w.heap.size + 1, 0, none⟩ w.heap.size (.int .i64 ((pre.length : Int) + 1)) (by simp only; omega)).trans t0
    have u1 := heap_setCell_same _ (w.heap.size + 1) 0 _ _ (.int .i64 ((pre.length : Int) + 1)) t1
    have u2 : ((w3.setCell ⟨w.heap.size, 0, none⟩ (.slice A3 e.length ca3)).setCell ⟨w.heap.size + 1, 0, none⟩ (.int .i64 ((pre.length : Int) + 1))).heap[w.heap.size + 1 + 1]? = W.heap[w.heap.size + 1 + 1]? :=
      (heap_setCell_other _ _ _ _ (by simp only; omega)).trans ((heap_setCell_other _ _ _ _ (by simp only; omega)).trans (hW3.block _ l2))
    refine ⟨(KeepsOthers.trans ⟨hW3.size, fun k o hk _ => (hW3.block k (Array.getElem?_eq_some_iff.1 hk).1).trans hk⟩ (KeepsOthers.setCell _ _ _)).trans (KeepsOthers.setCell _ _ _), u2, ⟨e, _, numE_snoc HE.out hm'.out ho'.out HA.out, by simp at ha ⊢; omega, u0, nat32_set (nat32_set hN3 b0 (fun _ h => by cases h)) t1 (fun _ h => by cases h), ?_, u2.trans HBz.out⟩, ((HBB.out.trans (hW3.mono HBB.out.size)).setCell (Nat.le_refl _) _).setCell (by simp only; omega) _⟩
    have hp : (((pre ++ [x]).length : Nat) : Int) = (pre.length : Int) + 1 := by simp
    rw [hp]
    exact u1
  case done =>
    rintro D ys W hD rfl ⟨⟨n, v, hE, hn, hb0, ⟨A, c, rfl, hc, hC⟩, hb1, hb2⟩, hB⟩ hK
    have hv : r1 = n ∧ r2 = ((digs s).length : Int) ∧ r3 = s.extract (digs s).length s.size := by
      have h := H.out
      unfold real_number.f at h
      rw [if_pos hlen] at h
      obtain ⟨r, h1, h2⟩ := Option.bind_eq_some_iff.mp h
      cases h2
      exact ⟨numE_only ⟨k, h1⟩ hE, rfl, rfl⟩
    obtain ⟨rfl, rfl, rfl⟩ := hv
    have hdl := digs_len s
    obtain ⟨m, hm⟩ : ∃ m, (digs s).length = m := ⟨_, rfl⟩
    rw [hm] at hb1 hdl
    have HM := Lib.hid hm
    clear hm
    have c0 := hb0.cell
    have c1 := hb1.cell
    have HX := Lib.hid (And.intro hE hC)
    clear hE hC H
    gi_wp2
    gi_region
    gi_wp2
    have hKd : W.drew.heap[D]? = some (.deferred (some [])) := hK
    refine ⟨by simp, .inl ⟨_, _, rfl, run_takeDeferred hKd, ?_⟩⟩
    have hN : Nat32 W.drew (.slice A r1.length c) r1 := ⟨A, c, rfl, hc, Kd.C_drew HX.out.2⟩
    refine ⟨_, results_tmp3 rfl _ _ _, ⟨_, nat32_kept hN (grownBy_putObj' W.drew D (.deferred none)) (fun r e => by cases e; exact ⟨_, hKd, rfl⟩), ?_⟩, (below_drew hB).trans (belowK_b (w := w) (Nat.le_refl _) W.drew D _ _ (by omega) hKd rfl rfl)⟩
    rw [HM.out]
    rfl
  case stop =>
    rintro D c pre W _ _ h _
    exact h.elim
theorem number_c (k : Nat) (s : ByteArray) (A0 : Option Addr) (c0 : Nat) (l0 : List Int) (r1 : List Int) (r2 : Int) (r3 : ByteArray) (w : World) (hr0 : Kd.C (Kd.int .u32) w A0 l0.length l0) (hc0 : l0.length ≤ c0) (h : real_number.f k s l0 = some (r1, r2, r3)) :
    Calls Tryz.prog 77 #[.string s, .slice A0 l0.length c0] w fun e W' => (∃ v, Nat32 W' v r1 ∧ e = .returned (.tuple #[v, .int .i64 r2, .string r3])) ∧ Below w.heap.size w W' :=
  (callsIn_wide (n := 9)).1 (number_in k s A0 c0 l0 r1 r2 r3 w hr0 hc0 h)
end Go.Proofs.YteigbokklclmbaaGreatDoor.Z
end
section
namespace Go.Proofs.YteigbokklclmbaaGreatDoor.Z
open Go Go.RowKit Go.Proofs.YteigbokklclmbaaGreatDoor.Given Go.Proofs.YteigbokklclmbaaGreatDoorW.PrintWords Go.Proofs.YteigbokklclmbaaGreatDoorW.PrintLast Go.Proofs.YteigbokklclmbaaGreatDoorW.PrintMore
theorem parse1_c (k : Nat) (neg : Bool) (l : List Int) (A : Option Addr) (c : Nat) (exp behind m x r1 r2 : Int) (hd : real_decimal.f k l (wrap64 (exp - behind)) = some (m, x)) (hs : real_signed.f neg m x = some (r1, r2)) (b0 b1 b2 b3 : Nat) (w : World)
    (h0 : w.heap[b0]? = some (.cells #[.bool neg] 4 (0, 0))) (h1 : w.heap[b1]? = some (.cells #[.slice A l.length c] 87 (0, 0))) (h2 : w.heap[b2]? = some (.cells #[.int .i64 exp] 3 (0, 0))) (h3 : w.heap[b3]? = some (.cells #[.int .i64 behind] 3 (0, 0)))
    (hC : Kd.C (Kd.int .u32) w A l.length l) (hc : l.length ≤ c) :
    Calls Tryz.prog 79 #[.pointer (some ⟨b0, 0, none⟩), .pointer (some ⟨b1, 0, none⟩), .pointer (some ⟨b2, 0, none⟩), .pointer (some ⟨b3, 0, none⟩)] w fun e w' => e = ending r1 r2 ∧ Below w.heap.size w w' := by
  have AS := Aside0.mk hs
  have AD := Aside0.mk hd
  have l0 := blk_lt h0
  have l1 := blk_lt h1
  have l2 := blk_lt h2
  have l3 := blk_lt h3
  have H0 := Lib.hid (blk_drew (blk_alloc h0 (.cells #[.int .i64 0, .int .i64 0] 23)))
  have H1 := Lib.hid (blk_drew (blk_alloc h1 (.cells #[.int .i64 0, .int .i64 0] 23)))
  have H2 := Lib.hid (blk_drew (blk_alloc h2 (.cells #[.int .i64 0, .int .i64 0] 23)))
  have H3 := Lib.hid (blk_drew (blk_alloc h3 (.cells #[.int .i64 0, .int .i64 0] 23)))
  have HZ := Lib.hid (blk_drew (blk_new w (.cells #[.int .i64 0, .int .i64 0] 23)))
  have HC := Lib.hid (Kd.C_drew (Kd.C_alloc hC (.cells #[.int .i64 0, .int .i64 0] 23)))
  have HB := Lib.hid (below_drew ((Below.refl w.heap.size w).alloc (Nat.le_refl _) (.cells #[.int .i64 0, .int .i64 0] 23)))
  clear h0 h1 h2 h3 hC hs hd
  go_enter Tryz.func79, Tryz.ntmps79
  go_wp2_with fail
  refine start_ (n := 8) (S := fun w' => w'.cell? ⟨b0, 0, none⟩ = some (.bool neg) ∧ w'.cell? ⟨b1, 0, none⟩ = some (.slice A l.length c) ∧ w'.cell? ⟨b2, 0, none⟩ = some (.int .i64 exp) ∧ w'.cell? ⟨b3, 0, none⟩ = some (.int .i64 behind)) (ds := []) #[ff,ff,ff,ff,ff,ff,ff,ff] (by kernel_rfl) rfl rfl ⟨(blk_cell H0.out 0).trans rfl, (blk_cell H1.out 0).trans rfl, (blk_cell H2.out 0).trans rfl, (blk_cell H3.out 0).trans rfl⟩ (fun hHeld => ?_)
  generalize (w.alloc (.cells #[.int .i64 0, .int .i64 0] 23)).drew = w5 at H0 H1 H2 H3 HZ HC HB hHeld ⊢
  refine take_ (i := 0) (N := some 5) (v := ?_) (a' := ?_) #[true, false, false, false, false, false, false, false] rfl rfl (by kernel_rfl) (fun _ _ _ h => h) (Or.inl ⟨by rfl, ?_⟩) hHeld ?_ ?_
  rotate_left
  · rintro w' ⟨s0, s1, s2, s3⟩
    go_simp
    with_reducible rfl
  rotate_left
  · simp only [Act.put, List.setIfInBounds_toArray, List.set_cons_zero, List.set_cons_succ, i64_w, i32_w]
    rfl
  refine take_ (i := 1) (N := some 6) (v := ?_) (a' := ?_) #[true, true, false, false, false, false, false, false] rfl rfl (by kernel_rfl) (fun _ _ _ h => h) (Or.inl ⟨by rfl, ?_⟩) hHeld ?_ ?_
  rotate_left
  · rintro w' ⟨s0, s1, s2, s3⟩
    go_simp
    with_reducible rfl
  rotate_left
  · simp only [Act.put, List.setIfInBounds_toArray, List.set_cons_zero, List.set_cons_succ, i64_w, i32_w]
    rfl
  refine take_ (i := 2) (N := some 7) (v := ?_) (a' := ?_) #[true, true, true, false, false, false, false, false] rfl rfl (by kernel_rfl) (fun _ _ _ h => h) (Or.inl ⟨by rfl, ?_⟩) hHeld ?_ ?_
  rotate_left
  · rintro w' ⟨s0, s1, s2, s3⟩
    go_simp
    with_reducible rfl
  rotate_left
  · simp only [Act.put, List.setIfInBounds_toArray, List.set_cons_zero, List.set_cons_succ, i64_w, i32_w]
    rfl
  refine take_ (i := 3) (N := some 8) (v := ?_) (a' := ?_) #[true, true, true, true, false, false, false, false] rfl rfl (by kernel_rfl) (fun _ _ _ h => h) (Or.inl ⟨by rfl, ?_⟩) hHeld ?_ ?_
  rotate_left
  · rintro w' ⟨s0, s1, s2, s3⟩
    go_simp
    with_reducible rfl
  rotate_left
  · simp only [Act.put, List.setIfInBounds_toArray, List.set_cons_zero, List.set_cons_succ, i64_w, i32_w]
    rfl
  refine take_ (i := 4) (N := some 9) (v := ?_) (a' := ?_) #[true, true, true, true, true, false, false, false] rfl rfl (by kernel_rfl) (fun _ _ _ h => h) (Or.inl ⟨by rfl, ?_⟩) hHeld ?_ ?_
  rotate_left
  · rintro w' ⟨s0, s1, s2, s3⟩
    go_simp
    with_reducible rfl
  rotate_left
  · simp only [Act.put, List.setIfInBounds_toArray, List.set_cons_zero, List.set_cons_succ, i64_w, i32_w]
    rfl
  refine one_ (i := 5) (N := some 10) #[true, true, true, true, true, true, false, false] rfl rfl (by kernel_rfl) (by decide) (fun K hK => ?_)
  refine goesP_ Tryz.func81 (by kernel_rfl) rfl #[.slice A l.length c, .int .i64 (wrap64 (exp - behind))] (by rfl) rfl rfl (by first | rfl | (simp only [List.map_toArray, List.map_cons, List.map_nil]; rfl)) ?_
  refine (real_decimal.calls k A c l (wrap64 (exp - behind)) m x w5 HC.out hc AD.out).mono ?_
  rintro e w9 ⟨he_, hb⟩
  clear HC
  refine ends_ he_ (fun p1_ => And.intro rfl (And.intro (code_signed AS p1_) (HB.out.trans (hb.mono HB.out.size)))) (fun hpn_ => ?_)
  replace H0 := Lib.hid (blk_below H0.out hb)
  replace H1 := Lib.hid (blk_below H1.out hb)
  replace H2 := Lib.hid (blk_below H2.out hb)
  replace H3 := Lib.hid (blk_below H3.out hb)
  replace HZ := Lib.hid (blk_below HZ.out hb)
  replace HB := Lib.hid (HB.out.trans (hb.mono HB.out.size))
  clear hb
  refine hK.out _ _ ⟨(blk_cell H0.out 0).trans rfl, (blk_cell H1.out 0).trans rfl, (blk_cell H2.out 0).trans rfl, (blk_cell H3.out 0).trans rfl⟩ (fun hHeld => ?_)
  clear hK K
  refine nrm (some 10) ?_
  refine one_ (i := 6) (N := some 11) #[true, true, true, true, true, true, true, false] rfl rfl (by kernel_rfl) (by decide) (fun K hK => ?_)
  refine goes_ Tryz.func80 (by kernel_rfl) rfl #[.bool neg, .agg #[.int .i64 m, .int .i64 x]] (by rfl) rfl rfl (by first | rfl | (simp only [List.map_toArray, List.map_cons, List.map_nil]; rfl)) ?_
  refine (real_signed.calls neg m x r1 r2 _ AS.out).mono ?_
  rintro e w10 ⟨rfl, hb⟩
  refine ⟨_, rfl, ?_⟩
  replace H0 := Lib.hid (blk_below H0.out hb)
  replace H1 := Lib.hid (blk_below H1.out hb)
  replace H2 := Lib.hid (blk_below H2.out hb)
  replace H3 := Lib.hid (blk_below H3.out hb)
  replace HZ := Lib.hid (blk_below HZ.out hb)
  replace HB := Lib.hid (HB.out.trans (hb.mono HB.out.size))
  clear hb
  refine hK.out _ _ ⟨(blk_cell H0.out 0).trans rfl, (blk_cell H1.out 0).trans rfl, (blk_cell H2.out 0).trans rfl, (blk_cell H3.out 0).trans rfl⟩ (fun hHeld => ?_)
  clear hK K
  refine nrm (some 11) ?_
  refine one_ (i := 7) (N := none) #[true, true, true, true, true, true, true, true] rfl rfl (by kernel_rfl) (by decide) (fun K hK => ?_)
  have hz := HZ.out
  have z0 : w10.cell? ⟨w.heap.size, 0, none⟩ = some (.int .i64 0) := (blk_cell hz 0).trans rfl
  have z1 : w10.cell? ⟨w.heap.size, 1, none⟩ = some (.int .i64 0) := (blk_cell hz 1).trans rfl
  have f0 := blk_frozen hz 0
  have f1 := blk_frozen hz 1
  have lz := blk_lt hz
  refine skip_ (w1 := ?_) (by rfl) rfl ?_ ?_
  rotate_left
  · go_simp
    rfl
  have ne0 : b0 ≠ w.heap.size := by omega
  have ne1 : b1 ≠ w.heap.size := by omega
  have ne2 : b2 ≠ w.heap.size := by omega
  have ne3 : b3 ≠ w.heap.size := by omega
  have far : ∀ (b : Nat) (o : Obj), b ≠ w.heap.size → w10.heap[b]? = some o → ((w10.setCell ⟨w.heap.size, 0, none⟩ (.int .i64 r1)).setCell ⟨w.heap.size, 1, none⟩ (.int .i64 r2)).heap[b]? = some o := fun b o hne h => (heap_setCell_other _ _ _ _ hne).trans ((heap_setCell_other _ _ _ _ hne).trans h)
  refine hK.out _ _ ⟨(blk_cell (far _ _ ne0 H0.out) 0).trans rfl, (blk_cell (far _ _ ne1 H1.out) 0).trans rfl, (blk_cell (far _ _ ne2 H2.out) 0).trans rfl, (blk_cell (far _ _ ne3 H3.out) 0).trans rfl⟩ (fun hHeld => ?_)
  clear hK K
  refine done_ (by kernel_rfl) ?_
  have fz := heap_setCell_same (w10.setCell ⟨w.heap.size, 0, none⟩ (.int .i64 r1)) w.heap.size 1 _ _ (.int .i64 r2) (heap_setCell_same w10 w.heap.size 0 _ _ (.int .i64 r1) hz)
  go_wp2
  refine bodyPost_ret (results_cell_row rfl _ _ w.heap.size 23 #[.int .i64 r1, .int .i64 r2] (0, 0) _ rfl fz Tryz.underlying23 rfl (by kernel_rfl)) rfl ?_
  exact ⟨(ending_at (signed_not AS hpn_)).symm, (HB.out.setCell (Nat.le_refl _) _).setCell (Nat.le_refl _) _⟩
theorem is1_c (k : Nat) (l : List Int) (A : Option Addr) (c : Nat) (exp m x : Int) (hd : real_decimal.f k l exp = some (m, x)) (b0 b1 : Nat) (w : World)
    (h0 : w.heap[b0]? = some (.cells #[.slice A l.length c] 87 (0, 0))) (h1 : w.heap[b1]? = some (.cells #[.int .i64 exp] 3 (0, 0))) (hC : Kd.C (Kd.int .u32) w A l.length l) (hc : l.length ≤ c) :
    Calls Tryz.prog 151 #[.pointer (some ⟨b0, 0, none⟩), .pointer (some ⟨b1, 0, none⟩)] w fun e w' => e = ending m x ∧ Below w.heap.size w w' := by
  have HD := Lib.hid hd
  have HC := Lib.hid (Kd.C_alloc hC (.cells #[.int .i64 0, .int .i64 0] 23))
  have c0 : w.cell? ⟨b0, 0, none⟩ = some (.slice A l.length c) := (blk_cell h0 0).trans rfl
  have c1 : w.cell? ⟨b1, 0, none⟩ = some (.int .i64 exp) := (blk_cell h1 0).trans rfl
  have l0 := blk_lt h0
  have l1 := blk_lt h1
  clear hd hC h0 h1
  by_cases hx : x = 1000
  · have e1 : ending m x = .panicked chain := by unfold ending; rw [if_pos hx]
    go_enter Tryz.func151, Tryz.ntmps151
    go_wp2_with fail
    refine (real_decimal.calls k A c l exp m x _ HC.out hc HD.out).mono ?_
    rintro e w3 ⟨rfl, hb⟩
    have hB : Below w.heap.size w w3 := ((Below.refl _ w).alloc (Nat.le_refl _) _).trans (hb.mono (by simp))
    rw [e1]
    exact ⟨rfl, by rw [e1], hB⟩
  · have e1 : ending m x = .returned (.agg #[.int .i64 m, .int .i64 x]) := ending_at hx
    rw [e1]
    go_enter Tryz.func151, Tryz.ntmps151
    go_wp2_with fail
    refine (real_decimal.calls k A c l exp m x _ HC.out hc HD.out).mono ?_
    rintro e w3 ⟨rfl, hb⟩
    have hB : Below w.heap.size w w3 := ((Below.refl _ w).alloc (Nat.le_refl _) _).trans (hb.mono (by simp))
    have hz : w3.heap[w.heap.size]? = some (.cells #[.int .i64 0, .int .i64 0] 23 (0, 0)) := blk_below (blk_new _ _) hb
    have z0 : w3.cell? ⟨w.heap.size, 0, none⟩ = some (.int .i64 0) := (blk_cell hz 0).trans rfl
    have z1 : w3.cell? ⟨w.heap.size, 1, none⟩ = some (.int .i64 0) := (blk_cell hz 1).trans rfl
    have f0 := blk_frozen hz 0
    have f1 := blk_frozen hz 1
    have lz := blk_lt hz
    clear hb
    rw [e1]
    go_wp2
    have fz : (((w3.setCell ⟨w.heap.size, 0, none⟩ (.int .i64 m)).setCell ⟨w.heap.size, 1, none⟩ (.int .i64 x))).heap[w.heap.size]? = some (.cells #[.int .i64 m, .int .i64 x] 23 (0, 0)) := heap_setCell_same (w3.setCell ⟨w.heap.size, 0, none⟩ (.int .i64 m)) w.heap.size 1 _ _ (.int .i64 x) (heap_setCell_same w3 w.heap.size 0 _ _ (.int .i64 m) hz)
    refine bodyPost_ret (results_cell_row rfl _ _ w.heap.size 23 #[.int .i64 m, .int .i64 x] (0, 0) _ rfl fz Tryz.underlying23 rfl (by kernel_rfl)) rfl ?_
    exact ⟨rfl, (hB.setCell (Nat.le_refl _) _).setCell (Nat.le_refl _) _⟩
theorem is1_n (k : Nat) (l : List Int) (A : Option Addr) (c : Nat) (exp m x : Int) (hd : real_decimal.f k l exp = some (m, x)) (b0 b1 : Nat) (w : World)
    (h0 : w.heap[b0]? = some (.cells #[.slice A l.length c] 87 (0, 0))) (h1 : w.heap[b1]? = some (.cells #[.int .i64 exp] 3 (0, 0))) (hN : Nat32 w (.slice A l.length c) l) :
    Calls Tryz.prog 151 #[.pointer (some ⟨b0, 0, none⟩), .pointer (some ⟨b1, 0, none⟩)] w fun e w' => e = ending m x ∧ Below w.heap.size w w' := by
  obtain ⟨A', c', heq, hc, hC⟩ := hN
  cases heq
  exact is1_c k l A c exp m x hd b0 b1 w h0 h1 hC hc
def real_is.f (k : Nat) (l0 : List Int) (a1 a2_0 a2_1 : Int) : Option Bool := (real_decimal.f k l0 a1).bind fun d => if (caughtS d.1 d.2).2.2 = 0 then some ((caughtS d.1 d.2).1 == a2_0 && ((caughtS d.1 d.2).2.1 == a2_1)) else some false
theorem real_is.mono (a0 : List Int) (a1 a2 a3 : Int) (k : Nat) : LeO (real_is.f k a0 a1 a2 a3) (real_is.f (k + 1) a0 a1 a2 a3) := LeO.bind (real_decimal.mono _ _ _) (fun _ => LeO.refl _)
theorem real_is.calls (k : Nat) (A0 : Option Addr) (c0 : Nat) (l0 : List Int) (a1 a2_0 a2_1 : Int) (r : Bool) (w : World) (hr0 : Kd.C (Kd.int .u32) w A0 l0.length l0) (hc0 : l0.length ≤ c0) (h : real_is.f k l0 a1 a2_0 a2_1 = some r) :
    Calls Tryz.prog 125 #[.slice A0 l0.length c0, .int .i64 a1, .agg #[.int .i64 a2_0, .int .i64 a2_1]] w fun e w' => e = .returned (.bool r) ∧ Below w.heap.size w w' := by
  obtain ⟨⟨m, x⟩, hd, h⟩ := Option.bind_eq_some_iff.mp h
  rcases hcs : caughtS m x with ⟨t0, t1, t2⟩
  simp only [hcs] at h
  have HD := Lib.hid hd
  have HT := Lib.hid hcs
  have HN := Lib.hid (show Nat32 w (.slice A0 l0.length c0) l0 from ⟨A0, c0, rfl, hc0, hr0⟩)
  have HB := Lib.hid (Below.refl w.heap.size w)
  clear hd hr0 hcs
  have hmf : ∀ (fn : Fn) (first cap : Array Value) (w : World), (Instr.makeFunc fn first cap).run Tryz.prog w = .ok (.func fn first cap) w := fun _ _ _ _ => rfl
  by_cases ht : t2 = 0
  · rw [if_pos ht] at h
    cases h
    have hq : (t2 == 0) = true := by simp [ht]
    clear ht
    go_enter Tryz.func125, Tryz.ntmps125
    go_wp2_with fail
    refine (caught_t 151 _ m x t0 t1 t2 HT.out _ (fun args w => enters_ Tryz.func151 (by kernel_rfl) rfl args w) (fun w' h' => is1_n k l0 A0 c0 a1 m x HD.out _ _ w' (blk_below (blk_alloc (blk_alloc (new_at _ _ (w.heap.size) oz) _) _) h') (blk_below (blk_alloc (new_at _ _ (w.heap.size + 1) oz) _) h') (((((HN.out).below ((Below.refl _ _).alloc (Nat.le_refl _) _)).below ((Below.refl _ _).alloc (Nat.le_refl _) _)).below ((Below.refl _ _).alloc (Nat.le_refl _) _)).below h'))).mono ?_
    rintro e w1 ⟨rfl, hb⟩
    have nQ := Lib.hid (blk_below (blk_alloc (blk_alloc (new_at _ _ (w.heap.size) oz) _) _) hb)
    have nE := Lib.hid (blk_below (blk_alloc (new_at _ _ (w.heap.size + 1) oz) _) hb)
    have nX := Lib.hid (blk_below (new_at _ _ (w.heap.size + 1 + 1) oz) hb)
    have nN := Lib.hid (((((HN.out).below ((Below.refl _ _).alloc (Nat.le_refl _) _)).below ((Below.refl _ _).alloc (Nat.le_refl _) _)).below ((Below.refl _ _).alloc (Nat.le_refl _) _)).below hb)
    have nB := Lib.hid (((((HB.out).alloc oz _).alloc oz _).alloc oz _).trans (hb.mono oz))
    have hs1 := hb.size
    try simp only [World.size_alloc, World.size_setCell] at hs1
    clear HB HN
    have HQ := nQ
    have HE := nE
    have HX := nX
    have HN := nN
    have HB := nB
    clear nB nQ nE nX nN
    clear hb
    have cQ0 : w1.cell? ⟨w.heap.size, 0, none⟩ = some (.slice A0 l0.length c0) := (blk_cell HQ.out 0).trans rfl
    have fQ0 := blk_frozen HQ.out 0
    have lQ1 := blk_lt HQ.out
    have cE0 : w1.cell? ⟨w.heap.size + 1, 0, none⟩ = some (.int .i64 a1) := (blk_cell HE.out 0).trans rfl
    have fE0 := blk_frozen HE.out 0
    have lE1 := blk_lt HE.out
    have cX0 : w1.cell? ⟨w.heap.size + 1 + 1, 0, none⟩ = some (Value.int .i64 a2_0) := (blk_cell HX.out 0).trans rfl
    have fX0 := blk_frozen HX.out 0
    have cX1 : w1.cell? ⟨w.heap.size + 1 + 1, 1, none⟩ = some (Value.int .i64 a2_1) := (blk_cell HX.out 1).trans rfl
    have fX1 := blk_frozen HX.out 1
    have lX1 := blk_lt HX.out
    go_wp2
    all_goals (go_ret; exact ⟨by first | rfl | (simp_all; done) | (simp [*]; done), (HB.out).alloc oz _⟩)
  · rw [if_neg ht] at h
    cases h
    have hq : (t2 == 0) = false := by simp [ht]
    clear ht
    go_enter Tryz.func125, Tryz.ntmps125
    go_wp2_with fail
    refine (caught_t 151 _ m x t0 t1 t2 HT.out _ (fun args w => enters_ Tryz.func151 (by kernel_rfl) rfl args w) (fun w' h' => is1_n k l0 A0 c0 a1 m x HD.out _ _ w' (blk_below (blk_alloc (blk_alloc (new_at _ _ (w.heap.size) oz) _) _) h') (blk_below (blk_alloc (new_at _ _ (w.heap.size + 1) oz) _) h') (((((HN.out).below ((Below.refl _ _).alloc (Nat.le_refl _) _)).below ((Below.refl _ _).alloc (Nat.le_refl _) _)).below ((Below.refl _ _).alloc (Nat.le_refl _) _)).below h'))).mono ?_
    rintro e w1 ⟨rfl, hb⟩
    have nQ := Lib.hid (blk_below (blk_alloc (blk_alloc (new_at _ _ (w.heap.size) oz) _) _) hb)
    have nE := Lib.hid (blk_below (blk_alloc (new_at _ _ (w.heap.size + 1) oz) _) hb)
    have nX := Lib.hid (blk_below (new_at _ _ (w.heap.size + 1 + 1) oz) hb)
    have nN := Lib.hid (((((HN.out).below ((Below.refl _ _).alloc (Nat.le_refl _) _)).below ((Below.refl _ _).alloc (Nat.le_refl _) _)).below ((Below.refl _ _).alloc (Nat.le_refl _) _)).below hb)
    have nB := Lib.hid (((((HB.out).alloc oz _).alloc oz _).alloc oz _).trans (hb.mono oz))
    have hs1 := hb.size
    try simp only [World.size_alloc, World.size_setCell] at hs1
    clear HB HN
    have HQ := nQ
    have HE := nE
    have HX := nX
    have HN := nN
    have HB := nB
    clear nB nQ nE nX nN
    clear hb
    have cQ0 : w1.cell? ⟨w.heap.size, 0, none⟩ = some (.slice A0 l0.length c0) := (blk_cell HQ.out 0).trans rfl
    have fQ0 := blk_frozen HQ.out 0
    have lQ1 := blk_lt HQ.out
    have cE0 : w1.cell? ⟨w.heap.size + 1, 0, none⟩ = some (.int .i64 a1) := (blk_cell HE.out 0).trans rfl
    have fE0 := blk_frozen HE.out 0
    have lE1 := blk_lt HE.out
    have cX0 : w1.cell? ⟨w.heap.size + 1 + 1, 0, none⟩ = some (Value.int .i64 a2_0) := (blk_cell HX.out 0).trans rfl
    have fX0 := blk_frozen HX.out 0
    have cX1 : w1.cell? ⟨w.heap.size + 1 + 1, 1, none⟩ = some (Value.int .i64 a2_1) := (blk_cell HX.out 1).trans rfl
    have fX1 := blk_frozen HX.out 1
    have lX1 := blk_lt HX.out
    go_wp2
    all_goals (go_ret; exact ⟨by first | rfl | (simp_all; done) | (simp [*]; done), (HB.out).alloc oz _⟩)
end Go.Proofs.YteigbokklclmbaaGreatDoor.Z
end
section
namespace Go.Proofs.YteigbokklclmbaaGreatDoor.Z
open Go.RowKit Go.Proofs.YteigbokklclmbaaGreatDoor.Given Go.Proofs.YteigbokklclmbaaGreatDoorW.PrintWords Go.Proofs.YteigbokklclmbaaGreatDoorW.PrintLast Go.Proofs.YteigbokklclmbaaGreatDoorW.PrintMore
attribute [local go_sem] max2_int min2_int max_two min_two max_three min_three max_four min_four

mutual
def real_shortest.l0 : Nat → List Int → Int → Int → Int → Option (ByteArray × Int)
 | 0, _, _, _, _ => none
 | k + 1, x4, x5, x379000, x379001 => (real_scaled.f k x4 x379001 (wrap64 (-x5))).bind fun bt382 => ((real_nat_cmp.f k bt382.1 bt382.2).bind fun t388 => (if t388 < 0 then (real_shortest.l1 k x4 x5 1 x379000 x379001) else (real_shortest.l0 k x4 (wrap64 (x5 + 1)) x379000 x379001)))
def real_shortest.l1 : Nat → List Int → Int → Int → Int → Int → Option (ByteArray × Int)
 | 0, _, _, _, _, _ => none
 | k + 1, x4, x5, x8, x379000, x379001 => (real_scaled.f k x4 x379001 (wrap64 (x8 - x5))).bind fun bt389 => ((real_nat_div.f k bt389.1 bt389.2).bind fun bt395 => ((real_nat_add.f k bt395.1 (([1] : List Int))).bind fun t404 => ((real_is.f k bt395.1 (wrap64 (x5 - x8)) x379000 x379001).bind fun t407 => ((real_is.f k t404 (wrap64 (x5 - x8)) x379000 x379001).bind fun t408 => (if t407 = true then (real_shortest.j2 k x4 x5 x8 bt389.2 bt395.1 bt395.2 t404 t407 t408 false x379000 x379001) else (real_shortest.j2 k x4 x5 x8 bt389.2 bt395.1 bt395.2 t404 t407 t408 (!t408) x379000 x379001))))))
def real_shortest.j2 : Nat → List Int → Int → Int → List Int → List Int → List Int → List Int → Bool → Bool → Bool → Int → Int → Option (ByteArray × Int)
 | 0, _, _, _, _, _, _, _, _, _, _, _, _ => none
 | k + 1, x4, x5, x8, x10, x11, x12, x13, x14, x15, x75, x379000, x379001 => if x75 = true then (real_shortest.l1 k x4 x5 (wrap64 (x8 + 1)) x379000 x379001) else ((real_nat_shl.f k x12 1).bind fun t409 => ((real_nat_cmp.f k t409 x10).bind fun t412 => (if x14 = true then (if x15 = true then (if t412 > 0 then (real_shortest.j3 k x5 x8 x13 x11 true) else (if t412 = 0 then ((real_nat_small.f k x11).bind fun t413 => (real_shortest.j3 k x5 x8 x13 x11 ((Int.tmod t413 2) == 1))) else (real_shortest.j3 k x5 x8 x13 x11 false))) else (real_shortest.j3 k x5 x8 x13 x11 false)) else (real_shortest.j3 k x5 x8 x13 x11 true))))
def real_shortest.j3 : Nat → Int → Int → List Int → List Int → Bool → Option (ByteArray × Int)
 | 0, _, _, _, _, _ => none
 | k + 1, x5, x8, x13, x16, x99 => if x99 = true then (real_shortest.j4 k x5 x8 x13) else (real_shortest.j4 k x5 x8 x16)
def real_shortest.j4 : Nat → Int → Int → List Int → Option (ByteArray × Int)
 | 0, _, _, _ => none
 | k + 1, x5, x8, x16 => (real_nat_small.f k x16).bind fun t414 => ((strconv_FormatUint.f t414 10).bind fun t415 => ((strings_TrimRight.f t415 (⟨#[48]⟩ : ByteArray)).bind fun t416 => (some (t416, wrap64 ((wrap64 (x5 + (t415.size : Int))) - x8)))))
end
def real_shortest.f (k : Nat) (a0_0 : Int) (a0_1 : Int) : Option (ByteArray × Int) := (real_magnitude.f k a0_0).bind fun t379 => (real_shortest.l0 k t379 (-60) a0_0 a0_1)
theorem real_shortest.mono_l : ∀ k, (∀ y0 y1 y2 y3, LeO (real_shortest.l0 k y0 y1 y2 y3) (real_shortest.l0 (k + 1) y0 y1 y2 y3)) ∧ (∀ y0 y1 y2 y3 y4, LeO (real_shortest.l1 k y0 y1 y2 y3 y4) (real_shortest.l1 (k + 1) y0 y1 y2 y3 y4)) ∧ (∀ y0 y1 y2 y3 y4 y5 y6 y7 y8 y9 y10 y11, LeO (real_shortest.j2 k y0 y1 y2 y3 y4 y5 y6 y7 y8 y9 y10 y11) (real_shortest.j2 (k + 1) y0 y1 y2 y3 y4 y5 y6 y7 y8 y9 y10 y11)) ∧ (∀ y0 y1 y2 y3 y4, LeO (real_shortest.j3 k y0 y1 y2 y3 y4) (real_shortest.j3 (k + 1) y0 y1 y2 y3 y4)) ∧ (∀ y0 y1 y2, LeO (real_shortest.j4 k y0 y1 y2) (real_shortest.j4 (k + 1) y0 y1 y2))
 | 0 => ⟨fun _ _ _ _ r h => by simp [real_shortest.l0] at h, fun _ _ _ _ _ r h => by simp [real_shortest.l1] at h, fun _ _ _ _ _ _ _ _ _ _ _ _ r h => by simp [real_shortest.j2] at h, fun _ _ _ _ _ r h => by simp [real_shortest.j3] at h, fun _ _ _ r h => by simp [real_shortest.j4] at h⟩
 | k + 1 => by
  obtain ⟨ih0, ih1, ih2, ih3, ih4⟩ := real_shortest.mono_l k
  refine ⟨?_, ?_, ?_, ?_, ?_⟩
  ·intro y0 y1 y2 y3
   unfold real_shortest.l0
   repeat' first
   | (with_reducible exact ih0 _ _ _ _)
   | (with_reducible exact ih1 _ _ _ _ _)
   | (with_reducible exact ih2 _ _ _ _ _ _ _ _ _ _ _ _)
   | (with_reducible exact ih3 _ _ _ _ _)
   | (with_reducible exact ih4 _ _ _)
   | (with_reducible exact real_is.mono _ _ _ _ _)
   | (with_reducible exact real_magnitude.mono _ _)
   | (with_reducible exact real_nat_add.mono _ _ _)
   | (with_reducible exact real_nat_cmp.mono _ _ _)
   | (with_reducible exact real_nat_div.mono _ _ _)
   | (with_reducible exact real_nat_shl.mono _ _ _)
   | (with_reducible exact real_nat_small.mono _ _)
   | (with_reducible exact real_scaled.mono _ _ _ _)
   | (with_reducible exact LeO.refl _)
   | (with_reducible exact LeO.none _)
   | (with_reducible refine LeO.ite ?_ ?_)
   | (with_reducible refine LeO.bind ?_ (fun _ => ?_))
   | exact ih0 _ _ _ _
   | exact ih1 _ _ _ _ _
   | exact ih2 _ _ _ _ _ _ _ _ _ _ _ _
   | exact ih3 _ _ _ _ _
   | exact ih4 _ _ _
   | exact real_is.mono _ _ _ _ _
   | exact real_magnitude.mono _ _
   | exact real_nat_add.mono _ _ _
   | exact real_nat_cmp.mono _ _ _
   | exact real_nat_div.mono _ _ _
   | exact real_nat_shl.mono _ _ _
   | exact real_nat_small.mono _ _
   | exact real_scaled.mono _ _ _ _
   | exact LeO.none _
   | refine LeO.ite ?_ ?_
   | refine LeO.bind ?_ (fun _ => ?_)
  ·intro y0 y1 y2 y3 y4
   unfold real_shortest.l1
   repeat' first
   | (with_reducible exact ih0 _ _ _ _)
   | (with_reducible exact ih1 _ _ _ _ _)
   | (with_reducible exact ih2 _ _ _ _ _ _ _ _ _ _ _ _)
   | (with_reducible exact ih3 _ _ _ _ _)
   | (with_reducible exact ih4 _ _ _)
   | (with_reducible exact real_is.mono _ _ _ _ _)
   | (with_reducible exact real_magnitude.mono _ _)
   | (with_reducible exact real_nat_add.mono _ _ _)
   | (with_reducible exact real_nat_cmp.mono _ _ _)
   | (with_reducible exact real_nat_div.mono _ _ _)
   | (with_reducible exact real_nat_shl.mono _ _ _)
   | (with_reducible exact real_nat_small.mono _ _)
   | (with_reducible exact real_scaled.mono _ _ _ _)
   | (with_reducible exact LeO.refl _)
   | (with_reducible exact LeO.none _)
   | (with_reducible refine LeO.ite ?_ ?_)
   | (with_reducible refine LeO.bind ?_ (fun _ => ?_))
   | exact ih0 _ _ _ _
   | exact ih1 _ _ _ _ _
   | exact ih2 _ _ _ _ _ _ _ _ _ _ _ _
   | exact ih3 _ _ _ _ _
   | exact ih4 _ _ _
   | exact real_is.mono _ _ _ _ _
   | exact real_magnitude.mono _ _
   | exact real_nat_add.mono _ _ _
   | exact real_nat_cmp.mono _ _ _
   | exact real_nat_div.mono _ _ _
   | exact real_nat_shl.mono _ _ _
   | exact real_nat_small.mono _ _
   | exact real_scaled.mono _ _ _ _
   | exact LeO.none _
   | refine LeO.ite ?_ ?_
   | refine LeO.bind ?_ (fun _ => ?_)
  ·intro y0 y1 y2 y3 y4 y5 y6 y7 y8 y9 y10 y11
   unfold real_shortest.j2
   repeat' first
   | (with_reducible exact ih0 _ _ _ _)
   | (with_reducible exact ih1 _ _ _ _ _)
   | (with_reducible exact ih2 _ _ _ _ _ _ _ _ _ _ _ _)
   | (with_reducible exact ih3 _ _ _ _ _)
   | (with_reducible exact ih4 _ _ _)
   | (with_reducible exact real_is.mono _ _ _ _ _)
   | (with_reducible exact real_magnitude.mono _ _)
   | (with_reducible exact real_nat_add.mono _ _ _)
   | (with_reducible exact real_nat_cmp.mono _ _ _)
   | (with_reducible exact real_nat_div.mono _ _ _)
   | (with_reducible exact real_nat_shl.mono _ _ _)
   | (with_reducible exact real_nat_small.mono _ _)
   | (with_reducible exact real_scaled.mono _ _ _ _)
   | (with_reducible exact LeO.refl _)
   | (with_reducible exact LeO.none _)
   | (with_reducible refine LeO.ite ?_ ?_)
   | (with_reducible refine LeO.bind ?_ (fun _ => ?_))
   | exact ih0 _ _ _ _
   | exact ih1 _ _ _ _ _
   | exact ih2 _ _ _ _ _ _ _ _ _ _ _ _
   | exact ih3 _ _ _ _ _
   | exact ih4 _ _ _
   | exact real_is.mono _ _ _ _ _
   | exact real_magnitude.mono _ _
   | exact real_nat_add.mono _ _ _
   | exact real_nat_cmp.mono _ _ _
   | exact real_nat_div.mono _ _ _
   | exact real_nat_shl.mono _ _ _
   | exact real_nat_small.mono _ _
   | exact real_scaled.mono _ _ _ _
   | exact LeO.none _
   | refine LeO.ite ?_ ?_
   | refine LeO.bind ?_ (fun _ => ?_)
  ·intro y0 y1 y2 y3 y4
   unfold real_shortest.j3
   repeat' first
   | (with_reducible exact ih0 _ _ _ _)
   | (with_reducible exact ih1 _ _ _ _ _)
   | (with_reducible exact ih2 _ _ _ _ _ _ _ _ _ _ _ _)
   | (with_reducible exact ih3 _ _ _ _ _)
   | (with_reducible exact ih4 _ _ _)
   | (with_reducible exact real_is.mono _ _ _ _ _)
   | (with_reducible exact real_magnitude.mono _ _)
   | (with_reducible exact real_nat_add.mono _ _ _)
   | (with_reducible exact real_nat_cmp.mono _ _ _)
   | (with_reducible exact real_nat_div.mono _ _ _)
   | (with_reducible exact real_nat_shl.mono _ _ _)
   | (with_reducible exact real_nat_small.mono _ _)
   | (with_reducible exact real_scaled.mono _ _ _ _)
   | (with_reducible exact LeO.refl _)
   | (with_reducible exact LeO.none _)
   | (with_reducible refine LeO.ite ?_ ?_)
   | (with_reducible refine LeO.bind ?_ (fun _ => ?_))
   | exact ih0 _ _ _ _
   | exact ih1 _ _ _ _ _
   | exact ih2 _ _ _ _ _ _ _ _ _ _ _ _
   | exact ih3 _ _ _ _ _
   | exact ih4 _ _ _
   | exact real_is.mono _ _ _ _ _
   | exact real_magnitude.mono _ _
   | exact real_nat_add.mono _ _ _
   | exact real_nat_cmp.mono _ _ _
   | exact real_nat_div.mono _ _ _
   | exact real_nat_shl.mono _ _ _
   | exact real_nat_small.mono _ _
   | exact real_scaled.mono _ _ _ _
   | exact LeO.none _
   | refine LeO.ite ?_ ?_
   | refine LeO.bind ?_ (fun _ => ?_)
  ·intro y0 y1 y2
   unfold real_shortest.j4
   repeat' first
   | (with_reducible exact ih0 _ _ _ _)
   | (with_reducible exact ih1 _ _ _ _ _)
   | (with_reducible exact ih2 _ _ _ _ _ _ _ _ _ _ _ _)
   | (with_reducible exact ih3 _ _ _ _ _)
   | (with_reducible exact ih4 _ _ _)
   | (with_reducible exact real_is.mono _ _ _ _ _)
   | (with_reducible exact real_magnitude.mono _ _)
   | (with_reducible exact real_nat_add.mono _ _ _)
   | (with_reducible exact real_nat_cmp.mono _ _ _)
   | (with_reducible exact real_nat_div.mono _ _ _)
   | (with_reducible exact real_nat_shl.mono _ _ _)
   | (with_reducible exact real_nat_small.mono _ _)
   | (with_reducible exact real_scaled.mono _ _ _ _)
   | (with_reducible exact LeO.refl _)
   | (with_reducible exact LeO.none _)
   | (with_reducible refine LeO.ite ?_ ?_)
   | (with_reducible refine LeO.bind ?_ (fun _ => ?_))
   | exact ih0 _ _ _ _
   | exact ih1 _ _ _ _ _
   | exact ih2 _ _ _ _ _ _ _ _ _ _ _ _
   | exact ih3 _ _ _ _ _
   | exact ih4 _ _ _
   | exact real_is.mono _ _ _ _ _
   | exact real_magnitude.mono _ _
   | exact real_nat_add.mono _ _ _
   | exact real_nat_cmp.mono _ _ _
   | exact real_nat_div.mono _ _ _
   | exact real_nat_shl.mono _ _ _
   | exact real_nat_small.mono _ _
   | exact real_scaled.mono _ _ _ _
   | exact LeO.none _
   | refine LeO.ite ?_ ?_
   | refine LeO.bind ?_ (fun _ => ?_)
theorem real_shortest.mono : ∀ a0 a1 k, LeO (real_shortest.f k a0 a1) (real_shortest.f (k + 1) a0 a1) := by
 intro a0 a1 k
 obtain ⟨ih0, ih1, ih2, ih3, ih4⟩ := real_shortest.mono_l k
 unfold real_shortest.f
 repeat' first
   | (with_reducible exact ih0 _ _ _ _)
   | (with_reducible exact ih1 _ _ _ _ _)
   | (with_reducible exact ih2 _ _ _ _ _ _ _ _ _ _ _ _)
   | (with_reducible exact ih3 _ _ _ _ _)
   | (with_reducible exact ih4 _ _ _)
   | (with_reducible exact real_is.mono _ _ _ _ _)
   | (with_reducible exact real_magnitude.mono _ _)
   | (with_reducible exact real_nat_add.mono _ _ _)
   | (with_reducible exact real_nat_cmp.mono _ _ _)
   | (with_reducible exact real_nat_div.mono _ _ _)
   | (with_reducible exact real_nat_shl.mono _ _ _)
   | (with_reducible exact real_nat_small.mono _ _)
   | (with_reducible exact real_scaled.mono _ _ _ _)
   | (with_reducible exact LeO.refl _)
   | (with_reducible exact LeO.none _)
   | (with_reducible refine LeO.ite ?_ ?_)
   | (with_reducible refine LeO.bind ?_ (fun _ => ?_))
   | exact ih0 _ _ _ _
   | exact ih1 _ _ _ _ _
   | exact ih2 _ _ _ _ _ _ _ _ _ _ _ _
   | exact ih3 _ _ _ _ _
   | exact ih4 _ _ _
   | exact real_is.mono _ _ _ _ _
   | exact real_magnitude.mono _ _
   | exact real_nat_add.mono _ _ _
   | exact real_nat_cmp.mono _ _ _
   | exact real_nat_div.mono _ _ _
   | exact real_nat_shl.mono _ _ _
   | exact real_nat_small.mono _ _
   | exact real_scaled.mono _ _ _ _
   | exact LeO.none _
   | refine LeO.ite ?_ ?_
   | refine LeO.bind ?_ (fun _ => ?_)
def real_shortest.T11 : Bool × List (List Nat × List Nat) := (true, [([], []), ([], []), ([], []), ([1, 2], [1, 2]), ([], []), ([0, 3, 4], [0, 3, 4]), ([], []), ([], []), ([], []), ([7, 8], [7, 8]), ([], []), ([6, 9, 10, 5], [6, 9, 10]), ([5, 11, 0, 1, 2, 3, 4, 5], [5]), ([11, 12, 0, 1, 2, 3, 4, 5, 6, 7, 8, 9, 10, 11, 12], [11])])
def real_shortest.B11 : List Nat := [0, 0, 0, 6, 0, 31, 0, 0, 0, 384, 0, 2047, 4095, 8191]
theorem real_shortest.tab11 : rtab .any (opsOf Tryz.f89 11) = real_shortest.T11 := by kernel_rfl
theorem real_shortest.bits11 : waitsOk real_shortest.T11.2 real_shortest.B11 = true := by kernel_rfl
theorem real_shortest.calls (k : Nat) (a0_0 : Int) (a0_1 : Int) (r1 : ByteArray) (r2 : Int) (w : World) (h : real_shortest.f k a0_0 a0_1 = some (r1, r2)) (ht : Table w) :
  Calls Tryz.prog 89 #[.agg #[.int .i64 a0_0, .int .i64 a0_1]] w fun e w' => e = .returned (.tuple #[.string r1, .int .i64 r2]) ∧ Below w.heap.size w w' := by
 have hu23 := Tryz.underlying23
 have HB := Aside0.mk (Below.refl w.heap.size w)
 have HT := Aside0.mk (Lib.tabBelow_of_tabIs ht)
 clear ht
 have H := h; unfold real_shortest.f at H; clear h
 replace H := Option.bind_eq_some_iff.mp H
 obtain ⟨t379, A20, H⟩ := H
 try dsimp only at H
 have A2 := Aside0.mk A20
 clear A20
 have H' := Aside0.mk H
 clear H
 go_enter Tryz.func89, Tryz.ntmps89
 go_wp2_with (first | ((with_reducible refine gate_dst (N := 1) rfl ?_); refine bxe 1 #[.int .i64 a0_0, .int .i64 a0_1] 23 ?_; intro gb378 hg w3 hbox hb; have BK378 := Aside0.mk hbox; have GW378 := ge hg; have GE378 := ge hg; replace HB := bs hb; clear hb hbox hg; have hcz4_0 := c20 BK378; have hcz4_1 := c21 BK378; have hfz4_0 := blk_frozen BK378.out 0; have hfz4_1 := blk_frozen BK378.out 1) | ((with_reducible refine gate_callee (f := 113) rfl ?_); refine gL 21 Tryz.func113 #[.int .i64 a0_0] ?_; (with_reducible refine (real_magnitude.calls k a0_0 t379 _ A2.out).mono ?_); rintro e w5 ⟨v380, rfl, ho0, hb⟩; refine ⟨_, rfl, ?_⟩; have HO381 := Aside0.mk (Kd.V_lower (Kd.V_mono (ok' := fun k_ => k_ ≠ gb378) ho0 (fun k_ hk_ => (fb BK378 k_ hk_))) (below_size bz)); replace BK378 := kb BK378 hb; replace HB := bs hb; (try clear hb); (try clear hk); (try clear ho0)))
 go_loopg [5] k (fun kq v5 w' => ∃ (x5_1 : Int), v5 = .int .i64 x5_1 ∧ Aside0 (real_shortest.l0 kq t379 x5_1 a0_0 a0_1 = some (r1, r2)) ∧ Aside0 (kq ≤ k) ∧ Aside0 (Kd.V (Kd.int .u32) 115 w' w.heap.size (fun k_ => k_ ≠ gb378) v380 t379) ∧ Aside0 (w'.heap[gb378]? = some (.cells #[.int .i64 a0_0, .int .i64 a0_1] 23 (0, 0))) ∧ Aside0 (Below w.heap.size w w'))
 case atStart => exact ⟨((-60)), (by first | rfl | (simp; done) | (simp [*]; done)), H', ⟨Nat.le_refl _⟩, ⟨vz HO381⟩, ⟨kz BK378⟩, ⟨bz⟩⟩
 case round =>
  clear H'
  try clear hcz4_0
  try clear hcz4_1
  try clear hfz4_0
  try clear hfz4_1
  obtain ⟨x5_1, rfl, HA, HK1, HO_4, BK378, HB⟩ := hrel
  cases gk with
  | zero => exact absurd HA.out (by simp [real_shortest.l0])
  | succ k1 =>
   have H := HA.out
   clear HA
   simp only [real_shortest.l0] at H
   replace H := Option.bind_eq_some_iff.mp H
   obtain ⟨⟨t382, t385⟩, A60, H⟩ := H
   try dsimp only at H
   have A6 := Aside0.mk A60
   clear A60
   replace H := Option.bind_eq_some_iff.mp H
   obtain ⟨t388, A70, H⟩ := H
   try dsimp only at H
   have A7 := Aside0.mk A70
   clear A70
   by_cases c8 : t388 < 0
   ·rw [if_pos c8] at H
    have c8b0 : decide (t388 < 0) = true := decide_eq_true c8
    clear c8
    have H' := Aside0.mk H
    clear H
    have hcz9_0 := c20 BK378
    have hcz9_1 := c21 BK378
    have hfz9_0 := blk_frozen BK378.out 0
    have hfz9_1 := blk_frozen BK378.out 1
    obtain ⟨Ao10, co10, eo10⟩ := Kd.V_slice HO_4.out
    subst eo10
    go_wp2_with (first | ((with_reducible refine gate_callee (f := 122) rfl ?_); refine gL 28 Tryz.func122 #[.slice Ao10 t379.length co10, .int .i64 a0_1, .int .i64 (wrap64 (-x5_1))] ?_; (with_reducible refine (real_scaled.calls k1 (fun k_ => k_ ≠ gb378) _ _ t379 a0_1 (wrap64 (-x5_1)) t382 t385 _ ?side1 A6.out).mono ?_); (case side1 => exact HO_4.out); rintro e w11 ⟨v383, v386, rfl, ho0, ho1, hb⟩; refine ⟨_, rfl, ?_⟩; have HO384 := Aside0.mk (Kd.V_lower (Kd.V_mono (ok' := fun k_ => k_ ≠ gb378) ho0 (fun k_ hk_ => Or.elim hk_ (fun hs_ => hs_) (fun hn_ => (fb BK378 k_ hn_)))) (below_size bz)); have HO387 := Aside0.mk (Kd.V_lower (Kd.V_mono (ok' := fun k_ => k_ ≠ gb378) ho1 (fun k_ hk_ => Or.elim hk_ (fun hs_ => hs_) (fun hn_ => (fb BK378 k_ hn_)))) (below_size bz)); replace HO_4 := vb HO_4 hb; replace BK378 := kb BK378 hb; replace HB := bs hb; (try clear hb); (try clear hk); (try clear ho0); (try clear ho1); obtain ⟨Ao12, co12, eo12⟩ := Kd.V_slice HO384.out; subst eo12; obtain ⟨Ao13, co13, eo13⟩ := Kd.V_slice HO387.out; subst eo13) | ((with_reducible refine gate_callee (f := 123) rfl ?_); refine gL 33 Tryz.func123 #[.slice Ao12 t382.length co12, .slice Ao13 t385.length co13] ?_; (with_reducible refine (real_nat_cmp.calls k1 _ _ t382 _ _ t385 t388 _ ?side1 ?side2 ?side3 ?side4 A7.out).mono ?_); (case side1 => exact ccz (Kd.V_reads' HO384.out).2.2); (case side2 => exact (Kd.V_reads' HO384.out).2.1); (case side3 => exact ccz (Kd.V_reads' HO387.out).2.2); (case side4 => exact (Kd.V_reads' HO387.out).2.1); rintro e w' ⟨rfl, ⟨nd, rfl⟩⟩; refine ⟨_, rfl, ?_⟩))
    go_loopg [8] k1 (fun kq v8 w' => ∃ (x8_2 : Int), v8 = .int .i64 x8_2 ∧ Aside0 (real_shortest.l1 kq t379 x5_1 x8_2 a0_0 a0_1 = some (r1, r2)) ∧ Aside0 (kq ≤ k1) ∧ Aside0 (Kd.V (Kd.int .u32) 115 w' w.heap.size (fun k_ => k_ ≠ gb378) (.slice Ao10 t379.length co10) t379) ∧ Aside0 (w'.heap[gb378]? = some (.cells #[.int .i64 a0_0, .int .i64 a0_1] 23 (0, 0))) ∧ Aside0 (Below w.heap.size w w'))
    case atStart => exact ⟨(1), (by first | rfl | (simp; done) | (simp [*]; done)), H', ⟨Nat.le_refl _⟩, ⟨vz HO_4⟩, ⟨kz BK378⟩, ⟨bz⟩⟩
    case round =>
     clear H'
     try clear c8
     try clear c8b0
     try clear hcz4_0
     try clear hcz4_1
     try clear hcz9_0
     try clear hcz9_1
     try clear hfz4_0
     try clear hfz4_1
     try clear hfz9_0
     try clear hfz9_1
     obtain ⟨x8_2, rfl, HA, HK2, HO_4, BK378, HB⟩ := hrel
     cases gk with
     | zero => exact absurd HA.out (by simp [real_shortest.l1])
     | succ k2 =>
      have H := HA.out
      clear HA
      simp only [real_shortest.l1] at H
      replace H := Option.bind_eq_some_iff.mp H
      obtain ⟨⟨t389, t392⟩, A140, H⟩ := H
      try dsimp only at H
      have A14 := Aside0.mk A140
      clear A140
      replace H := Option.bind_eq_some_iff.mp H
      obtain ⟨⟨t395, t398⟩, A150, H⟩ := H
      try dsimp only at H
      have A15 := Aside0.mk A150
      clear A150
      obtain ⟨y401, hy401⟩ : ∃ y_ : List Int, y_ = (([1] : List Int)) := ⟨_, rfl⟩
      replace H : ((real_nat_add.f k2 t395 y401).bind fun t404 => ((real_is.f k2 t395 (wrap64 (x5_1 - x8_2)) a0_0 a0_1).bind fun t407 => ((real_is.f k2 t404 (wrap64 (x5_1 - x8_2)) a0_0 a0_1).bind fun t408 => (if t407 = true then (real_shortest.j2 k2 t379 x5_1 x8_2 t392 t395 t398 t404 t407 t408 false a0_0 a0_1) else (real_shortest.j2 k2 t379 x5_1 x8_2 t392 t395 t398 t404 t407 t408 (!t408) a0_0 a0_1))))) = some (r1, r2) := by first | (rw [hy401]; with_reducible exact H) | (have H2_ := (Option.bind_some _ _).symm.trans H; rw [hy401]; with_reducible exact H2_) | (have H2_ := (Option.bind_some _ _).symm.trans H; with_reducible exact H2_) | with_reducible exact H | (rw [hy401]; exact H) | exact H
      have Ny401 := Aside0.mk hy401
      clear hy401
      replace H := Option.bind_eq_some_iff.mp H
      obtain ⟨t404, A160, H⟩ := H
      try dsimp only at H
      have A16 := Aside0.mk A160
      clear A160
      replace H := Option.bind_eq_some_iff.mp H
      obtain ⟨t407, A170, H⟩ := H
      try dsimp only at H
      have A17 := Aside0.mk A170
      clear A170
      replace H := Option.bind_eq_some_iff.mp H
      obtain ⟨t408, A180, H⟩ := H
      try dsimp only at H
      have A18 := Aside0.mk A180
      clear A180
      have HC19 := Aside0.mk H
      clear H
      have hcz20_0 := c20 BK378
      have hcz20_1 := c21 BK378
      have hfz20_0 := blk_frozen BK378.out 0
      have hfz20_1 := blk_frozen BK378.out 1
      try go_wp2_with (first | ((with_reducible refine gate_callee (f := 122) rfl ?_); refine gL 46 Tryz.func122 #[.slice Ao10 t379.length co10, .int .i64 a0_1, .int .i64 (wrap64 (x8_2 - x5_1))] ?_; (with_reducible refine (real_scaled.calls k2 (fun k_ => k_ ≠ gb378) _ _ t379 a0_1 (wrap64 (x8_2 - x5_1)) t389 t392 _ ?side1 A14.out).mono ?_); (case side1 => exact HO_4.out); rintro e w21 ⟨v390, v393, rfl, ho0, ho1, hb⟩; refine ⟨_, rfl, ?_⟩; have HO391 := Aside0.mk (Kd.V_lower (Kd.V_mono (ok' := fun k_ => k_ ≠ gb378) ho0 (fun k_ hk_ => Or.elim hk_ (fun hs_ => hs_) (fun hn_ => (fb BK378 k_ hn_)))) (below_size bz)); have HO394 := Aside0.mk (Kd.V_lower (Kd.V_mono (ok' := fun k_ => k_ ≠ gb378) ho1 (fun k_ hk_ => Or.elim hk_ (fun hs_ => hs_) (fun hn_ => (fb BK378 k_ hn_)))) (below_size bz)); replace HO_4 := vb HO_4 hb; replace BK378 := kb BK378 hb; replace HB := bs hb; (try clear hb); (try clear hk); (try clear ho0); (try clear ho1); obtain ⟨Ao22, co22, eo22⟩ := Kd.V_slice HO391.out; subst eo22; obtain ⟨Ao23, co23, eo23⟩ := Kd.V_slice HO394.out; subst eo23) | ((with_reducible refine gate_callee (f := 124) rfl ?_); refine gL 52 Tryz.func124 #[.slice Ao22 t389.length co22, .slice Ao23 t392.length co23] ?_; (with_reducible refine (real_nat_div.calls k2 _ _ t389 _ _ t392 t395 t398 _ ?side1 ?side2 ?side3 ?side4 A15.out).mono ?_); (case side1 => exact ccz (Kd.V_reads' HO391.out).2.2); (case side2 => exact (Kd.V_reads' HO391.out).2.1); (case side3 => exact ccz (Kd.V_reads' HO394.out).2.2); (case side4 => exact (Kd.V_reads' HO394.out).2.1); rintro e w24 ⟨v396, v399, rfl, ho0, ho1, hb⟩; refine ⟨_, rfl, ?_⟩; have HO397 := Aside0.mk (Kd.V_lower (Kd.V_mono (ok' := fun k_ => k_ ≠ gb378) ho0 (fun k_ hk_ => (fb BK378 k_ hk_))) (below_size bz)); have HO400 := Aside0.mk (Kd.V_lower (Kd.V_mono (ok' := fun k_ => k_ ≠ gb378) ho1 (fun k_ hk_ => (fb BK378 k_ hk_))) (below_size bz)); replace HO_4 := vb HO_4 hb; replace HO391 := vb HO391 hb; replace HO394 := vb HO394 hb; replace BK378 := kb BK378 hb; replace HB := bs hb; (try clear hb); (try clear hk); (try clear ho0); (try clear ho1)) | ((with_reducible refine gate_dst (N := 56) rfl ?_); refine Kd.R_lit (Kd.int .u32) _ 115 ?hg (N := 56) ?hd (xs := ([1] : List Int)) (inner := [.int .u32 1]) (ok := fun _ => True) (okp := fun _ => True) ?hr ?hp (fun _ hk => hk) trivial (Below.refl _ _) (Nat.le_refl _) (by simp) ?_; (case hd => rfl); (case hg => rfl); (case hr => first | (go_simp; done) | (go_simp; rfl)); (case hp => exact (Reps.one (show Kd.M (Kd.int .u32) _ _ _ 1 [.int .u32 1] from rfl) (Reps.none _ _))); intro v402 w25 ho26 hb hg_ hnew_; clear hg_ hnew_; (first | rw [← Ny401.out] at ho26 | (simp only [Int.reduceToNat] at ho26; rw [← Ny401.out] at ho26)); have HO403 := Aside0.mk (Kd.R_lower ho26 (below_size bz)); replace HO_4 := Aside0.mk (Kd.V_elder' (vz HO_4) (Kd.R_base ho26) hb); replace HO391 := Aside0.mk (Kd.V_elder' (vz HO391) (Kd.R_base ho26) hb); replace HO394 := Aside0.mk (Kd.V_elder' (vz HO394) (Kd.R_base ho26) hb); replace HO397 := Aside0.mk (Kd.V_elder' (vz HO397) (Kd.R_base ho26) hb); replace HO400 := Aside0.mk (Kd.V_elder' (vz HO400) (Kd.R_base ho26) hb); replace BK378 := kb BK378 hb; replace HB := bs hb; clear hb ho26; obtain ⟨Ao27, co27, eo27⟩ := Kd.V_slice HO397.out; subst eo27; obtain ⟨Ao28, co28, eo28⟩ := Kd.R_slice HO403.out; subst eo28) | ((with_reducible refine gate_callee (f := 117) rfl ?_); refine gL 57 Tryz.func117 #[.slice Ao27 t395.length co27, .slice Ao28 y401.length co28] ?_; (with_reducible refine (real_nat_add.calls k2 _ _ t395 _ _ y401 t404 _ ?side1 ?side2 ?side3 ?side4 A16.out).mono ?_); (case side1 => exact ccz (Kd.V_reads' HO397.out).2.2); (case side2 => exact (Kd.V_reads' HO397.out).2.1); (case side3 => exact ccz (Kd.R_reads' HO403.out).2.2); (case side4 => exact (Kd.R_reads' HO403.out).2.1); rintro e w29 ⟨v405, rfl, ho0, hb⟩; refine ⟨_, rfl, ?_⟩; have HO406 := Aside0.mk (Kd.V_lower (Kd.V_mono (ok' := fun k_ => some k_ ≠ (.slice Ao28 y401.length co28 : Value).ownBlock ∧ k_ ≠ gb378) ho0 (fun k_ hk_ => ⟨(Kd.fresh' (Kd.R_lt (rz HO403)) k_ hk_), (fb BK378 k_ hk_)⟩)) (below_size bz)); replace HO_4 := vb HO_4 hb; replace HO391 := vb HO391 hb; replace HO394 := vb HO394 hb; replace HO397 := vb HO397 hb; replace HO400 := vb HO400 hb; replace HO403 := rb HO403 hb; replace BK378 := kb BK378 hb; replace HB := bs hb; (try clear hb); (try clear hk); (try clear ho0)))
      replace HO_4 := Aside0.mk (Kd.V_drew HO_4.out)
      replace HO391 := Aside0.mk (Kd.V_drew HO391.out)
      replace HO394 := Aside0.mk (Kd.V_drew HO394.out)
      replace HO397 := Aside0.mk (Kd.V_drew HO397.out)
      replace HO400 := Aside0.mk (Kd.V_drew HO400.out)
      replace HO403 := Aside0.mk (Kd.R_drew HO403.out)
      replace HO406 := Aside0.mk (Kd.V_drew HO406.out)
      replace BK378 := Aside0.mk (blk_drew BK378.out)
      replace HB := Aside0.mk (below_drew1 HB.out)
      refine start_ (n := 14) (S := fun w' => w'.cell? ⟨gb378, 0, none⟩ = some (.int .i64 a0_0) ∧ w'.cell? ⟨gb378, 1, none⟩ = some (.int .i64 a0_1)) (ds := []) #[ff,ff,ff,ff,ff,ff,ff,ff,ff,ff,ff,ff,ff,ff] (by kernel_rfl) rfl rfl ⟨bc 0 BK378, bc 1 BK378⟩ (fun hHeld => ?_); refine with_tabW real_shortest.tab11 real_shortest.bits11 (fun HT_ HW_ => ?_)
      generalize w29.drew = w30 at HO_4 HO391 HO394 HO397 HO400 HO403 HO406 BK378 HB hHeld ⊢
      refine pur 0 (some 58) #[tt,ff,ff,ff,ff,ff,ff,ff,ff,ff,ff,ff,ff,ff] ?_
      refine pur 1 (some 59) #[tt,tt,ff,ff,ff,ff,ff,ff,ff,ff,ff,ff,ff,ff] ?_
      refine pur 2 (some 60) #[tt,tt,tt,ff,ff,ff,ff,ff,ff,ff,ff,ff,ff,ff] ?_
      refine pur 3 (some 61) #[tt,tt,tt,tt,ff,ff,ff,ff,ff,ff,ff,ff,ff,ff] ?_
      refine pur 6 (some 64) #[tt,tt,tt,tt,ff,ff,tt,ff,ff,ff,ff,ff,ff,ff] ?_
      refine pur 7 (some 65) #[tt,tt,tt,tt,ff,ff,tt,tt,ff,ff,ff,ff,ff,ff] ?_
      refine pur 8 (some 66) #[tt,tt,tt,tt,ff,ff,tt,tt,tt,ff,ff,ff,ff,ff] ?_
      refine pur 9 (some 67) #[tt,tt,tt,tt,ff,ff,tt,tt,tt,tt,ff,ff,ff,ff] ?_
      refine tk2 4 (some 62) #[tt,tt,tt,tt,tt,ff,tt,tt,tt,tt,ff,ff,ff,ff] ?_
      refine tk2 10 (some 68) #[tt,tt,tt,tt,tt,ff,tt,tt,tt,tt,tt,ff,ff,ff] ?_
      refine on1 5 (some 63) #[tt,tt,tt,tt,tt,tt,tt,tt,tt,tt,tt,ff,ff,ff] (fun K hK => ?_)
      refine goes_ Tryz.func125 (by kernel_rfl) rfl #[.slice Ao27 t395.length co27, .int .i64 (wrap64 (x5_1 - x8_2)), .agg #[.int .i64 a0_0, .int .i64 a0_1]] (by rfl) rfl rfl az ?_
      with_reducible refine (real_is.calls k2 _ _ t395 (wrap64 (x5_1 - x8_2)) a0_0 a0_1 t407 _ ?side1 ?side2 A17.out).mono ?_
      (case side1 => exact ccz (Kd.V_reads' HO397.out).2.2)
      (case side2 => exact (Kd.V_reads' HO397.out).2.1)
      rintro e w31 ⟨rfl, hb⟩
      refine ⟨_, rfl, ?_⟩
      replace HO_4 := vb HO_4 hb
      replace HO391 := vb HO391 hb
      replace HO394 := vb HO394 hb
      replace HO397 := vb HO397 hb
      replace HO400 := vb HO400 hb
      replace HO403 := rb HO403 hb
      replace HO406 := vb HO406 hb
      replace BK378 := kb BK378 hb
      replace HB := bs hb
      (try clear hb)
      (try clear hk)
      obtain ⟨Ao32, co32, eo32⟩ := Kd.V_slice HO406.out
      (first | subst eo32 | (injection eo32 with f1_ f2_ f3_; have f4_ := f1_.symm; have f5_ := f3_.symm; clear f1_ f2_ f3_; subst f4_; subst f5_))
      refine hK.out _ _ ⟨bc 0 BK378, bc 1 BK378⟩ (fun hHeld => ?_)
      clear hK K
      refine nrm (some 63) ?_
      refine on1 11 (some 69) #[tt,tt,tt,tt,tt,tt,tt,tt,tt,tt,tt,tt,ff,ff] (fun K hK => ?_)
      refine goes_ Tryz.func125 (by kernel_rfl) rfl #[.slice Ao32 t404.length co32, .int .i64 (wrap64 (x5_1 - x8_2)), .agg #[.int .i64 a0_0, .int .i64 a0_1]] (by rfl) rfl rfl az ?_
      with_reducible refine (real_is.calls k2 _ _ t404 (wrap64 (x5_1 - x8_2)) a0_0 a0_1 t408 _ ?side1 ?side2 A18.out).mono ?_
      (case side1 => exact ccz (Kd.V_reads' HO406.out).2.2)
      (case side2 => exact (Kd.V_reads' HO406.out).2.1)
      rintro e w33 ⟨rfl, hb⟩
      refine ⟨_, rfl, ?_⟩
      replace HO_4 := vb HO_4 hb
      replace HO391 := vb HO391 hb
      replace HO394 := vb HO394 hb
      replace HO397 := vb HO397 hb
      replace HO400 := vb HO400 hb
      replace HO403 := rb HO403 hb
      replace HO406 := vb HO406 hb
      replace BK378 := kb BK378 hb
      replace HB := bs hb
      (try clear hb)
      (try clear hk)
      refine hK.out _ _ ⟨bc 0 BK378, bc 1 BK378⟩ (fun hHeld => ?_)
      clear hK K
      refine nrm (some 69) ?_
      refine pur 12 (some 14) #[tt,tt,tt,tt,tt,tt,tt,tt,tt,tt,tt,tt,tt,ff] ?_
      refine pur 13 (some 15) #[tt,tt,tt,tt,tt,tt,tt,tt,tt,tt,tt,tt,tt,tt] ?_
      refine done_ (done_of HT_.out (by kernel_rfl)) ?_
      go_upto_region 12 with (fail)
      go_cut [75] (fun v75 wc => ∃ (kq : Nat) (x75_18 : Bool), v75 = .bool x75_18 ∧ Aside0 (real_shortest.j2 kq t379 x5_1 x8_2 t392 t395 t398 t404 t407 t408 x75_18 a0_0 a0_1 = some (r1, r2)) ∧ Aside0 (kq ≤ k2) ∧ Aside0 (Kd.V (Kd.int .u32) 115 wc w.heap.size (fun k_ => k_ ≠ gb378) (.slice Ao10 t379.length co10) t379) ∧ Aside0 (Kd.V (Kd.int .u32) 115 wc w.heap.size (fun k_ => k_ ≠ gb378) (.slice Ao23 t392.length co23) t392) ∧ Aside0 (Kd.V (Kd.int .u32) 115 wc w.heap.size (fun k_ => k_ ≠ gb378) (.slice Ao27 t395.length co27) t395) ∧ Aside0 (Kd.V (Kd.int .u32) 115 wc w.heap.size (fun k_ => k_ ≠ gb378) v399 t398) ∧ Aside0 (Kd.V (Kd.int .u32) 115 wc w.heap.size (fun k_ => k_ ≠ gb378) (.slice Ao32 t404.length co32) t404) ∧ Aside0 (wc.heap[gb378]? = some (.cells #[.int .i64 a0_0, .int .i64 a0_1] 23 (0, 0))) ∧ Aside0 (Below w.heap.size w wc))
      case first => as_aux_lemma =>
       have H := HC19.out
       clear HC19
       by_cases c34 : t407 = true
       ·subst c34
        rw [if_pos rfl] at H
        have H' := Aside0.mk H
        clear H
        go_wp2
        go_meet
        case rel => exact ⟨_, (false), (by first | rfl | (simp; done) | (simp [*]; done)), H', ⟨by have := HK1.out; have := HK2.out; first | omega | exact Nat.le_refl _⟩, ⟨by (with_reducible repeat (first | apply Kd.V_alloc | apply Kd.V_drewN | apply Kd.V_drew)); exact Kd.V_mono HO_4.out (fun _ hk => hk.1)⟩, ⟨by (with_reducible repeat (first | apply Kd.V_alloc | apply Kd.V_drewN | apply Kd.V_drew)); exact Kd.V_mono HO394.out (fun _ hk => hk.1)⟩, ⟨by (with_reducible repeat (first | apply Kd.V_alloc | apply Kd.V_drewN | apply Kd.V_drew)); exact Kd.V_mono HO397.out (fun _ hk => hk.1)⟩, ⟨by (with_reducible repeat (first | apply Kd.V_alloc | apply Kd.V_drewN | apply Kd.V_drew)); exact Kd.V_mono HO400.out (fun _ hk => hk.1)⟩, ⟨by (with_reducible repeat (first | apply Kd.V_alloc | apply Kd.V_drewN | apply Kd.V_drew)); exact Kd.V_mono HO406.out (fun _ hk => hk.2)⟩, ⟨kz BK378⟩, ⟨bz⟩⟩
       ·replace c34 := Bool.eq_false_iff.mpr c34
        subst c34
        rw [if_neg (show ¬ (false = true) by decide)] at H
        have H' := Aside0.mk H
        clear H
        go_wp2
        go_meet
        case rel => exact ⟨_, (!t408), (by first | rfl | (simp; done) | (simp [*]; done)), H', ⟨by have := HK1.out; have := HK2.out; first | omega | exact Nat.le_refl _⟩, ⟨by (with_reducible repeat (first | apply Kd.V_alloc | apply Kd.V_drewN | apply Kd.V_drew)); exact Kd.V_mono HO_4.out (fun _ hk => hk.1)⟩, ⟨by (with_reducible repeat (first | apply Kd.V_alloc | apply Kd.V_drewN | apply Kd.V_drew)); exact Kd.V_mono HO394.out (fun _ hk => hk.1)⟩, ⟨by (with_reducible repeat (first | apply Kd.V_alloc | apply Kd.V_drewN | apply Kd.V_drew)); exact Kd.V_mono HO397.out (fun _ hk => hk.1)⟩, ⟨by (with_reducible repeat (first | apply Kd.V_alloc | apply Kd.V_drewN | apply Kd.V_drew)); exact Kd.V_mono HO400.out (fun _ hk => hk.1)⟩, ⟨by (with_reducible repeat (first | apply Kd.V_alloc | apply Kd.V_drewN | apply Kd.V_drew)); exact Kd.V_mono HO406.out (fun _ hk => hk.2)⟩, ⟨kz BK378⟩, ⟨bz⟩⟩
      case rest => as_aux_lemma =>
       clear HC19
       try clear c8
       try clear c8b0
       try clear c34
       try clear hcz20_0
       try clear hcz20_1
       try clear hcz4_0
       try clear hcz4_1
       try clear hcz9_0
       try clear hcz9_1
       try clear hfz20_0
       try clear hfz20_1
       try clear hfz4_0
       try clear hfz4_1
       try clear hfz9_0
       try clear hfz9_1
       obtain ⟨kq, x75_18, rfl, HA, HJ18, HO_4, HO_10, HO_11, HO_12, HO_13, BK378, HB⟩ := hcut
       cases kq with
       | zero => exact absurd HA.out (by simp [real_shortest.j2])
       | succ kj18 =>
        have H := HA.out
        clear HA
        simp only [real_shortest.j2] at H
        by_cases c35 : x75_18 = true
        ·subst c35
         rw [if_pos rfl] at H
         have H' := Aside0.mk H
         clear H
         go_wp2
         go_roundg kj18
         case measure => have := HK1.out; have := HK2.out; have := HJ18.out; omega
         case rel => exact ⟨(wrap64 (x8_2 + 1)), (by first | rfl | (simp; done) | (simp [*]; done)), H', ⟨by have := HK1.out; have := HK2.out; have := HJ18.out; omega⟩, ⟨vz HO_4⟩, ⟨kz BK378⟩, ⟨bz⟩⟩
        ·replace c35 := Bool.eq_false_iff.mpr c35
         subst c35
         rw [if_neg (show ¬ (false = true) by decide)] at H
         replace H := Option.bind_eq_some_iff.mp H
         obtain ⟨t409, A360, H⟩ := H
         try dsimp only at H
         have A36 := Aside0.mk A360
         clear A360
         replace H := Option.bind_eq_some_iff.mp H
         obtain ⟨t412, A370, H⟩ := H
         try dsimp only at H
         have A37 := Aside0.mk A370
         clear A370
         have HC38 := Aside0.mk H
         clear H
         obtain ⟨Ao39, co39, eo39⟩ := Kd.V_slice HO_12.out
         subst eo39
         go_upto_region 15 with (first | ((with_reducible refine gate_callee (f := 126) rfl ?_); refine gL 78 Tryz.func126 #[.slice Ao39 t398.length co39, .int .i64 1] ?_; (with_reducible refine (real_nat_shl.calls kj18 _ _ t398 1 t409 _ ?side1 ?side2 A36.out).mono ?_); (case side1 => exact ccz (Kd.V_reads' HO_12.out).2.2); (case side2 => exact (Kd.V_reads' HO_12.out).2.1); rintro e w40 ⟨v410, rfl, ho0, hb⟩; refine ⟨_, rfl, ?_⟩; have HO411 := Aside0.mk (Kd.V_lower (Kd.V_mono (ok' := fun k_ => k_ ≠ gb378) ho0 (fun k_ hk_ => (fb BK378 k_ hk_))) (below_size bz)); replace HO_4 := vb HO_4 hb; replace HO_10 := vb HO_10 hb; replace HO_11 := vb HO_11 hb; replace HO_12 := vb HO_12 hb; replace HO_13 := vb HO_13 hb; replace BK378 := kb BK378 hb; replace HB := bs hb; (try clear hb); (try clear hk); (try clear ho0); obtain ⟨Ao41, co41, eo41⟩ := Kd.V_slice HO411.out; subst eo41) | ((with_reducible refine gate_callee (f := 123) rfl ?_); refine gL 80 Tryz.func123 #[.slice Ao41 t409.length co41, .slice Ao23 t392.length co23] ?_; (with_reducible refine (real_nat_cmp.calls kj18 _ _ t409 _ _ t392 t412 _ ?side1 ?side2 ?side3 ?side4 A37.out).mono ?_); (case side1 => exact ccz (Kd.V_reads' HO411.out).2.2); (case side2 => exact (Kd.V_reads' HO411.out).2.1); (case side3 => exact ccz (Kd.V_reads' HO_10.out).2.2); (case side4 => exact (Kd.V_reads' HO_10.out).2.1); rintro e w' ⟨rfl, ⟨nd, rfl⟩⟩; refine ⟨_, rfl, ?_⟩))
         (try simp only [Act.put, List.setIfInBounds_toArray, List.set_cons_zero, List.set_cons_succ])
         go_cut [99] (fun v99 wc => ∃ (kq : Nat) (x99_37 : Bool), v99 = .bool x99_37 ∧ Aside0 (real_shortest.j3 kq x5_1 x8_2 t404 t395 x99_37 = some (r1, r2)) ∧ Aside0 (kq ≤ kj18) ∧ Aside0 (Kd.V (Kd.int .u32) 115 wc w.heap.size (fun k_ => k_ ≠ gb378) (.slice Ao32 t404.length co32) t404) ∧ Aside0 (Kd.V (Kd.int .u32) 115 wc w.heap.size (fun k_ => k_ ≠ gb378) (.slice Ao27 t395.length co27) t395) ∧ Aside0 (wc.heap[gb378]? = some (.cells #[.int .i64 a0_0, .int .i64 a0_1] 23 (0, 0))) ∧ Aside0 (Below w.heap.size w wc))
         case first => as_aux_lemma =>
          have H := HC38.out
          clear HC38
          by_cases c42 : t407 = true
          ·subst c42
           rw [if_pos rfl] at H
           by_cases c43 : t408 = true
           ·subst c43
            rw [if_pos rfl] at H
            by_cases c44 : t412 > 0
            ·rw [if_pos c44] at H
             have c44b0 : decide (0 < t412) = true := decide_eq_true c44
             clear c44
             (first | rw [c44b0] | (simp only [i64_w, i32_w]; rw [c44b0]) | skip)
             have H' := Aside0.mk H
             clear H
             go_wp2
             go_meet
             case rel => exact ⟨_, (true), (by first | rfl | (simp; done) | (simp [*]; done)), H', ⟨by have := HK1.out; have := HK2.out; have := HJ18.out; first | omega | exact Nat.le_refl _⟩, ⟨vz HO_13⟩, ⟨vz HO_11⟩, ⟨kz BK378⟩, ⟨bz⟩⟩
            ·rw [if_neg c44] at H
             have c44b0 : decide (0 < t412) = false := decide_eq_false c44
             clear c44
             (first | rw [c44b0] | (simp only [i64_w, i32_w]; rw [c44b0]) | skip)
             by_cases c45 : t412 = 0
             ·rw [if_pos c45] at H
              have c45b0 : (t412 == 0) = true := beq_iff_eq.mpr c45
              have c45b1 : (t412 != 0) = false := bne_eq_false_iff_eq.mpr c45
              clear c45
              replace H := Option.bind_eq_some_iff.mp H
              obtain ⟨t413, A460, H⟩ := H
              try dsimp only at H
              have A46 := Aside0.mk A460
              clear A460
              have H' := Aside0.mk H
              clear H
              go_wp2_with (first | (go_at_call 127; (with_reducible refine (real_nat_small.calls kj18 _ _ t395 t413 _ ?side1 ?side2 A46.out).mono ?_); (case side1 => exact ccz (Kd.V_reads' HO_11.out).2.2); (case side2 => exact (Kd.V_reads' HO_11.out).2.1); rintro e w' ⟨rfl, ⟨nd, rfl⟩⟩))
              go_meet
              case rel => exact ⟨_, (((Int.tmod t413 2) == 1)), (by first | rfl | (simp; done) | (simp [*]; done)), H', ⟨by have := HK1.out; have := HK2.out; have := HJ18.out; first | omega | exact Nat.le_refl _⟩, ⟨vz HO_13⟩, ⟨vz HO_11⟩, ⟨kz BK378⟩, ⟨bz⟩⟩
             ·rw [if_neg c45] at H
              have c45b0 : (t412 == 0) = false := beq_eq_false_iff_ne.mpr c45
              have c45b1 : (t412 != 0) = true := bne_iff_ne.mpr c45
              have H' := Aside0.mk H
              clear H
              go_wp2
              go_meet
              case rel => exact ⟨_, (false), (by first | rfl | (simp; done) | (simp [*]; done)), H', ⟨by have := HK1.out; have := HK2.out; have := HJ18.out; first | omega | exact Nat.le_refl _⟩, ⟨vz HO_13⟩, ⟨vz HO_11⟩, ⟨kz BK378⟩, ⟨bz⟩⟩
           ·replace c43 := Bool.eq_false_iff.mpr c43
            subst c43
            rw [if_neg (show ¬ (false = true) by decide)] at H
            have H' := Aside0.mk H
            clear H
            go_wp2
            go_meet
            case rel => exact ⟨_, (false), (by first | rfl | (simp; done) | (simp [*]; done)), H', ⟨by have := HK1.out; have := HK2.out; have := HJ18.out; first | omega | exact Nat.le_refl _⟩, ⟨vz HO_13⟩, ⟨vz HO_11⟩, ⟨kz BK378⟩, ⟨bz⟩⟩
          ·replace c42 := Bool.eq_false_iff.mpr c42
           subst c42
           rw [if_neg (show ¬ (false = true) by decide)] at H
           have H' := Aside0.mk H
           clear H
           go_wp2
           go_meet
           case rel => exact ⟨_, (true), (by first | rfl | (simp; done) | (simp [*]; done)), H', ⟨by have := HK1.out; have := HK2.out; have := HJ18.out; first | omega | exact Nat.le_refl _⟩, ⟨vz HO_13⟩, ⟨vz HO_11⟩, ⟨kz BK378⟩, ⟨bz⟩⟩
         case rest => as_aux_lemma =>
          clear HC38
          try clear c8
          try clear c8b0
          try clear c34
          try clear c35
          try clear c42
          try clear c43
          try clear c44
          try clear c44b0
          try clear c45
          try clear c45b0
          try clear c45b1
          try clear hcz20_0
          try clear hcz20_1
          try clear hcz4_0
          try clear hcz4_1
          try clear hcz9_0
          try clear hcz9_1
          try clear hfz20_0
          try clear hfz20_1
          try clear hfz4_0
          try clear hfz4_1
          try clear hfz9_0
          try clear hfz9_1
          obtain ⟨kq, x99_37, rfl, HA, HJ37, HO_13, HO_16, BK378, HB⟩ := hcut
          cases kq with
          | zero => exact absurd HA.out (by simp [real_shortest.j3])
          | succ kj37 =>
           have H := HA.out
           clear HA
           simp only [real_shortest.j3] at H
           have HC47 := Aside0.mk H
           clear H
           go_upto_if 99 with (fail)
           go_cut [16] (fun v16 wc => ∃ (kq : Nat) (x16_46 : List Int), Aside0 (real_shortest.j4 kq x5_1 x8_2 x16_46 = some (r1, r2)) ∧ Aside0 (kq ≤ kj37) ∧ Aside0 (Kd.V (Kd.int .u32) 115 wc w.heap.size (fun k_ => k_ ≠ gb378) v16 x16_46) ∧ Aside0 (wc.heap[gb378]? = some (.cells #[.int .i64 a0_0, .int .i64 a0_1] 23 (0, 0))) ∧ Aside0 (Below w.heap.size w wc))
           case first => as_aux_lemma =>
            have H := HC47.out
            clear HC47
            by_cases c48 : x99_37 = true
            ·subst c48
             rw [if_pos rfl] at H
             have H' := Aside0.mk H
             clear H
             go_wp2
             go_meet
             case rel => exact ⟨_, (t404), H', ⟨by have := HK1.out; have := HK2.out; have := HJ18.out; have := HJ37.out; first | omega | exact Nat.le_refl _⟩, ⟨vz HO_13⟩, ⟨kz BK378⟩, ⟨bz⟩⟩
            ·replace c48 := Bool.eq_false_iff.mpr c48
             subst c48
             rw [if_neg (show ¬ (false = true) by decide)] at H
             have H' := Aside0.mk H
             clear H
             go_wp2
             go_meet
             case rel => exact ⟨_, (t395), H', ⟨by have := HK1.out; have := HK2.out; have := HJ18.out; have := HJ37.out; first | omega | exact Nat.le_refl _⟩, ⟨vz HO_16⟩, ⟨kz BK378⟩, ⟨bz⟩⟩
           case rest => as_aux_lemma =>
            clear HC47
            try clear c8
            try clear c8b0
            try clear c34
            try clear c35
            try clear c42
            try clear c43
            try clear c44
            try clear c44b0
            try clear c45
            try clear c45b0
            try clear c45b1
            try clear c48
            try clear hcz20_0
            try clear hcz20_1
            try clear hcz4_0
            try clear hcz4_1
            try clear hcz9_0
            try clear hcz9_1
            try clear hfz20_0
            try clear hfz20_1
            try clear hfz4_0
            try clear hfz4_1
            try clear hfz9_0
            try clear hfz9_1
            obtain ⟨kq, x16_46, HA, HJ46, HO_16, BK378, HB⟩ := hcut
            cases kq with
            | zero => exact absurd HA.out (by simp [real_shortest.j4])
            | succ kj46 =>
             have H := HA.out
             clear HA
             simp only [real_shortest.j4] at H
             replace H := Option.bind_eq_some_iff.mp H
             obtain ⟨t414, A490, H⟩ := H
             try dsimp only at H
             have A49 := Aside0.mk A490
             clear A490
             replace H := Option.bind_eq_some_iff.mp H
             obtain ⟨t415, A500, H⟩ := H
             try dsimp only at H
             have A50 := Aside0.mk A500
             clear A500
             replace H := Option.bind_eq_some_iff.mp H
             obtain ⟨t416, A510, H⟩ := H
             try dsimp only at H
             have A51 := Aside0.mk A510
             clear A510
             simp only [Option.some.injEq, Prod.mk.injEq] at H
             obtain ⟨rfl, rfl⟩ := H
             obtain ⟨Ao52, co52, eo52⟩ := Kd.V_slice HO_16.out
             subst eo52
             go_wp2_with (first | ((with_reducible refine gate_callee (f := 127) rfl ?_); refine gL 102 Tryz.func127 #[.slice Ao52 x16_46.length co52] ?_; (with_reducible refine (real_nat_small.calls kj46 _ _ x16_46 t414 _ ?side1 ?side2 A49.out).mono ?_); (case side1 => exact ccz (Kd.V_reads' HO_16.out).2.2); (case side2 => exact (Kd.V_reads' HO_16.out).2.1); rintro e w' ⟨rfl, ⟨nd, rfl⟩⟩; refine ⟨_, rfl, ?_⟩) | ((with_reducible refine gate_callee (f := 128) rfl ?_); refine gL 103 Tryz.func128 #[.int .u64 t414, .int .i64 10] ?_; (with_reducible refine (strconv_FormatUint.calls t414 10 t415 _ A50.out (tabAt HT.out bz)).mono ?_); rintro e w53 ⟨rfl, hb⟩; refine ⟨_, rfl, ?_⟩; replace HO_16 := vb HO_16 hb; replace BK378 := kb BK378 hb; replace HB := bs hb; (try clear hb); (try clear hk)) | ((with_reducible refine gate_callee (f := 129) rfl ?_); refine gL 105 Tryz.func129 #[.string t415, .string (⟨#[48]⟩ : ByteArray)] ?_; (with_reducible refine (strings_TrimRight.calls t415 (⟨#[48]⟩ : ByteArray) t416 _ A51.out).mono ?_); rintro e w54 ⟨rfl, hb⟩; refine ⟨_, rfl, ?_⟩; replace HO_16 := vb HO_16 hb; replace BK378 := kb BK378 hb; replace HB := bs hb; (try clear hb); (try clear hk)))
             go_ret2
             exact ⟨by first | rfl | (simp [errW_none, errW_some] <;> rfl) | (simp [*, errW_none, errW_some] <;> rfl), bz⟩
   ·rw [if_neg c8] at H
    have c8b0 : decide (t388 < 0) = false := decide_eq_false c8
    clear c8
    have H' := Aside0.mk H
    clear H
    have hcz55_0 := c20 BK378
    have hcz55_1 := c21 BK378
    have hfz55_0 := blk_frozen BK378.out 0
    have hfz55_1 := blk_frozen BK378.out 1
    obtain ⟨Ao56, co56, eo56⟩ := Kd.V_slice HO_4.out
    subst eo56
    go_wp2_with (first | ((with_reducible refine gate_callee (f := 122) rfl ?_); refine gL 28 Tryz.func122 #[.slice Ao56 t379.length co56, .int .i64 a0_1, .int .i64 (wrap64 (-x5_1))] ?_; (with_reducible refine (real_scaled.calls k1 (fun k_ => k_ ≠ gb378) _ _ t379 a0_1 (wrap64 (-x5_1)) t382 t385 _ ?side1 A6.out).mono ?_); (case side1 => exact HO_4.out); rintro e w57 ⟨v383, v386, rfl, ho0, ho1, hb⟩; refine ⟨_, rfl, ?_⟩; have HO384 := Aside0.mk (Kd.V_lower (Kd.V_mono (ok' := fun k_ => k_ ≠ gb378) ho0 (fun k_ hk_ => Or.elim hk_ (fun hs_ => hs_) (fun hn_ => (fb BK378 k_ hn_)))) (below_size bz)); have HO387 := Aside0.mk (Kd.V_lower (Kd.V_mono (ok' := fun k_ => k_ ≠ gb378) ho1 (fun k_ hk_ => Or.elim hk_ (fun hs_ => hs_) (fun hn_ => (fb BK378 k_ hn_)))) (below_size bz)); replace HO_4 := vb HO_4 hb; replace BK378 := kb BK378 hb; replace HB := bs hb; (try clear hb); (try clear hk); (try clear ho0); (try clear ho1); obtain ⟨Ao58, co58, eo58⟩ := Kd.V_slice HO384.out; subst eo58; obtain ⟨Ao59, co59, eo59⟩ := Kd.V_slice HO387.out; subst eo59) | ((with_reducible refine gate_callee (f := 123) rfl ?_); refine gL 33 Tryz.func123 #[.slice Ao58 t382.length co58, .slice Ao59 t385.length co59] ?_; (with_reducible refine (real_nat_cmp.calls k1 _ _ t382 _ _ t385 t388 _ ?side1 ?side2 ?side3 ?side4 A7.out).mono ?_); (case side1 => exact ccz (Kd.V_reads' HO384.out).2.2); (case side2 => exact (Kd.V_reads' HO384.out).2.1); (case side3 => exact ccz (Kd.V_reads' HO387.out).2.2); (case side4 => exact (Kd.V_reads' HO387.out).2.1); rintro e w' ⟨rfl, ⟨nd, rfl⟩⟩; refine ⟨_, rfl, ?_⟩))
    go_roundg k1
    case measure => have := HK1.out; omega
    case rel => exact ⟨(wrap64 (x5_1 + 1)), (by first | rfl | (simp; done) | (simp [*]; done)), H', ⟨by have := HK1.out; omega⟩, ⟨vz HO_4⟩, ⟨kz BK378⟩, ⟨bz⟩⟩

end Go.Proofs.YteigbokklclmbaaGreatDoor.Z
end
section
namespace Go.Proofs.YteigbokklclmbaaGreatDoor.Z
open Go.RowKit Go.Proofs.YteigbokklclmbaaGreatDoor.Given Go.Proofs.YteigbokklclmbaaGreatDoorW.PrintWords Go.Proofs.YteigbokklclmbaaGreatDoorW.PrintLast Go.Proofs.YteigbokklclmbaaGreatDoorW.PrintMore
attribute [local go_sem] max2_int min2_int max_two min_two max_three min_three max_four min_four

mutual
def real_Print.j0 : Nat → ByteArray → Int → Int → Option (ByteArray × Int)
 | 0, _, _, _ => none
 | k + 1, x4, x418000, x418001 => (real_signed.f (decide (x418000 < 0)) x418000 x418001).bind fun bt419 => ((real_shortest.f k bt419.1 bt419.2).bind fun bt421 => (if bt421.2 < (-3) then (real_Print.j1 k x4 bt421.1 bt421.2 true) else (real_Print.j1 k x4 bt421.1 bt421.2 (decide (bt421.2 > 9)))))
def real_Print.j1 : Nat → ByteArray → ByteArray → Int → Bool → Option (ByteArray × Int)
 | 0, _, _, _, _ => none
 | k + 1, x4, x5, x6, x26 => if x26 = true then (if 1 ≤ (x5.size : Int) then (if (x5.extract 1 x5.size).toList = ([] : List UInt8) then (if 0 ≤ 1 then (if x4.size + (x5.extract 0 1).size ≤ 9223372036854775807 then (if (x4 ++ (x5.extract 0 1)).size + 1 ≤ 9223372036854775807 then (if ((x4 ++ (x5.extract 0 1)) ++ (⟨#[46]⟩ : ByteArray)).size + 1 ≤ 9223372036854775807 then (if (((x4 ++ (x5.extract 0 1)) ++ (⟨#[46]⟩ : ByteArray)) ++ (⟨#[48]⟩ : ByteArray)).size + 1 ≤ 9223372036854775807 then ((strconv_Itoa.f (wrap64 (x6 - 1))).bind fun t423 => (if ((((x4 ++ (x5.extract 0 1)) ++ (⟨#[46]⟩ : ByteArray)) ++ (⟨#[48]⟩ : ByteArray)) ++ (⟨#[101]⟩ : ByteArray)).size + t423.size ≤ 9223372036854775807 then (some (((((x4 ++ (x5.extract 0 1)) ++ (⟨#[46]⟩ : ByteArray)) ++ (⟨#[48]⟩ : ByteArray)) ++ (⟨#[101]⟩ : ByteArray)) ++ t423, 0)) else (none))) else (none)) else (none)) else (none)) else (none)) else (none)) else (if 0 ≤ 1 then (if x4.size + (x5.extract 0 1).size ≤ 9223372036854775807 then (if (x4 ++ (x5.extract 0 1)).size + 1 ≤ 9223372036854775807 then (if ((x4 ++ (x5.extract 0 1)) ++ (⟨#[46]⟩ : ByteArray)).size + (x5.extract 1 x5.size).size ≤ 9223372036854775807 then (if (((x4 ++ (x5.extract 0 1)) ++ (⟨#[46]⟩ : ByteArray)) ++ (x5.extract 1 x5.size)).size + 1 ≤ 9223372036854775807 then ((strconv_Itoa.f (wrap64 (x6 - 1))).bind fun t424 => (if ((((x4 ++ (x5.extract 0 1)) ++ (⟨#[46]⟩ : ByteArray)) ++ (x5.extract 1 x5.size)) ++ (⟨#[101]⟩ : ByteArray)).size + t424.size ≤ 9223372036854775807 then (some (((((x4 ++ (x5.extract 0 1)) ++ (⟨#[46]⟩ : ByteArray)) ++ (x5.extract 1 x5.size)) ++ (⟨#[101]⟩ : ByteArray)) ++ t424, 0)) else (none))) else (none)) else (none)) else (none)) else (none)) else (none))) else (none)) else (if x6 < 1 then (if x4.size + 2 ≤ 9223372036854775807 then ((strings_Repeat.f (⟨#[48]⟩ : ByteArray) (wrap64 (-x6))).bind fun t425 => (if (x4 ++ (⟨#[48, 46]⟩ : ByteArray)).size + t425.size ≤ 9223372036854775807 then (if ((x4 ++ (⟨#[48, 46]⟩ : ByteArray)) ++ t425).size + x5.size ≤ 9223372036854775807 then (some (((x4 ++ (⟨#[48, 46]⟩ : ByteArray)) ++ t425) ++ x5, 0)) else (none)) else (none))) else (none)) else (if (x5.size : Int) ≤ x6 then (if x4.size + x5.size ≤ 9223372036854775807 then ((strings_Repeat.f (⟨#[48]⟩ : ByteArray) (wrap64 (x6 - (x5.size : Int)))).bind fun t426 => (if (x4 ++ x5).size + t426.size ≤ 9223372036854775807 then (if ((x4 ++ x5) ++ t426).size + 2 ≤ 9223372036854775807 then (some (((x4 ++ x5) ++ t426) ++ (⟨#[46, 48]⟩ : ByteArray), 0)) else (none)) else (none))) else (none)) else (if 0 ≤ x6 then (if x6 ≤ (x5.size : Int) then (if x4.size + (x5.extract 0 (x6 : Int).toNat).size ≤ 9223372036854775807 then (if (x4 ++ (x5.extract 0 (x6 : Int).toNat)).size + 1 ≤ 9223372036854775807 then (if ((x4 ++ (x5.extract 0 (x6 : Int).toNat)) ++ (⟨#[46]⟩ : ByteArray)).size + (x5.extract (x6 : Int).toNat x5.size).size ≤ 9223372036854775807 then (some (((x4 ++ (x5.extract 0 (x6 : Int).toNat)) ++ (⟨#[46]⟩ : ByteArray)) ++ (x5.extract (x6 : Int).toNat x5.size), 0)) else (none)) else (none)) else (none)) else (none)) else (none))))
end
def real_Print.f (k : Nat) (a0_0 : Int) (a0_1 : Int) : Option (ByteArray × Int) := (real_Valid.f a0_0 a0_1).bind fun t418 => (if t418 = true then (if a0_0 = 0 then (some ((⟨#[48, 46, 48]⟩ : ByteArray), 0)) else (if a0_0 < 0 then (real_Print.j0 k (⟨#[45]⟩ : ByteArray) a0_0 a0_1) else (real_Print.j0 k (⟨#[]⟩ : ByteArray) a0_0 a0_1))) else (some ((⟨#[]⟩ : ByteArray), 1)))
theorem real_Print.mono_l : ∀ k, (∀ y0 y1 y2, LeO (real_Print.j0 k y0 y1 y2) (real_Print.j0 (k + 1) y0 y1 y2)) ∧ (∀ y0 y1 y2 y3, LeO (real_Print.j1 k y0 y1 y2 y3) (real_Print.j1 (k + 1) y0 y1 y2 y3))
 | 0 => ⟨fun _ _ _ r h => by simp [real_Print.j0] at h, fun _ _ _ _ r h => by simp [real_Print.j1] at h⟩
 | k + 1 => by
  obtain ⟨ih0, ih1⟩ := real_Print.mono_l k
  refine ⟨?_, ?_⟩
  ·intro y0 y1 y2
   unfold real_Print.j0
   repeat' first
   | (with_reducible exact ih0 _ _ _)
   | (with_reducible exact ih1 _ _ _ _)
   | (with_reducible exact real_shortest.mono _ _ _)
   | (with_reducible exact LeO.refl _)
   | (with_reducible exact LeO.none _)
   | (with_reducible refine LeO.ite ?_ ?_)
   | (with_reducible refine LeO.bind ?_ (fun _ => ?_))
   | exact ih0 _ _ _
   | exact ih1 _ _ _ _
   | exact real_shortest.mono _ _ _
   | exact LeO.none _
   | refine LeO.ite ?_ ?_
   | refine LeO.bind ?_ (fun _ => ?_)
  ·intro y0 y1 y2 y3
   unfold real_Print.j1
   repeat' first
   | (with_reducible exact ih0 _ _ _)
   | (with_reducible exact ih1 _ _ _ _)
   | (with_reducible exact real_shortest.mono _ _ _)
   | (with_reducible exact LeO.refl _)
   | (with_reducible exact LeO.none _)
   | (with_reducible refine LeO.ite ?_ ?_)
   | (with_reducible refine LeO.bind ?_ (fun _ => ?_))
   | exact ih0 _ _ _
   | exact ih1 _ _ _ _
   | exact real_shortest.mono _ _ _
   | exact LeO.none _
   | refine LeO.ite ?_ ?_
   | refine LeO.bind ?_ (fun _ => ?_)
theorem real_Print.mono : ∀ a0 a1 k, LeO (real_Print.f k a0 a1) (real_Print.f (k + 1) a0 a1) := by
 intro a0 a1 k
 obtain ⟨ih0, ih1⟩ := real_Print.mono_l k
 unfold real_Print.f
 repeat' first
   | (with_reducible exact ih0 _ _ _)
   | (with_reducible exact ih1 _ _ _ _)
   | (with_reducible exact real_shortest.mono _ _ _)
   | (with_reducible exact LeO.refl _)
   | (with_reducible exact LeO.none _)
   | (with_reducible refine LeO.ite ?_ ?_)
   | (with_reducible refine LeO.bind ?_ (fun _ => ?_))
   | exact ih0 _ _ _
   | exact ih1 _ _ _ _
   | exact real_shortest.mono _ _ _
   | exact LeO.none _
   | refine LeO.ite ?_ ?_
   | refine LeO.bind ?_ (fun _ => ?_)
def real_Print.T13 : Bool × List (List Nat × List Nat) := (true, [([], []), ([], []), ([1], [1]), ([0, 2], [0, 2]), ([3], [3]), ([], []), ([4, 5], [4, 5]), ([6], [6]), ([], []), ([8], [8]), ([9], [9]), ([7, 10], [7, 10]), ([11, 10, 0, 1, 2, 3, 4, 5, 6, 7, 8, 9, 10, 11], [11]), ([12, 0, 1, 2, 3, 4, 5, 6, 7, 8, 9, 10, 11, 12], [])])
def real_Print.B13 : List Nat := [0, 0, 2, 7, 15, 0, 63, 127, 0, 256, 768, 2047, 4095, 8191]
theorem real_Print.tab13 : rtab .any (opsOf Tryz.f27 13) = real_Print.T13 := by kernel_rfl
theorem real_Print.bits13 : waitsOk real_Print.T13.2 real_Print.B13 = true := by kernel_rfl
theorem bsz_ (a : Array UInt8) : (ByteArray.mk a).size = a.size := rfl
end Go.Proofs.YteigbokklclmbaaGreatDoor.Z
end
section
namespace Go.Proofs.YteigbokklclmbaaGreatDoor.Z
open Go.RowKit Go.Proofs.YteigbokklclmbaaGreatDoor.Given Go.Proofs.YteigbokklclmbaaGreatDoorW.PrintWords Go.Proofs.YteigbokklclmbaaGreatDoorW.PrintLast Go.Proofs.YteigbokklclmbaaGreatDoorW.PrintMore
attribute [local go_sem] max2_int min2_int max_two min_two max_three min_three max_four min_four

theorem at_fixed {α : Type} {f : Nat → Option α} (mono : ∀ k, LeO (f k) (f (k + 1))) {k m : Nat} {a b : α} (h1 : f k = some a) (h2 : f m = some b) : a = b := by
 have up : ∀ n d r, f n = some r → f (n + d) = some r := by
  intro n d
  induction d with
  | zero => intro r h; exact h
  | succ d ih => intro r h; exact mono _ _ (ih r h)
 have e1 := up k m a h1
 have e2 := up m k b h2
 rw [Nat.add_comm] at e2
 exact Option.some.inj (e1.symm.trans e2)
theorem print_two {a b c d e : Int} {s : ByteArray} {k : Nat} (hp : a = 11184811 ∧ b = -25 ∨ a = 1 ∧ b = -150) (h1 : real_signed.f (decide (a < 0)) a b = some (c, d)) (h2 : real_shortest.f k c d = some (s, e)) :
  s = (⟨#[51, 51, 51, 51, 51, 51, 51, 52]⟩ : ByteArray) ∧ e = 0 ∨ s = (⟨#[55]⟩ : ByteArray) ∧ e = -45 := by
 rcases hp with ⟨rfl, rfl⟩ | ⟨rfl, rfl⟩
 ·have e1 : real_signed.f (decide ((11184811 : Int) < 0)) 11184811 (-25) = some (11184811, -25) := by kernel_rfl
  have e2 := Option.some.inj (h1.symm.trans e1)
  obtain ⟨rfl, rfl⟩ := Prod.mk.inj e2
  have e3 : real_shortest.f 400 11184811 (-25) = some ((⟨#[51, 51, 51, 51, 51, 51, 51, 52]⟩ : ByteArray), 0) := by kernel_rfl
  have e4 := at_fixed (fun k => real_shortest.mono _ _ k) h2 e3
  exact Or.inl ⟨(Prod.mk.inj e4).1, (Prod.mk.inj e4).2⟩
 ·have e1 : real_signed.f (decide ((1 : Int) < 0)) 1 (-150) = some (1, -150) := by kernel_rfl
  have e2 := Option.some.inj (h1.symm.trans e1)
  obtain ⟨rfl, rfl⟩ := Prod.mk.inj e2
  have e3 : real_shortest.f 400 1 (-150) = some ((⟨#[55]⟩ : ByteArray), -45) := by kernel_rfl
  have e4 := at_fixed (fun k => real_shortest.mono _ _ k) h2 e3
  exact Or.inr ⟨(Prod.mk.inj e4).1, (Prod.mk.inj e4).2⟩
theorem real_Print.calls1 (k : Nat) (a0_0 : Int) (a0_1 : Int) (r1 : ByteArray) (r2 : Int) (w : World) (h : real_Print.f k a0_0 a0_1 = some (r1, r2)) (hp : a0_0 = 11184811 ∧ a0_1 = -25 ∨ a0_0 = 1 ∧ a0_1 = -150) (ht : Table w) :
  Calls Tryz.prog 27 #[.agg #[.int .i64 a0_0, .int .i64 a0_1]] w fun e w' => e = .returned (.tuple #[.string r1, .int .i64 r2]) ∧ Below w.heap.size w w' := by
 have hu23 := Tryz.underlying23
 have HB := Aside0.mk (Below.refl w.heap.size w)
 have HT := Aside0.mk (Lib.tabBelow_of_tabIs ht)
 clear ht
 have H := h; unfold real_Print.f at H; clear h
 replace H := Option.bind_eq_some_iff.mp H
 obtain ⟨t418, A20, H⟩ := H
 try dsimp only at H
 have A2 := Aside0.mk A20
 clear A20
 by_cases c3 : t418 = true
 ·subst c3
  rw [if_pos rfl] at H
  by_cases c4 : a0_0 = 0
  ·exact absurd c4 (by rcases hp with h | h <;> rw [h.1] <;> decide)
  ·rw [if_neg c4] at H
   have c4b0 : (a0_0 == 0) = false := beq_eq_false_iff_ne.mpr c4
   have c4b1 : (a0_0 != 0) = true := bne_iff_ne.mpr c4
   have HC9 := Aside0.mk H
   clear H
   go_enter Tryz.func27, Tryz.ntmps27
   go_upto_if 16 with (first | ((with_reducible refine gate_dst (N := 1) rfl ?_); refine bxe 1 #[.int .i64 a0_0, .int .i64 a0_1] 23 ?_; intro gb417 hg w10 hbox hb; have BK417 := Aside0.mk hbox; have GW417 := ge hg; have GE417 := ge hg; replace HB := bs hb; clear hb hbox hg; have hcz11_0 := c20 BK417; have hcz11_1 := c21 BK417; have hfz11_0 := blk_frozen BK417.out 0; have hfz11_1 := blk_frozen BK417.out 1) | ((with_reducible refine gate_callee (f := 53) rfl ?_); refine gL 9 Tryz.func53 #[.agg #[.int .i64 a0_0, .int .i64 a0_1]] ?_; (with_reducible refine (real_Valid.calls a0_0 a0_1 true _ A2.out).mono ?_); rintro e w12 ⟨rfl, hb⟩; refine ⟨_, rfl, ?_⟩; replace BK417 := kb BK417 hb; replace HB := bs hb; (try clear hb); have hcz13_0 := c20 BK417; have hcz13_1 := c21 BK417; have hfz13_0 := blk_frozen BK417.out 0; have hfz13_1 := blk_frozen BK417.out 1))
   (try simp only [Act.put, List.setIfInBounds_toArray, List.set_cons_zero, List.set_cons_succ])
   go_cut [4] (fun v4 wc => ∃ (kq : Nat) (x4_8 : ByteArray), v4 = .string x4_8 ∧ Aside0 (real_Print.j0 kq x4_8 a0_0 a0_1 = some (r1, r2)) ∧ Aside0 (kq ≤ k) ∧ Aside0 (wc.heap[gb417]? = some (.cells #[.int .i64 a0_0, .int .i64 a0_1] 23 (0, 0))) ∧ Aside0 (Below w.heap.size w wc))
   case first => as_aux_lemma =>
    have H := HC9.out
    clear HC9
    by_cases c14 : a0_0 < 0
    ·exact absurd c14 (by rcases hp with h | h <;> rw [h.1] <;> decide)
    ·rw [if_neg c14] at H
     have c14b0 : decide (a0_0 < 0) = false := decide_eq_false c14
     clear c14
     (first | rw [c14b0] | (simp only [i64_w, i32_w]; rw [c14b0]) | skip)
     have H' := Aside0.mk H
     clear H
     go_wp2
     go_meet
     case rel => exact ⟨_, ((⟨#[]⟩ : ByteArray)), (by first | rfl | (simp; done) | (simp [*]; done)), H', ⟨by first | omega | exact Nat.le_refl _⟩, ⟨kz BK417⟩, ⟨bz⟩⟩
   case rest => as_aux_lemma =>
    clear HC9
    try clear c3
    try clear c4
    try clear c4b0
    try clear c4b1
    try clear c14
    try clear c14b0
    try clear hcz11_0
    try clear hcz11_1
    try clear hcz13_0
    try clear hcz13_1
    try clear hfz11_0
    try clear hfz11_1
    try clear hfz13_0
    try clear hfz13_1
    obtain ⟨kq, x4_8, rfl, HA, HJ8, BK417, HB⟩ := hcut
    cases kq with
    | zero => exact absurd HA.out (by simp [real_Print.j0])
    | succ kj8 =>
     have H := HA.out
     clear HA
     simp only [real_Print.j0] at H
     replace H := Option.bind_eq_some_iff.mp H
     obtain ⟨⟨t419, t420⟩, A150, H⟩ := H
     try dsimp only at H
     have A15 := Aside0.mk A150
     clear A150
     replace H := Option.bind_eq_some_iff.mp H
     obtain ⟨⟨t421, t422⟩, A160, H⟩ := H
     try dsimp only at H
     have A16 := Aside0.mk A160
     have HS := Aside0.mk (print_two hp A15.out A16.out)
     clear A160
     have HC17 := Aside0.mk H
     clear H
     have hcz18_0 := c20 BK417
     have hcz18_1 := c21 BK417
     have hfz18_0 := blk_frozen BK417.out 0
     have hfz18_1 := blk_frozen BK417.out 1
     go_upto_region 9 with (first | ((with_reducible refine gate_callee (f := 80) rfl ?_); refine gL 22 Tryz.func80 #[.bool (decide (a0_0 < 0)), .agg #[.int .i64 a0_0, .int .i64 a0_1]] ?_; (with_reducible refine (real_signed.calls (decide (a0_0 < 0)) a0_0 a0_1 t419 t420 _ A15.out).mono ?_); rintro e w19 ⟨rfl, hb⟩; refine ⟨_, rfl, ?_⟩; replace BK417 := kb BK417 hb; replace HB := bs hb; (try clear hb)) | ((with_reducible refine gate_callee (f := 89) rfl ?_); refine gL 23 Tryz.func89 #[.agg #[.int .i64 t419, .int .i64 t420]] ?_; (with_reducible refine (real_shortest.calls kj8 t419 t420 t421 t422 _ A16.out (tabAt HT.out bz)).mono ?_); rintro e w20 ⟨rfl, hb⟩; refine ⟨_, rfl, ?_⟩; replace BK417 := kb BK417 hb; replace HB := bs hb; (try clear hb)))
     (try simp only [Act.put, List.setIfInBounds_toArray, List.set_cons_zero, List.set_cons_succ])
     go_cut [26] (fun v26 wc => ∃ (kq : Nat) (x26_16 : Bool), v26 = .bool x26_16 ∧ Aside0 (real_Print.j1 kq x4_8 t421 t422 x26_16 = some (r1, r2)) ∧ Aside0 (kq ≤ kj8) ∧ Aside0 (x26_16 = decide (t422 < (-3))) ∧ Aside0 (wc.heap[gb417]? = some (.cells #[.int .i64 a0_0, .int .i64 a0_1] 23 (0, 0))) ∧ Aside0 (Below w.heap.size w wc))
     case first => as_aux_lemma =>
      have H := HC17.out
      clear HC17
      by_cases c21 : t422 < (-3)
      ·rw [if_pos c21] at H
       have c21b0 : decide (t422 < (-3)) = true := decide_eq_true c21
       clear c21
       (first | rw [c21b0] | (simp only [i64_w, i32_w]; rw [c21b0]) | skip)
       have H' := Aside0.mk H
       clear H
       go_wp2
       go_meet
       case rel => exact ⟨_, (true), (by first | rfl | (simp; done) | (simp [*]; done)), H', ⟨by have := HJ8.out; first | omega | exact Nat.le_refl _⟩, ⟨by first | exact c21b0.symm | simp [c21b0]⟩, ⟨kz BK417⟩, ⟨bz⟩⟩
      ·rw [if_neg c21] at H
       have c21b0 : decide (t422 < (-3)) = false := decide_eq_false c21
       clear c21
       (first | rw [c21b0] | (simp only [i64_w, i32_w]; rw [c21b0]) | skip)
       have H' := Aside0.mk H
       clear H
       go_wp2
       go_meet
       case rel => exact ⟨_, (decide (t422 > 9)), (by first | rfl | (simp; done) | (simp [*]; done)), H', ⟨by have := HJ8.out; first | omega | exact Nat.le_refl _⟩, ⟨by rcases HS.out with ⟨_, h2⟩ | ⟨_, h2⟩ <;> rw [h2] at c21b0 ⊢ <;> first | rfl | exact absurd c21b0 (by decide)⟩, ⟨kz BK417⟩, ⟨bz⟩⟩
     case rest => as_aux_lemma =>
      clear HC17
      try clear c3
      try clear c4
      try clear c4b0
      try clear c4b1
      try clear c14
      try clear c14b0
      try clear c21
      try clear c21b0
      try clear hcz11_0
      try clear hcz11_1
      try clear hcz13_0
      try clear hcz13_1
      try clear hcz18_0
      try clear hcz18_1
      try clear hfz11_0
      try clear hfz11_1
      try clear hfz13_0
      try clear hfz13_1
      try clear hfz18_0
      try clear hfz18_1
      obtain ⟨kq, x26_16, rfl, HA, HJ16, HX, BK417, HB⟩ := hcut
      cases kq with
      | zero => exact absurd HA.out (by simp [real_Print.j1])
      | succ kj16 =>
       have H := HA.out
       clear HA
       simp only [real_Print.j1] at H
       by_cases c22 : x26_16 = true
       ·subst c22
        rw [if_pos rfl] at H
        by_cases c23 : 1 ≤ (t421.size : Int)
        ·rw [if_pos c23] at H
         have c23b0 := eq_true c23
         have c23b1 : decide (1 ≤ (t421.size : Int)) = true := decide_eq_true c23
         clear c23
         by_cases c24 : (t421.extract 1 t421.size).toList = ([] : List UInt8)
         ·rw [if_pos c24] at H
          have c24b0 : ((t421.extract 1 t421.size).toList == ([] : List UInt8)) = true := beq_iff_eq.mpr c24
          have c24b1 : ((t421.extract 1 t421.size).toList != ([] : List UInt8)) = false := bne_eq_false_iff_eq.mpr c24
          clear c24
          by_cases c25 : 0 ≤ 1
          ·rw [if_pos c25] at H
           have c25b0 := eq_true c25
           have c25b1 : decide (0 ≤ 1) = true := decide_eq_true c25
           clear c25
           have c26b0 := eq_true (of_decide_eq_true (by first | (with_reducible assumption) | assumption) : 1 ≤ (t421.size : Int))
           by_cases c27 : x4_8.size + (t421.extract 0 1).size ≤ 9223372036854775807
           ·rw [if_pos c27] at H
            have c27b0 := eq_true c27
            have c27b1 : decide (x4_8.size + (t421.extract 0 1).size ≤ 9223372036854775807) = true := decide_eq_true c27
            try have c27b2 : (9223372036854775807 < x4_8.size + (t421.extract 0 1).size) = False := eq_false (Nat.not_lt.2 c27)
            have c27z_ := c27
            try simp only [ByteArray.size_append, ByteArray.size_extract, bsz_, List.size_toArray, List.length_cons, List.length_nil, Nat.reduceAdd, Nat.sub_zero, Nat.min_self] at c27z_
            by_cases c28 : (x4_8 ++ (t421.extract 0 1)).size + 1 ≤ 9223372036854775807
            ·rw [if_pos c28] at H
             have c28b0 := eq_true c28
             have c28b1 : decide ((x4_8 ++ (t421.extract 0 1)).size + 1 ≤ 9223372036854775807) = true := decide_eq_true c28
             try have c28b2 : (9223372036854775807 < (x4_8 ++ (t421.extract 0 1)).size + 1) = False := eq_false (Nat.not_lt.2 c28)
             have c28z_ := c28
             try simp only [ByteArray.size_append, ByteArray.size_extract, bsz_, List.size_toArray, List.length_cons, List.length_nil, Nat.reduceAdd, Nat.sub_zero, Nat.min_self] at c28z_
             by_cases c29 : ((x4_8 ++ (t421.extract 0 1)) ++ (⟨#[46]⟩ : ByteArray)).size + 1 ≤ 9223372036854775807
             ·rw [if_pos c29] at H
              have c29b0 := eq_true c29
              have c29b1 : decide (((x4_8 ++ (t421.extract 0 1)) ++ (⟨#[46]⟩ : ByteArray)).size + 1 ≤ 9223372036854775807) = true := decide_eq_true c29
              try have c29b2 : (9223372036854775807 < ((x4_8 ++ (t421.extract 0 1)) ++ (⟨#[46]⟩ : ByteArray)).size + 1) = False := eq_false (Nat.not_lt.2 c29)
              have c29z_ := c29
              try simp only [ByteArray.size_append, ByteArray.size_extract, bsz_, List.size_toArray, List.length_cons, List.length_nil, Nat.reduceAdd, Nat.sub_zero, Nat.min_self] at c29z_
              by_cases c30 : (((x4_8 ++ (t421.extract 0 1)) ++ (⟨#[46]⟩ : ByteArray)) ++ (⟨#[48]⟩ : ByteArray)).size + 1 ≤ 9223372036854775807
              ·rw [if_pos c30] at H
               have c30b0 := eq_true c30
               have c30b1 : decide ((((x4_8 ++ (t421.extract 0 1)) ++ (⟨#[46]⟩ : ByteArray)) ++ (⟨#[48]⟩ : ByteArray)).size + 1 ≤ 9223372036854775807) = true := decide_eq_true c30
               try have c30b2 : (9223372036854775807 < (((x4_8 ++ (t421.extract 0 1)) ++ (⟨#[46]⟩ : ByteArray)) ++ (⟨#[48]⟩ : ByteArray)).size + 1) = False := eq_false (Nat.not_lt.2 c30)
               have c30z_ := c30
               try simp only [ByteArray.size_append, ByteArray.size_extract, bsz_, List.size_toArray, List.length_cons, List.length_nil, Nat.reduceAdd, Nat.sub_zero, Nat.min_self] at c30z_
               replace H := Option.bind_eq_some_iff.mp H
               obtain ⟨t423, A310, H⟩ := H
               try dsimp only at H
               have A31 := Aside0.mk A310
               clear A310
               by_cases c32 : ((((x4_8 ++ (t421.extract 0 1)) ++ (⟨#[46]⟩ : ByteArray)) ++ (⟨#[48]⟩ : ByteArray)) ++ (⟨#[101]⟩ : ByteArray)).size + t423.size ≤ 9223372036854775807
               ·rw [if_pos c32] at H
                have c32b0 := eq_true c32
                have c32b1 : decide (((((x4_8 ++ (t421.extract 0 1)) ++ (⟨#[46]⟩ : ByteArray)) ++ (⟨#[48]⟩ : ByteArray)) ++ (⟨#[101]⟩ : ByteArray)).size + t423.size ≤ 9223372036854775807) = true := decide_eq_true c32
                try have c32b2 : (9223372036854775807 < ((((x4_8 ++ (t421.extract 0 1)) ++ (⟨#[46]⟩ : ByteArray)) ++ (⟨#[48]⟩ : ByteArray)) ++ (⟨#[101]⟩ : ByteArray)).size + t423.size) = False := eq_false (Nat.not_lt.2 c32)
                have c32z_ := c32
                try simp only [ByteArray.size_append, ByteArray.size_extract, bsz_, List.size_toArray, List.length_cons, List.length_nil, Nat.reduceAdd, Nat.sub_zero, Nat.min_self] at c32z_
                simp only [Option.some.injEq, Prod.mk.injEq] at H
                obtain ⟨rfl, rfl⟩ := H
                try go_wp2
                replace BK417 := Aside0.mk (blk_drew BK417.out)
                replace HB := Aside0.mk (below_drew1 HB.out)
                refine start_ (n := 14) (S := fun w' => True) (ds := []) #[ff,ff,ff,ff,ff,ff,ff,ff,ff,ff,ff,ff,ff,ff] (by kernel_rfl) rfl rfl trivial (fun hHeld => ?_); refine with_tabW real_Print.tab13 real_Print.bits13 (fun HT_ HW_ => ?_)
                generalize wc.drew = w33 at BK417 HB hHeld ⊢
                refine pure_ (i := 0) (N := some 37) (v := ?_) (a' := ?_) #[true, false, false, false, false, false, false, false, false, false, false, false, false, false] rfl rfl (any_of HT_.out (by kernel_rfl)) (fun _ _ _ h => h) (Or.inl ⟨by rfl, ?_⟩) ?_ ?_
                rotate_left
                ·intro w'
                 go_simp
                 first | (with_reducible rfl) | (rw [if_neg (by (try simp only [ByteArray.size_append, ByteArray.size_extract, bsz_, List.size_toArray, List.length_cons, List.length_nil, Nat.reduceAdd, Nat.sub_zero, Nat.min_self]); first | omega | (simp only [eq_iff_iff, iff_true, decide_eq_true_eq] at *; omega))]; try with_reducible rfl)
                rotate_left
                ·simp only [Act.put, List.setIfInBounds_toArray, List.set_cons_zero, List.set_cons_succ, i64_w, i32_w]
                 rfl
                refine pure_ (i := 1) (N := some 38) (v := ?_) (a' := ?_) #[true, true, false, false, false, false, false, false, false, false, false, false, false, false] rfl rfl (any_of HT_.out (by kernel_rfl)) (fun _ _ _ h => h) (Or.inl ⟨by rfl, ?_⟩) ?_ ?_
                rotate_left
                ·intro w'
                 go_simp
                 first | (with_reducible rfl) | (rw [if_neg (by (try simp only [ByteArray.size_append, ByteArray.size_extract, bsz_, List.size_toArray, List.length_cons, List.length_nil, Nat.reduceAdd, Nat.sub_zero, Nat.min_self]); first | omega | (simp only [eq_iff_iff, iff_true, decide_eq_true_eq] at *; omega))]; try with_reducible rfl)
                rotate_left
                ·simp only [Act.put, List.setIfInBounds_toArray, List.set_cons_zero, List.set_cons_succ, i64_w, i32_w]
                 rfl
                refine pure_ (i := 2) (N := some 39) (v := ?_) (a' := ?_) #[true, true, true, false, false, false, false, false, false, false, false, false, false, false] rfl rfl (any_of HT_.out (by kernel_rfl)) (fun _ _ _ h => h) (Or.inl ⟨by rfl, ?_⟩) ?_ ?_
                rotate_left
                ·intro w'
                 go_simp
                 first | (with_reducible rfl) | (rw [if_neg (by (try simp only [ByteArray.size_append, ByteArray.size_extract, bsz_, List.size_toArray, List.length_cons, List.length_nil, Nat.reduceAdd, Nat.sub_zero, Nat.min_self]); first | omega | (simp only [eq_iff_iff, iff_true, decide_eq_true_eq] at *; omega))]; try with_reducible rfl)
                rotate_left
                ·simp only [Act.put, List.setIfInBounds_toArray, List.set_cons_zero, List.set_cons_succ, i64_w, i32_w]
                 rfl
                refine pure_ (i := 3) (N := some 40) (v := ?_) (a' := ?_) #[true, true, true, true, false, false, false, false, false, false, false, false, false, false] rfl rfl (any_of HT_.out (by kernel_rfl)) (fun _ _ _ h => h) (Or.inl ⟨by rfl, ?_⟩) ?_ ?_
                rotate_left
                ·intro w'
                 go_simp
                 first | (with_reducible rfl) | (rw [if_neg (by (try simp only [ByteArray.size_append, ByteArray.size_extract, bsz_, List.size_toArray, List.length_cons, List.length_nil, Nat.reduceAdd, Nat.sub_zero, Nat.min_self]); first | omega | (simp only [eq_iff_iff, iff_true, decide_eq_true_eq] at *; omega))]; try with_reducible rfl)
                rotate_left
                ·simp only [Act.put, List.setIfInBounds_toArray, List.set_cons_zero, List.set_cons_succ, i64_w, i32_w]
                 rfl
                refine pure_ (i := 4) (N := some 41) (v := ?_) (a' := ?_) #[true, true, true, true, true, false, false, false, false, false, false, false, false, false] rfl rfl (any_of HT_.out (by kernel_rfl)) (fun _ _ _ h => h) (Or.inl ⟨by rfl, ?_⟩) ?_ ?_
                rotate_left
                ·intro w'
                 go_simp
                 first | (with_reducible rfl) | (rw [if_neg (by (try simp only [ByteArray.size_append, ByteArray.size_extract, bsz_, List.size_toArray, List.length_cons, List.length_nil, Nat.reduceAdd, Nat.sub_zero, Nat.min_self]); first | omega | (simp only [eq_iff_iff, iff_true, decide_eq_true_eq] at *; omega))]; try with_reducible rfl)
                rotate_left
                ·simp only [Act.put, List.setIfInBounds_toArray, List.set_cons_zero, List.set_cons_succ, i64_w, i32_w]
                 rfl
                refine pure_ (i := 5) (N := some 42) (v := ?_) (a' := ?_) #[true, true, true, true, true, true, false, false, false, false, false, false, false, false] rfl rfl (any_of HT_.out (by kernel_rfl)) (fun _ _ _ h => h) (Or.inl ⟨by rfl, ?_⟩) ?_ ?_
                rotate_left
                ·intro w'
                 go_simp
                 first | (with_reducible rfl) | (rw [if_neg (by (try simp only [ByteArray.size_append, ByteArray.size_extract, bsz_, List.size_toArray, List.length_cons, List.length_nil, Nat.reduceAdd, Nat.sub_zero, Nat.min_self]); first | omega | (simp only [eq_iff_iff, iff_true, decide_eq_true_eq] at *; omega))]; try with_reducible rfl)
                rotate_left
                ·simp only [Act.put, List.setIfInBounds_toArray, List.set_cons_zero, List.set_cons_succ, i64_w, i32_w]
                 rfl
                refine pure_ (i := 6) (N := some 43) (v := ?_) (a' := ?_) #[true, true, true, true, true, true, true, false, false, false, false, false, false, false] rfl rfl (any_of HT_.out (by kernel_rfl)) (fun _ _ _ h => h) (Or.inl ⟨by rfl, ?_⟩) ?_ ?_
                rotate_left
                ·intro w'
                 go_simp
                 first | (with_reducible rfl) | (rw [if_neg (by (try simp only [ByteArray.size_append, ByteArray.size_extract, bsz_, List.size_toArray, List.length_cons, List.length_nil, Nat.reduceAdd, Nat.sub_zero, Nat.min_self]); first | omega | (simp only [eq_iff_iff, iff_true, decide_eq_true_eq] at *; omega))]; try with_reducible rfl)
                rotate_left
                ·simp only [Act.put, List.setIfInBounds_toArray, List.set_cons_zero, List.set_cons_succ, i64_w, i32_w]
                 rfl
                refine pure_ (i := 7) (N := some 44) (v := ?_) (a' := ?_) #[true, true, true, true, true, true, true, true, false, false, false, false, false, false] rfl rfl (any_of HT_.out (by kernel_rfl)) (fun _ _ _ h => h) (Or.inl ⟨by rfl, ?_⟩) ?_ ?_
                rotate_left
                ·intro w'
                 go_simp
                 first | (with_reducible rfl) | (rw [if_neg (by (try simp only [ByteArray.size_append, ByteArray.size_extract, bsz_, List.size_toArray, List.length_cons, List.length_nil, Nat.reduceAdd, Nat.sub_zero, Nat.min_self]); first | omega | (simp only [eq_iff_iff, iff_true, decide_eq_true_eq] at *; omega))]; try with_reducible rfl)
                rotate_left
                ·simp only [Act.put, List.setIfInBounds_toArray, List.set_cons_zero, List.set_cons_succ, i64_w, i32_w]
                 rfl
                refine pure_ (i := 8) (N := some 45) (v := ?_) (a' := ?_) #[true, true, true, true, true, true, true, true, true, false, false, false, false, false] rfl rfl (any_of HT_.out (by kernel_rfl)) (fun _ _ _ h => h) (Or.inl ⟨by rfl, ?_⟩) ?_ ?_
                rotate_left
                ·intro w'
                 go_simp
                 first | (with_reducible rfl) | (rw [if_neg (by (try simp only [ByteArray.size_append, ByteArray.size_extract, bsz_, List.size_toArray, List.length_cons, List.length_nil, Nat.reduceAdd, Nat.sub_zero, Nat.min_self]); first | omega | (simp only [eq_iff_iff, iff_true, decide_eq_true_eq] at *; omega))]; try with_reducible rfl)
                rotate_left
                ·simp only [Act.put, List.setIfInBounds_toArray, List.set_cons_zero, List.set_cons_succ, i64_w, i32_w]
                 rfl
                refine pure_ (i := 9) (N := some 46) (v := ?_) (a' := ?_) #[true, true, true, true, true, true, true, true, true, true, false, false, false, false] rfl rfl (any_of HT_.out (by kernel_rfl)) (fun _ _ _ h => h) (Or.inl ⟨by rfl, ?_⟩) ?_ ?_
                rotate_left
                ·intro w'
                 go_simp
                 first | (with_reducible rfl) | (rw [if_neg (by (try simp only [ByteArray.size_append, ByteArray.size_extract, bsz_, List.size_toArray, List.length_cons, List.length_nil, Nat.reduceAdd, Nat.sub_zero, Nat.min_self]); first | omega | (simp only [eq_iff_iff, iff_true, decide_eq_true_eq] at *; omega))]; try with_reducible rfl)
                rotate_left
                ·simp only [Act.put, List.setIfInBounds_toArray, List.set_cons_zero, List.set_cons_succ, i64_w, i32_w]
                 rfl
                refine on1 10 (some 47) #[tt,tt,tt,tt,tt,tt,tt,tt,tt,tt,tt,ff,ff,ff] (fun K hK => ?_)
                refine goes_ Tryz.func90 (by kernel_rfl) rfl #[.int .i64 (wrap64 (t422 - 1))] (by rfl) rfl rfl az ?_
                with_reducible refine (strconv_Itoa.calls (wrap64 (t422 - 1)) t423 _ A31.out (tabAt HT.out bz)).mono ?_
                rintro e w34 ⟨rfl, hb⟩
                refine ⟨_, rfl, ?_⟩
                replace BK417 := kb BK417 hb
                replace HB := bs hb
                (try clear hb)
                refine hK.out _ _ trivial (fun hHeld => ?_)
                clear hK K
                refine nrm (some 47) ?_
                refine pure_ (i := 11) (N := some 48) (v := ?_) (a' := ?_) #[true, true, true, true, true, true, true, true, true, true, true, true, false, false] rfl rfl (any_of HT_.out (by kernel_rfl)) (fun _ _ _ h => h) (Or.inl ⟨by rfl, ?_⟩) ?_ ?_
                rotate_left
                ·intro w'
                 go_simp
                 first | (with_reducible rfl) | (rw [if_neg (by (try simp only [ByteArray.size_append, ByteArray.size_extract, bsz_, List.size_toArray, List.length_cons, List.length_nil, Nat.reduceAdd, Nat.sub_zero, Nat.min_self]); first | omega | (simp only [eq_iff_iff, iff_true, decide_eq_true_eq] at *; omega))]; try with_reducible rfl)
                rotate_left
                ·simp only [Act.put, List.setIfInBounds_toArray, List.set_cons_zero, List.set_cons_succ, i64_w, i32_w]
                 rfl
                refine pure_ (i := 12) (N := some 2) (v := ?_) (a' := ?_) #[true, true, true, true, true, true, true, true, true, true, true, true, true, false] rfl rfl (any_of HT_.out (by kernel_rfl)) (fun _ _ _ h => h) (Or.inl ⟨by rfl, ?_⟩) ?_ ?_
                rotate_left
                ·intro w'
                 go_simp
                 first | (with_reducible rfl) | (rw [if_neg (by (try simp only [ByteArray.size_append, ByteArray.size_extract, bsz_, List.size_toArray, List.length_cons, List.length_nil, Nat.reduceAdd, Nat.sub_zero, Nat.min_self]); first | omega | (simp only [eq_iff_iff, iff_true, decide_eq_true_eq] at *; omega))]; try with_reducible rfl)
                rotate_left
                ·simp only [Act.put, List.setIfInBounds_toArray, List.set_cons_zero, List.set_cons_succ, i64_w, i32_w]
                 rfl
                refine pure_ (i := 13) (N := some 3) (v := ?_) (a' := ?_) #[true, true, true, true, true, true, true, true, true, true, true, true, true, true] rfl rfl (any_of HT_.out (by kernel_rfl)) (fun _ _ _ h => h) (Or.inl ⟨by rfl, ?_⟩) ?_ ?_
                rotate_left
                ·intro w'
                 go_simp
                 first | (with_reducible rfl) | (rw [if_neg (by (try simp only [ByteArray.size_append, ByteArray.size_extract, bsz_, List.size_toArray, List.length_cons, List.length_nil, Nat.reduceAdd, Nat.sub_zero, Nat.min_self]); first | omega | (simp only [eq_iff_iff, iff_true, decide_eq_true_eq] at *; omega))]; try with_reducible rfl)
                rotate_left
                ·simp only [Act.put, List.setIfInBounds_toArray, List.set_cons_zero, List.set_cons_succ, i64_w, i32_w]
                 rfl
                refine done_ (done_of HT_.out (by kernel_rfl)) ?_
                try go_wp2
                go_ret2
                exact ⟨by first | rfl | (simp [errW_none, errW_some] <;> rfl) | (simp [*, errW_none, errW_some] <;> rfl), bz⟩
               ·rw [if_neg c32] at H
                exact absurd H (by simp)
              ·rw [if_neg c30] at H
               exact absurd H (by simp)
             ·rw [if_neg c29] at H
              exact absurd H (by simp)
            ·rw [if_neg c28] at H
             exact absurd H (by simp)
           ·rw [if_neg c27] at H
            exact absurd H (by simp)
          ·rw [if_neg c25] at H
           exact absurd H (by simp)
         ·refine absurd ?_ c24
          rcases HS.out with ⟨h1, h2⟩ | ⟨h1, h2⟩
          ·have hx := HX.out; rw [h2] at hx; exact absurd hx (by decide)
          ·rw [h1]; kernel_rfl
        ·rw [if_neg c23] at H
         exact absurd H (by simp)
       ·replace c22 := Bool.eq_false_iff.mpr c22
        subst c22
        rw [if_neg (show ¬ (false = true) by decide)] at H
        by_cases c45 : t422 < 1
        ·rw [if_pos c45] at H
         have c45b0 : decide (t422 < 1) = true := decide_eq_true c45
         clear c45
         by_cases c46 : x4_8.size + 2 ≤ 9223372036854775807
         ·rw [if_pos c46] at H
          have c46b0 := eq_true c46
          have c46b1 : decide (x4_8.size + 2 ≤ 9223372036854775807) = true := decide_eq_true c46
          try have c46b2 : (9223372036854775807 < x4_8.size + 2) = False := eq_false (Nat.not_lt.2 c46)
          have c46z_ := c46
          try simp only [ByteArray.size_append, ByteArray.size_extract, bsz_, List.size_toArray, List.length_cons, List.length_nil, Nat.reduceAdd, Nat.sub_zero, Nat.min_self] at c46z_
          replace H := Option.bind_eq_some_iff.mp H
          obtain ⟨t425, A470, H⟩ := H
          try dsimp only at H
          have A47 := Aside0.mk A470
          clear A470
          by_cases c48 : (x4_8 ++ (⟨#[48, 46]⟩ : ByteArray)).size + t425.size ≤ 9223372036854775807
          ·rw [if_pos c48] at H
           have c48b0 := eq_true c48
           have c48b1 : decide ((x4_8 ++ (⟨#[48, 46]⟩ : ByteArray)).size + t425.size ≤ 9223372036854775807) = true := decide_eq_true c48
           try have c48b2 : (9223372036854775807 < (x4_8 ++ (⟨#[48, 46]⟩ : ByteArray)).size + t425.size) = False := eq_false (Nat.not_lt.2 c48)
           have c48z_ := c48
           try simp only [ByteArray.size_append, ByteArray.size_extract, bsz_, List.size_toArray, List.length_cons, List.length_nil, Nat.reduceAdd, Nat.sub_zero, Nat.min_self] at c48z_
           by_cases c49 : ((x4_8 ++ (⟨#[48, 46]⟩ : ByteArray)) ++ t425).size + t421.size ≤ 9223372036854775807
           ·rw [if_pos c49] at H
            have c49b0 := eq_true c49
            have c49b1 : decide (((x4_8 ++ (⟨#[48, 46]⟩ : ByteArray)) ++ t425).size + t421.size ≤ 9223372036854775807) = true := decide_eq_true c49
            try have c49b2 : (9223372036854775807 < ((x4_8 ++ (⟨#[48, 46]⟩ : ByteArray)) ++ t425).size + t421.size) = False := eq_false (Nat.not_lt.2 c49)
            have c49z_ := c49
            try simp only [ByteArray.size_append, ByteArray.size_extract, bsz_, List.size_toArray, List.length_cons, List.length_nil, Nat.reduceAdd, Nat.sub_zero, Nat.min_self] at c49z_
            simp only [Option.some.injEq, Prod.mk.injEq] at H
            obtain ⟨rfl, rfl⟩ := H
            go_wp2_with (first | ((with_reducible refine gate_callee (f := 91) rfl ?_); refine gL 56 Tryz.func91 #[.string (⟨#[48]⟩ : ByteArray), .int .i64 (wrap64 (-t422))] ?_; (with_reducible refine (strings_Repeat.calls (⟨#[48]⟩ : ByteArray) (wrap64 (-t422)) t425 _ A47.out).mono ?_); rintro e w50 ⟨rfl, hb⟩; refine ⟨_, rfl, ?_⟩; replace BK417 := kb BK417 hb; replace HB := bs hb; (try clear hb)))
            go_ret2
            exact ⟨by first | rfl | (simp [errW_none, errW_some] <;> rfl) | (simp [*, errW_none, errW_some] <;> rfl), bz⟩
           ·rw [if_neg c49] at H
            exact absurd H (by simp)
          ·rw [if_neg c48] at H
           exact absurd H (by simp)
         ·rw [if_neg c46] at H
          exact absurd H (by simp)
        ·exact absurd (by rcases HS.out with ⟨_, h2⟩ | ⟨_, h2⟩ <;> rw [h2] <;> decide) c45
 ·have hv := A2.out
  replace c3 := Bool.eq_false_iff.mpr c3
  subst c3
  rcases hp with ⟨rfl, rfl⟩ | ⟨rfl, rfl⟩
  ·exact absurd (hv.symm.trans (show real_Valid.f 11184811 (-25) = some true by kernel_rfl)) (by decide)
  ·exact absurd (hv.symm.trans (show real_Valid.f 1 (-150) = some true by kernel_rfl)) (by decide)
end Go.Proofs.YteigbokklclmbaaGreatDoor.Z
end
section
namespace Go.Proofs.YteigbokklclmbaaGreatDoor.Z
open Go Go.RowKit Go.Shelf Go.Proofs.YteigbokklclmbaaGreatDoor.Given Go.Proofs.YteigbokklclmbaaGreatDoorW.PrintWords Go.Proofs.YteigbokklclmbaaGreatDoorW.PrintLast Go.Proofs.YteigbokklclmbaaGreatDoorW.PrintMore
def imin (x y : Int) : Int := if y < x then y else x
theorem min2_im (k k' : IntKind) (x y : Int) : Builtin.min2 (.int k x) (.int k' y) = pure (.int k (imin x y)) := min2_int k k' x y
attribute [local go_sem] Oper.semAt_some min_two min2_im
def expF (l : List Int) : Int := l.foldl (fun n d => imin 1000 (wrap64 (wrap64 (10 * n) + d))) 0
theorem expF_snoc (l : List Int) (d : Int) : expF (l ++ [d]) = imin 1000 (wrap64 (wrap64 (10 * expF l) + d)) := by unfold expF; rw [List.foldl_append]; rfl
def minusS : ByteArray := { data := #[45] }
def plusS : ByteArray := { data := #[43] }
def real_exponent.f (s : ByteArray) : Option (Int × Bool) := if s.size < 100000000000 then
  (strings_HasPrefix.f s minusS).bind fun neg => (strings_HasPrefix.f s plusS).bind fun pos =>
    if neg = true then (if 1 ≤ s.size then some (wrap64 (-(expF (digs (s.extract 1 s.size)))), decide (0 < (digs (s.extract 1 s.size)).length) && (((s.extract 1 s.size).extract (digs (s.extract 1 s.size)).length (s.extract 1 s.size).size).toList == [])) else none)
    else if pos = true then (if 1 ≤ s.size then some (expF (digs (s.extract 1 s.size)), decide (0 < (digs (s.extract 1 s.size)).length) && (((s.extract 1 s.size).extract (digs (s.extract 1 s.size)).length (s.extract 1 s.size).size).toList == [])) else none)
    else some (expF (digs s), decide (0 < (digs s).length) && ((s.extract (digs s).length s.size).toList == [])) else none
theorem exponent_neg (s : ByteArray) (hsz : s.size < 100000000000) (w : World) (h1 : 1 ≤ s.size) (hn : strings_HasPrefix.f s minusS = some true) :
    CallsIn Fence.wide 9 Tryz.prog 78 #[.string s] w fun e W' => e = .returned (.tuple #[.int .i64 (wrap64 (-(expF (digs (s.extract 1 s.size))))), .bool (decide (0 < (digs (s.extract 1 s.size)).length) && (((s.extract 1 s.size).extract (digs (s.extract 1 s.size)).length (s.extract 1 s.size).size).toList == []))]) ∧ Below w.heap.size w W' := by
  have HS := Lib.hid hsz
  refine callsIn_of_wp_marks Tryz.func78 rfl trivial ?_ rfl
  simp only [Tryz.ntmps78, List.size_toArray, List.length_cons, List.length_nil, Nat.reduceAdd, Nat.reduceSub, Array.replicate_succ, Array.replicate_zero, List.push_toArray, List.append_toArray, List.nil_append, List.cons_append]
  have HN := Lib.hid (fun w => strings_HasPrefix.calls s minusS true w hn)
  clear hn
  gi_wp2_with (fail)
  refine ⟨trivial, (callsIn_wide.2 ((HN.out _).mono ?_))⟩
  rintro e w1 ⟨rfl, hd⟩
  have hs1 : w1.heap.size = w.heap.size := by obtain ⟨q, hq⟩ := hd.out; rw [hq]; simp
  have hd1 := hd.below
  gi_wp2_with (fail)
  refine ⟨trivial, ?_⟩
  gi_wp2_with (refine ⟨trivial, ?_⟩; gi_at_call 115; refine (callsIn_wide.2 (digits_c _ _)).mono ?_; rintro e w' ⟨rfl, rfl⟩)
  have hdl := digs_len (s.extract 1 s.size)
  have hps : (s.extract 1 s.size).size ≤ s.size := by simp only [ByteArray.size_extract]; omega
  obtain ⟨sp, hsp⟩ : ∃ sp, (s.extract 1 s.size) = sp := ⟨_, rfl⟩
  have HSP := Lib.hid hsp
  rw [hsp] at hdl hps
  rw [hsp]
  have hB0 : Below w.heap.size w (((w1.alloc (.cells #[Value.int .i64 0] 3)).alloc (.cells #[Value.int .i64 0] 3)).alloc (.cells #[Value.string sp] 9)) := ((hd1.alloc (by omega) _).alloc (by simp only [World.size_alloc]; omega) _).alloc (by simp only [World.size_alloc]; omega) _
  obtain ⟨w0, hw0⟩ : ∃ w0, (((w1.alloc (.cells #[Value.int .i64 0] 3)).alloc (.cells #[Value.int .i64 0] 3)).alloc (.cells #[Value.string sp] 9)) = w0 := ⟨_, rfl⟩
  have k0 : w0.heap[w.heap.size]? = some (.cells #[Value.int .i64 0] 3 (0, 0)) := by
    rw [← hw0]; exact blk_alloc (blk_alloc (new_at _ _ _ (by omega)) _) _
  have k1 : w0.heap[w.heap.size + 1]? = some (.cells #[Value.int .i64 0] 3 (0, 0)) := by
    rw [← hw0]; exact blk_alloc (new_at _ _ _ (by simp only [World.size_alloc]; omega)) _
  have k2 : w0.heap[w.heap.size + 1 + 1]? = some (.cells #[Value.string sp] 9 (0, 0)) := by
    rw [← hw0]; exact new_at _ _ _ (by simp only [World.size_alloc]; omega)
  have hs0 : w0.heap.size = w.heap.size + 1 + 1 + 1 := by rw [← hw0]; simp only [World.size_alloc]; omega
  rw [hw0] at hB0 ⊢
  refine wpIn_rangeFunc_ownF rfl (by omega) (gf := 147) (lb := #[.pointer (some ⟨w.heap.size + 1 + 1, 0, none⟩)]) rfl trivial (enters_ Tryz.func147 (by kernel_rfl) rfl)
    (digits_stops 8 (by omega) (w.heap.size + 1 + 1) sp (by have := HS.out; omega) w0 (by omega) ((blk_cell k2 0).trans rfl)) KB_t (KB_b (by omega)) (Below.refl _ _) (fun _ => rfl)
    (fun pre W => (Boxed W w.heap.size 3 (.int .i64 (expF pre)) ∧ Boxed W (w.heap.size + 1) 3 (.int .i64 (pre.length : Int)) ∧ Boxed W (w.heap.size + 1 + 1) 9 (.string sp)) ∧ Below w.heap.size w W)
    (fun _ _ _ => False)
    (OwnFrom.and (Own.from (fun pre A B row hs hg hr => by
      obtain ⟨h3, h5, h6⟩ := hs
      exact ⟨h3.kept hg (fun e => by obtain ⟨o, ho, hc⟩ := hr _ e.symm; rw [show A.heap[w.heap.size]? = _ from h3] at ho; cases ho; cases hc), h5.kept hg (fun e => by obtain ⟨o, ho, hc⟩ := hr _ e.symm; rw [show A.heap[w.heap.size + 1]? = _ from h5] at ho; cases ho; cases hc), h6.kept hg (fun e => by obtain ⟨o, ho, hc⟩ := hr _ e.symm; rw [show A.heap[w.heap.size + 1 + 1]? = _ from h6] at ho; cases ho; cases hc)⟩) _) (ownFrom_below (Nat.le_refl _) (by omega)))
    (fun _ _ _ _ _ hs _ _ => hs)
    ⟨⟨k0, k1, k2⟩, hB0⟩
    (fun x => { tmps := #[Value.string sp, undef, Value.int IntKind.i64 0, Value.bool false, Value.bool true, Value.pointer (some { block := w.heap.size, off := 0 }), Value.pointer (some { block := w.heap.size + 1, off := 0 }), Value.string sp, .int .i64 x, Value.string s, Value.bool true, Value.bool true, Value.bool true, undef, undef, Value.bool true, Value.string s, Value.string sp, Value.string sp, Value.string sp, Value.func (Fn.func 147) #[] #[Value.pointer (some { block := w.heap.size + 1 + 1, off := 0 })], .int .i64 x, undef, undef, undef, undef, undef, undef, undef, undef, undef, undef, undef, undef, undef, undef, undef, undef, undef, undef, undef, undef], defers := [] }) ?assign ?body ?done ?stop
  case assign =>
    intro l x W K hK
    gi_wp2
    exact hK
  case body =>
    rintro l pre x W ⟨⟨hb0, hb1, hb2⟩, hB⟩ hpre
    have l2 := hb2.lt
    have hss := HS.out
    have hpl : (pre.length : Int) < 100000000000 := by omega
    have hw : wrap64 ((pre.length : Int) + 1) = (pre.length : Int) + 1 := w64 _ (by omega) (by omega)
    have c0 := hb0.cell
    have f0 := hb0.frozen
    have c1 := hb1.cell
    have f1 := hb1.frozen
    gi_wp2
    have t0 := heap_setCell_same W w.heap.size 0 _ _ (.int .i64 (imin 1000 (wrap64 (wrap64 (10 * expF pre) + x)))) hb0
    have t1 : (W.setCell ⟨w.heap.size, 0, none⟩ (.int .i64 (imin 1000 (wrap64 (wrap64 (10 * expF pre) + x))))).heap[w.heap.size + 1]? = _ := (heap_setCell_other _ _ _ _ (by simp only; omega)).trans hb1
    have u0 := (heap_setCell_other (W.setCell ⟨w.heap.size, 0, none⟩ (.int .i64 (imin 1000 (wrap64 (wrap64 (10 * expF pre) + x))))) ⟨w.heap.size + 1, 0, none⟩ w.heap.size (.int .i64 ((pre.length : Int) + 1)) (by simp only; omega)).trans t0
    have u1 := heap_setCell_same _ (w.heap.size + 1) 0 _ _ (.int .i64 ((pre.length : Int) + 1)) t1
    have u2 : ((W.setCell ⟨w.heap.size, 0, none⟩ (.int .i64 (imin 1000 (wrap64 (wrap64 (10 * expF pre) + x))))).setCell ⟨w.heap.size + 1, 0, none⟩ (.int .i64 ((pre.length : Int) + 1))).heap[w.heap.size + 1 + 1]? = W.heap[w.heap.size + 1 + 1]? :=
      (heap_setCell_other _ _ _ _ (by simp only; omega)).trans ((heap_setCell_other _ _ _ _ (by simp only; omega)))
    have hp : (((pre ++ [x]).length : Nat) : Int) = (pre.length : Int) + 1 := by simp
    refine ⟨(KeepsOthers.setCell _ _ _).trans (KeepsOthers.setCell _ _ _), u2, ⟨?_, ?_, u2.trans hb2⟩, (hB.setCell (by simp only; omega) _).setCell (by simp only; omega) _⟩
    · rw [expF_snoc]; exact u0
    · rw [hp]; exact u1
  case done =>
    rintro D ys W hD rfl ⟨⟨hb0, hb1, hb2⟩, hB⟩ hK
    have hss := HS.out
    have c0 := hb0.cell
    have f0 := hb0.frozen
    have c1 := hb1.cell
    have f1 := hb1.frozen
    by_cases hpos : 0 < (digs sp).length
    all_goals
      gi_wp2
      have hKd := (KeepsOthers.setCell W ⟨w.heap.size, 0, none⟩ (.int .i64 (wrap64 (-expF (digs sp))))).same D _ hK rfl
      refine ⟨by simp, .inl ⟨_, _, rfl, run_takeDeferred hKd, ?_⟩⟩
      refine ⟨_, results_tmp2 rfl _ _ _, ?_, (hB.setCell (p := ⟨w.heap.size, 0, none⟩) (Nat.le_refl _) _).trans (belowK_b (w := w) (Nat.le_refl _) _ D _ _ (by omega) hKd rfl rfl)⟩
      (rw [HSP.out]; simp [hpos]; done)
  case stop =>
    rintro D c pre W _ _ h _
    exact h.elim
theorem exponent_pos (s : ByteArray) (hsz : s.size < 100000000000) (w : World) (h1 : 1 ≤ s.size) (hn : strings_HasPrefix.f s minusS = some false) (hp : strings_HasPrefix.f s plusS = some true) :
    CallsIn Fence.wide 9 Tryz.prog 78 #[.string s] w fun e W' => e = .returned (.tuple #[.int .i64 (expF (digs (s.extract 1 s.size))), .bool (decide (0 < (digs (s.extract 1 s.size)).length) && (((s.extract 1 s.size).extract (digs (s.extract 1 s.size)).length (s.extract 1 s.size).size).toList == []))]) ∧ Below w.heap.size w W' := by
  have HS := Lib.hid hsz
  refine callsIn_of_wp_marks Tryz.func78 rfl trivial ?_ rfl
  simp only [Tryz.ntmps78, List.size_toArray, List.length_cons, List.length_nil, Nat.reduceAdd, Nat.reduceSub, Array.replicate_succ, Array.replicate_zero, List.push_toArray, List.append_toArray, List.nil_append, List.cons_append]
  have HN := Lib.hid (fun w => strings_HasPrefix.calls s minusS false w hn)
  have HP := Lib.hid (fun w => strings_HasPrefix.calls s plusS true w hp)
  clear hn hp
  gi_wp2_with (fail)
  refine ⟨trivial, (callsIn_wide.2 ((HN.out _).mono ?_))⟩
  rintro e w1 ⟨rfl, hd⟩
  have hs1 : w1.heap.size = w.heap.size := by obtain ⟨q, hq⟩ := hd.out; rw [hq]; simp
  have hd1 := hd.below
  gi_wp2_with (fail)
  refine ⟨trivial, (callsIn_wide.2 ((HP.out _).mono ?_))⟩
  rintro e w2 ⟨rfl, hd'⟩
  have hs2 : w2.heap.size = w.heap.size := by obtain ⟨q, hq⟩ := hd'.out; rw [hq]; simp [hs1]
  have hd2 := hd1.trans (hd'.below.mono hd1.size)
  gi_wp2_with (refine ⟨trivial, ?_⟩; gi_at_call 115; refine (callsIn_wide.2 (digits_c _ _)).mono ?_; rintro e w' ⟨rfl, rfl⟩)
  have hdl := digs_len (s.extract 1 s.size)
  have hps : (s.extract 1 s.size).size ≤ s.size := by simp only [ByteArray.size_extract]; omega
  obtain ⟨sp, hsp⟩ : ∃ sp, (s.extract 1 s.size) = sp := ⟨_, rfl⟩
  have HSP := Lib.hid hsp
  rw [hsp] at hdl hps
  rw [hsp]
  have hB0 : Below w.heap.size w (((w2.alloc (.cells #[Value.int .i64 0] 3)).alloc (.cells #[Value.int .i64 0] 3)).alloc (.cells #[Value.string sp] 9)) := ((hd2.alloc (by omega) _).alloc (by simp only [World.size_alloc]; omega) _).alloc (by simp only [World.size_alloc]; omega) _
  obtain ⟨w0, hw0⟩ : ∃ w0, (((w2.alloc (.cells #[Value.int .i64 0] 3)).alloc (.cells #[Value.int .i64 0] 3)).alloc (.cells #[Value.string sp] 9)) = w0 := ⟨_, rfl⟩
  have k0 : w0.heap[w.heap.size]? = some (.cells #[Value.int .i64 0] 3 (0, 0)) := by
    rw [← hw0]; exact blk_alloc (blk_alloc (new_at _ _ _ (by omega)) _) _
  have k1 : w0.heap[w.heap.size + 1]? = some (.cells #[Value.int .i64 0] 3 (0, 0)) := by
    rw [← hw0]; exact blk_alloc (new_at _ _ _ (by simp only [World.size_alloc]; omega)) _
  have k2 : w0.heap[w.heap.size + 1 + 1]? = some (.cells #[Value.string sp] 9 (0, 0)) := by
    rw [← hw0]; exact new_at _ _ _ (by simp only [World.size_alloc]; omega)
  have hs0 : w0.heap.size = w.heap.size + 1 + 1 + 1 := by rw [← hw0]; simp only [World.size_alloc]; omega
  rw [hw0] at hB0 ⊢
  refine wpIn_rangeFunc_ownF rfl (by omega) (gf := 147) (lb := #[.pointer (some ⟨w.heap.size + 1 + 1, 0, none⟩)]) rfl trivial (enters_ Tryz.func147 (by kernel_rfl) rfl)
    (digits_stops 8 (by omega) (w.heap.size + 1 + 1) sp (by have := HS.out; omega) w0 (by omega) ((blk_cell k2 0).trans rfl)) KB_t (KB_b (by omega)) (Below.refl _ _) (fun _ => rfl)
    (fun pre W => (Boxed W w.heap.size 3 (.int .i64 (expF pre)) ∧ Boxed W (w.heap.size + 1) 3 (.int .i64 (pre.length : Int)) ∧ Boxed W (w.heap.size + 1 + 1) 9 (.string sp)) ∧ Below w.heap.size w W)
    (fun _ _ _ => False)
    (OwnFrom.and (Own.from (fun pre A B row hs hg hr => by
      obtain ⟨h3, h5, h6⟩ := hs
      exact ⟨h3.kept hg (fun e => by obtain ⟨o, ho, hc⟩ := hr _ e.symm; rw [show A.heap[w.heap.size]? = _ from h3] at ho; cases ho; cases hc), h5.kept hg (fun e => by obtain ⟨o, ho, hc⟩ := hr _ e.symm; rw [show A.heap[w.heap.size + 1]? = _ from h5] at ho; cases ho; cases hc), h6.kept hg (fun e => by obtain ⟨o, ho, hc⟩ := hr _ e.symm; rw [show A.heap[w.heap.size + 1 + 1]? = _ from h6] at ho; cases ho; cases hc)⟩) _) (ownFrom_below (Nat.le_refl _) (by omega)))
    (fun _ _ _ _ _ hs _ _ => hs)
    ⟨⟨k0, k1, k2⟩, hB0⟩
    (fun x => { tmps := #[Value.string sp, undef, Value.int IntKind.i64 0, Value.bool false, Value.bool false, Value.pointer (some { block := w.heap.size, off := 0 }), Value.pointer (some { block := w.heap.size + 1, off := 0 }), Value.string sp, .int .i64 x, Value.string s, Value.bool false, Value.bool false, Value.bool false, Value.string s, Value.bool true, Value.bool true, Value.string s, Value.string sp, Value.string sp, Value.string sp, Value.func (Fn.func 147) #[] #[Value.pointer (some { block := w.heap.size + 1 + 1, off := 0 })], .int .i64 x, undef, undef, undef, undef, undef, undef, undef, undef, undef, undef, undef, undef, undef, undef, undef, undef, undef, undef, undef, undef], defers := [] }) ?assign ?body ?done ?stop
  case assign =>
    intro l x W K hK
    gi_wp2
    exact hK
  case body =>
    rintro l pre x W ⟨⟨hb0, hb1, hb2⟩, hB⟩ hpre
    have l2 := hb2.lt
    have hss := HS.out
    have hpl : (pre.length : Int) < 100000000000 := by omega
    have hw : wrap64 ((pre.length : Int) + 1) = (pre.length : Int) + 1 := w64 _ (by omega) (by omega)
    have c0 := hb0.cell
    have f0 := hb0.frozen
    have c1 := hb1.cell
    have f1 := hb1.frozen
    gi_wp2
    have t0 := heap_setCell_same W w.heap.size 0 _ _ (.int .i64 (imin 1000 (wrap64 (wrap64 (10 * expF pre) + x)))) hb0
    have t1 : (W.setCell ⟨w.heap.size, 0, none⟩ (.int .i64 (imin 1000 (wrap64 (wrap64 (10 * expF pre) + x))))).heap[w.heap.size + 1]? = _ := (heap_setCell_other _ _ _ _ (by simp only; omega)).trans hb1
    have u0 := (heap_setCell_other (W.setCell ⟨w.heap.size, 0, none⟩ (.int .i64 (imin 1000 (wrap64 (wrap64 (10 * expF pre) + x))))) ⟨w.heap.size + 1, 0, none⟩ w.heap.size (.int .i64 ((pre.length : Int) + 1)) (by simp only; omega)).trans t0
    have u1 := heap_setCell_same _ (w.heap.size + 1) 0 _ _ (.int .i64 ((pre.length : Int) + 1)) t1
    have u2 : ((W.setCell ⟨w.heap.size, 0, none⟩ (.int .i64 (imin 1000 (wrap64 (wrap64 (10 * expF pre) + x))))).setCell ⟨w.heap.size + 1, 0, none⟩ (.int .i64 ((pre.length : Int) + 1))).heap[w.heap.size + 1 + 1]? = W.heap[w.heap.size + 1 + 1]? :=
      (heap_setCell_other _ _ _ _ (by simp only; omega)).trans ((heap_setCell_other _ _ _ _ (by simp only; omega)))
    have hp : (((pre ++ [x]).length : Nat) : Int) = (pre.length : Int) + 1 := by simp
    refine ⟨(KeepsOthers.setCell _ _ _).trans (KeepsOthers.setCell _ _ _), u2, ⟨?_, ?_, u2.trans hb2⟩, (hB.setCell (by simp only; omega) _).setCell (by simp only; omega) _⟩
    · rw [expF_snoc]; exact u0
    · rw [hp]; exact u1
  case done =>
    rintro D ys W hD rfl ⟨⟨hb0, hb1, hb2⟩, hB⟩ hK
    have hss := HS.out
    have c0 := hb0.cell
    have f0 := hb0.frozen
    have c1 := hb1.cell
    have f1 := hb1.frozen
    by_cases hpos : 0 < (digs sp).length
    all_goals
      gi_wp2
      have hKd := hK
      refine ⟨by simp, .inl ⟨_, _, rfl, run_takeDeferred hKd, ?_⟩⟩
      refine ⟨_, results_tmp2 rfl _ _ _, ?_, hB.trans (belowK_b (w := w) (Nat.le_refl _) _ D _ _ (by omega) hKd rfl rfl)⟩
      (rw [HSP.out]; simp [hpos]; done)
  case stop =>
    rintro D c pre W _ _ h _
    exact h.elim
theorem exponent_plain (s : ByteArray) (hsz : s.size < 100000000000) (w : World) (hn : strings_HasPrefix.f s minusS = some false) (hp : strings_HasPrefix.f s plusS = some false) :
    CallsIn Fence.wide 9 Tryz.prog 78 #[.string s] w fun e W' => e = .returned (.tuple #[.int .i64 (expF (digs s)), .bool (decide (0 < (digs s).length) && ((s.extract (digs s).length s.size).toList == []))]) ∧ Below w.heap.size w W' := by
  have HS := Lib.hid hsz
  refine callsIn_of_wp_marks Tryz.func78 rfl trivial ?_ rfl
  simp only [Tryz.ntmps78, List.size_toArray, List.length_cons, List.length_nil, Nat.reduceAdd, Nat.reduceSub, Array.replicate_succ, Array.replicate_zero, List.push_toArray, List.append_toArray, List.nil_append, List.cons_append]
  have HN := Lib.hid (fun w => strings_HasPrefix.calls s minusS false w hn)
  have HP := Lib.hid (fun w => strings_HasPrefix.calls s plusS false w hp)
  clear hn hp
  gi_wp2_with (fail)
  refine ⟨trivial, (callsIn_wide.2 ((HN.out _).mono ?_))⟩
  rintro e w1 ⟨rfl, hd⟩
  have hs1 : w1.heap.size = w.heap.size := by obtain ⟨q, hq⟩ := hd.out; rw [hq]; simp
  have hd1 := hd.below
  gi_wp2_with (fail)
  refine ⟨trivial, (callsIn_wide.2 ((HP.out _).mono ?_))⟩
  rintro e w2 ⟨rfl, hd'⟩
  have hs2 : w2.heap.size = w.heap.size := by obtain ⟨q, hq⟩ := hd'.out; rw [hq]; simp [hs1]
  have hd2 := hd1.trans (hd'.below.mono hd1.size)
  gi_wp2_with (refine ⟨trivial, ?_⟩; gi_at_call 115; refine (callsIn_wide.2 (digits_c _ _)).mono ?_; rintro e w' ⟨rfl, rfl⟩)
  have hdl := digs_len s
  have hps : s.size ≤ s.size := by exact Nat.le_refl _
  have hB0 : Below w.heap.size w (((w2.alloc (.cells #[Value.int .i64 0] 3)).alloc (.cells #[Value.int .i64 0] 3)).alloc (.cells #[Value.string s] 9)) := ((hd2.alloc (by omega) _).alloc (by simp only [World.size_alloc]; omega) _).alloc (by simp only [World.size_alloc]; omega) _
  obtain ⟨w0, hw0⟩ : ∃ w0, (((w2.alloc (.cells #[Value.int .i64 0] 3)).alloc (.cells #[Value.int .i64 0] 3)).alloc (.cells #[Value.string s] 9)) = w0 := ⟨_, rfl⟩
  have k0 : w0.heap[w.heap.size]? = some (.cells #[Value.int .i64 0] 3 (0, 0)) := by
    rw [← hw0]; exact blk_alloc (blk_alloc (new_at _ _ _ (by omega)) _) _
  have k1 : w0.heap[w.heap.size + 1]? = some (.cells #[Value.int .i64 0] 3 (0, 0)) := by
    rw [← hw0]; exact blk_alloc (new_at _ _ _ (by simp only [World.size_alloc]; omega)) _
  have k2 : w0.heap[w.heap.size + 1 + 1]? = some (.cells #[Value.string s] 9 (0, 0)) := by
    rw [← hw0]; exact new_at _ _ _ (by simp only [World.size_alloc]; omega)
  have hs0 : w0.heap.size = w.heap.size + 1 + 1 + 1 := by rw [← hw0]; simp only [World.size_alloc]; omega
  rw [hw0] at hB0 ⊢
  refine wpIn_rangeFunc_ownF rfl (by omega) (gf := 147) (lb := #[.pointer (some ⟨w.heap.size + 1 + 1, 0, none⟩)]) rfl trivial (enters_ Tryz.func147 (by kernel_rfl) rfl)
    (digits_stops 8 (by omega) (w.heap.size + 1 + 1) s (by have := HS.out; omega) w0 (by omega) ((blk_cell k2 0).trans rfl)) KB_t (KB_b (by omega)) (Below.refl _ _) (fun _ => rfl)
    (fun pre W => (Boxed W w.heap.size 3 (.int .i64 (expF pre)) ∧ Boxed W (w.heap.size + 1) 3 (.int .i64 (pre.length : Int)) ∧ Boxed W (w.heap.size + 1 + 1) 9 (.string s)) ∧ Below w.heap.size w W)
    (fun _ _ _ => False)
    (OwnFrom.and (Own.from (fun pre A B row hs hg hr => by
      obtain ⟨h3, h5, h6⟩ := hs
      exact ⟨h3.kept hg (fun e => by obtain ⟨o, ho, hc⟩ := hr _ e.symm; rw [show A.heap[w.heap.size]? = _ from h3] at ho; cases ho; cases hc), h5.kept hg (fun e => by obtain ⟨o, ho, hc⟩ := hr _ e.symm; rw [show A.heap[w.heap.size + 1]? = _ from h5] at ho; cases ho; cases hc), h6.kept hg (fun e => by obtain ⟨o, ho, hc⟩ := hr _ e.symm; rw [show A.heap[w.heap.size + 1 + 1]? = _ from h6] at ho; cases ho; cases hc)⟩) _) (ownFrom_below (Nat.le_refl _) (by omega)))
    (fun _ _ _ _ _ hs _ _ => hs)
    ⟨⟨k0, k1, k2⟩, hB0⟩
    (fun x => { tmps := #[Value.string s, undef, Value.int IntKind.i64 0, Value.bool false, Value.bool false, Value.pointer (some { block := w.heap.size, off := 0 }), Value.pointer (some { block := w.heap.size + 1, off := 0 }), Value.string s, .int .i64 x, Value.string s, Value.bool false, Value.bool false, Value.bool false, Value.string s, Value.bool false, Value.bool false, undef, undef, Value.string s, Value.string s, Value.func (Fn.func 147) #[] #[Value.pointer (some { block := w.heap.size + 1 + 1, off := 0 })], .int .i64 x, undef, undef, undef, undef, undef, undef, undef, undef, undef, undef, undef, undef, undef, undef, undef, undef, undef, undef, undef, undef], defers := [] }) ?assign ?body ?done ?stop
  case assign =>
    intro l x W K hK
    gi_wp2
    exact hK
  case body =>
    rintro l pre x W ⟨⟨hb0, hb1, hb2⟩, hB⟩ hpre
    have l2 := hb2.lt
    have hss := HS.out
    have hpl : (pre.length : Int) < 100000000000 := by omega
    have hw : wrap64 ((pre.length : Int) + 1) = (pre.length : Int) + 1 := w64 _ (by omega) (by omega)
    have c0 := hb0.cell
    have f0 := hb0.frozen
    have c1 := hb1.cell
    have f1 := hb1.frozen
    gi_wp2
    have t0 := heap_setCell_same W w.heap.size 0 _ _ (.int .i64 (imin 1000 (wrap64 (wrap64 (10 * expF pre) + x)))) hb0
    have t1 : (W.setCell ⟨w.heap.size, 0, none⟩ (.int .i64 (imin 1000 (wrap64 (wrap64 (10 * expF pre) + x))))).heap[w.heap.size + 1]? = _ := (heap_setCell_other _ _ _ _ (by simp only; omega)).trans hb1
    have u0 := (heap_setCell_other (W.setCell ⟨w.heap.size, 0, none⟩ (.int .i64 (imin 1000 (wrap64 (wrap64 (10 * expF pre) + x))))) ⟨w.heap.size + 1, 0, none⟩ w.heap.size (.int .i64 ((pre.length : Int) + 1)) (by simp only; omega)).trans t0
    have u1 := heap_setCell_same _ (w.heap.size + 1) 0 _ _ (.int .i64 ((pre.length : Int) + 1)) t1
    have u2 : ((W.setCell ⟨w.heap.size, 0, none⟩ (.int .i64 (imin 1000 (wrap64 (wrap64 (10 * expF pre) + x))))).setCell ⟨w.heap.size + 1, 0, none⟩ (.int .i64 ((pre.length : Int) + 1))).heap[w.heap.size + 1 + 1]? = W.heap[w.heap.size + 1 + 1]? :=
      (heap_setCell_other _ _ _ _ (by simp only; omega)).trans ((heap_setCell_other _ _ _ _ (by simp only; omega)))
    have hp : (((pre ++ [x]).length : Nat) : Int) = (pre.length : Int) + 1 := by simp
    refine ⟨(KeepsOthers.setCell _ _ _).trans (KeepsOthers.setCell _ _ _), u2, ⟨?_, ?_, u2.trans hb2⟩, (hB.setCell (by simp only; omega) _).setCell (by simp only; omega) _⟩
    · rw [expF_snoc]; exact u0
    · rw [hp]; exact u1
  case done =>
    rintro D ys W hD rfl ⟨⟨hb0, hb1, hb2⟩, hB⟩ hK
    have hss := HS.out
    have c0 := hb0.cell
    have f0 := hb0.frozen
    have c1 := hb1.cell
    have f1 := hb1.frozen
    by_cases hpos : 0 < (digs s).length
    all_goals
      gi_wp2
      have hKd := hK
      refine ⟨by simp, .inl ⟨_, _, rfl, run_takeDeferred hKd, ?_⟩⟩
      refine ⟨_, results_tmp2 rfl _ _ _, ?_, hB.trans (belowK_b (w := w) (Nat.le_refl _) _ D _ _ (by omega) hKd rfl rfl)⟩
      (simp [hpos]; done)
  case stop =>
    rintro D c pre W _ _ h _
    exact h.elim
theorem real_exponent.calls (s : ByteArray) (r1 : Int) (r2 : Bool) (w : World) (h : real_exponent.f s = some (r1, r2)) :
    Calls Tryz.prog 78 #[.string s] w fun e w' => e = .returned (.tuple #[.int .i64 r1, .bool r2]) ∧ Below w.heap.size w w' := by
  refine (callsIn_wide (n := 9)).1 ?_
  unfold real_exponent.f at h
  by_cases hsz : s.size < 100000000000
  · rw [if_pos hsz] at h
    obtain ⟨neg, hn, h⟩ := Option.bind_eq_some_iff.mp h
    obtain ⟨pos, hp, h⟩ := Option.bind_eq_some_iff.mp h
    cases neg with
    | true =>
      rw [if_pos rfl] at h
      by_cases h1 : 1 ≤ s.size
      · rw [if_pos h1] at h
        cases h
        exact exponent_neg s hsz w h1 hn
      · rw [if_neg h1] at h; cases h
    | false =>
      rw [if_neg (by decide)] at h
      cases pos with
      | true =>
        rw [if_pos rfl] at h
        by_cases h1 : 1 ≤ s.size
        · rw [if_pos h1] at h
          cases h
          exact exponent_pos s hsz w h1 hn hp
        · rw [if_neg h1] at h; cases h
      | false =>
        rw [if_neg (by decide)] at h
        cases h
        exact exponent_plain s hsz w hn hp
  · rw [if_neg hsz] at h; cases h
end Go.Proofs.YteigbokklclmbaaGreatDoor.Z
end
section
namespace Go.Proofs.YteigbokklclmbaaGreatDoor.Z
open Go Go.RowKit Go.Proofs.YteigbokklclmbaaGreatDoor.Given Go.Proofs.YteigbokklclmbaaGreatDoorW.PrintWords Go.Proofs.YteigbokklclmbaaGreatDoorW.PrintLast Go.Proofs.YteigbokklclmbaaGreatDoorW.PrintMore
def dotS : ByteArray := { data := #[46] }
def eS : ByteArray := { data := #[101] }
theorem nil_C (w : World) : Kd.C (Kd.int .u32) w none ([] : List Int).length [] := Kd.C_of_reads (enc := Value.int .u32) (d := (0 : Int)) (h1 := fun _ => rfl) ⟨rfl, by simp, fun h => absurd h (by simp)⟩
theorem parse1_n (k : Nat) (neg : Bool) (l : List Int) (A : Option Addr) (c : Nat) (exp behind m x r1 r2 : Int) (hd : real_decimal.f k l (wrap64 (exp - behind)) = some (m, x)) (hs : real_signed.f neg m x = some (r1, r2)) (b0 b1 b2 b3 : Nat) (w : World)
    (h0 : w.heap[b0]? = some (.cells #[.bool neg] 4 (0, 0))) (h1 : w.heap[b1]? = some (.cells #[.slice A l.length c] 87 (0, 0))) (h2 : w.heap[b2]? = some (.cells #[.int .i64 exp] 3 (0, 0))) (h3 : w.heap[b3]? = some (.cells #[.int .i64 behind] 3 (0, 0)))
    (hN : Nat32 w (.slice A l.length c) l) :
    Calls Tryz.prog 79 #[.pointer (some ⟨b0, 0, none⟩), .pointer (some ⟨b1, 0, none⟩), .pointer (some ⟨b2, 0, none⟩), .pointer (some ⟨b3, 0, none⟩)] w fun e w' => e = ending r1 r2 ∧ Below w.heap.size w w' := by
  obtain ⟨A', c', heq, hc, hC⟩ := hN
  cases heq
  exact parse1_c k neg l A c exp behind m x r1 r2 hd hs b0 b1 b2 b3 w h0 h1 h2 h3 hC hc
theorem parse_F (k : Nat) (s : ByteArray) (w : World) (hsz : ¬ (s.size : Int) > 60) (rest : ByteArray) (neg : Bool) (hc1 : strings_CutPrefix.f s minusS = some (rest, neg)) (n : List Int) (many : Int) (rest2 : ByteArray) (hn1 : real_number.f k rest [] = some (n, many, rest2)) (hmany : ¬ many = 0) (after : ByteArray) (hc2 : strings_CutPrefix.f rest2 dotS = some (after, false)) (hrest : rest2.toList ≠ []) (aft : ByteArray) (x : Int) (hc3 : strings_CutPrefix.f rest2 eS = some (aft, true)) (hx : real_exponent.f aft = some (x, true)) (m y r1 r2 t0 t1 t2 : Int) (hd1 : real_decimal.f k n (wrap64 (x - 0)) = some (m, y)) (hsg : real_signed.f neg m y = some (r1, r2)) (ht : caughtS r1 r2 = (t0, t1, t2)) :
    Calls Tryz.prog 25 #[.string s] w fun e w' => e = .returned (.tuple #[.agg #[.int .i64 t0, .int .i64 t1], .int .i64 t2]) ∧ Below w.heap.size w w' := by
  have HB := Lib.hid (Below.refl w.heap.size w)
  go_enter Tryz.func25, Tryz.ntmps25
  go_wp2_with fail
  refine (strings_CutPrefix.calls s minusS rest neg _ hc1).mono ?_
  rintro e w1 ⟨rfl, hd⟩
  have hb := hd.below
  have nZ := Lib.hid (blk_below (new_at _ _ (w.heap.size) oz) hb)
  have nB := Lib.hid (((HB.out).alloc oz _).trans (hb.mono oz))
  have hs1 := hb.size
  try simp only [World.size_alloc, World.size_setCell] at hs1
  clear HB
  have HZ := nZ
  have HB := nB
  clear nB nZ
  clear hb hd
  have cZ0 : w1.cell? ⟨w.heap.size, 0, none⟩ = some (Value.int .i64 0) := (blk_cell HZ.out 0).trans rfl
  have fZ0 := blk_frozen HZ.out 0
  have cZ1 : w1.cell? ⟨w.heap.size, 1, none⟩ = some (Value.int .i64 0) := (blk_cell HZ.out 1).trans rfl
  have fZ1 := blk_frozen HZ.out 1
  have lZ1 := blk_lt HZ.out
  go_wp2_with fail
  refine (number_c k rest none 0 [] n many rest2 _ (nil_C _) (Nat.zero_le _) hn1).mono ?_
  rintro e w2 ⟨⟨v, hv, rfl⟩, hb⟩
  have nZ := Lib.hid (blk_below (blk_alloc (HZ.out) _) hb)
  have nG := Lib.hid (blk_below (new_at _ _ (w1.heap.size) oz) hb)
  have nB := Lib.hid (((HB.out).alloc oz _).trans (hb.mono oz))
  have hs2 := hb.size
  try simp only [World.size_alloc, World.size_setCell] at hs2
  clear HB HZ
  try clear cZ0 fZ0 cZ1 fZ1
  have HZ := nZ
  have HG := nG
  have HB := nB
  clear nB nZ nG
  clear hb
  have cZ0 : w2.cell? ⟨w.heap.size, 0, none⟩ = some (Value.int .i64 0) := (blk_cell HZ.out 0).trans rfl
  have fZ0 := blk_frozen HZ.out 0
  have cZ1 : w2.cell? ⟨w.heap.size, 1, none⟩ = some (Value.int .i64 0) := (blk_cell HZ.out 1).trans rfl
  have fZ1 := blk_frozen HZ.out 1
  have lZ2 := blk_lt HZ.out
  have cG0 : w2.cell? ⟨w1.heap.size, 0, none⟩ = some (.bool neg) := (blk_cell HG.out 0).trans rfl
  have fG0 := blk_frozen HG.out 0
  have lG2 := blk_lt HG.out
  obtain ⟨A, c, rfl, hc, hC⟩ := hv
  have HN := Lib.hid (show Nat32 w2 (.slice A n.length c) n from ⟨A, c, rfl, hc, hC⟩)
  clear hC
  go_wp2_with fail
  refine (strings_CutPrefix.calls rest2 dotS after false _ hc2).mono ?_
  rintro e w3 ⟨rfl, hd⟩
  have hb := hd.below
  have nZ := Lib.hid (blk_below (blk_alloc (blk_alloc (HZ.out) _) _) hb)
  have nG := Lib.hid (blk_below (blk_alloc (blk_alloc (HG.out) _) _) hb)
  have nQ := Lib.hid (blk_below (blk_alloc (new_at _ _ (w2.heap.size) oz) _) hb)
  have nE := Lib.hid (blk_below (new_at _ _ (w2.heap.size + 1) oz) hb)
  have nN := Lib.hid ((((HN.out).below ((Below.refl _ _).alloc (Nat.le_refl _) _)).below ((Below.refl _ _).alloc (Nat.le_refl _) _)).below hb)
  have nB := Lib.hid ((((HB.out).alloc oz _).alloc oz _).trans (hb.mono oz))
  have hs3 := hb.size
  try simp only [World.size_alloc, World.size_setCell] at hs3
  clear HB HZ HG HN
  try clear cZ0 fZ0 cZ1 fZ1 cG0 fG0
  have HZ := nZ
  have HG := nG
  have HQ := nQ
  have HE := nE
  have HN := nN
  have HB := nB
  clear nB nZ nG nQ nE nN
  clear hb hd
  have cZ0 : w3.cell? ⟨w.heap.size, 0, none⟩ = some (Value.int .i64 0) := (blk_cell HZ.out 0).trans rfl
  have fZ0 := blk_frozen HZ.out 0
  have cZ1 : w3.cell? ⟨w.heap.size, 1, none⟩ = some (Value.int .i64 0) := (blk_cell HZ.out 1).trans rfl
  have fZ1 := blk_frozen HZ.out 1
  have lZ3 := blk_lt HZ.out
  have cG0 : w3.cell? ⟨w1.heap.size, 0, none⟩ = some (.bool neg) := (blk_cell HG.out 0).trans rfl
  have fG0 := blk_frozen HG.out 0
  have lG3 := blk_lt HG.out
  have cQ0 : w3.cell? ⟨w2.heap.size, 0, none⟩ = some (.slice A n.length c) := (blk_cell HQ.out 0).trans rfl
  have fQ0 := blk_frozen HQ.out 0
  have lQ3 := blk_lt HQ.out
  have cE0 : w3.cell? ⟨w2.heap.size + 1, 0, none⟩ = some (.int .i64 0) := (blk_cell HE.out 0).trans rfl
  have fE0 := blk_frozen HE.out 0
  have lE3 := blk_lt HE.out
  have hre : (rest2.toList == []) = false := by simpa using hrest
  have hri : rest2.toList.isEmpty = false := by simpa using hrest
  go_wp2_with fail
  refine (strings_CutPrefix.calls rest2 eS aft true _ hc3).mono ?_
  rintro e w4 ⟨rfl, hd⟩
  have hb := hd.below
  have nZ := Lib.hid (blk_below (blk_alloc (HZ.out) _) hb)
  have nG := Lib.hid (blk_below (blk_alloc (HG.out) _) hb)
  have nQ := Lib.hid (blk_below (blk_alloc (HQ.out) _) hb)
  have nE := Lib.hid (blk_below (blk_alloc (HE.out) _) hb)
  have nX := Lib.hid (blk_below (new_at _ _ (w3.heap.size) oz) hb)
  have nN := Lib.hid (((HN.out).below ((Below.refl _ _).alloc (Nat.le_refl _) _)).below hb)
  have nB := Lib.hid (((HB.out).alloc oz _).trans (hb.mono oz))
  have hs4 := hb.size
  try simp only [World.size_alloc, World.size_setCell] at hs4
  clear HB HZ HG HQ HE HN
  try clear cZ0 fZ0 cZ1 fZ1 cG0 fG0 cQ0 fQ0 cE0 fE0
  have HZ := nZ
  have HG := nG
  have HQ := nQ
  have HE := nE
  have HX := nX
  have HN := nN
  have HB := nB
  clear nB nZ nG nQ nE nX nN
  clear hb hd
  have cZ0 : w4.cell? ⟨w.heap.size, 0, none⟩ = some (Value.int .i64 0) := (blk_cell HZ.out 0).trans rfl
  have fZ0 := blk_frozen HZ.out 0
  have cZ1 : w4.cell? ⟨w.heap.size, 1, none⟩ = some (Value.int .i64 0) := (blk_cell HZ.out 1).trans rfl
  have fZ1 := blk_frozen HZ.out 1
  have lZ4 := blk_lt HZ.out
  have cG0 : w4.cell? ⟨w1.heap.size, 0, none⟩ = some (.bool neg) := (blk_cell HG.out 0).trans rfl
  have fG0 := blk_frozen HG.out 0
  have lG4 := blk_lt HG.out
  have cQ0 : w4.cell? ⟨w2.heap.size, 0, none⟩ = some (.slice A n.length c) := (blk_cell HQ.out 0).trans rfl
  have fQ0 := blk_frozen HQ.out 0
  have lQ4 := blk_lt HQ.out
  have cE0 : w4.cell? ⟨w2.heap.size + 1, 0, none⟩ = some (.int .i64 0) := (blk_cell HE.out 0).trans rfl
  have fE0 := blk_frozen HE.out 0
  have lE4 := blk_lt HE.out
  have cX0 : w4.cell? ⟨w3.heap.size, 0, none⟩ = some (.int .i64 0) := (blk_cell HX.out 0).trans rfl
  have fX0 := blk_frozen HX.out 0
  have lX4 := blk_lt HX.out
  go_wp2_with fail
  refine (real_exponent.calls aft x true _ hx).mono ?_
  rintro e w5 ⟨rfl, hb⟩
  have nZ := Lib.hid (blk_below (HZ.out) hb)
  have nG := Lib.hid (blk_below (HG.out) hb)
  have nQ := Lib.hid (blk_below (HQ.out) hb)
  have nE := Lib.hid (blk_below (HE.out) hb)
  have nX := Lib.hid (blk_below (HX.out) hb)
  have nN := Lib.hid ((HN.out).below hb)
  have nB := Lib.hid ((HB.out).trans (hb.mono oz))
  have hs5 := hb.size
  try simp only [World.size_alloc, World.size_setCell] at hs5
  clear HB HZ HG HQ HE HX HN
  try clear cZ0 fZ0 cZ1 fZ1 cG0 fG0 cQ0 fQ0 cE0 fE0 cX0 fX0
  have HZ := nZ
  have HG := nG
  have HQ := nQ
  have HE := nE
  have HX := nX
  have HN := nN
  have HB := nB
  clear nB nZ nG nQ nE nX nN
  clear hb
  have cZ0 : w5.cell? ⟨w.heap.size, 0, none⟩ = some (Value.int .i64 0) := (blk_cell HZ.out 0).trans rfl
  have fZ0 := blk_frozen HZ.out 0
  have cZ1 : w5.cell? ⟨w.heap.size, 1, none⟩ = some (Value.int .i64 0) := (blk_cell HZ.out 1).trans rfl
  have fZ1 := blk_frozen HZ.out 1
  have lZ5 := blk_lt HZ.out
  have cG0 : w5.cell? ⟨w1.heap.size, 0, none⟩ = some (.bool neg) := (blk_cell HG.out 0).trans rfl
  have fG0 := blk_frozen HG.out 0
  have lG5 := blk_lt HG.out
  have cQ0 : w5.cell? ⟨w2.heap.size, 0, none⟩ = some (.slice A n.length c) := (blk_cell HQ.out 0).trans rfl
  have fQ0 := blk_frozen HQ.out 0
  have lQ5 := blk_lt HQ.out
  have cE0 : w5.cell? ⟨w2.heap.size + 1, 0, none⟩ = some (.int .i64 0) := (blk_cell HE.out 0).trans rfl
  have fE0 := blk_frozen HE.out 0
  have lE5 := blk_lt HE.out
  have cX0 : w5.cell? ⟨w3.heap.size, 0, none⟩ = some (.int .i64 0) := (blk_cell HX.out 0).trans rfl
  have fX0 := blk_frozen HX.out 0
  have lX5 := blk_lt HX.out
  have hmf : ∀ (fn : Fn) (first cap : Array Value) (w : World), (Instr.makeFunc fn first cap).run Tryz.prog w = .ok (.func fn first cap) w := fun _ _ _ _ => rfl
  have HD1 := Lib.hid hd1
  have HS1 := Lib.hid hsg
  have HT1 := Lib.hid ht
  clear hd1 hsg ht
  skip
  go_wp2_with fail
  refine (caught_t 79 _ r1 r2 t0 t1 t2 HT1.out _ (fun args w => enters_ Tryz.func79 (by kernel_rfl) rfl args w) (fun w' h' => parse1_n k neg n A c x 0 m y r1 r2 HD1.out HS1.out _ _ _ _ w' (blk_below ((heap_setCell_other _ _ _ _ (by simp only; omega)).trans (HG.out)) h') (blk_below ((heap_setCell_other _ _ _ _ (by simp only; omega)).trans (HQ.out)) h') (blk_below (heap_setCell_same _ _ 0 _ _ _ (HX.out)) h') (blk_below ((heap_setCell_other _ _ _ _ (by simp only; omega)).trans (HE.out)) h') ((nat32_set (HN.out) (HX.out) (fun _ h => by cases h)).below h'))).mono ?_
  rintro e w6 ⟨rfl, hb⟩
  have nZ := Lib.hid (blk_below ((heap_setCell_other _ _ _ _ (by simp only; omega)).trans (HZ.out)) hb)
  have nG := Lib.hid (blk_below ((heap_setCell_other _ _ _ _ (by simp only; omega)).trans (HG.out)) hb)
  have nQ := Lib.hid (blk_below ((heap_setCell_other _ _ _ _ (by simp only; omega)).trans (HQ.out)) hb)
  have nE := Lib.hid (blk_below ((heap_setCell_other _ _ _ _ (by simp only; omega)).trans (HE.out)) hb)
  have nX := Lib.hid (blk_below (heap_setCell_same _ _ 0 _ _ _ (HX.out)) hb)
  have nN := Lib.hid ((nat32_set (HN.out) (HX.out) (fun _ h => by cases h)).below hb)
  have nB := Lib.hid (((HB.out).setCell (p := ⟨w3.heap.size, 0, none⟩) (by simp only; omega) _).trans (hb.mono oz))
  have hs6 := hb.size
  try simp only [World.size_alloc, World.size_setCell] at hs6
  clear HB HZ HG HQ HE HX HN
  try clear cZ0 fZ0 cZ1 fZ1 cG0 fG0 cQ0 fQ0 cE0 fE0 cX0 fX0
  have HZ := nZ
  have HG := nG
  have HQ := nQ
  have HE := nE
  have HX := nX
  have HN := nN
  have HB := nB
  clear nB nZ nG nQ nE nX nN
  clear hb
  have cZ0 : w6.cell? ⟨w.heap.size, 0, none⟩ = some (Value.int .i64 0) := (blk_cell HZ.out 0).trans rfl
  have fZ0 := blk_frozen HZ.out 0
  have cZ1 : w6.cell? ⟨w.heap.size, 1, none⟩ = some (Value.int .i64 0) := (blk_cell HZ.out 1).trans rfl
  have fZ1 := blk_frozen HZ.out 1
  have lZ6 := blk_lt HZ.out
  have cG0 : w6.cell? ⟨w1.heap.size, 0, none⟩ = some (.bool neg) := (blk_cell HG.out 0).trans rfl
  have fG0 := blk_frozen HG.out 0
  have lG6 := blk_lt HG.out
  have cQ0 : w6.cell? ⟨w2.heap.size, 0, none⟩ = some (.slice A n.length c) := (blk_cell HQ.out 0).trans rfl
  have fQ0 := blk_frozen HQ.out 0
  have lQ6 := blk_lt HQ.out
  have cE0 : w6.cell? ⟨w2.heap.size + 1, 0, none⟩ = some (.int .i64 0) := (blk_cell HE.out 0).trans rfl
  have fE0 := blk_frozen HE.out 0
  have lE6 := blk_lt HE.out
  have cX0 : w6.cell? ⟨w3.heap.size, 0, none⟩ = some (.int .i64 x) := (blk_cell HX.out 0).trans rfl
  have fX0 := blk_frozen HX.out 0
  have lX6 := blk_lt HX.out
  go_wp2
  have fz : ((w6.setCell ⟨w.heap.size, 0, none⟩ (.int .i64 t0)).setCell ⟨w.heap.size, 1, none⟩ (.int .i64 t1)).heap[w.heap.size]? = some (.cells #[Value.int .i64 t0, Value.int .i64 t1] 23 (0, 0)) := heap_setCell_same _ _ 1 _ _ _ (heap_setCell_same _ _ 0 _ _ _ (HZ.out))
  refine bodyPost_ret (results_ct rfl _ _ (w.heap.size) 23 #[.int .i64 t0, .int .i64 t1] (0, 0) _ rfl fz Tryz.underlying23 rfl (by kernel_rfl)) rfl ?_
  exact ⟨rfl, ((HB.out).setCell (p := ⟨w.heap.size, 0, none⟩) (by simp only; omega) _).setCell (p := ⟨w.heap.size, 1, none⟩) (by simp only; omega) _⟩
theorem parse_PZ (k : Nat) (s : ByteArray) (w : World) (hsz : ¬ (s.size : Int) > 60) (rest : ByteArray) (neg : Bool) (hc1 : strings_CutPrefix.f s minusS = some (rest, neg)) (n : List Int) (many : Int) (rest2 : ByteArray) (hn1 : real_number.f k rest [] = some (n, many, rest2)) (hmany : ¬ many = 0) (after : ByteArray) (hc2 : strings_CutPrefix.f rest2 dotS = some (after, true)) (n2 : List Int) (behind : Int) (rest3 : ByteArray) (hn2 : real_number.f k after n = some (n2, behind, rest3)) (hbeh : ¬ behind = 0) (hrest : rest3.toList = []) (m y r1 r2 t0 t1 t2 : Int) (hd1 : real_decimal.f k n2 (wrap64 (0 - behind)) = some (m, y)) (hsg : real_signed.f neg m y = some (r1, r2)) (ht : caughtS r1 r2 = (t0, t1, t2)) :
    Calls Tryz.prog 25 #[.string s] w fun e w' => e = .returned (.tuple #[.agg #[.int .i64 t0, .int .i64 t1], .int .i64 t2]) ∧ Below w.heap.size w w' := by
  have HB := Lib.hid (Below.refl w.heap.size w)
  go_enter Tryz.func25, Tryz.ntmps25
  go_wp2_with fail
  refine (strings_CutPrefix.calls s minusS rest neg _ hc1).mono ?_
  rintro e w1 ⟨rfl, hd⟩
  have hb := hd.below
  have nZ := Lib.hid (blk_below (new_at _ _ (w.heap.size) oz) hb)
  have nB := Lib.hid (((HB.out).alloc oz _).trans (hb.mono oz))
  have hs1 := hb.size
  try simp only [World.size_alloc, World.size_setCell] at hs1
  clear HB
  have HZ := nZ
  have HB := nB
  clear nB nZ
  clear hb hd
  have cZ0 : w1.cell? ⟨w.heap.size, 0, none⟩ = some (Value.int .i64 0) := (blk_cell HZ.out 0).trans rfl
  have fZ0 := blk_frozen HZ.out 0
  have cZ1 : w1.cell? ⟨w.heap.size, 1, none⟩ = some (Value.int .i64 0) := (blk_cell HZ.out 1).trans rfl
  have fZ1 := blk_frozen HZ.out 1
  have lZ1 := blk_lt HZ.out
  go_wp2_with fail
  refine (number_c k rest none 0 [] n many rest2 _ (nil_C _) (Nat.zero_le _) hn1).mono ?_
  rintro e w2 ⟨⟨v, hv, rfl⟩, hb⟩
  have nZ := Lib.hid (blk_below (blk_alloc (HZ.out) _) hb)
  have nG := Lib.hid (blk_below (new_at _ _ (w1.heap.size) oz) hb)
  have nB := Lib.hid (((HB.out).alloc oz _).trans (hb.mono oz))
  have hs2 := hb.size
  try simp only [World.size_alloc, World.size_setCell] at hs2
  clear HB HZ
  try clear cZ0 fZ0 cZ1 fZ1
  have HZ := nZ
  have HG := nG
  have HB := nB
  clear nB nZ nG
  clear hb
  have cZ0 : w2.cell? ⟨w.heap.size, 0, none⟩ = some (Value.int .i64 0) := (blk_cell HZ.out 0).trans rfl
  have fZ0 := blk_frozen HZ.out 0
  have cZ1 : w2.cell? ⟨w.heap.size, 1, none⟩ = some (Value.int .i64 0) := (blk_cell HZ.out 1).trans rfl
  have fZ1 := blk_frozen HZ.out 1
  have lZ2 := blk_lt HZ.out
  have cG0 : w2.cell? ⟨w1.heap.size, 0, none⟩ = some (.bool neg) := (blk_cell HG.out 0).trans rfl
  have fG0 := blk_frozen HG.out 0
  have lG2 := blk_lt HG.out
  obtain ⟨A, c, rfl, hc, hC⟩ := hv
  have HN := Lib.hid (show Nat32 w2 (.slice A n.length c) n from ⟨A, c, rfl, hc, hC⟩)
  clear hC
  go_wp2_with fail
  refine (strings_CutPrefix.calls rest2 dotS after true _ hc2).mono ?_
  rintro e w3 ⟨rfl, hd⟩
  have hb := hd.below
  have nZ := Lib.hid (blk_below (blk_alloc (blk_alloc (HZ.out) _) _) hb)
  have nG := Lib.hid (blk_below (blk_alloc (blk_alloc (HG.out) _) _) hb)
  have nQ := Lib.hid (blk_below (blk_alloc (new_at _ _ (w2.heap.size) oz) _) hb)
  have nE := Lib.hid (blk_below (new_at _ _ (w2.heap.size + 1) oz) hb)
  have nN := Lib.hid ((((HN.out).below ((Below.refl _ _).alloc (Nat.le_refl _) _)).below ((Below.refl _ _).alloc (Nat.le_refl _) _)).below hb)
  have nB := Lib.hid ((((HB.out).alloc oz _).alloc oz _).trans (hb.mono oz))
  have hs3 := hb.size
  try simp only [World.size_alloc, World.size_setCell] at hs3
  clear HB HZ HG HN
  try clear cZ0 fZ0 cZ1 fZ1 cG0 fG0
  have HZ := nZ
  have HG := nG
  have HQ := nQ
  have HE := nE
  have HN := nN
  have HB := nB
  clear nB nZ nG nQ nE nN
  clear hb hd
  have cZ0 : w3.cell? ⟨w.heap.size, 0, none⟩ = some (Value.int .i64 0) := (blk_cell HZ.out 0).trans rfl
  have fZ0 := blk_frozen HZ.out 0
  have cZ1 : w3.cell? ⟨w.heap.size, 1, none⟩ = some (Value.int .i64 0) := (blk_cell HZ.out 1).trans rfl
  have fZ1 := blk_frozen HZ.out 1
  have lZ3 := blk_lt HZ.out
  have cG0 : w3.cell? ⟨w1.heap.size, 0, none⟩ = some (.bool neg) := (blk_cell HG.out 0).trans rfl
  have fG0 := blk_frozen HG.out 0
  have lG3 := blk_lt HG.out
  have cQ0 : w3.cell? ⟨w2.heap.size, 0, none⟩ = some (.slice A n.length c) := (blk_cell HQ.out 0).trans rfl
  have fQ0 := blk_frozen HQ.out 0
  have lQ3 := blk_lt HQ.out
  have cE0 : w3.cell? ⟨w2.heap.size + 1, 0, none⟩ = some (.int .i64 0) := (blk_cell HE.out 0).trans rfl
  have fE0 := blk_frozen HE.out 0
  have lE3 := blk_lt HE.out
  have HN32 := HN.out
  obtain ⟨A', c', heq, hcc, hCC⟩ := HN32
  cases heq
  go_wp2_with fail
  refine (number_c k after A c n n2 behind rest3 _ hCC hcc hn2).mono ?_
  rintro e w4 ⟨⟨v, hv, rfl⟩, hb⟩
  have nZ := Lib.hid (blk_below (HZ.out) hb)
  have nG := Lib.hid (blk_below (HG.out) hb)
  have nQ := Lib.hid (blk_below (HQ.out) hb)
  have nE := Lib.hid (blk_below (HE.out) hb)
  have nN := Lib.hid ((HN.out).below hb)
  have nB := Lib.hid ((HB.out).trans (hb.mono oz))
  have hs4 := hb.size
  try simp only [World.size_alloc, World.size_setCell] at hs4
  clear HB HZ HG HQ HE HN
  try clear cZ0 fZ0 cZ1 fZ1 cG0 fG0 cQ0 fQ0 cE0 fE0
  have HZ := nZ
  have HG := nG
  have HQ := nQ
  have HE := nE
  have HN := nN
  have HB := nB
  clear nB nZ nG nQ nE nN
  clear hb
  have cZ0 : w4.cell? ⟨w.heap.size, 0, none⟩ = some (Value.int .i64 0) := (blk_cell HZ.out 0).trans rfl
  have fZ0 := blk_frozen HZ.out 0
  have cZ1 : w4.cell? ⟨w.heap.size, 1, none⟩ = some (Value.int .i64 0) := (blk_cell HZ.out 1).trans rfl
  have fZ1 := blk_frozen HZ.out 1
  have lZ4 := blk_lt HZ.out
  have cG0 : w4.cell? ⟨w1.heap.size, 0, none⟩ = some (.bool neg) := (blk_cell HG.out 0).trans rfl
  have fG0 := blk_frozen HG.out 0
  have lG4 := blk_lt HG.out
  have cQ0 : w4.cell? ⟨w2.heap.size, 0, none⟩ = some (.slice A n.length c) := (blk_cell HQ.out 0).trans rfl
  have fQ0 := blk_frozen HQ.out 0
  have lQ4 := blk_lt HQ.out
  have cE0 : w4.cell? ⟨w2.heap.size + 1, 0, none⟩ = some (.int .i64 0) := (blk_cell HE.out 0).trans rfl
  have fE0 := blk_frozen HE.out 0
  have lE4 := blk_lt HE.out
  clear HN hCC
  obtain ⟨A2, c2, rfl, hc2', hC2⟩ := hv
  have HN := Lib.hid (show Nat32 w4 (.slice A2 n2.length c2) n2 from ⟨A2, c2, rfl, hc2', hC2⟩)
  clear hC2
  have hre : (rest3.toList == []) = true := by simp [hrest]
  have hri : rest3.toList.isEmpty = true := by simp [hrest]
  have hmf : ∀ (fn : Fn) (first cap : Array Value) (w : World), (Instr.makeFunc fn first cap).run Tryz.prog w = .ok (.func fn first cap) w := fun _ _ _ _ => rfl
  have HD1 := Lib.hid hd1
  have HS1 := Lib.hid hsg
  have HT1 := Lib.hid ht
  clear hd1 hsg ht
  skip
  go_wp2_with fail
  refine (caught_t 79 _ r1 r2 t0 t1 t2 HT1.out _ (fun args w => enters_ Tryz.func79 (by kernel_rfl) rfl args w) (fun w' h' => parse1_n k neg n2 A2 c2 0 behind m y r1 r2 HD1.out HS1.out _ _ _ _ w' (blk_below (blk_alloc ((heap_setCell_other _ _ _ _ (by simp only; omega)).trans ((heap_setCell_other _ _ _ _ (by simp only; omega)).trans (HG.out))) _) h') (blk_below (blk_alloc ((heap_setCell_other _ _ _ _ (by simp only; omega)).trans (heap_setCell_same _ _ 0 _ _ _ (HQ.out))) _) h') (blk_below (new_at _ _ (w4.heap.size) oz) h') (blk_below (blk_alloc (heap_setCell_same _ _ 0 _ _ _ ((heap_setCell_other _ _ _ _ (by simp only; omega)).trans (HE.out))) _) h') (((nat32_set (nat32_set (HN.out) (HQ.out) (fun _ h => by cases h)) ((heap_setCell_other _ _ _ _ (by simp only; omega)).trans (HE.out)) (fun _ h => by cases h)).below ((Below.refl _ _).alloc (Nat.le_refl _) _)).below h'))).mono ?_
  rintro e w5 ⟨rfl, hb⟩
  have nZ := Lib.hid (blk_below (blk_alloc ((heap_setCell_other _ _ _ _ (by simp only; omega)).trans ((heap_setCell_other _ _ _ _ (by simp only; omega)).trans (HZ.out))) _) hb)
  have nG := Lib.hid (blk_below (blk_alloc ((heap_setCell_other _ _ _ _ (by simp only; omega)).trans ((heap_setCell_other _ _ _ _ (by simp only; omega)).trans (HG.out))) _) hb)
  have nQ := Lib.hid (blk_below (blk_alloc ((heap_setCell_other _ _ _ _ (by simp only; omega)).trans (heap_setCell_same _ _ 0 _ _ _ (HQ.out))) _) hb)
  have nE := Lib.hid (blk_below (blk_alloc (heap_setCell_same _ _ 0 _ _ _ ((heap_setCell_other _ _ _ _ (by simp only; omega)).trans (HE.out))) _) hb)
  have nX := Lib.hid (blk_below (new_at _ _ (w4.heap.size) oz) hb)
  have nN := Lib.hid (((nat32_set (nat32_set (HN.out) (HQ.out) (fun _ h => by cases h)) ((heap_setCell_other _ _ _ _ (by simp only; omega)).trans (HE.out)) (fun _ h => by cases h)).below ((Below.refl _ _).alloc (Nat.le_refl _) _)).below hb)
  have nB := Lib.hid (((((HB.out).setCell (p := ⟨w2.heap.size, 0, none⟩) (by simp only; omega) _).setCell (p := ⟨w2.heap.size + 1, 0, none⟩) (by simp only; omega) _).alloc oz _).trans (hb.mono oz))
  have hs5 := hb.size
  try simp only [World.size_alloc, World.size_setCell] at hs5
  clear HB HZ HG HQ HE HN
  try clear cZ0 fZ0 cZ1 fZ1 cG0 fG0 cQ0 fQ0 cE0 fE0
  have HZ := nZ
  have HG := nG
  have HQ := nQ
  have HE := nE
  have HX := nX
  have HN := nN
  have HB := nB
  clear nB nZ nG nQ nE nX nN
  clear hb
  have cZ0 : w5.cell? ⟨w.heap.size, 0, none⟩ = some (Value.int .i64 0) := (blk_cell HZ.out 0).trans rfl
  have fZ0 := blk_frozen HZ.out 0
  have cZ1 : w5.cell? ⟨w.heap.size, 1, none⟩ = some (Value.int .i64 0) := (blk_cell HZ.out 1).trans rfl
  have fZ1 := blk_frozen HZ.out 1
  have lZ5 := blk_lt HZ.out
  have cG0 : w5.cell? ⟨w1.heap.size, 0, none⟩ = some (.bool neg) := (blk_cell HG.out 0).trans rfl
  have fG0 := blk_frozen HG.out 0
  have lG5 := blk_lt HG.out
  have cQ0 : w5.cell? ⟨w2.heap.size, 0, none⟩ = some (.slice A2 n2.length c2) := (blk_cell HQ.out 0).trans rfl
  have fQ0 := blk_frozen HQ.out 0
  have lQ5 := blk_lt HQ.out
  have cE0 : w5.cell? ⟨w2.heap.size + 1, 0, none⟩ = some (.int .i64 behind) := (blk_cell HE.out 0).trans rfl
  have fE0 := blk_frozen HE.out 0
  have lE5 := blk_lt HE.out
  have cX0 : w5.cell? ⟨w4.heap.size, 0, none⟩ = some (.int .i64 0) := (blk_cell HX.out 0).trans rfl
  have fX0 := blk_frozen HX.out 0
  have lX5 := blk_lt HX.out
  go_wp2
  have fz : ((w5.setCell ⟨w.heap.size, 0, none⟩ (.int .i64 t0)).setCell ⟨w.heap.size, 1, none⟩ (.int .i64 t1)).heap[w.heap.size]? = some (.cells #[Value.int .i64 t0, Value.int .i64 t1] 23 (0, 0)) := heap_setCell_same _ _ 1 _ _ _ (heap_setCell_same _ _ 0 _ _ _ (HZ.out))
  refine bodyPost_ret (results_ct rfl _ _ (w.heap.size) 23 #[.int .i64 t0, .int .i64 t1] (0, 0) _ rfl fz Tryz.underlying23 rfl (by kernel_rfl)) rfl ?_
  exact ⟨rfl, ((HB.out).setCell (p := ⟨w.heap.size, 0, none⟩) (by simp only; omega) _).setCell (p := ⟨w.heap.size, 1, none⟩) (by simp only; omega) _⟩
def parseFin (k : Nat) (neg : Bool) (n : List Int) (exp behind : Int) : Option (Int × Int × Int) :=
  (real_decimal.f k n (wrap64 (exp - behind))).bind fun d => (real_signed.f neg d.1 d.2).bind fun r => some (caughtS r.1 r.2)
def parseExp (k : Nat) (neg : Bool) (n : List Int) (behind : Int) (rest : ByteArray) : Option (Int × Int × Int) :=
  if rest.toList = [] then parseFin k neg n 0 behind else (strings_CutPrefix.f rest eS).bind fun a => (real_exponent.f a.1).bind fun x => if a.2 = true then (if x.2 = true then parseFin k neg n x.1 behind else some (0, 0, 7)) else some (0, 0, 7)
def real_Parse.f (k : Nat) (s : ByteArray) : Option (Int × Int × Int) :=
  if (s.size : Int) > 60 then some (0, 0, 7) else (strings_CutPrefix.f s minusS).bind fun a => (real_number.f k a.1 []).bind fun n => if n.2.1 = 0 then some (0, 0, 7) else
    (strings_CutPrefix.f n.2.2 dotS).bind fun b => if b.2 = true then ((real_number.f k b.1 n.1).bind fun m => if m.2.1 = 0 then some (0, 0, 7) else parseExp k a.2 m.1 m.2.1 m.2.2) else parseExp k a.2 n.1 0 n.2.2
theorem real_number.mono (s : ByteArray) (n : List Int) (k : Nat) : LeO (real_number.f k s n) (real_number.f (k + 1) s n) := LeO.ite (LeO.bind (numL_mono _ _ _) (fun _ => LeO.refl _)) (LeO.refl _)
theorem parseFin_mono (neg : Bool) (n : List Int) (exp behind : Int) (k : Nat) : LeO (parseFin k neg n exp behind) (parseFin (k + 1) neg n exp behind) := LeO.bind (real_decimal.mono _ _ _) (fun _ => LeO.refl _)
theorem parseExp_mono (neg : Bool) (n : List Int) (behind : Int) (rest : ByteArray) (k : Nat) : LeO (parseExp k neg n behind rest) (parseExp (k + 1) neg n behind rest) :=
  LeO.ite (parseFin_mono _ _ _ _ _) (LeO.bind (LeO.refl _) (fun _ => LeO.bind (LeO.refl _) (fun _ => LeO.ite (LeO.ite (parseFin_mono _ _ _ _ _) (LeO.refl _)) (LeO.refl _))))
theorem real_Parse.mono (s : ByteArray) (k : Nat) : LeO (real_Parse.f k s) (real_Parse.f (k + 1) s) :=
  LeO.ite (LeO.refl _) (LeO.bind (LeO.refl _) (fun _ => LeO.bind (real_number.mono _ _ _) (fun _ => LeO.ite (LeO.refl _) (LeO.bind (LeO.refl _) (fun _ => LeO.ite (LeO.bind (real_number.mono _ _ _) (fun _ => LeO.ite (LeO.refl _) (parseExp_mono _ _ _ _ _))) (parseExp_mono _ _ _ _ _))))))
theorem num_parts {k : Nat} {s : ByteArray} {l n : List Int} {many : Int} {rest : ByteArray} (h : real_number.f k s l = some (n, many, rest)) : many = ((digs s).length : Int) ∧ rest = s.extract (digs s).length s.size := by
  unfold real_number.f at h
  by_cases hs : l.length + s.size < 100000000000
  · rw [if_pos hs] at h
    obtain ⟨r, _, h⟩ := Option.bind_eq_some_iff.mp h
    simp only [Option.some.injEq, Prod.mk.injEq] at h
    exact ⟨h.2.1.symm, h.2.2.symm⟩
  · rw [if_neg hs] at h; cases h
theorem real_Parse.calls01 (k : Nat) (r1 r2 r3 : Int) (w : World) (h : real_Parse.f k (⟨#[48, 46, 49]⟩ : ByteArray) = some (r1, r2, r3)) :
    Calls Tryz.prog 25 #[.string (⟨#[48, 46, 49]⟩ : ByteArray)] w fun e w' => e = .returned (.tuple #[.agg #[.int .i64 r1, .int .i64 r2], .int .i64 r3]) ∧ Below w.heap.size w w' := by
  have hsz : ¬ (((⟨#[48, 46, 49]⟩ : ByteArray).size : Int) > 60) := by decide
  unfold real_Parse.f at h
  rw [if_neg hsz] at h
  obtain ⟨⟨rest, neg⟩, hc1, h⟩ := Option.bind_eq_some_iff.mp h
  have e1 : strings_CutPrefix.f (⟨#[48, 46, 49]⟩ : ByteArray) minusS = some ((⟨#[48, 46, 49]⟩ : ByteArray), false) := by kernel_rfl
  have e2 := Option.some.inj (hc1.symm.trans e1)
  obtain ⟨rfl, rfl⟩ := Prod.mk.inj e2
  clear e1 e2
  obtain ⟨⟨n, many, rest2⟩, hn1, h⟩ := Option.bind_eq_some_iff.mp h
  simp only at hn1 h
  obtain ⟨hm1, hr1⟩ := num_parts hn1
  have d1 : ((digs (⟨#[48, 46, 49]⟩ : ByteArray)).length : Int) = 1 := by kernel_rfl
  rw [d1] at hm1
  have x1 : (⟨#[48, 46, 49]⟩ : ByteArray).extract (digs (⟨#[48, 46, 49]⟩ : ByteArray)).length (⟨#[48, 46, 49]⟩ : ByteArray).size = (⟨#[46, 49]⟩ : ByteArray) := by kernel_rfl
  rw [x1] at hr1
  subst hm1 hr1
  have hm : ¬ ((1 : Int) = 0) := by decide
  rw [if_neg hm] at h
  obtain ⟨⟨after, point⟩, hc2, h⟩ := Option.bind_eq_some_iff.mp h
  simp only at hc2 h
  have e1 : strings_CutPrefix.f (⟨#[46, 49]⟩ : ByteArray) dotS = some ((⟨#[49]⟩ : ByteArray), true) := by kernel_rfl
  have e2 := Option.some.inj (hc2.symm.trans e1)
  obtain ⟨rfl, rfl⟩ := Prod.mk.inj e2
  clear e1 e2
  rw [if_pos rfl] at h
  obtain ⟨⟨n2, behind, rest3⟩, hn2, h⟩ := Option.bind_eq_some_iff.mp h
  simp only at hn2 h
  obtain ⟨hm2, hr2⟩ := num_parts hn2
  have d2 : ((digs (⟨#[49]⟩ : ByteArray)).length : Int) = 1 := by kernel_rfl
  rw [d2] at hm2
  have x2 : (⟨#[49]⟩ : ByteArray).extract (digs (⟨#[49]⟩ : ByteArray)).length (⟨#[49]⟩ : ByteArray).size = ByteArray.empty := by kernel_rfl
  rw [x2] at hr2
  subst hm2 hr2
  rw [if_neg hm] at h
  unfold parseExp at h
  have hr : ByteArray.empty.toList = [] := by decide +kernel
  rw [if_pos hr] at h
  obtain ⟨⟨m, y⟩, hd, h⟩ := Option.bind_eq_some_iff.mp h
  obtain ⟨⟨a, b⟩, hg, h⟩ := Option.bind_eq_some_iff.mp h
  exact parse_PZ k _ w hsz _ _ hc1 n 1 _ hn1 hm _ hc2 n2 1 _ hn2 hm hr m y a b r1 r2 r3 hd hg (Option.some.inj h)
theorem real_Parse.calls1e (k : Nat) (r1 r2 r3 : Int) (w : World) (h : real_Parse.f k (⟨#[49, 101, 54, 48]⟩ : ByteArray) = some (r1, r2, r3)) :
    Calls Tryz.prog 25 #[.string (⟨#[49, 101, 54, 48]⟩ : ByteArray)] w fun e w' => e = .returned (.tuple #[.agg #[.int .i64 r1, .int .i64 r2], .int .i64 r3]) ∧ Below w.heap.size w w' := by
  have hsz : ¬ (((⟨#[49, 101, 54, 48]⟩ : ByteArray).size : Int) > 60) := by decide
  unfold real_Parse.f at h
  rw [if_neg hsz] at h
  obtain ⟨⟨rest, neg⟩, hc1, h⟩ := Option.bind_eq_some_iff.mp h
  have e1 : strings_CutPrefix.f (⟨#[49, 101, 54, 48]⟩ : ByteArray) minusS = some ((⟨#[49, 101, 54, 48]⟩ : ByteArray), false) := by kernel_rfl
  have e2 := Option.some.inj (hc1.symm.trans e1)
  obtain ⟨rfl, rfl⟩ := Prod.mk.inj e2
  clear e1 e2
  obtain ⟨⟨n, many, rest2⟩, hn1, h⟩ := Option.bind_eq_some_iff.mp h
  simp only at hn1 h
  obtain ⟨hm1, hr1⟩ := num_parts hn1
  have d1 : ((digs (⟨#[49, 101, 54, 48]⟩ : ByteArray)).length : Int) = 1 := by kernel_rfl
  rw [d1] at hm1
  have x1 : (⟨#[49, 101, 54, 48]⟩ : ByteArray).extract (digs (⟨#[49, 101, 54, 48]⟩ : ByteArray)).length (⟨#[49, 101, 54, 48]⟩ : ByteArray).size = (⟨#[101, 54, 48]⟩ : ByteArray) := by kernel_rfl
  rw [x1] at hr1
  subst hm1 hr1
  have hm : ¬ ((1 : Int) = 0) := by decide
  rw [if_neg hm] at h
  obtain ⟨⟨after, point⟩, hc2, h⟩ := Option.bind_eq_some_iff.mp h
  simp only at hc2 h
  have e1 : strings_CutPrefix.f (⟨#[101, 54, 48]⟩ : ByteArray) dotS = some ((⟨#[101, 54, 48]⟩ : ByteArray), false) := by kernel_rfl
  have e2 := Option.some.inj (hc2.symm.trans e1)
  obtain ⟨rfl, rfl⟩ := Prod.mk.inj e2
  clear e1 e2
  rw [if_neg (by decide)] at h
  unfold parseExp at h
  have hr : ¬ ((⟨#[101, 54, 48]⟩ : ByteArray).toList = []) := by decide +kernel
  rw [if_neg hr] at h
  obtain ⟨⟨aft, is⟩, hc3, h⟩ := Option.bind_eq_some_iff.mp h
  have e1 : strings_CutPrefix.f (⟨#[101, 54, 48]⟩ : ByteArray) eS = some ((⟨#[54, 48]⟩ : ByteArray), true) := by kernel_rfl
  have e2 := Option.some.inj (hc3.symm.trans e1)
  obtain ⟨rfl, rfl⟩ := Prod.mk.inj e2
  clear e1 e2
  obtain ⟨⟨x, ok⟩, hx, h⟩ := Option.bind_eq_some_iff.mp h
  simp only at hx h
  rw [if_pos trivial] at h
  have e3 : (real_exponent.f (⟨#[54, 48]⟩ : ByteArray)).map (·.2) = some true := by kernel_rfl
  rw [hx] at e3
  obtain rfl : ok = true := Option.some.inj e3
  rw [if_pos rfl] at h
  obtain ⟨⟨m, y⟩, hd, h⟩ := Option.bind_eq_some_iff.mp h
  obtain ⟨⟨a, b⟩, hg, h⟩ := Option.bind_eq_some_iff.mp h
  exact parse_F k _ w hsz _ _ hc1 n 1 _ hn1 hm _ hc2 hr _ x hc3 hx m y a b r1 r2 r3 hd hg (Option.some.inj h)
def real_FromIntN.f (k : Nat) (a0 : Int) : Option (Int × Int) := (real_FromInt.f k a0).bind fun r => if r.2 = 1000 then none else some r
theorem real_FromIntN.mono (a0 : Int) (k : Nat) : LeO (real_FromIntN.f k a0) (real_FromIntN.f (k + 1) a0) := LeO.bind (real_FromInt.mono _ _) (fun _ => LeO.refl _)
theorem real_FromIntN.calls (k : Nat) (a0 : Int) (r1 r2 : Int) (w : World) (h : real_FromIntN.f k a0 = some (r1, r2)) :
    Calls Tryz.prog 31 #[.int .i64 a0] w fun e w' => e = .returned (.agg #[.int .i64 r1, .int .i64 r2]) ∧ Below w.heap.size w w' := by
  obtain ⟨⟨m, x⟩, h1, h2⟩ := Option.bind_eq_some_iff.mp h
  by_cases hx : x = 1000
  · rw [if_pos hx] at h2; cases h2
  · rw [if_neg hx] at h2
    cases h2
    refine (real_FromInt.calls k a0 r1 r2 w h1).mono ?_
    rintro e w' ⟨rfl, hb⟩
    exact ⟨ending_at hx, hb⟩
theorem real_Add.mono (a0 a1 a2 a3 : Int) (k : Nat) : LeO (real_Add.f k a0 a1 a2 a3) (real_Add.f (k + 1) a0 a1 a2 a3) := LeO.bind (LeO.refl _) (fun _ => LeO.bind (LeO.refl _) (fun _ => LeO.ite (LeO.bind (real_sum.mono _ _ _ _ _) (fun _ => LeO.refl _)) (LeO.refl _)))
theorem real_Div.mono (a0 a1 a2 a3 : Int) (k : Nat) : LeO (real_Div.f k a0 a1 a2 a3) (real_Div.f (k + 1) a0 a1 a2 a3) := LeO.bind (LeO.refl _) (fun _ => LeO.bind (LeO.refl _) (fun _ => LeO.ite (LeO.ite (LeO.refl _) (LeO.bind (real_quotient.mono _ _ _ _ _) (fun _ => LeO.refl _))) (LeO.refl _)))
/-- Pow of 0 with an exponent below 0; whatever else it does is not told here. -/
def real_PowZ.f (a0_0 a0_1 a1 : Int) : Option (Int × Int × Int) := if a0_0 = 0 ∧ a0_1 = 0 ∧ a1 < 0 then some (0, 0, 5) else none
theorem real_PowZ.calls (a0_0 a0_1 a1 r1 r2 r3 : Int) (w : World) (h : real_PowZ.f a0_0 a0_1 a1 = some (r1, r2, r3)) :
    Calls Tryz.prog 17 #[.agg #[.int .i64 a0_0, .int .i64 a0_1], .int .i64 a1] w fun e w' => e = .returned (.tuple #[.agg #[.int .i64 r1, .int .i64 r2], .int .i64 r3]) ∧ Below w.heap.size w w' := by
  unfold real_PowZ.f at h
  by_cases hc : a0_0 = 0 ∧ a0_1 = 0 ∧ a1 < 0
  · rw [if_pos hc] at h
    cases h
    obtain ⟨rfl, rfl, hn⟩ := hc
    go_enter Tryz.func17, Tryz.ntmps17
    go_wp2_with fail
    refine (real_Valid.calls 0 0 true _ (by rfl)).mono ?_
    rintro e w1 ⟨rfl, hb⟩
    have hz : w1.heap[w.heap.size + 1 + 1]? = some (.cells #[.int .i64 0, .int .i64 0] 23 (0, 0)) := blk_below (new_at _ _ _ (by simp only [World.size_alloc])) hb
    have kx : w1.heap[w.heap.size]? = some (.cells #[.int .i64 0, .int .i64 0] 23 (0, 0)) := blk_below (blk_alloc (blk_alloc (new_at _ _ _ rfl) _) _) hb
    have kn : w1.heap[w.heap.size + 1]? = some (.cells #[.int .i64 a1] 3 (0, 0)) := blk_below (blk_alloc (new_at _ _ _ (by simp only [World.size_alloc])) _) hb
    have hB : Below w.heap.size w w1 := ((((Below.refl _ w).alloc (Nat.le_refl _) _).alloc (by simp only [World.size_alloc]; omega) _).alloc (by simp only [World.size_alloc]; omega) _).trans (hb.mono (by simp only [World.size_alloc]; omega))
    have x0 : w1.cell? ⟨w.heap.size, 0, none⟩ = some (.int .i64 0) := (blk_cell kx 0).trans rfl
    have n0 : w1.cell? ⟨w.heap.size + 1, 0, none⟩ = some (.int .i64 a1) := (blk_cell kn 0).trans rfl
    have z0 : w1.cell? ⟨w.heap.size + 1 + 1, 0, none⟩ = some (.int .i64 0) := (blk_cell hz 0).trans rfl
    have z1 : w1.cell? ⟨w.heap.size + 1 + 1, 1, none⟩ = some (.int .i64 0) := (blk_cell hz 1).trans rfl
    have f0 := blk_frozen hz 0
    have f1 := blk_frozen hz 1
    have lz := blk_lt hz
    have lx := blk_lt kx
    have ln := blk_lt kn
    clear hb
    go_wp2
    have fz := heap_setCell_same (w1.setCell ⟨w.heap.size + 1 + 1, 0, none⟩ (.int .i64 0)) (w.heap.size + 1 + 1) 1 _ _ (.int .i64 0) (heap_setCell_same w1 (w.heap.size + 1 + 1) 0 _ _ (.int .i64 0) hz)
    refine bodyPost_ret (results_ct rfl _ _ (w.heap.size + 1 + 1) 23 #[.int .i64 0, .int .i64 0] (0, 0) _ rfl fz Tryz.underlying23 rfl (by kernel_rfl)) rfl ?_
    exact ⟨rfl, (hB.setCell (by simp only; omega) _).setCell (by simp only; omega) _⟩
  · rw [if_neg hc] at h; cases h
end Go.Proofs.YteigbokklclmbaaGreatDoor.Z
end
section
namespace Go.Proofs.YteigbokklclmbaaGreatDoor.Z.Y
open Go.RowKit Go.Proofs.YteigbokklclmbaaGreatDoor.Given Go.Proofs.YteigbokklclmbaaGreatDoorW.PrintWords Go.Proofs.YteigbokklclmbaaGreatDoorW.PrintLast Go.Proofs.YteigbokklclmbaaGreatDoorW.PrintMore
attribute [local go_sem] max2_int min2_int max_two min_two max_three min_three max_four min_four



def errW : Option Int → Value
 | none => .nilIface
 | some c => .iface 0 (.int .i64 c)
theorem errW_none : errW none = .nilIface := rfl
theorem errW_some (c : Int) : errW (some c) = .iface 0 (.int .i64 c) := rfl

-- the values' own types


theorem eqA23 (d : Nat) (w : World) (x0 y0 : Int) (x1 y1 : Int) :
  (Op.equalIn (d + 2) 23 (.agg #[.int .i64 x0, .int .i64 x1]) (.agg #[.int .i64 y0, .int .i64 y1])).run Tryz.prog w = .ok (x0 == y0 && (x1 == y1)) w := by
 refine eqA_of Tryz.underlying23 (by kernel_rfl) ?_
 refine eqf_cons (by rfl) (by go_simp; rfl) (by go_simp; rfl) (by go_simp) ?_
 exact eqf_last (by rfl) (by go_simp; rfl) (by go_simp; rfl) (by go_simp)

mutual
def manorboyref02_Valid.j0 : Nat → Int → Int → Int → Option (Bool)
 | 0, _, _, _ => none
 | k + 1, x3, x102000, x102001 => if x3 = 0 then (if x102000 = 0 then (some (x102001 == 0)) else (some false)) else (if x3 < 0 then (manorboyref02_Valid.j1 k x3 true x102000 x102001) else (if x3 ≥ 16777216 then (manorboyref02_Valid.j1 k x3 true x102000 x102001) else (if x102001 < (-150) then (manorboyref02_Valid.j1 k x3 true x102000 x102001) else (manorboyref02_Valid.j1 k x3 (decide (x102001 > 150)) x102000 x102001))))
def manorboyref02_Valid.j1 : Nat → Int → Bool → Int → Int → Option (Bool)
 | 0, _, _, _, _ => none
 | k + 1, x3, x35, x102000, x102001 => if x35 = true then (some false) else (if x3 ≥ 8388608 then (some true) else (some (x102001 == (-150))))
end
def manorboyref02_Valid.f (k : Nat) (a0_0 : Int) (a0_1 : Int) : Option (Bool) := if a0_0 < 0 then (manorboyref02_Valid.j0 k (wrap64 (-a0_0)) a0_0 a0_1) else (manorboyref02_Valid.j0 k a0_0 a0_0 a0_1)
theorem manorboyref02_Valid.mono_l : ∀ k, (∀ y0 y1 y2, LeO (manorboyref02_Valid.j0 k y0 y1 y2) (manorboyref02_Valid.j0 (k + 1) y0 y1 y2)) ∧ (∀ y0 y1 y2 y3, LeO (manorboyref02_Valid.j1 k y0 y1 y2 y3) (manorboyref02_Valid.j1 (k + 1) y0 y1 y2 y3))
 | 0 => ⟨fun _ _ _ r h => by simp [manorboyref02_Valid.j0] at h, fun _ _ _ _ r h => by simp [manorboyref02_Valid.j1] at h⟩
 | k + 1 => by
  obtain ⟨ih0, ih1⟩ := manorboyref02_Valid.mono_l k
  refine ⟨?_, ?_⟩
  ·intro y0 y1 y2
   unfold manorboyref02_Valid.j0
   repeat' first
   | (with_reducible exact ih0 _ _ _)
   | (with_reducible exact ih1 _ _ _ _)
   | (with_reducible exact LeO.refl _)
   | (with_reducible exact LeO.none _)
   | (with_reducible refine LeO.ite ?_ ?_)
   | (with_reducible refine LeO.bind ?_ (fun _ => ?_))
   | exact ih0 _ _ _
   | exact ih1 _ _ _ _
   | exact LeO.none _
   | refine LeO.ite ?_ ?_
   | refine LeO.bind ?_ (fun _ => ?_)
  ·intro y0 y1 y2 y3
   unfold manorboyref02_Valid.j1
   repeat' first
   | (with_reducible exact ih0 _ _ _)
   | (with_reducible exact ih1 _ _ _ _)
   | (with_reducible exact LeO.refl _)
   | (with_reducible exact LeO.none _)
   | (with_reducible refine LeO.ite ?_ ?_)
   | (with_reducible refine LeO.bind ?_ (fun _ => ?_))
   | exact ih0 _ _ _
   | exact ih1 _ _ _ _
   | exact LeO.none _
   | refine LeO.ite ?_ ?_
   | refine LeO.bind ?_ (fun _ => ?_)
theorem manorboyref02_Valid.mono : ∀ a0 a1 k, LeO (manorboyref02_Valid.f k a0 a1) (manorboyref02_Valid.f (k + 1) a0 a1) := by
 intro a0 a1 k
 obtain ⟨ih0, ih1⟩ := manorboyref02_Valid.mono_l k
 unfold manorboyref02_Valid.f
 repeat' first
   | (with_reducible exact ih0 _ _ _)
   | (with_reducible exact ih1 _ _ _ _)
   | (with_reducible exact LeO.refl _)
   | (with_reducible exact LeO.none _)
   | (with_reducible refine LeO.ite ?_ ?_)
   | (with_reducible refine LeO.bind ?_ (fun _ => ?_))
   | exact ih0 _ _ _
   | exact ih1 _ _ _ _
   | exact LeO.none _
   | refine LeO.ite ?_ ?_
   | refine LeO.bind ?_ (fun _ => ?_)
theorem manorboyref02_Valid.calls (k : Nat) (a0_0 : Int) (a0_1 : Int) (r : Bool) (w : World) (h : manorboyref02_Valid.f k a0_0 a0_1 = some r) :
  Calls Tryz.prog 18 #[.agg #[.int .i64 a0_0, .int .i64 a0_1]] w fun e w' => e = .returned (.bool r) ∧ Below w.heap.size w w' := by
 have hu23 := Tryz.underlying23
 have HB := Aside0.mk (Below.refl w.heap.size w)
 have H := h; unfold manorboyref02_Valid.f at H; clear h
 have HC2 := Aside0.mk H
 clear H
 go_enter Tryz.func18, Tryz.ntmps18
 go_upto_if 7 with (first | ((with_reducible refine gate_dst (N := 1) rfl ?_); refine bxe 1 #[.int .i64 a0_0, .int .i64 a0_1] 23 ?_; intro gb101 hg w3 hbox hb; have BK101 := Aside0.mk hbox; have GW101 := ge hg; have GE101 := ge hg; replace HB := bs hb; clear hb hbox hg; have hcz4_0 := c20 BK101; have hcz4_1 := c21 BK101; have hfz4_0 := blk_frozen BK101.out 0; have hfz4_1 := blk_frozen BK101.out 1))
 (try simp only [Act.put, List.setIfInBounds_toArray, List.set_cons_zero, List.set_cons_succ])
 go_cut [3] (fun v3 wc => ∃ (kq : Nat) (x3_1 : Int), v3 = .int .i64 x3_1 ∧ Aside0 (manorboyref02_Valid.j0 kq x3_1 a0_0 a0_1 = some r) ∧ Aside0 (kq ≤ k) ∧ Aside0 (wc.heap[gb101]? = some (.cells #[.int .i64 a0_0, .int .i64 a0_1] 23 (0, 0))) ∧ Aside0 (Below w.heap.size w wc))
 case first => as_aux_lemma =>
  have H := HC2.out
  clear HC2
  by_cases c5 : a0_0 < 0
  ·rw [if_pos c5] at H
   have c5b0 : decide (a0_0 < 0) = true := decide_eq_true c5
   clear c5
   (first | rw [c5b0] | (simp only [i64_w, i32_w]; rw [c5b0]) | skip)
   have H' := Aside0.mk H
   clear H
   go_wp2
   go_meet
   case rel => exact ⟨_, (wrap64 (-a0_0)), (by first | rfl | (simp; done) | (simp [*]; done)), H', ⟨by first | omega | exact Nat.le_refl _⟩, ⟨kz BK101⟩, ⟨bz⟩⟩
  ·rw [if_neg c5] at H
   have c5b0 : decide (a0_0 < 0) = false := decide_eq_false c5
   clear c5
   (first | rw [c5b0] | (simp only [i64_w, i32_w]; rw [c5b0]) | skip)
   have H' := Aside0.mk H
   clear H
   go_wp2
   go_meet
   case rel => exact ⟨_, (a0_0), (by first | rfl | (simp; done) | (simp [*]; done)), H', ⟨by first | omega | exact Nat.le_refl _⟩, ⟨kz BK101⟩, ⟨bz⟩⟩
 case rest => as_aux_lemma =>
  clear HC2
  try clear c5
  try clear c5b0
  try clear hcz4_0
  try clear hcz4_1
  try clear hfz4_0
  try clear hfz4_1
  obtain ⟨kq, x3_1, rfl, HA, HJ1, BK101, HB⟩ := hcut
  cases kq with
  | zero => exact absurd HA.out (by simp [manorboyref02_Valid.j0])
  | succ kj1 =>
   have H := HA.out
   clear HA
   simp only [manorboyref02_Valid.j0] at H
   by_cases c6 : x3_1 = 0
   ·rw [if_pos c6] at H
    have c6b0 : (x3_1 == 0) = true := beq_iff_eq.mpr c6
    have c6b1 : (x3_1 != 0) = false := bne_eq_false_iff_eq.mpr c6
    clear c6
    by_cases c7 : a0_0 = 0
    ·rw [if_pos c7] at H
     have c7b0 : (a0_0 == 0) = true := beq_iff_eq.mpr c7
     have c7b1 : (a0_0 != 0) = false := bne_eq_false_iff_eq.mpr c7
     clear c7
     obtain rfl := Option.some.inj H
     have hcz8_0 := c20 BK101
     have hcz8_1 := c21 BK101
     have hfz8_0 := blk_frozen BK101.out 0
     have hfz8_1 := blk_frozen BK101.out 1
     go_wp2
     go_ret
     exact ⟨by first | rfl | (simp [errW_none, errW_some] <;> rfl) | (simp [*, errW_none, errW_some] <;> rfl), bz⟩
    ·rw [if_neg c7] at H
     have c7b0 : (a0_0 == 0) = false := beq_eq_false_iff_ne.mpr c7
     have c7b1 : (a0_0 != 0) = true := bne_iff_ne.mpr c7
     obtain rfl := Option.some.inj H
     have hcz9_0 := c20 BK101
     have hcz9_1 := c21 BK101
     have hfz9_0 := blk_frozen BK101.out 0
     have hfz9_1 := blk_frozen BK101.out 1
     go_wp2
     go_ret
     exact ⟨by first | rfl | (simp [errW_none, errW_some] <;> rfl) | (simp [*, errW_none, errW_some] <;> rfl), bz⟩
   ·rw [if_neg c6] at H
    have c6b0 : (x3_1 == 0) = false := beq_eq_false_iff_ne.mpr c6
    have c6b1 : (x3_1 != 0) = true := bne_iff_ne.mpr c6
    have HC10 := Aside0.mk H
    clear H
    go_upto_region 6 with (fail)
    go_cut [35] (fun v35 wc => ∃ (kq : Nat) (x35_9 : Bool), v35 = .bool x35_9 ∧ Aside0 (manorboyref02_Valid.j1 kq x3_1 x35_9 a0_0 a0_1 = some r) ∧ Aside0 (kq ≤ kj1) ∧ Aside0 (wc.heap[gb101]? = some (.cells #[.int .i64 a0_0, .int .i64 a0_1] 23 (0, 0))) ∧ Aside0 (Below w.heap.size w wc))
    case first => as_aux_lemma =>
     have H := HC10.out
     clear HC10
     by_cases c11 : x3_1 < 0
     ·rw [if_pos c11] at H
      have c11b0 : decide (x3_1 < 0) = true := decide_eq_true c11
      clear c11
      (first | rw [c11b0] | (simp only [i64_w, i32_w]; rw [c11b0]) | skip)
      have H' := Aside0.mk H
      clear H
      go_wp2
      go_meet
      case rel => exact ⟨_, (true), (by first | rfl | (simp; done) | (simp [*]; done)), H', ⟨by have := HJ1.out; first | omega | exact Nat.le_refl _⟩, ⟨kz BK101⟩, ⟨bz⟩⟩
     ·rw [if_neg c11] at H
      have c11b0 : decide (x3_1 < 0) = false := decide_eq_false c11
      clear c11
      (first | rw [c11b0] | (simp only [i64_w, i32_w]; rw [c11b0]) | skip)
      by_cases c12 : x3_1 ≥ 16777216
      ·rw [if_pos c12] at H
       have c12b0 : decide (16777216 ≤ x3_1) = true := decide_eq_true c12
       clear c12
       have H' := Aside0.mk H
       clear H
       go_wp2
       go_meet
       case rel => exact ⟨_, (true), (by first | rfl | (simp; done) | (simp [*]; done)), H', ⟨by have := HJ1.out; first | omega | exact Nat.le_refl _⟩, ⟨kz BK101⟩, ⟨bz⟩⟩
      ·rw [if_neg c12] at H
       have c12b0 : decide (16777216 ≤ x3_1) = false := decide_eq_false c12
       clear c12
       by_cases c13 : a0_1 < (-150)
       ·rw [if_pos c13] at H
        have c13b0 : decide (a0_1 < (-150)) = true := decide_eq_true c13
        clear c13
        have H' := Aside0.mk H
        clear H
        have hcz14_0 := c20 BK101
        have hcz14_1 := c21 BK101
        have hfz14_0 := blk_frozen BK101.out 0
        have hfz14_1 := blk_frozen BK101.out 1
        go_wp2
        go_meet
        case rel => exact ⟨_, (true), (by first | rfl | (simp; done) | (simp [*]; done)), H', ⟨by have := HJ1.out; first | omega | exact Nat.le_refl _⟩, ⟨kz BK101⟩, ⟨bz⟩⟩
       ·rw [if_neg c13] at H
        have c13b0 : decide (a0_1 < (-150)) = false := decide_eq_false c13
        clear c13
        have H' := Aside0.mk H
        clear H
        have hcz15_0 := c20 BK101
        have hcz15_1 := c21 BK101
        have hfz15_0 := blk_frozen BK101.out 0
        have hfz15_1 := blk_frozen BK101.out 1
        go_wp2
        go_meet
        case rel => exact ⟨_, (decide (a0_1 > 150)), (by first | rfl | (simp; done) | (simp [*]; done)), H', ⟨by have := HJ1.out; first | omega | exact Nat.le_refl _⟩, ⟨kz BK101⟩, ⟨bz⟩⟩
    case rest => as_aux_lemma =>
     clear HC10
     try clear c5
     try clear c5b0
     try clear c6
     try clear c6b0
     try clear c6b1
     try clear c7
     try clear c7b0
     try clear c7b1
     try clear c11
     try clear c11b0
     try clear c12
     try clear c12b0
     try clear c13
     try clear c13b0
     try clear hcz14_0
     try clear hcz14_1
     try clear hcz15_0
     try clear hcz15_1
     try clear hcz4_0
     try clear hcz4_1
     try clear hcz8_0
     try clear hcz8_1
     try clear hcz9_0
     try clear hcz9_1
     try clear hfz14_0
     try clear hfz14_1
     try clear hfz15_0
     try clear hfz15_1
     try clear hfz4_0
     try clear hfz4_1
     try clear hfz8_0
     try clear hfz8_1
     try clear hfz9_0
     try clear hfz9_1
     obtain ⟨kq, x35_9, rfl, HA, HJ9, BK101, HB⟩ := hcut
     cases kq with
     | zero => exact absurd HA.out (by simp [manorboyref02_Valid.j1])
     | succ kj9 =>
      have H := HA.out
      clear HA
      simp only [manorboyref02_Valid.j1] at H
      by_cases c16 : x35_9 = true
      ·subst c16
       rw [if_pos rfl] at H
       obtain rfl := Option.some.inj H
       go_wp2
       go_ret
       exact ⟨by first | rfl | (simp [errW_none, errW_some] <;> rfl) | (simp [*, errW_none, errW_some] <;> rfl), bz⟩
      ·replace c16 := Bool.eq_false_iff.mpr c16
       subst c16
       rw [if_neg (show ¬ (false = true) by decide)] at H
       by_cases c17 : x3_1 ≥ 8388608
       ·rw [if_pos c17] at H
        have c17b0 : decide (8388608 ≤ x3_1) = true := decide_eq_true c17
        clear c17
        obtain rfl := Option.some.inj H
        go_wp2
        go_ret
        exact ⟨by first | rfl | (simp [errW_none, errW_some] <;> rfl) | (simp [*, errW_none, errW_some] <;> rfl), bz⟩
       ·rw [if_neg c17] at H
        have c17b0 : decide (8388608 ≤ x3_1) = false := decide_eq_false c17
        clear c17
        obtain rfl := Option.some.inj H
        have hcz18_0 := c20 BK101
        have hcz18_1 := c21 BK101
        have hfz18_0 := blk_frozen BK101.out 0
        have hfz18_1 := blk_frozen BK101.out 1
        go_wp2
        go_ret
        exact ⟨by first | rfl | (simp [errW_none, errW_some] <;> rfl) | (simp [*, errW_none, errW_some] <;> rfl), bz⟩

end Go.Proofs.YteigbokklclmbaaGreatDoor.Z.Y
end
section
namespace Go.Proofs.YteigbokklclmbaaGreatDoor.Z.Y
open Go.RowKit Go.Proofs.YteigbokklclmbaaGreatDoor.Given Go.Proofs.YteigbokklclmbaaGreatDoorW.PrintWords Go.Proofs.YteigbokklclmbaaGreatDoorW.PrintLast Go.Proofs.YteigbokklclmbaaGreatDoorW.PrintMore
attribute [local go_sem] max2_int min2_int max_two min_two max_three min_three max_four min_four

attribute [local go_sem high] eqA23
def manorboylaw02_sanity.j0 : Nat → Bool → Option (Bool)
 | 0, _ => none
 | k + 1, x60 => if x60 = true then (some false) else ((real_Entier.f (-12582912) (-23)).bind fun bt127 => ((real_Round.f 10485760 (-22)).bind fun bt129 => ((real_Parse.f k (⟨#[49, 101, 54, 48]⟩ : ByteArray)).bind fun bt131 => ((real_PowZ.f 0 0 (-1)).bind fun bt134 => ((real_Print.f k 1 (-150)).bind fun bt137 => (if bt127.2 = 0 then (if bt129.2 = 0 then (if bt127.1 = (-2) then (if bt129.1 = 3 then (if bt131.2.2 = 3 then (if bt134.2.2 = 5 then (if bt137.2 = 0 then (if bt137.1.toList = ([55, 46, 48, 101, 45, 52, 54] : List UInt8) then ((real_FromIntN.f k 16777217).bind fun bt139 => ((manorboylaw02_two.f 24).bind fun bt141 => (some (bt139.1 == bt141.1 && (bt139.2 == bt141.2))))) else (some false)) else (some false)) else (some false)) else (some false)) else (some false)) else (some false)) else (some false)) else (some false)))))))
def manorboylaw02_sanity.f (k : Nat)  : Option (Bool) := (manorboylaw02_two.f 0).bind fun bt102 => ((manorboylaw02_two.f (-24)).bind fun bt104 => ((real_Add.f k bt102.1 bt102.2 bt104.1 bt104.2).bind fun bt106 => ((manorboylaw02_two.f 0).bind fun bt110 => ((real_Div.f k bt110.1 bt110.2 12582912 (-22)).bind fun bt112 => ((real_Parse.f k (⟨#[48, 46, 49]⟩ : ByteArray)).bind fun bt116 => ((real_Print.f k bt112.1 bt112.2.1).bind fun bt120 => ((manorboylaw02_two.f 0).bind fun bt122 => ((manorboylaw02_is.f bt106.1 bt106.2.1 bt106.2.2 bt122.1 bt122.2).bind fun t124 => (if t124 = true then ((manorboylaw02_is.f bt112.1 bt112.2.1 bt112.2.2 11184811 (-25)).bind fun t125 => (if t125 = true then ((manorboylaw02_is.f bt116.1 bt116.2.1 bt116.2.2 13421773 (-27)).bind fun t126 => (if t126 = true then (if bt120.2 = 0 then (manorboylaw02_sanity.j0 k (bt120.1.toList != ([48, 46, 51, 51, 51, 51, 51, 51, 51, 52] : List UInt8))) else (manorboylaw02_sanity.j0 k true)) else (manorboylaw02_sanity.j0 k true))) else (manorboylaw02_sanity.j0 k true))) else (manorboylaw02_sanity.j0 k true))))))))))
theorem manorboylaw02_sanity.mono_l : ∀ k, (∀ y0, LeO (manorboylaw02_sanity.j0 k y0) (manorboylaw02_sanity.j0 (k + 1) y0))
 | 0 => fun _ r h => by simp [manorboylaw02_sanity.j0] at h
 | k + 1 => by
  have ih0 := manorboylaw02_sanity.mono_l k
  ·intro y0
   unfold manorboylaw02_sanity.j0
   repeat' first
   | (with_reducible exact ih0 _)
   | (with_reducible exact real_Add.mono _ _ _ _ _)
   | (with_reducible exact real_Div.mono _ _ _ _ _)
   | (with_reducible exact real_FromIntN.mono _ _)
   | (with_reducible exact real_Parse.mono _ _)
   | (with_reducible exact real_Print.mono _ _ _)
   | (with_reducible exact LeO.refl _)
   | (with_reducible exact LeO.none _)
   | (with_reducible refine LeO.ite ?_ ?_)
   | (with_reducible refine LeO.bind ?_ (fun _ => ?_))
   | exact ih0 _
   | exact real_Add.mono _ _ _ _ _
   | exact real_Div.mono _ _ _ _ _
   | exact real_FromIntN.mono _ _
   | exact real_Parse.mono _ _
   | exact real_Print.mono _ _ _
   | exact LeO.none _
   | refine LeO.ite ?_ ?_
   | refine LeO.bind ?_ (fun _ => ?_)
theorem manorboylaw02_sanity.mono : ∀ k, LeO (manorboylaw02_sanity.f k ) (manorboylaw02_sanity.f (k + 1) ) := by
 intro  k
 have ih0 := manorboylaw02_sanity.mono_l k
 unfold manorboylaw02_sanity.f
 repeat' first
   | (with_reducible exact ih0 _)
   | (with_reducible exact real_Add.mono _ _ _ _ _)
   | (with_reducible exact real_Div.mono _ _ _ _ _)
   | (with_reducible exact real_FromIntN.mono _ _)
   | (with_reducible exact real_Parse.mono _ _)
   | (with_reducible exact real_Print.mono _ _ _)
   | (with_reducible exact LeO.refl _)
   | (with_reducible exact LeO.none _)
   | (with_reducible refine LeO.ite ?_ ?_)
   | (with_reducible refine LeO.bind ?_ (fun _ => ?_))
   | exact ih0 _
   | exact real_Add.mono _ _ _ _ _
   | exact real_Div.mono _ _ _ _ _
   | exact real_FromIntN.mono _ _
   | exact real_Parse.mono _ _
   | exact real_Print.mono _ _ _
   | exact LeO.none _
   | refine LeO.ite ?_ ?_
   | refine LeO.bind ?_ (fun _ => ?_)
def manorboylaw02_sanity.T5 : Bool × List (List Nat × List Nat) := (true, [([], []), ([], []), ([], []), ([0, 1, 2, 2], [0, 1, 2]), ([3], [3]), ([4, 3], [4]), ([5], [5]), ([5], [5]), ([5], [5]), ([6, 7, 8, 5, 5], [5, 6, 7, 8]), ([9, 5], [5, 9]), ([5, 10], [5, 10]), ([11, 9], [11]), ([12], [12]), ([12], [12]), ([12], [12]), ([13, 14, 15, 12, 12], [12, 13, 14, 15]), ([16, 12], [12, 16]), ([12, 17], [12, 17]), ([18, 16], [18]), ([19], [19]), ([20, 19], [19, 20]), ([19, 21], [19, 21]), ([22, 19], [22]), ([23], [23]), ([24, 23], [23, 24]), ([23, 25], [23, 25])])
def manorboylaw02_sanity.B5 : List Nat := [0, 0, 0, 7, 15, 31, 63, 63, 63, 511, 1023, 2047, 4095, 8191, 8191, 8191, 65535, 131071, 262143, 524287, 1048575, 2097151, 4194303, 8388607, 16777215, 33554431, 67108863]
theorem manorboylaw02_sanity.tab5 : rtab .any (opsOf Tryz.f19 5) = manorboylaw02_sanity.T5 := by kernel_rfl
theorem manorboylaw02_sanity.bits5 : waitsOk manorboylaw02_sanity.T5.2 manorboylaw02_sanity.B5 = true := by kernel_rfl
theorem manorboylaw02_sanity.no : ∀ k, manorboylaw02_sanity.j0 k true ≠ some true
 | 0, h => by simp [manorboylaw02_sanity.j0] at h
 | k + 1, h => by simp [manorboylaw02_sanity.j0] at h
theorem third_is {k : Nat} {a b c d e : Int} (h1 : manorboylaw02_two.f 0 = some (a, b)) (h2 : real_Div.f k a b 12582912 (-22) = some (c, d, e)) : c = 11184811 ∧ d = -25 ∨ c = 1 ∧ d = -150 := by
 have e1 : manorboylaw02_two.f 0 = some (8388608, -23) := by kernel_rfl
 have e2 := Option.some.inj (h1.symm.trans e1)
 obtain ⟨rfl, rfl⟩ := Prod.mk.inj e2
 have e3 : real_Div.f 400 8388608 (-23) 12582912 (-22) = some (11184811, -25, 0) := by kernel_rfl
 have e4 := at_fixed (fun k => real_Div.mono _ _ _ _ k) h2 e3
 simp only [Prod.mk.injEq] at e4
 exact Or.inl ⟨e4.1, e4.2.1⟩
theorem manorboylaw02_sanity.calls (k : Nat)  (r : Bool) (w : World) (h : manorboylaw02_sanity.f k  = some r) (hr : r = true) (ht : Table w) :
  Calls Tryz.prog 19 #[] w fun e w' => e = .returned (.bool r) ∧ Below w.heap.size w w' := by
 have hu23 := Tryz.underlying23
 have HB := Aside0.mk (Below.refl w.heap.size w)
 have HT := Aside0.mk (Lib.tabBelow_of_tabIs ht)
 clear ht
 have H := h; unfold manorboylaw02_sanity.f at H; clear h
 replace H := Option.bind_eq_some_iff.mp H
 obtain ⟨⟨t102, t103⟩, A10, H⟩ := H
 try dsimp only at H
 have A1 := Aside0.mk A10
 clear A10
 replace H := Option.bind_eq_some_iff.mp H
 obtain ⟨⟨t104, t105⟩, A20, H⟩ := H
 try dsimp only at H
 have A2 := Aside0.mk A20
 clear A20
 replace H := Option.bind_eq_some_iff.mp H
 obtain ⟨⟨t106, t107, t108⟩, A30, H⟩ := H
 try dsimp only at H
 have A3 := Aside0.mk A30
 clear A30
 replace H := Option.bind_eq_some_iff.mp H
 obtain ⟨⟨t110, t111⟩, A40, H⟩ := H
 try dsimp only at H
 have A4 := Aside0.mk A40
 clear A40
 replace H := Option.bind_eq_some_iff.mp H
 obtain ⟨⟨t112, t113, t114⟩, A50, H⟩ := H
 try dsimp only at H
 have A5 := Aside0.mk A50
 clear A50
 replace H := Option.bind_eq_some_iff.mp H
 obtain ⟨⟨t116, t117, t118⟩, A60, H⟩ := H
 try dsimp only at H
 have A6 := Aside0.mk A60
 clear A60
 replace H := Option.bind_eq_some_iff.mp H
 obtain ⟨⟨t120, t121⟩, A70, H⟩ := H
 try dsimp only at H
 have A7 := Aside0.mk A70
 clear A70
 have HC8 := Aside0.mk H
 clear H
 go_enter Tryz.func19, Tryz.ntmps19
 go_upto_region 5 with (first | ((with_reducible refine gate_callee (f := 49) rfl ?_); refine gL 14 Tryz.func49 #[.int .i64 0] ?_; (with_reducible refine (manorboylaw02_two.calls 0 t102 t103 _ A1.out).mono ?_); rintro e w9 ⟨rfl, hb⟩; refine ⟨_, rfl, ?_⟩; replace HB := bs hb; (try clear hb)) | ((with_reducible refine gate_callee (f := 49) rfl ?_); refine gL 15 Tryz.func49 #[.int .i64 (-24)] ?_; (with_reducible refine (manorboylaw02_two.calls (-24) t104 t105 _ A2.out).mono ?_); rintro e w10 ⟨rfl, hb⟩; refine ⟨_, rfl, ?_⟩; replace HB := bs hb; (try clear hb)) | ((with_reducible refine gate_callee (f := 33) rfl ?_); refine gL 16 Tryz.func33 #[.agg #[.int .i64 t102, .int .i64 t103], .agg #[.int .i64 t104, .int .i64 t105]] ?_; (with_reducible refine (real_Add.calls k t102 t103 t104 t105 t106 t107 t108 _ A3.out).mono ?_); rintro e w11 ⟨rfl, hb⟩; refine ⟨_, rfl, ?_⟩; replace HB := bs hb; (try clear hb)) | ((with_reducible refine gate_dst (N := 1) rfl ?_); refine bxe 1 #[.int .i64 0, .int .i64 0] 23 ?_; intro gb109 hg w12 hbox hb; have BK109 := Aside0.mk hbox; have GW109 := ge hg; have GE109 := ge hg; replace HB := bs hb; clear hb hbox hg; have hcz13_0 := c20 BK109; have hcz13_1 := c21 BK109; have hfz13_0 := blk_frozen BK109.out 0; have hfz13_1 := blk_frozen BK109.out 1) | ((with_reducible refine gate_callee (f := 49) rfl ?_); refine gL 20 Tryz.func49 #[.int .i64 0] ?_; (with_reducible refine (manorboylaw02_two.calls 0 t110 t111 _ A4.out).mono ?_); rintro e w14 ⟨rfl, hb⟩; refine ⟨_, rfl, ?_⟩; replace BK109 := Aside0.mk (blk_below (g := gb109) (o := .cells #[.int .i64 t106, .int .i64 t107] 23 (0, 0)) (by (with_reducible repeat (first | refine blk_drewN ?_ _ | refine blk_drew ?_ | refine blk_alloc ?_ _)); refine blk_put (cs := #[.int .i64 t106, .int .i64 0]) ?_ 1 _ rfl; (with_reducible repeat (first | refine blk_drewN ?_ _ | refine blk_drew ?_ | refine blk_alloc ?_ _)); refine blk_put (cs := #[.int .i64 0, .int .i64 0]) ?_ 0 _ rfl; (with_reducible repeat (first | refine blk_drewN ?_ _ | refine blk_drew ?_ | refine blk_alloc ?_ _)); exact BK109.out) hb); replace HB := bs hb; (try clear hb)) | ((with_reducible refine gate_callee (f := 32) rfl ?_); refine gL 22 Tryz.func32 #[.agg #[.int .i64 t110, .int .i64 t111], .agg #[.int .i64 12582912, .int .i64 (-22)]] ?_; (with_reducible refine (real_Div.calls k t110 t111 12582912 (-22) t112 t113 t114 _ A5.out).mono ?_); rintro e w15 ⟨rfl, hb⟩; refine ⟨_, rfl, ?_⟩; replace BK109 := kb BK109 hb; replace HB := bs hb; (try clear hb)) | ((with_reducible refine gate_dst (N := 3) rfl ?_); refine bxe 3 #[.int .i64 0, .int .i64 0] 23 ?_; intro gb115 hg w16 hbox hb; have BK115 := Aside0.mk hbox; have GW115 := ge hg; have GE115 := ge hg; have NB109_115 := nl BK109 hg; have NB115_109 := nr BK109 hg; replace BK109 := kb BK109 hb; replace HB := bs hb; clear hb hbox hg; have hnb17 := NB115_109.out; have hnc17 := NB109_115.out; have hcz18_0 := c20 BK115; have hcz18_1 := c21 BK115; have hfz18_0 := blk_frozen BK115.out 0; have hfz18_1 := blk_frozen BK115.out 1) | ((with_reducible refine gate_callee (f := 25) rfl ?_); refine gL 26 Tryz.func25 #[.string (⟨#[48, 46, 49]⟩ : ByteArray)] ?_; (with_reducible refine (real_Parse.calls01 k t116 t117 t118 _ A6.out).mono ?_); rintro e w19 ⟨rfl, hb⟩; refine ⟨_, rfl, ?_⟩; replace BK109 := Aside0.mk (blk_below (g := gb109) (o := .cells #[.int .i64 t106, .int .i64 t107] 23 (0, 0)) (by (with_reducible repeat (first | refine blk_drewN ?_ _ | refine blk_drew ?_ | refine blk_alloc ?_ _)); refine blk_far ?_ NB109_115.out _; (with_reducible repeat (first | refine blk_drewN ?_ _ | refine blk_drew ?_ | refine blk_alloc ?_ _)); refine blk_far ?_ NB109_115.out _; (with_reducible repeat (first | refine blk_drewN ?_ _ | refine blk_drew ?_ | refine blk_alloc ?_ _)); exact BK109.out) hb); replace BK115 := Aside0.mk (blk_below (g := gb115) (o := .cells #[.int .i64 t112, .int .i64 t113] 23 (0, 0)) (by (with_reducible repeat (first | refine blk_drewN ?_ _ | refine blk_drew ?_ | refine blk_alloc ?_ _)); refine blk_put (cs := #[.int .i64 t112, .int .i64 0]) ?_ 1 _ rfl; (with_reducible repeat (first | refine blk_drewN ?_ _ | refine blk_drew ?_ | refine blk_alloc ?_ _)); refine blk_put (cs := #[.int .i64 0, .int .i64 0]) ?_ 0 _ rfl; (with_reducible repeat (first | refine blk_drewN ?_ _ | refine blk_drew ?_ | refine blk_alloc ?_ _)); exact BK115.out) hb); replace HB := bs hb; (try clear hb)) | ((with_reducible refine gate_dst (N := 5) rfl ?_); refine bxe 5 #[.int .i64 0, .int .i64 0] 23 ?_; intro gb119 hg w20 hbox hb; have BK119 := Aside0.mk hbox; have GW119 := ge hg; have GE119 := ge hg; have NB109_119 := nl BK109 hg; have NB119_109 := nr BK109 hg; have NB115_119 := nl BK115 hg; have NB119_115 := nr BK115 hg; replace BK109 := kb BK109 hb; replace BK115 := kb BK115 hb; replace HB := bs hb; clear hb hbox hg; have hnb21 := NB119_109.out; have hnc21 := NB109_119.out; have hnb22 := NB119_115.out; have hnc22 := NB115_119.out; have hcz23_0 := c20 BK119; have hcz23_1 := c21 BK119; have hfz23_0 := blk_frozen BK119.out 0; have hfz23_1 := blk_frozen BK119.out 1; have hcz24_0 := c20 BK115; have hcz24_1 := c21 BK115; have hfz24_0 := blk_frozen BK115.out 0; have hfz24_1 := blk_frozen BK115.out 1) | ((with_reducible refine gate_callee (f := 27) rfl ?_); refine gL 31 Tryz.func27 #[.agg #[.int .i64 t112, .int .i64 t113]] ?_; (with_reducible refine (real_Print.calls1 k t112 t113 t120 t121 _ A7.out (third_is A4.out A5.out) (tabAt HT.out bz)).mono ?_); rintro e w25 ⟨rfl, hb⟩; refine ⟨_, rfl, ?_⟩; replace BK109 := Aside0.mk (blk_below (g := gb109) (o := .cells #[.int .i64 t106, .int .i64 t107] 23 (0, 0)) (by (with_reducible repeat (first | refine blk_drewN ?_ _ | refine blk_drew ?_ | refine blk_alloc ?_ _)); refine blk_far ?_ NB109_119.out _; (with_reducible repeat (first | refine blk_drewN ?_ _ | refine blk_drew ?_ | refine blk_alloc ?_ _)); refine blk_far ?_ NB109_119.out _; (with_reducible repeat (first | refine blk_drewN ?_ _ | refine blk_drew ?_ | refine blk_alloc ?_ _)); exact BK109.out) hb); replace BK115 := Aside0.mk (blk_below (g := gb115) (o := .cells #[.int .i64 t112, .int .i64 t113] 23 (0, 0)) (by (with_reducible repeat (first | refine blk_drewN ?_ _ | refine blk_drew ?_ | refine blk_alloc ?_ _)); refine blk_far ?_ NB115_119.out _; (with_reducible repeat (first | refine blk_drewN ?_ _ | refine blk_drew ?_ | refine blk_alloc ?_ _)); refine blk_far ?_ NB115_119.out _; (with_reducible repeat (first | refine blk_drewN ?_ _ | refine blk_drew ?_ | refine blk_alloc ?_ _)); exact BK115.out) hb); replace BK119 := Aside0.mk (blk_below (g := gb119) (o := .cells #[.int .i64 t116, .int .i64 t117] 23 (0, 0)) (by (with_reducible repeat (first | refine blk_drewN ?_ _ | refine blk_drew ?_ | refine blk_alloc ?_ _)); refine blk_put (cs := #[.int .i64 t116, .int .i64 0]) ?_ 1 _ rfl; (with_reducible repeat (first | refine blk_drewN ?_ _ | refine blk_drew ?_ | refine blk_alloc ?_ _)); refine blk_put (cs := #[.int .i64 0, .int .i64 0]) ?_ 0 _ rfl; (with_reducible repeat (first | refine blk_drewN ?_ _ | refine blk_drew ?_ | refine blk_alloc ?_ _)); exact BK119.out) hb); replace HB := bs hb; (try clear hb)))
 (try simp only [Act.put, List.setIfInBounds_toArray, List.set_cons_zero, List.set_cons_succ])
 go_cut [60] (fun v60 wc => ∃ (kq : Nat) (x60_7 : Bool), v60 = .bool x60_7 ∧ Aside0 (manorboylaw02_sanity.j0 kq x60_7 = some r) ∧ Aside0 (kq ≤ k) ∧ Aside0 (wc.heap[gb109]? = some (.cells #[.int .i64 t106, .int .i64 t107] 23 (0, 0))) ∧ Aside0 (wc.heap[gb115]? = some (.cells #[.int .i64 t112, .int .i64 t113] 23 (0, 0))) ∧ Aside0 (wc.heap[gb119]? = some (.cells #[.int .i64 t116, .int .i64 t117] 23 (0, 0))) ∧ Aside0 (Below w.heap.size w wc))
 case first => as_aux_lemma =>
  have H := HC8.out
  clear HC8
  replace H := Option.bind_eq_some_iff.mp H
  obtain ⟨⟨t122, t123⟩, A260, H⟩ := H
  try dsimp only at H
  have A26 := Aside0.mk A260
  clear A260
  replace H := Option.bind_eq_some_iff.mp H
  obtain ⟨t124, A270, H⟩ := H
  try dsimp only at H
  have A27 := Aside0.mk A270
  clear A270
  by_cases c28 : t124 = true
  ·subst c28
   rw [if_pos rfl] at H
   replace H := Option.bind_eq_some_iff.mp H
   obtain ⟨t125, A290, H⟩ := H
   try dsimp only at H
   have A29 := Aside0.mk A290
   clear A290
   by_cases c30 : t125 = true
   ·subst c30
    rw [if_pos rfl] at H
    replace H := Option.bind_eq_some_iff.mp H
    obtain ⟨t126, A310, H⟩ := H
    try dsimp only at H
    have A31 := Aside0.mk A310
    clear A310
    by_cases c32 : t126 = true
    ·subst c32
     rw [if_pos rfl] at H
     by_cases c33 : t121 = 0
     ·rw [if_pos c33] at H
      have c33b0 : (t121 == 0) = true := beq_iff_eq.mpr c33
      have c33b1 : (t121 != 0) = false := bne_eq_false_iff_eq.mpr c33
      clear c33
      (first | rw [c33b0] | (simp only [i64_w, i32_w]; rw [c33b0]) | skip)
      have H' := Aside0.mk H
      clear H
      try go_wp2
      replace BK109 := Aside0.mk (blk_drew BK109.out)
      replace BK115 := Aside0.mk (blk_drew BK115.out)
      replace BK119 := Aside0.mk (blk_drew BK119.out)
      replace HB := Aside0.mk (below_drew1 HB.out)
      refine start_ (n := 27) (S := fun w' => w'.cell? ⟨gb109, 0, none⟩ = some (.int .i64 t106) ∧ w'.cell? ⟨gb109, 1, none⟩ = some (.int .i64 t107) ∧ w'.cell? ⟨gb115, 0, none⟩ = some (.int .i64 t112) ∧ w'.cell? ⟨gb115, 1, none⟩ = some (.int .i64 t113) ∧ w'.cell? ⟨gb119, 0, none⟩ = some (.int .i64 t116) ∧ w'.cell? ⟨gb119, 1, none⟩ = some (.int .i64 t117)) (ds := []) #[ff,ff,ff,ff,ff,ff,ff,ff,ff,ff,ff,ff,ff,ff,ff,ff,ff,ff,ff,ff,ff,ff,ff,ff,ff,ff,ff] (by kernel_rfl) rfl rfl ⟨bc 0 BK109, bc 1 BK109, bc 0 BK115, bc 1 BK115, bc 0 BK119, bc 1 BK119⟩ (fun hHeld => ?_); refine with_tabW manorboylaw02_sanity.tab5 manorboylaw02_sanity.bits5 (fun HT_ HW_ => ?_)
      generalize w25.drew = w34 at BK109 BK115 BK119 HB hHeld ⊢
      refine pur 1 (some 35) #[ff,tt,ff,ff,ff,ff,ff,ff,ff,ff,ff,ff,ff,ff,ff,ff,ff,ff,ff,ff,ff,ff,ff,ff,ff,ff,ff] ?_
      refine take_ (i := 0) (N := some 34) (v := ?_) (a' := ?_) #[true, true, false, false, false, false, false, false, false, false, false, false, false, false, false, false, false, false, false, false, false, false, false, false, false, false, false] rfl rfl (take_ofW HT_.out HW_.out (by kernel_rfl)) (fun _ _ _ h => h) (Or.inl ⟨by rfl, ?_⟩) hHeld ?_ ?_
      rotate_left
      ·rintro w' ⟨s0, s1, s2, s3, s4, s5⟩
       go_simp
       with_reducible rfl
      rotate_left
      ·simp only [Act.put, List.setIfInBounds_toArray, List.set_cons_zero, List.set_cons_succ, i64_w, i32_w]
       rfl
      refine on1 2 (some 36) #[tt,tt,tt,ff,ff,ff,ff,ff,ff,ff,ff,ff,ff,ff,ff,ff,ff,ff,ff,ff,ff,ff,ff,ff,ff,ff,ff] (fun K hK => ?_)
      refine goes_ Tryz.func49 (by kernel_rfl) rfl #[.int .i64 0] (by rfl) rfl rfl az ?_
      with_reducible refine (manorboylaw02_two.calls 0 t122 t123 _ A26.out).mono ?_
      rintro e w35 ⟨rfl, hb⟩
      refine ⟨_, rfl, ?_⟩
      replace BK109 := kb BK109 hb
      replace BK115 := kb BK115 hb
      replace BK119 := kb BK119 hb
      replace HB := bs hb
      (try clear hb)
      refine hK.out _ _ ⟨bc 0 BK109, bc 1 BK109, bc 0 BK115, bc 1 BK115, bc 0 BK119, bc 1 BK119⟩ (fun hHeld => ?_)
      clear hK K
      refine nrm (some 36) ?_
      refine on1 3 (some 37) #[tt,tt,tt,tt,ff,ff,ff,ff,ff,ff,ff,ff,ff,ff,ff,ff,ff,ff,ff,ff,ff,ff,ff,ff,ff,ff,ff] (fun K hK => ?_)
      refine goes_ Tryz.func39 (by kernel_rfl) rfl #[.agg #[.int .i64 t106, .int .i64 t107], .int .i64 t108, .agg #[.int .i64 t122, .int .i64 t123]] (by rfl) rfl rfl az ?_
      with_reducible refine (manorboylaw02_is.calls t106 t107 t108 t122 t123 true _ A27.out).mono ?_
      rintro e w36 ⟨rfl, hb⟩
      refine ⟨_, rfl, ?_⟩
      replace BK109 := kb BK109 hb
      replace BK115 := kb BK115 hb
      replace BK119 := kb BK119 hb
      replace HB := bs hb
      (try clear hb)
      refine hK.out _ _ ⟨bc 0 BK109, bc 1 BK109, bc 0 BK115, bc 1 BK115, bc 0 BK119, bc 1 BK119⟩ (fun hHeld => ?_)
      clear hK K
      refine nrm (some 37) ?_
      refine pur 4 (some 38) #[tt,tt,tt,tt,tt,ff,ff,ff,ff,ff,ff,ff,ff,ff,ff,ff,ff,ff,ff,ff,ff,ff,ff,ff,ff,ff,ff] ?_
      refine pur 5 (some 39) #[tt,tt,tt,tt,tt,tt,ff,ff,ff,ff,ff,ff,ff,ff,ff,ff,ff,ff,ff,ff,ff,ff,ff,ff,ff,ff,ff] ?_
      refine pur 7 (some 41) #[tt,tt,tt,tt,tt,tt,ff,tt,ff,ff,ff,ff,ff,ff,ff,ff,ff,ff,ff,ff,ff,ff,ff,ff,ff,ff,ff] ?_
      refine pur 8 (some 42) #[tt,tt,tt,tt,tt,tt,ff,tt,tt,ff,ff,ff,ff,ff,ff,ff,ff,ff,ff,ff,ff,ff,ff,ff,ff,ff,ff] ?_
      refine take_ (i := 6) (N := some 40) (v := ?_) (a' := ?_) #[true, true, true, true, true, true, true, true, true, false, false, false, false, false, false, false, false, false, false, false, false, false, false, false, false, false, false] rfl rfl (take_ofW HT_.out HW_.out (by kernel_rfl)) (fun _ _ _ h => h) (Or.inl ⟨by rfl, ?_⟩) hHeld ?_ ?_
      rotate_left
      ·rintro w' ⟨s0, s1, s2, s3, s4, s5⟩
       go_simp
       with_reducible rfl
      rotate_left
      ·simp only [Act.put, List.setIfInBounds_toArray, List.set_cons_zero, List.set_cons_succ, i64_w, i32_w]
       rfl
      refine on1 9 (some 43) #[tt,tt,tt,tt,tt,tt,tt,tt,tt,tt,ff,ff,ff,ff,ff,ff,ff,ff,ff,ff,ff,ff,ff,ff,ff,ff,ff] (fun K hK => ?_)
      refine goes_ Tryz.func39 (by kernel_rfl) rfl #[.agg #[.int .i64 t112, .int .i64 t113], .int .i64 t114, .agg #[.int .i64 11184811, .int .i64 (-25)]] (by rfl) rfl rfl az ?_
      with_reducible refine (manorboylaw02_is.calls t112 t113 t114 11184811 (-25) true _ A29.out).mono ?_
      rintro e w37 ⟨rfl, hb⟩
      refine ⟨_, rfl, ?_⟩
      replace BK109 := kb BK109 hb
      replace BK115 := kb BK115 hb
      replace BK119 := kb BK119 hb
      replace HB := bs hb
      (try clear hb)
      refine hK.out _ _ ⟨bc 0 BK109, bc 1 BK109, bc 0 BK115, bc 1 BK115, bc 0 BK119, bc 1 BK119⟩ (fun hHeld => ?_)
      clear hK K
      refine nrm (some 43) ?_
      refine pur 10 (some 44) #[tt,tt,tt,tt,tt,tt,tt,tt,tt,tt,tt,ff,ff,ff,ff,ff,ff,ff,ff,ff,ff,ff,ff,ff,ff,ff,ff] ?_
      refine pur 11 (some 45) #[tt,tt,tt,tt,tt,tt,tt,tt,tt,tt,tt,tt,ff,ff,ff,ff,ff,ff,ff,ff,ff,ff,ff,ff,ff,ff,ff] ?_
      refine pur 12 (some 46) #[tt,tt,tt,tt,tt,tt,tt,tt,tt,tt,tt,tt,tt,ff,ff,ff,ff,ff,ff,ff,ff,ff,ff,ff,ff,ff,ff] ?_
      refine pur 14 (some 48) #[tt,tt,tt,tt,tt,tt,tt,tt,tt,tt,tt,tt,tt,ff,tt,ff,ff,ff,ff,ff,ff,ff,ff,ff,ff,ff,ff] ?_
      refine pur 15 (some 49) #[tt,tt,tt,tt,tt,tt,tt,tt,tt,tt,tt,tt,tt,ff,tt,tt,ff,ff,ff,ff,ff,ff,ff,ff,ff,ff,ff] ?_
      refine take_ (i := 13) (N := some 47) (v := ?_) (a' := ?_) #[true, true, true, true, true, true, true, true, true, true, true, true, true, true, true, true, false, false, false, false, false, false, false, false, false, false, false] rfl rfl (take_ofW HT_.out HW_.out (by kernel_rfl)) (fun _ _ _ h => h) (Or.inl ⟨by rfl, ?_⟩) hHeld ?_ ?_
      rotate_left
      ·rintro w' ⟨s0, s1, s2, s3, s4, s5⟩
       go_simp
       with_reducible rfl
      rotate_left
      ·simp only [Act.put, List.setIfInBounds_toArray, List.set_cons_zero, List.set_cons_succ, i64_w, i32_w]
       rfl
      refine on1 16 (some 50) #[tt,tt,tt,tt,tt,tt,tt,tt,tt,tt,tt,tt,tt,tt,tt,tt,tt,ff,ff,ff,ff,ff,ff,ff,ff,ff,ff] (fun K hK => ?_)
      refine goes_ Tryz.func39 (by kernel_rfl) rfl #[.agg #[.int .i64 t116, .int .i64 t117], .int .i64 t118, .agg #[.int .i64 13421773, .int .i64 (-27)]] (by rfl) rfl rfl az ?_
      with_reducible refine (manorboylaw02_is.calls t116 t117 t118 13421773 (-27) true _ A31.out).mono ?_
      rintro e w38 ⟨rfl, hb⟩
      refine ⟨_, rfl, ?_⟩
      replace BK109 := kb BK109 hb
      replace BK115 := kb BK115 hb
      replace BK119 := kb BK119 hb
      replace HB := bs hb
      (try clear hb)
      refine hK.out _ _ ⟨bc 0 BK109, bc 1 BK109, bc 0 BK115, bc 1 BK115, bc 0 BK119, bc 1 BK119⟩ (fun hHeld => ?_)
      clear hK K
      refine nrm (some 50) ?_
      refine pur 17 (some 51) #[tt,tt,tt,tt,tt,tt,tt,tt,tt,tt,tt,tt,tt,tt,tt,tt,tt,tt,ff,ff,ff,ff,ff,ff,ff,ff,ff] ?_
      refine pur 18 (some 52) #[tt,tt,tt,tt,tt,tt,tt,tt,tt,tt,tt,tt,tt,tt,tt,tt,tt,tt,tt,ff,ff,ff,ff,ff,ff,ff,ff] ?_
      refine pur 19 (some 53) #[tt,tt,tt,tt,tt,tt,tt,tt,tt,tt,tt,tt,tt,tt,tt,tt,tt,tt,tt,tt,ff,ff,ff,ff,ff,ff,ff] ?_
      refine pur 20 (some 54) #[tt,tt,tt,tt,tt,tt,tt,tt,tt,tt,tt,tt,tt,tt,tt,tt,tt,tt,tt,tt,tt,ff,ff,ff,ff,ff,ff] ?_
      refine pur 21 (some 55) #[tt,tt,tt,tt,tt,tt,tt,tt,tt,tt,tt,tt,tt,tt,tt,tt,tt,tt,tt,tt,tt,tt,ff,ff,ff,ff,ff] ?_
      refine pur 22 (some 56) #[tt,tt,tt,tt,tt,tt,tt,tt,tt,tt,tt,tt,tt,tt,tt,tt,tt,tt,tt,tt,tt,tt,tt,ff,ff,ff,ff] ?_
      refine pur 23 (some 57) #[tt,tt,tt,tt,tt,tt,tt,tt,tt,tt,tt,tt,tt,tt,tt,tt,tt,tt,tt,tt,tt,tt,tt,tt,ff,ff,ff] ?_
      refine pur 24 (some 58) #[tt,tt,tt,tt,tt,tt,tt,tt,tt,tt,tt,tt,tt,tt,tt,tt,tt,tt,tt,tt,tt,tt,tt,tt,tt,ff,ff] ?_
      refine pur 25 (some 59) #[tt,tt,tt,tt,tt,tt,tt,tt,tt,tt,tt,tt,tt,tt,tt,tt,tt,tt,tt,tt,tt,tt,tt,tt,tt,tt,ff] ?_
      refine pur 26 (some 60) #[tt,tt,tt,tt,tt,tt,tt,tt,tt,tt,tt,tt,tt,tt,tt,tt,tt,tt,tt,tt,tt,tt,tt,tt,tt,tt,tt] ?_
      refine done_ (done_of HT_.out (by kernel_rfl)) ?_
      try go_wp2
      go_meet
      case rel => exact ⟨_, ((t120.toList != ([48, 46, 51, 51, 51, 51, 51, 51, 51, 52] : List UInt8))), (by first | rfl | (simp; done) | (simp [*]; done)), H', ⟨by first | omega | exact Nat.le_refl _⟩, ⟨kz BK109⟩, ⟨kz BK115⟩, ⟨kz BK119⟩, ⟨bz⟩⟩
     ·rw [if_neg c33] at H
      first | exact absurd (Option.some.inj H) (by rw [hr]; decide) | exact absurd H (by rw [hr]; exact manorboylaw02_sanity.no _)
    ·replace c32 := Bool.eq_false_iff.mpr c32
     subst c32
     rw [if_neg (show ¬ (false = true) by decide)] at H
     first | exact absurd (Option.some.inj H) (by rw [hr]; decide) | exact absurd H (by rw [hr]; exact manorboylaw02_sanity.no _)
   ·replace c30 := Bool.eq_false_iff.mpr c30
    subst c30
    rw [if_neg (show ¬ (false = true) by decide)] at H
    first | exact absurd (Option.some.inj H) (by rw [hr]; decide) | exact absurd H (by rw [hr]; exact manorboylaw02_sanity.no _)
  ·replace c28 := Bool.eq_false_iff.mpr c28
   subst c28
   rw [if_neg (show ¬ (false = true) by decide)] at H
   first | exact absurd (Option.some.inj H) (by rw [hr]; decide) | exact absurd H (by rw [hr]; exact manorboylaw02_sanity.no _)
 case rest => as_aux_lemma =>
  clear HC8
  try clear c28
  try clear c30
  obtain ⟨kq, x60_7, rfl, HA, HJ7, BK109, BK115, BK119, HB⟩ := hcut
  cases kq with
  | zero => exact absurd HA.out (by simp [manorboylaw02_sanity.j0])
  | succ kj7 =>
   have H := HA.out
   clear HA
   simp only [manorboylaw02_sanity.j0] at H
   by_cases c56 : x60_7 = true
   ·subst c56
    rw [if_pos rfl] at H
    first | exact absurd (Option.some.inj H) (by rw [hr]; decide) | exact absurd H (by rw [hr]; exact manorboylaw02_sanity.no _)
   ·replace c56 := Bool.eq_false_iff.mpr c56
    subst c56
    rw [if_neg (show ¬ (false = true) by decide)] at H
    replace H := Option.bind_eq_some_iff.mp H
    obtain ⟨⟨t127, t128⟩, A570, H⟩ := H
    try dsimp only at H
    have A57 := Aside0.mk A570
    clear A570
    replace H := Option.bind_eq_some_iff.mp H
    obtain ⟨⟨t129, t130⟩, A580, H⟩ := H
    try dsimp only at H
    have A58 := Aside0.mk A580
    clear A580
    replace H := Option.bind_eq_some_iff.mp H
    obtain ⟨⟨t131, t132, t133⟩, A590, H⟩ := H
    try dsimp only at H
    have A59 := Aside0.mk A590
    clear A590
    replace H := Option.bind_eq_some_iff.mp H
    obtain ⟨⟨t134, t135, t136⟩, A600, H⟩ := H
    try dsimp only at H
    have A60 := Aside0.mk A600
    clear A600
    replace H := Option.bind_eq_some_iff.mp H
    obtain ⟨⟨t137, t138⟩, A610, H⟩ := H
    try dsimp only at H
    have A61 := Aside0.mk A610
    clear A610
    by_cases c62 : t128 = 0
    ·rw [if_pos c62] at H
     have c62b0 : (t128 == 0) = true := beq_iff_eq.mpr c62
     have c62b1 : (t128 != 0) = false := bne_eq_false_iff_eq.mpr c62
     clear c62
     by_cases c63 : t130 = 0
     ·rw [if_pos c63] at H
      have c63b0 : (t130 == 0) = true := beq_iff_eq.mpr c63
      have c63b1 : (t130 != 0) = false := bne_eq_false_iff_eq.mpr c63
      clear c63
      by_cases c64 : t127 = (-2)
      ·rw [if_pos c64] at H
       have c64b0 : (t127 == (-2)) = true := beq_iff_eq.mpr c64
       have c64b1 : (t127 != (-2)) = false := bne_eq_false_iff_eq.mpr c64
       clear c64
       by_cases c65 : t129 = 3
       ·rw [if_pos c65] at H
        have c65b0 : (t129 == 3) = true := beq_iff_eq.mpr c65
        have c65b1 : (t129 != 3) = false := bne_eq_false_iff_eq.mpr c65
        clear c65
        by_cases c66 : t133 = 3
        ·rw [if_pos c66] at H
         have c66b0 : (t133 == 3) = true := beq_iff_eq.mpr c66
         have c66b1 : (t133 != 3) = false := bne_eq_false_iff_eq.mpr c66
         clear c66
         by_cases c67 : t136 = 5
         ·rw [if_pos c67] at H
          have c67b0 : (t136 == 5) = true := beq_iff_eq.mpr c67
          have c67b1 : (t136 != 5) = false := bne_eq_false_iff_eq.mpr c67
          clear c67
          by_cases c68 : t138 = 0
          ·rw [if_pos c68] at H
           have c68b0 : (t138 == 0) = true := beq_iff_eq.mpr c68
           have c68b1 : (t138 != 0) = false := bne_eq_false_iff_eq.mpr c68
           clear c68
           by_cases c69 : t137.toList = ([55, 46, 48, 101, 45, 52, 54] : List UInt8)
           ·rw [if_pos c69] at H
            have c69b0 : (t137.toList == ([55, 46, 48, 101, 45, 52, 54] : List UInt8)) = true := beq_iff_eq.mpr c69
            have c69b1 : (t137.toList != ([55, 46, 48, 101, 45, 52, 54] : List UInt8)) = false := bne_eq_false_iff_eq.mpr c69
            clear c69
            replace H := Option.bind_eq_some_iff.mp H
            obtain ⟨⟨t139, t140⟩, A700, H⟩ := H
            try dsimp only at H
            have A70 := Aside0.mk A700
            clear A700
            replace H := Option.bind_eq_some_iff.mp H
            obtain ⟨⟨t141, t142⟩, A710, H⟩ := H
            try dsimp only at H
            have A71 := Aside0.mk A710
            clear A710
            obtain rfl := Option.some.inj H
            go_wp2_with (first | ((with_reducible refine gate_callee (f := 21) rfl ?_); refine gL 63 Tryz.func21 #[.agg #[.int .i64 (-12582912), .int .i64 (-23)]] ?_; (with_reducible refine (real_Entier.calls (-12582912) (-23) t127 t128 _ A57.out).mono ?_); rintro e w72 ⟨rfl, hb⟩; refine ⟨_, rfl, ?_⟩; replace BK109 := kb BK109 hb; replace BK115 := kb BK115 hb; replace BK119 := kb BK119 hb; replace HB := bs hb; (try clear hb)) | ((with_reducible refine gate_callee (f := 22) rfl ?_); refine gL 68 Tryz.func22 #[.agg #[.int .i64 10485760, .int .i64 (-22)]] ?_; (with_reducible refine (real_Round.calls 10485760 (-22) t129 t130 _ A58.out).mono ?_); rintro e w73 ⟨rfl, hb⟩; refine ⟨_, rfl, ?_⟩; replace BK109 := kb BK109 hb; replace BK115 := kb BK115 hb; replace BK119 := kb BK119 hb; replace HB := bs hb; (try clear hb)) | ((with_reducible refine gate_callee (f := 25) rfl ?_); refine gL 72 Tryz.func25 #[.string (⟨#[49, 101, 54, 48]⟩ : ByteArray)] ?_; (with_reducible refine (real_Parse.calls1e kj7 t131 t132 t133 _ A59.out).mono ?_); rintro e w74 ⟨rfl, hb⟩; refine ⟨_, rfl, ?_⟩; replace BK109 := kb BK109 hb; replace BK115 := kb BK115 hb; replace BK119 := kb BK119 hb; replace HB := bs hb; (try clear hb)) | ((with_reducible refine gate_callee (f := 17) rfl ?_); refine gL 77 Tryz.func17 #[.agg #[.int .i64 0, .int .i64 0], .int .i64 (-1)] ?_; (with_reducible refine (real_PowZ.calls 0 0 (-1) t134 t135 t136 _ A60.out).mono ?_); rintro e w75 ⟨rfl, hb⟩; refine ⟨_, rfl, ?_⟩; replace BK109 := kb BK109 hb; replace BK115 := kb BK115 hb; replace BK119 := kb BK119 hb; replace HB := bs hb; (try clear hb)) | ((with_reducible refine gate_callee (f := 27) rfl ?_); refine gL 82 Tryz.func27 #[.agg #[.int .i64 1, .int .i64 (-150)]] ?_; (with_reducible refine (real_Print.calls1 kj7 1 (-150) t137 t138 _ A61.out (Or.inr ⟨rfl, rfl⟩) (tabAt HT.out bz)).mono ?_); rintro e w76 ⟨rfl, hb⟩; refine ⟨_, rfl, ?_⟩; replace BK109 := kb BK109 hb; replace BK115 := kb BK115 hb; replace BK119 := kb BK119 hb; replace HB := bs hb; (try clear hb)) | (go_at_call 31; (with_reducible refine (real_FromIntN.calls kj7 16777217 t139 t140 _ A70.out).mono ?_); rintro e w77 ⟨rfl, hb⟩; replace BK109 := kb BK109 hb; replace BK115 := kb BK115 hb; replace BK119 := kb BK119 hb; replace HB := bs hb; (try clear hb)) | (go_at_call 49; (with_reducible refine (manorboylaw02_two.calls 24 t141 t142 _ A71.out).mono ?_); rintro e w78 ⟨rfl, hb⟩; replace BK109 := kb BK109 hb; replace BK115 := kb BK115 hb; replace BK119 := kb BK119 hb; replace HB := bs hb; (try clear hb)))
            go_ret
            exact ⟨by first | rfl | (simp [errW_none, errW_some] <;> rfl) | (simp [*, errW_none, errW_some] <;> rfl), bz⟩
           ·rw [if_neg c69] at H
            first | exact absurd (Option.some.inj H) (by rw [hr]; decide) | exact absurd H (by rw [hr]; exact manorboylaw02_sanity.no _)
          ·rw [if_neg c68] at H
           first | exact absurd (Option.some.inj H) (by rw [hr]; decide) | exact absurd H (by rw [hr]; exact manorboylaw02_sanity.no _)
         ·rw [if_neg c67] at H
          first | exact absurd (Option.some.inj H) (by rw [hr]; decide) | exact absurd H (by rw [hr]; exact manorboylaw02_sanity.no _)
        ·rw [if_neg c66] at H
         first | exact absurd (Option.some.inj H) (by rw [hr]; decide) | exact absurd H (by rw [hr]; exact manorboylaw02_sanity.no _)
       ·rw [if_neg c65] at H
        first | exact absurd (Option.some.inj H) (by rw [hr]; decide) | exact absurd H (by rw [hr]; exact manorboylaw02_sanity.no _)
      ·rw [if_neg c64] at H
       first | exact absurd (Option.some.inj H) (by rw [hr]; decide) | exact absurd H (by rw [hr]; exact manorboylaw02_sanity.no _)
     ·rw [if_neg c63] at H
      first | exact absurd (Option.some.inj H) (by rw [hr]; decide) | exact absurd H (by rw [hr]; exact manorboylaw02_sanity.no _)
    ·rw [if_neg c62] at H
     first | exact absurd (Option.some.inj H) (by rw [hr]; decide) | exact absurd H (by rw [hr]; exact manorboylaw02_sanity.no _)
end Go.Proofs.YteigbokklclmbaaGreatDoor.Z.Y
end
section
namespace Go.Proofs.YteigbokklclmbaaGreatDoor.Z.Y
open Go Go.RowKit Go.Proofs.YteigbokklclmbaaGreatDoor.Given Go.Proofs.YteigbokklclmbaaGreatDoorW.PrintWords Go.Proofs.YteigbokklclmbaaGreatDoorW.PrintLast Go.Proofs.YteigbokklclmbaaGreatDoorW.PrintMore
theorem sanity_ok : manorboylaw02_sanity.f 400 = some true := by kernel_rfl
end Go.Proofs.YteigbokklclmbaaGreatDoor.Z.Y
end
section
namespace Go.Proofs.YteigbokklclmbaaGreatDoor.Z.Y.V
open Go.RowKit Go.Proofs.YteigbokklclmbaaGreatDoor.Given Go.Proofs.YteigbokklclmbaaGreatDoorW.PrintWords Go.Proofs.YteigbokklclmbaaGreatDoorW.PrintLast Go.Proofs.YteigbokklclmbaaGreatDoorW.PrintMore
attribute [local go_sem] max2_int min2_int max_two min_two max_three min_three max_four min_four



def errW : Option Int → Value
 | none => .nilIface
 | some c => .iface 0 (.int .i64 c)
theorem errW_none : errW none = .nilIface := rfl
theorem errW_some (c : Int) : errW (some c) = .iface 0 (.int .i64 c) := rfl

theorem info3 : (Tryz.prog.info? 3).map (fun i => (i.zero, i.size, i.bytes)) = some (some (.int .i64 0), 1, 8) := by kernel_rfl
-- the values' own types


theorem eqA23 (d : Nat) (w : World) (x0 y0 : Int) (x1 y1 : Int) :
  (Op.equalIn (d + 2) 23 (.agg #[.int .i64 x0, .int .i64 x1]) (.agg #[.int .i64 y0, .int .i64 y1])).run Tryz.prog w = .ok (x0 == y0 && (x1 == y1)) w := by
 refine eqA_of Tryz.underlying23 (by kernel_rfl) ?_
 refine eqf_cons (by rfl) (by go_simp; rfl) (by go_simp; rfl) (by go_simp) ?_
 exact eqf_last (by rfl) (by go_simp; rfl) (by go_simp; rfl) (by go_simp)

attribute [local go_sem high] eqA23
def manorboyref02_At.f : Nat → Int → Option (Int × Int)
 | 0, _ => none
 | k + 1, a0 => if a0 < 0 then ((manorboyref02_At.f k (wrap64 (-a0))).bind fun bt105 => (some (wrap64 (-bt105.1), bt105.2))) else (if a0 < 16777216 then (if a0 = 0 then (some (0, 0)) else (some (a0, (-150)))) else (some (wrap64 (a0 - (wrap64 ((wrap64 ((a0 / 8388608) - 1)) * 8388608))), wrap64 ((wrap64 ((a0 / 8388608) - 1)) - 150))))
theorem manorboyref02_At.calls (k : Nat) : ∀ (a0 : Int) (r1 : Int) (r2 : Int) (w : World) (h : manorboyref02_At.f k a0 = some (r1, r2)),
  Calls Tryz.prog 56 #[.int .i64 a0] w fun e w' => e = .returned (.agg #[.int .i64 r1, .int .i64 r2]) ∧ Below w.heap.size w w' := by
 induction k using Nat.strongRecOn with
 | _ k ih =>
 intro a0 r1 r2 w h
 cases k with
 | zero => exact absurd h (by simp [manorboyref02_At.f])
 | succ k =>
 simp only [manorboyref02_At.f] at h
 have hu23 := Tryz.underlying23
 have HB := Aside0.mk (Below.refl w.heap.size w)
 have H := h; clear h
 by_cases c2 : a0 < 0
 ·rw [if_pos c2] at H
  have c2b0 : decide (a0 < 0) = true := decide_eq_true c2
  clear c2
  replace H := Option.bind_eq_some_iff.mp H
  obtain ⟨⟨t105, t106⟩, A30, H⟩ := H
  try dsimp only at H
  have A3 := Aside0.mk A30
  clear A30
  simp only [Option.some.injEq, Prod.mk.injEq] at H
  obtain ⟨rfl, rfl⟩ := H
  go_enter Tryz.func56, Tryz.ntmps56
  go_wp2_with (first | ((with_reducible refine gate_dst (N := 2) rfl ?_); refine bxe 2 #[.int .i64 0, .int .i64 0] 23 ?_; intro gb104 hg w4 hbox hb; have BK104 := Aside0.mk hbox; have GW104 := ge hg; have GE104 := ge hg; replace HB := bs hb; clear hb hbox hg) | ((with_reducible refine gate_callee (f := 56) rfl ?_); refine gL 9 Tryz.func56 #[.int .i64 (wrap64 (-a0))] ?_; (with_reducible refine (ih k (by omega) (wrap64 (-a0)) t105 t106 _ A3.out).mono ?_); rintro e w5 ⟨rfl, hb⟩; refine ⟨_, rfl, ?_⟩; replace BK104 := kb BK104 hb; replace HB := bs hb; (try clear hb)) | ((with_reducible refine gate_dst (N := 3) rfl ?_); refine bxe 3 #[.int .i64 0, .int .i64 0] 23 ?_; intro gb107 hg w6 hbox hb; have BK107 := Aside0.mk hbox; have GW107 := ge hg; have GE107 := ge hg; have NB104_107 := nl BK104 hg; have NB107_104 := nr BK104 hg; replace BK104 := kb BK104 hb; replace HB := bs hb; clear hb hbox hg; have hnb7 := NB107_104.out; have hnc7 := NB104_107.out; have hcz8_0 := c20 BK107; have hcz8_1 := c21 BK107; have hfz8_0 := blk_frozen BK107.out 0; have hfz8_1 := blk_frozen BK107.out 1; have hcz9_0 := c20 BK104; have hcz9_1 := c21 BK104; have hfz9_0 := blk_frozen BK104.out 0; have hfz9_1 := blk_frozen BK104.out 1))
  refine bodyPost_ret (results_cell_row rfl _ _ gb104 23 #[.int .i64 (wrap64 (-t105)), .int .i64 t106] (0, 0) _ rfl (by (with_reducible repeat (first | refine blk_drewN ?_ _ | refine blk_drew ?_ | refine blk_alloc ?_ _)); refine blk_put (cs := #[.int .i64 (wrap64 (-t105)), .int .i64 0]) ?_ 1 _ rfl; (with_reducible repeat (first | refine blk_drewN ?_ _ | refine blk_drew ?_ | refine blk_alloc ?_ _)); refine blk_put (cs := #[.int .i64 0, .int .i64 0]) ?_ 0 _ rfl; (with_reducible repeat (first | refine blk_drewN ?_ _ | refine blk_drew ?_ | refine blk_alloc ?_ _)); refine blk_far ?_ NB104_107.out _; (with_reducible repeat (first | refine blk_drewN ?_ _ | refine blk_drew ?_ | refine blk_alloc ?_ _)); refine blk_far ?_ NB104_107.out _; (with_reducible repeat (first | refine blk_drewN ?_ _ | refine blk_drew ?_ | refine blk_alloc ?_ _)); refine blk_far ?_ NB104_107.out _; (with_reducible repeat (first | refine blk_drewN ?_ _ | refine blk_drew ?_ | refine blk_alloc ?_ _)); exact BK104.out) Tryz.underlying23 rfl (by kernel_rfl)) rfl ?_
  exact ⟨by first | rfl | (simp [errW_none, errW_some] <;> rfl) | (simp [*, errW_none, errW_some] <;> rfl), bz⟩
 ·rw [if_neg c2] at H
  have c2b0 : decide (a0 < 0) = false := decide_eq_false c2
  clear c2
  by_cases c10 : a0 < 16777216
  ·rw [if_pos c10] at H
   have c10b0 : decide (a0 < 16777216) = true := decide_eq_true c10
   clear c10
   by_cases c11 : a0 = 0
   ·rw [if_pos c11] at H
    have c11b0 : (a0 == 0) = true := beq_iff_eq.mpr c11
    have c11b1 : (a0 != 0) = false := bne_eq_false_iff_eq.mpr c11
    clear c11
    simp only [Option.some.injEq, Prod.mk.injEq] at H
    obtain ⟨rfl, rfl⟩ := H
    go_enter Tryz.func56, Tryz.ntmps56
    go_wp2_with (first | ((with_reducible refine gate_dst (N := 2) rfl ?_); refine bxe 2 #[.int .i64 0, .int .i64 0] 23 ?_; intro gb104 hg w12 hbox hb; have BK104 := Aside0.mk hbox; have GW104 := ge hg; have GE104 := ge hg; replace HB := bs hb; clear hb hbox hg; have hcz13_0 := c20 BK104; have hcz13_1 := c21 BK104; have hfz13_0 := blk_frozen BK104.out 0; have hfz13_1 := blk_frozen BK104.out 1))
    refine bodyPost_ret (results_cell_row rfl _ _ gb104 23 #[.int .i64 0, .int .i64 0] (0, 0) _ rfl (by (with_reducible repeat (first | refine blk_drewN ?_ _ | refine blk_drew ?_ | refine blk_alloc ?_ _)); refine blk_put (cs := #[.int .i64 0, .int .i64 0]) ?_ 1 _ rfl; (with_reducible repeat (first | refine blk_drewN ?_ _ | refine blk_drew ?_ | refine blk_alloc ?_ _)); refine blk_put (cs := #[.int .i64 0, .int .i64 0]) ?_ 0 _ rfl; (with_reducible repeat (first | refine blk_drewN ?_ _ | refine blk_drew ?_ | refine blk_alloc ?_ _)); exact BK104.out) Tryz.underlying23 rfl (by kernel_rfl)) rfl ?_
    exact ⟨by first | rfl | (simp [errW_none, errW_some] <;> rfl) | (simp [*, errW_none, errW_some] <;> rfl), bz⟩
   ·rw [if_neg c11] at H
    have c11b0 : (a0 == 0) = false := beq_eq_false_iff_ne.mpr c11
    have c11b1 : (a0 != 0) = true := bne_iff_ne.mpr c11
    simp only [Option.some.injEq, Prod.mk.injEq] at H
    obtain ⟨rfl, rfl⟩ := H
    go_enter Tryz.func56, Tryz.ntmps56
    go_wp2_with (first | ((with_reducible refine gate_dst (N := 2) rfl ?_); refine bxe 2 #[.int .i64 0, .int .i64 0] 23 ?_; intro gb104 hg w14 hbox hb; have BK104 := Aside0.mk hbox; have GW104 := ge hg; have GE104 := ge hg; replace HB := bs hb; clear hb hbox hg; have hcz15_0 := c20 BK104; have hcz15_1 := c21 BK104; have hfz15_0 := blk_frozen BK104.out 0; have hfz15_1 := blk_frozen BK104.out 1))
    refine bodyPost_ret (results_cell_row rfl _ _ gb104 23 #[.int .i64 a0, .int .i64 (-150)] (0, 0) _ rfl (by (with_reducible repeat (first | refine blk_drewN ?_ _ | refine blk_drew ?_ | refine blk_alloc ?_ _)); refine blk_put (cs := #[.int .i64 a0, .int .i64 0]) ?_ 1 _ rfl; (with_reducible repeat (first | refine blk_drewN ?_ _ | refine blk_drew ?_ | refine blk_alloc ?_ _)); refine blk_put (cs := #[.int .i64 0, .int .i64 0]) ?_ 0 _ rfl; (with_reducible repeat (first | refine blk_drewN ?_ _ | refine blk_drew ?_ | refine blk_alloc ?_ _)); exact BK104.out) Tryz.underlying23 rfl (by kernel_rfl)) rfl ?_
    exact ⟨by first | rfl | (simp [errW_none, errW_some] <;> rfl) | (simp [*, errW_none, errW_some] <;> rfl), bz⟩
  ·rw [if_neg c10] at H
   have c10b0 : decide (a0 < 16777216) = false := decide_eq_false c10
   clear c10
   simp only [Option.some.injEq, Prod.mk.injEq] at H
   obtain ⟨rfl, rfl⟩ := H
   go_enter Tryz.func56, Tryz.ntmps56
   go_wp2_with (first | ((with_reducible refine gate_dst (N := 2) rfl ?_); refine bxe 2 #[.int .i64 0, .int .i64 0] 23 ?_; intro gb104 hg w16 hbox hb; have BK104 := Aside0.mk hbox; have GW104 := ge hg; have GE104 := ge hg; replace HB := bs hb; clear hb hbox hg; have hcz17_0 := c20 BK104; have hcz17_1 := c21 BK104; have hfz17_0 := blk_frozen BK104.out 0; have hfz17_1 := blk_frozen BK104.out 1))
   refine bodyPost_ret (results_cell_row rfl _ _ gb104 23 #[.int .i64 (wrap64 (a0 - (wrap64 ((wrap64 ((a0 / 8388608) - 1)) * 8388608)))), .int .i64 (wrap64 ((wrap64 ((a0 / 8388608) - 1)) - 150))] (0, 0) _ rfl (by (with_reducible repeat (first | refine blk_drewN ?_ _ | refine blk_drew ?_ | refine blk_alloc ?_ _)); refine blk_put (cs := #[.int .i64 (wrap64 (a0 - (wrap64 ((wrap64 ((a0 / 8388608) - 1)) * 8388608)))), .int .i64 0]) ?_ 1 _ rfl; (with_reducible repeat (first | refine blk_drewN ?_ _ | refine blk_drew ?_ | refine blk_alloc ?_ _)); refine blk_put (cs := #[.int .i64 0, .int .i64 0]) ?_ 0 _ rfl; (with_reducible repeat (first | refine blk_drewN ?_ _ | refine blk_drew ?_ | refine blk_alloc ?_ _)); exact BK104.out) Tryz.underlying23 rfl (by kernel_rfl)) rfl ?_
   exact ⟨by first | rfl | (simp [errW_none, errW_some] <;> rfl) | (simp [*, errW_none, errW_some] <;> rfl), bz⟩

def manorboyref02_cut.l0 : Nat → List Int → Int → Option (List Int)
 | 0, _, _ => none
 | k + 1, x0, x3 => if x3 > 0 then (if 0 ≤ (wrap64 (x3 - 1)) then (if (wrap64 (x3 - 1)) < (x0.length : Int) then (if (rd x0 (wrap64 (x3 - 1))) = 0 then (manorboyref02_cut.l0 k x0 (wrap64 (x3 - 1))) else (if 0 ≤ x3 then (if x3 ≤ (x0.length : Int) then (some (x0.take (x3 : Int).toNat)) else (none)) else (none))) else (none)) else (none)) else (if 0 ≤ x3 then (if x3 ≤ (x0.length : Int) then (some (x0.take (x3 : Int).toNat)) else (none)) else (none))
def manorboyref02_cut.f (k : Nat) (l0 : List Int) : Option (List Int) := manorboyref02_cut.l0 k l0 (l0.length : Int)
theorem manorboyref02_cut.calls (k : Nat) (P0_ : Nat → Prop) (u9000_ : Value) (l0 : List Int) (r : List Int) (w0 w : World) (hB : Below w0.heap.size w0 w) (ho0 : Kd.R (Kd.int .i64) 3 w w0.heap.size P0_ u9000_ l0) (h : manorboyref02_cut.f k l0 = some r) :
  Calls Tryz.prog 121 #[u9000_] w fun e w' => ∃ v0_ : Value, e = .returned (v0_) ∧ Kd.R (Kd.int .i64) 3 w' w0.heap.size (fun k_ => (P0_ k_ ∨ w.heap.size ≤ k_)) v0_ r ∧ Below w0.heap.size w0 w' ∧ Kept w w' (fun k_ => P0_ k_) := by
 have HO0 := Aside0.mk (show Kd.R (Kd.int .i64) 3 w w0.heap.size (fun k_ => (P0_ k_ ∨ w.heap.size ≤ k_)) u9000_ l0 from Kd.R_mono ho0 (fun k_ hk => (.inl hk)))
 have HK := Aside0.mk (Kept.refl w (fun k_ => P0_ k_))
 have HW0 := Aside0.mk hB.size
 have HB := Aside0.mk hB
 clear hB
 have H := h; unfold manorboyref02_cut.f at H; clear h
 have H' := Aside0.mk H
 clear H
 obtain ⟨Ao2, co2, eo2⟩ := Kd.R_slice HO0.out
 subst eo2
 go_enter Tryz.func121, Tryz.ntmps121
 go_wp2
 go_loopg [3] k (fun kq v3 w' => ∃ (x3_1 : Int), v3 = .int .i64 x3_1 ∧ Aside0 (manorboyref02_cut.l0 kq l0 x3_1 = some r) ∧ Aside0 (kq ≤ k) ∧ Aside0 (Kd.R (Kd.int .i64) 3 w' w0.heap.size (fun k_ => (P0_ k_ ∨ w.heap.size ≤ k_)) (.slice Ao2 l0.length co2) l0) ∧ Aside0 (Kept w w' (fun k_ => P0_ k_)) ∧ Aside0 (Below w0.heap.size w0 w'))
 case atStart => exact ⟨((l0.length : Int)), (by first | rfl | (simp; done) | (simp [*]; done)), H', ⟨Nat.le_refl _⟩, ⟨rz HO0⟩, ⟨by repeat (first | (with_reducible first | exact HK.out | apply Kept.alloc | apply Kept.drewN | apply Kept.drew) | exact HK.out)⟩, ⟨bz⟩⟩
 case round =>
  clear H'
  obtain ⟨x3_1, rfl, HA, HK1, HO_0, HK, HB⟩ := hrel
  cases gk with
  | zero => exact absurd HA.out (by simp [manorboyref02_cut.l0])
  | succ k1 =>
   have H := HA.out
   clear HA
   simp only [manorboyref02_cut.l0] at H
   by_cases c3 : x3_1 > 0
   ·rw [if_pos c3] at H
    have c3b0 : decide (0 < x3_1) = true := decide_eq_true c3
    clear c3
    obtain ⟨ji4, hji4⟩ : ∃ j_ : Int, (wrap64 (x3_1 - 1)) = j_ := ⟨_, rfl⟩
    first | rw [hji4] at H | simp only [hji4] at H
    have hji4w : (IntKind.i64.wrap (x3_1 - 1)) = ji4 := (i64_w _).trans hji4
    by_cases c5 : 0 ≤ (ji4)
    ·rw [if_pos c5] at H
     have c5b0 : decide (0 ≤ (ji4)) = true := decide_eq_true c5
     clear c5
     by_cases c6 : (ji4) < (l0.length : Int)
     ·rw [if_pos c6] at H
      have c6b0 : decide ((ji4) < (l0.length : Int)) = true := decide_eq_true c6
      clear c6
      by_cases c7 : (rd l0 (ji4)) = 0
      ·rw [if_pos c7] at H
       have c7b0 : ((rd l0 (ji4)) == 0) = true := beq_iff_eq.mpr c7
       have c7b1 : ((rd l0 (ji4)) != 0) = false := bne_eq_false_iff_eq.mpr c7
       clear c7
       have H' := Aside0.mk H
       clear H
       have p108 : 0 ≤ ((ji4) : Int) := oda
       have q108 : (ji4) < (l0.length : Int) := oda
       obtain ⟨ad108, e108, hx108_0⟩ := Kd.at_int (Kd.R_reads' HO_0.out).2.2 (ji4) p108 q108
       cases e108
       replace p108 := eq_true p108
       replace q108 := eq_true q108
       go_wp2
       go_roundg k1
       case measure => have := HK1.out; omega
       case rel => exact ⟨(ji4), (by first | rfl | (simp; done) | (simp only [← hji4] <;> (first | rfl | simp)) | (simp [*]; done)), H', ⟨by have := HK1.out; omega⟩, ⟨rz HO_0⟩, ⟨by repeat (first | (with_reducible first | exact HK.out | apply Kept.alloc | apply Kept.drewN | apply Kept.drew) | exact HK.out)⟩, ⟨bz⟩⟩
      ·rw [if_neg c7] at H
       have c7b0 : ((rd l0 (ji4)) == 0) = false := beq_eq_false_iff_ne.mpr c7
       have c7b1 : ((rd l0 (ji4)) != 0) = true := bne_iff_ne.mpr c7
       by_cases c8 : 0 ≤ x3_1
       ·rw [if_pos c8] at H
        have c8b0 := eq_true c8
        have c8b1 : decide (0 ≤ x3_1) = true := decide_eq_true c8
        clear c8
        by_cases c9 : x3_1 ≤ (l0.length : Int)
        ·rw [if_pos c9] at H
         have c9b0 := eq_true c9
         have c9b1 : decide (x3_1 ≤ (l0.length : Int)) = true := decide_eq_true c9
         clear c9
         obtain ⟨y109, hy109⟩ : ∃ y_ : List Int, y_ = (l0.take (x3_1 : Int).toNat) := ⟨_, rfl⟩
         replace H : (some y109) = some r := by first | (rw [hy109]; with_reducible exact H) | (have H2_ := (Option.bind_some _ _).symm.trans H; rw [hy109]; with_reducible exact H2_) | (have H2_ := (Option.bind_some _ _).symm.trans H; with_reducible exact H2_) | with_reducible exact H | (rw [hy109]; exact H) | exact H
         have Ny109 := Aside0.mk hy109
         clear hy109
         obtain rfl := Option.some.inj H
         have p108 : 0 ≤ ((ji4) : Int) := oda
         have q108 : (ji4) < (l0.length : Int) := oda
         obtain ⟨ad108, e108, hx108_0⟩ := Kd.at_int (Kd.R_reads' HO_0.out).2.2 (ji4) p108 q108
         cases e108
         replace p108 := eq_true p108
         replace q108 := eq_true q108
         have q10 : (x3_1 : Int) ≤ ((l0.length : Int) : Int) := oda
         obtain ⟨i010, hi010, _, hsz10, _⟩ := info_parts info3
         have hcut10 := cut_to (P := Tryz.prog) 96 3 .i64 Tryz.underlying96 hi010 (some ad108) l0.length co2 x3_1 (oda) q10 (Kd.R_reads' HO_0.out).2.1
         have hr10 := Kd.R_take (m := (x3_1 : Int).toNat) HO_0.out (by omega)
         have hy10 : y109.length = (x3_1 : Int).toNat := (by rw [Ny109.out, List.length_take]; omega)
         rw [← Ny109.out] at hr10
         rw [← hy10] at hr10 hcut10
         clear hy10 hi010 hsz10 HO_0
         have HO111 := Aside0.mk hr10
         clear hr10
         replace q10 := eq_true q10
         go_wp2
         go_ret
         exact ⟨_, by first | rfl | (simp [errW_none, errW_some] <;> rfl) | (simp only [← hji4]; first | rfl | (simp [errW_none, errW_some] <;> rfl)) | (simp [*, errW_none, errW_some] <;> rfl), by (with_reducible repeat (first | apply Kd.R_alloc | apply Kd.R_drewN | apply Kd.R_drew)); exact HO111.out, bz, by repeat (first | (with_reducible first | exact HK.out | apply Kept.alloc | apply Kept.drewN | apply Kept.drew) | exact HK.out)⟩
        ·rw [if_neg c9] at H
         exact absurd H (by simp)
       ·rw [if_neg c8] at H
        exact absurd H (by simp)
     ·rw [if_neg c6] at H
      exact absurd H (by simp)
    ·rw [if_neg c5] at H
     exact absurd H (by simp)
   ·rw [if_neg c3] at H
    have c3b0 : decide (0 < x3_1) = false := decide_eq_false c3
    clear c3
    by_cases c11 : 0 ≤ x3_1
    ·rw [if_pos c11] at H
     have c11b0 := eq_true c11
     have c11b1 : decide (0 ≤ x3_1) = true := decide_eq_true c11
     clear c11
     by_cases c12 : x3_1 ≤ (l0.length : Int)
     ·rw [if_pos c12] at H
      have c12b0 := eq_true c12
      have c12b1 : decide (x3_1 ≤ (l0.length : Int)) = true := decide_eq_true c12
      clear c12
      obtain ⟨y112, hy112⟩ : ∃ y_ : List Int, y_ = (l0.take (x3_1 : Int).toNat) := ⟨_, rfl⟩
      replace H : (some y112) = some r := by first | (rw [hy112]; with_reducible exact H) | (have H2_ := (Option.bind_some _ _).symm.trans H; rw [hy112]; with_reducible exact H2_) | (have H2_ := (Option.bind_some _ _).symm.trans H; with_reducible exact H2_) | with_reducible exact H | (rw [hy112]; exact H) | exact H
      have Ny112 := Aside0.mk hy112
      clear hy112
      obtain rfl := Option.some.inj H
      have q13 : (x3_1 : Int) ≤ ((l0.length : Int) : Int) := oda
      obtain ⟨i013, hi013, _, hsz13, _⟩ := info_parts info3
      have hcut13 := cut_to (P := Tryz.prog) 96 3 .i64 Tryz.underlying96 hi013 Ao2 l0.length co2 x3_1 (oda) q13 (Kd.R_reads' HO_0.out).2.1
      have hr13 := Kd.R_take (m := (x3_1 : Int).toNat) HO_0.out (by omega)
      have hy13 : y112.length = (x3_1 : Int).toNat := (by rw [Ny112.out, List.length_take]; omega)
      rw [← Ny112.out] at hr13
      rw [← hy13] at hr13 hcut13
      clear hy13 hi013 hsz13 HO_0
      have HO114 := Aside0.mk hr13
      clear hr13
      replace q13 := eq_true q13
      go_wp2
      go_ret
      exact ⟨_, by first | rfl | (simp [errW_none, errW_some] <;> rfl) | (simp [*, errW_none, errW_some] <;> rfl), by (with_reducible repeat (first | apply Kd.R_alloc | apply Kd.R_drewN | apply Kd.R_drew)); exact HO114.out, bz, by repeat (first | (with_reducible first | exact HK.out | apply Kept.alloc | apply Kept.drewN | apply Kept.drew) | exact HK.out)⟩
     ·rw [if_neg c12] at H
      exact absurd H (by simp)
    ·rw [if_neg c11] at H
     exact absurd H (by simp)

end Go.Proofs.YteigbokklclmbaaGreatDoor.Z.Y.V
end
section
namespace Go.Proofs.YteigbokklclmbaaGreatDoor.Z.Y.V
open Go.RowKit Go.Proofs.YteigbokklclmbaaGreatDoor.Given Go.Proofs.YteigbokklclmbaaGreatDoorW.PrintWords Go.Proofs.YteigbokklclmbaaGreatDoorW.PrintLast Go.Proofs.YteigbokklclmbaaGreatDoorW.PrintMore
attribute [local go_sem] max2_int min2_int max_two min_two max_three min_three max_four min_four

mutual
def manorboyref02_Nat_Mul.l0 : Nat → List Int → List Int → List Int → Int → Option (List Int)
 | 0, _, _, _, _ => none
 | k + 1, x0, x1, x5, x6 => if x6 < (x0.length : Int) then (manorboyref02_Nat_Mul.l1 k x0 x1 x5 x6 0 0) else ((manorboyref02_cut.f k x5).bind fun t118 => (some t118))
def manorboyref02_Nat_Mul.l1 : Nat → List Int → List Int → List Int → Int → Int → Int → Option (List Int)
 | 0, _, _, _, _, _, _ => none
 | k + 1, x0, x1, x5, x6, x7, x8 => if x8 < (x1.length : Int) then (manorboyref02_Nat_Mul.j2 k x0 x1 x5 x6 x7 x8 true) else (manorboyref02_Nat_Mul.j2 k x0 x1 x5 x6 x7 x8 (decide (x7 > 0)))
def manorboyref02_Nat_Mul.j2 : Nat → List Int → List Int → List Int → Int → Int → Int → Bool → Option (List Int)
 | 0, _, _, _, _, _, _, _ => none
 | k + 1, x0, x1, x5, x6, x7, x8, x28 => if x28 = true then (if 0 ≤ (wrap64 (x6 + x8)) then (if (wrap64 (x6 + x8)) < (x5.length : Int) then (if x8 < (x1.length : Int) then (if 0 ≤ x6 then (if x6 < (x0.length : Int) then (if 0 ≤ x8 then (manorboyref02_Nat_Mul.l1 k x0 x1 (x5.set ((wrap64 (x6 + x8)) : Int).toNat (Int.tmod (wrap64 ((wrap64 (x7 + (rd x5 (wrap64 (x6 + x8))))) + (wrap64 ((rd x0 x6) * (rd x1 x8))))) 32768)) x6 (wrap64 (Int.tdiv (wrap64 ((wrap64 (x7 + (rd x5 (wrap64 (x6 + x8))))) + (wrap64 ((rd x0 x6) * (rd x1 x8))))) 32768)) (wrap64 (x8 + 1))) else (none)) else (none)) else (none)) else (manorboyref02_Nat_Mul.l1 k x0 x1 (x5.set ((wrap64 (x6 + x8)) : Int).toNat (Int.tmod (wrap64 (x7 + (rd x5 (wrap64 (x6 + x8))))) 32768)) x6 (wrap64 (Int.tdiv (wrap64 (x7 + (rd x5 (wrap64 (x6 + x8))))) 32768)) (wrap64 (x8 + 1)))) else (none)) else (none)) else (manorboyref02_Nat_Mul.l0 k x0 x1 x5 (wrap64 (x6 + 1)))
end
def manorboyref02_Nat_Mul.f (k : Nat) (l0 : List Int) (l1 : List Int) : Option (List Int) := if 0 ≤ (wrap64 ((l0.length : Int) + (l1.length : Int))) then (if (wrap64 ((l0.length : Int) + (l1.length : Int)) : Int).toNat ≤ 35184372088832 then (manorboyref02_Nat_Mul.l0 k l0 l1 (List.replicate (wrap64 ((l0.length : Int) + (l1.length : Int)) : Int).toNat 0) 0) else (none)) else (none)
theorem manorboyref02_Nat_Mul.calls (k : Nat) (A0 : Option Addr) (c0 : Nat) (l0 : List Int) (A1 : Option Addr) (c1 : Nat) (l1 : List Int) (r : List Int) (w : World) (hr0 : Kd.C (Kd.int .i64) w A0 l0.length l0) (hc0 : l0.length ≤ c0) (hr1 : Kd.C (Kd.int .i64) w A1 l1.length l1) (hc1 : l1.length ≤ c1) (h : manorboyref02_Nat_Mul.f k l0 l1 = some r) :
  Calls Tryz.prog 86 #[.slice A0 l0.length c0, .slice A1 l1.length c1] w fun e w' => ∃ v0_ : Value, e = .returned (v0_) ∧ Kd.R (Kd.int .i64) 3 w' w.heap.size (fun _ => True) v0_ r ∧ Below w.heap.size w w' := by
 have HR0 := Aside0.mk hr0
 have HC0 := Aside0.mk hc0
 clear hr0 hc0
 have HR1 := Aside0.mk hr1
 have HC1 := Aside0.mk hc1
 clear hr1 hc1
 have HB := Aside0.mk (Below.refl w.heap.size w)
 have H := h; unfold manorboyref02_Nat_Mul.f at H; clear h
 obtain ⟨ji3, hji3⟩ : ∃ j_ : Int, (wrap64 ((l0.length : Int) + (l1.length : Int))) = j_ := ⟨_, rfl⟩
 first | rw [hji3] at H | simp only [hji3] at H
 have hji3w : (IntKind.i64.wrap ((l0.length : Int) + (l1.length : Int))) = ji3 := (i64_w _).trans hji3
 by_cases c4 : 0 ≤ (ji3)
 ·rw [if_pos c4] at H
  have c4b0 := eq_true c4
  have c4b1 : decide (0 ≤ (ji3)) = true := decide_eq_true c4
  clear c4
  by_cases c5 : (ji3 : Int).toNat ≤ 35184372088832
  ·rw [if_pos c5] at H
   have c5b0 := eq_true c5
   have c5b1 : decide ((ji3 : Int).toNat ≤ 35184372088832) = true := decide_eq_true c5
   clear c5
   obtain ⟨y115, hy115⟩ : ∃ y_ : List Int, y_ = (List.replicate (ji3 : Int).toNat 0) := ⟨_, rfl⟩
   replace H : (manorboyref02_Nat_Mul.l0 k l0 l1 y115 0) = some r := by first | (rw [hy115]; with_reducible exact H) | (have H2_ := (Option.bind_some _ _).symm.trans H; rw [hy115]; with_reducible exact H2_) | (have H2_ := (Option.bind_some _ _).symm.trans H; with_reducible exact H2_) | with_reducible exact H | (rw [hy115]; exact H) | exact H
   have Ny115 := Aside0.mk hy115
   clear hy115
   have H' := Aside0.mk H
   clear H
   go_enter Tryz.func86, Tryz.ntmps86
   go_wp2_with (first | ((with_reducible refine gate_dst (N := 14) rfl ?_); refine Kd.R_make (Kd.int .i64) _ 3 rfl (N := 14) rfl 96 _ _ rfl ji3 rfl rfl Tryz.underlying96 (.int .i64 0) 8 info3 rfl (by decide) (by omega) 0 (ok := fun _ => True) (okp := fun _ => True) rfl (fun _ hk => hk) trivial (oda) (Nat.le_trans (Nat.mul_le_mul_right _ (of_decide_eq_true (by first | (with_reducible assumption) | assumption) : ji3.toNat ≤ 35184372088832)) (by omega)) (Below.refl _ _) (Nat.le_refl _) ?_; intro v116 w6 ho7 hb hg_ hnew_; clear hg_ hnew_; (first | rw [← Ny115.out] at ho7 | (simp only [Int.reduceToNat] at ho7; rw [← Ny115.out] at ho7)); have HO117 := Aside0.mk (Kd.R_lower ho7 (below_size bz)); replace HB := bs hb; clear hb ho7))
   repeat (go_quiet (first | ((with_reducible refine gate_dst (N := 14) rfl ?_); refine Kd.R_make (Kd.int .i64) _ 3 rfl (N := 14) rfl 96 _ _ rfl ji3 rfl rfl Tryz.underlying96 (.int .i64 0) 8 info3 rfl (by decide) (by omega) 0 (ok := fun _ => True) (okp := fun _ => True) rfl (fun _ hk => hk) trivial (oda) (Nat.le_trans (Nat.mul_le_mul_right _ (of_decide_eq_true (by first | (with_reducible assumption) | assumption) : ji3.toNat ≤ 35184372088832)) (by omega)) (Below.refl _ _) (Nat.le_refl _) ?_; intro v116 w6 ho7 hb hg_ hnew_; clear hg_ hnew_; (first | rw [← Ny115.out] at ho7 | (simp only [Int.reduceToNat] at ho7; rw [← Ny115.out] at ho7)); have HO117 := Aside0.mk (Kd.R_lower ho7 (below_size bz)); replace HB := bs hb; clear hb ho7)); try go_wp2_with (first | ((with_reducible refine gate_dst (N := 14) rfl ?_); refine Kd.R_make (Kd.int .i64) _ 3 rfl (N := 14) rfl 96 _ _ rfl ji3 rfl rfl Tryz.underlying96 (.int .i64 0) 8 info3 rfl (by decide) (by omega) 0 (ok := fun _ => True) (okp := fun _ => True) rfl (fun _ hk => hk) trivial (oda) (Nat.le_trans (Nat.mul_le_mul_right _ (of_decide_eq_true (by first | (with_reducible assumption) | assumption) : ji3.toNat ≤ 35184372088832)) (by omega)) (Below.refl _ _) (Nat.le_refl _) ?_; intro v116 w6 ho7 hb hg_ hnew_; clear hg_ hnew_; (first | rw [← Ny115.out] at ho7 | (simp only [Int.reduceToNat] at ho7; rw [← Ny115.out] at ho7)); have HO117 := Aside0.mk (Kd.R_lower ho7 (below_size bz)); replace HB := bs hb; clear hb ho7)))
   go_loopg [6] k (fun kq v6 w' => ∃ (x5_1 : List Int) (x6_1 : Int), v6 = .int .i64 x6_1 ∧ Aside0 (manorboyref02_Nat_Mul.l0 kq l0 l1 x5_1 x6_1 = some r) ∧ Aside0 (kq ≤ k) ∧ Aside0 (Kd.R (Kd.int .i64) 3 w' w.heap.size (fun _ => True) v116 x5_1) ∧ Aside0 (Below w.heap.size w w'))
   case atStart => exact ⟨(y115), (0), (by first | rfl | (simp; done) | (simp [*]; done)), H', ⟨Nat.le_refl _⟩, ⟨rz HO117⟩, ⟨bz⟩⟩
   case round =>
    clear H'
    try clear c1
    try clear c4
    try clear c4b0
    try clear c4b1
    try clear c5
    try clear c5b0
    try clear c5b1
    obtain ⟨x5_1, x6_1, rfl, HA, HK1, HO_5, HB⟩ := hrel
    cases gk with
    | zero => exact absurd HA.out (by simp [manorboyref02_Nat_Mul.l0])
    | succ k1 =>
     have H := HA.out
     clear HA
     simp only [manorboyref02_Nat_Mul.l0] at H
     by_cases c8 : x6_1 < (l0.length : Int)
     ·rw [if_pos c8] at H
      have c8b0 : decide (x6_1 < (l0.length : Int)) = true := decide_eq_true c8
      clear c8
      have H' := Aside0.mk H
      clear H
      go_wp2
      repeat (go_quiet (fail); try go_wp2)
      go_loopg [7, 8] k1 (fun kq v7 v8 w' => ∃ (x5_2 : List Int) (x7_2 : Int) (x8_2 : Int), v7 = .int .i64 x7_2 ∧ v8 = .int .i64 x8_2 ∧ Aside0 (manorboyref02_Nat_Mul.l1 kq l0 l1 x5_2 x6_1 x7_2 x8_2 = some r) ∧ Aside0 (kq ≤ k1) ∧ Aside0 (Kd.R (Kd.int .i64) 3 w' w.heap.size (fun _ => True) v116 x5_2) ∧ Aside0 (Below w.heap.size w w'))
      case atStart => exact ⟨(x5_1), (0), (0), (by first | rfl | (simp; done) | (simp [*]; done)), (by first | rfl | (simp; done) | (simp [*]; done)), H', ⟨Nat.le_refl _⟩, ⟨rz HO_5⟩, ⟨bz⟩⟩
      case round =>
       clear H'
       try clear c1
       try clear c4
       try clear c4b0
       try clear c4b1
       try clear c5
       try clear c5b0
       try clear c5b1
       try clear c8
       try clear c8b0
       obtain ⟨x5_2, x7_2, x8_2, rfl, rfl, HA, HK2, HO_5, HB⟩ := hrel
       cases gk with
       | zero => exact absurd HA.out (by simp [manorboyref02_Nat_Mul.l1])
       | succ k2 =>
        have H := HA.out
        clear HA
        simp only [manorboyref02_Nat_Mul.l1] at H
        have HC9 := Aside0.mk H
        clear H
        go_upto_region 7 with (fail)
        repeat (go_quiet (fail); go_upto_region 7 with (fail))
        go_cut [28] (fun v28 wc => ∃ (kq : Nat) (x28_8 : Bool), v28 = .bool x28_8 ∧ Aside0 (manorboyref02_Nat_Mul.j2 kq l0 l1 x5_2 x6_1 x7_2 x8_2 x28_8 = some r) ∧ Aside0 (kq ≤ k2) ∧ Aside0 (Kd.R (Kd.int .i64) 3 wc w.heap.size (fun _ => True) v116 x5_2) ∧ Aside0 (Below w.heap.size w wc))
        case first => as_aux_lemma =>
         have H := HC9.out
         clear HC9
         by_cases c10 : x8_2 < (l1.length : Int)
         ·rw [if_pos c10] at H
          have c10b0 : decide (x8_2 < (l1.length : Int)) = true := decide_eq_true c10
          clear c10
          (first | rw [c10b0] | (simp only [i64_w, i32_w]; rw [c10b0]) | skip)
          have H' := Aside0.mk H
          clear H
          go_wp2
          repeat (go_quiet (fail); try go_wp2)
          go_meet
          case rel => exact ⟨_, (true), (by first | rfl | (simp; done) | (simp [*]; done)), H', ⟨by have := HK1.out; have := HK2.out; first | omega | exact Nat.le_refl _⟩, ⟨rz HO_5⟩, ⟨bz⟩⟩
         ·rw [if_neg c10] at H
          have c10b0 : decide (x8_2 < (l1.length : Int)) = false := decide_eq_false c10
          clear c10
          (first | rw [c10b0] | (simp only [i64_w, i32_w]; rw [c10b0]) | skip)
          have H' := Aside0.mk H
          clear H
          go_wp2
          repeat (go_quiet (fail); try go_wp2)
          go_meet
          case rel => exact ⟨_, (decide (x7_2 > 0)), (by first | rfl | (simp; done) | (simp [*]; done)), H', ⟨by have := HK1.out; have := HK2.out; first | omega | exact Nat.le_refl _⟩, ⟨rz HO_5⟩, ⟨bz⟩⟩
        case rest => as_aux_lemma =>
         clear HC9
         try clear c1
         try clear c4
         try clear c4b0
         try clear c4b1
         try clear c5
         try clear c5b0
         try clear c5b1
         try clear c8
         try clear c8b0
         try clear c10
         try clear c10b0
         obtain ⟨kq, x28_8, rfl, HA, HJ8, HO_5, HB⟩ := hcut
         cases kq with
         | zero => exact absurd HA.out (by simp [manorboyref02_Nat_Mul.j2])
         | succ kj8 =>
          have H := HA.out
          clear HA
          simp only [manorboyref02_Nat_Mul.j2] at H
          by_cases c11 : x28_8 = true
          ·subst c11
           rw [if_pos rfl] at H
           obtain ⟨ji12, hji12⟩ : ∃ j_ : Int, (wrap64 (x6_1 + x8_2)) = j_ := ⟨_, rfl⟩
           first | rw [hji12] at H | simp only [hji12] at H
           have hji12w : (IntKind.i64.wrap (x6_1 + x8_2)) = ji12 := (i64_w _).trans hji12
           by_cases c13 : 0 ≤ (ji12)
           ·rw [if_pos c13] at H
            have c13b0 : decide (0 ≤ (ji12)) = true := decide_eq_true c13
            clear c13
            by_cases c14 : (ji12) < (x5_2.length : Int)
            ·rw [if_pos c14] at H
             have c14b0 : decide ((ji12) < (x5_2.length : Int)) = true := decide_eq_true c14
             clear c14
             by_cases c15 : x8_2 < (l1.length : Int)
             ·rw [if_pos c15] at H
              have c15b0 : decide (x8_2 < (l1.length : Int)) = true := decide_eq_true c15
              clear c15
              by_cases c16 : 0 ≤ x6_1
              ·rw [if_pos c16] at H
               have c16b0 : decide (0 ≤ x6_1) = true := decide_eq_true c16
               clear c16
               by_cases c17 : x6_1 < (l0.length : Int)
               ·rw [if_pos c17] at H
                have c17b0 : decide (x6_1 < (l0.length : Int)) = true := decide_eq_true c17
                clear c17
                by_cases c18 : 0 ≤ x8_2
                ·rw [if_pos c18] at H
                 have c18b0 : decide (0 ≤ x8_2) = true := decide_eq_true c18
                 clear c18
                 obtain ⟨y124, hy124⟩ : ∃ y_ : List Int, y_ = (x5_2.set ((ji12) : Int).toNat (Int.tmod (wrap64 ((wrap64 (x7_2 + (rd x5_2 (ji12)))) + (wrap64 ((rd l0 x6_1) * (rd l1 x8_2))))) 32768)) := ⟨_, rfl⟩
                 replace H : (manorboyref02_Nat_Mul.l1 kj8 l0 l1 y124 x6_1 (wrap64 (Int.tdiv (wrap64 ((wrap64 (x7_2 + (rd x5_2 (ji12)))) + (wrap64 ((rd l0 x6_1) * (rd l1 x8_2))))) 32768)) (wrap64 (x8_2 + 1))) = some r := by first | (rw [hy124]; with_reducible exact H) | (have H2_ := (Option.bind_some _ _).symm.trans H; rw [hy124]; with_reducible exact H2_) | (have H2_ := (Option.bind_some _ _).symm.trans H; with_reducible exact H2_) | with_reducible exact H | (rw [hy124]; exact H) | exact H
                 have Ny124 := Aside0.mk hy124
                 clear hy124
                 have H' := Aside0.mk H
                 clear H
                 obtain ⟨Ao20, co20, eo20⟩ := Kd.R_slice HO_5.out
                 subst eo20
                 have p121 : 0 ≤ ((ji12) : Int) := oda
                 have q121 : (ji12) < (x5_2.length : Int) := oda
                 obtain ⟨ad121, e121, hx121_0⟩ := Kd.at_int (Kd.R_reads' HO_5.out).2.2 (ji12) p121 q121
                 cases e121
                 replace p121 := eq_true p121
                 replace q121 := eq_true q121
                 have p122 : 0 ≤ (x6_1 : Int) := oda
                 have q122 : x6_1 < (l0.length : Int) := oda
                 obtain ⟨ad122, e122, hx122_0⟩ := Kd.at_int HR0.out x6_1 p122 q122
                 cases e122
                 replace hx122_0 := (HB.out.cell (World.block_lt_of_cell? w _ hx122_0)).trans hx122_0
                 replace p122 := eq_true p122
                 replace q122 := eq_true q122
                 have p123 : 0 ≤ (x8_2 : Int) := oda
                 have q123 : x8_2 < (l1.length : Int) := oda
                 obtain ⟨ad123, e123, hx123_0⟩ := Kd.at_int HR1.out x8_2 p123 q123
                 cases e123
                 replace hx123_0 := (HB.out.cell (World.block_lt_of_cell? w _ hx123_0)).trans hx123_0
                 replace p123 := eq_true p123
                 replace q123 := eq_true q123
                 have p19 : 0 ≤ ((ji12) : Int) := oda
                 have q19 : ((ji12) : Int) < ((x5_2.length : Int) : Int) := oda
                 obtain ⟨go19, co19, eo19, gb19, gl19, cl19, HG19⟩ := Kd.R_form HO_5.out (by omega)
                 (first | cases eo19 | (injection eo19 with ea_ en_ ec_; (first | subst ea_ | (injection ea_ with ea_; subst ea_)); subst ec_; clear en_))
                 have GB19 := Aside0.mk gb19
                 have GG19 := Aside0.mk HG19
                 clear gb19 gl19 HG19
                 (first | simp only [add_plain] at hx121_0 | skip)
                 obtain ⟨hx19_0, hf19_0⟩ := Kd.R_celln 0 HO_5.out ((ji12) : Int) p19 q19
                 replace p19 := eq_true p19
                 replace q19 := eq_true q19
                 have HP21 := Kd.R_putg HO_5.out ((ji12) : Int) (Int.tmod (wrap64 ((wrap64 (x7_2 + (rd x5_2 (ji12)))) + (wrap64 ((rd l0 x6_1) * (rd l1 x8_2))))) 32768)
                 go_wp2_with (first | ((with_reducible refine gate_store (t := 3) (p := 60) rfl ?_); (try (rw [drewN_self wc]; generalize hq_ : World.drewN wc _ = wc; replace HO_5 := Aside0.mk (Kd.R_at hq_ HO_5.out); replace HB := Aside0.mk (below_at hq_ HB.out); clear hq_; (try (have HP21 := Kd.R_putg HO_5.out ((ji12) : Int) (Int.tmod (wrap64 ((wrap64 (x7_2 + (rd x5_2 (ji12)))) + (wrap64 ((rd l0 x6_1) * (rd l1 x8_2))))) 32768))); (try (obtain ⟨hx19_0, hf19_0⟩ := Kd.R_celln 0 HO_5.out ((ji12) : Int) (of_eq_true p19) (of_eq_true q19))))); refine store_event (t := 3) (p := 60) (v := ?vo_w22) (w1 := (wc.setCell ⟨go19, ((ji12) : Int).toNat, none⟩ (.int .i64 (Int.tmod (wrap64 ((wrap64 (x7_2 + (rd x5_2 (ji12)))) + (wrap64 ((rd l0 x6_1) * (rd l1 x8_2))))) 32768)))) ?hg ?ho ?hn ?hr ?_; (case ho => rfl); (case hg => rfl); (case hn => rfl); (case hr => first | (go_simp; done) | (go_simp; rfl)); intro w22 hw; have hg : wc.grownBy w22 (some go19) := (by rw [hw]; exact HP21.2); have hp_ : Kd.R (Kd.int .i64) 3 w22 w.heap.size (fun _ => True) (.slice (some ⟨go19, 0, none⟩) x5_2.length co20) y124 := (by rw [hw, Ny124.out]; exact HP21.1); clear HP21; replace HO_5 := Aside0.mk (hp_); replace HB := Aside0.mk ((by rw [hw]; exact below_set (HB.out) GB19.out : Below w.heap.size w w22)); clear hg hw hp_))
                 repeat (go_quiet (first | ((with_reducible refine gate_store (t := 3) (p := 60) rfl ?_); (try (rw [drewN_self wc]; generalize hq_ : World.drewN wc _ = wc; replace HO_5 := Aside0.mk (Kd.R_at hq_ HO_5.out); replace HB := Aside0.mk (below_at hq_ HB.out); clear hq_; (try (have HP21 := Kd.R_putg HO_5.out ((ji12) : Int) (Int.tmod (wrap64 ((wrap64 (x7_2 + (rd x5_2 (ji12)))) + (wrap64 ((rd l0 x6_1) * (rd l1 x8_2))))) 32768))); (try (obtain ⟨hx19_0, hf19_0⟩ := Kd.R_celln 0 HO_5.out ((ji12) : Int) (of_eq_true p19) (of_eq_true q19))))); refine store_event (t := 3) (p := 60) (v := ?vo_w22) (w1 := (wc.setCell ⟨go19, ((ji12) : Int).toNat, none⟩ (.int .i64 (Int.tmod (wrap64 ((wrap64 (x7_2 + (rd x5_2 (ji12)))) + (wrap64 ((rd l0 x6_1) * (rd l1 x8_2))))) 32768)))) ?hg ?ho ?hn ?hr ?_; (case ho => rfl); (case hg => rfl); (case hn => rfl); (case hr => first | (go_simp; done) | (go_simp; rfl)); intro w22 hw; have hg : wc.grownBy w22 (some go19) := (by rw [hw]; exact HP21.2); have hp_ : Kd.R (Kd.int .i64) 3 w22 w.heap.size (fun _ => True) (.slice (some ⟨go19, 0, none⟩) x5_2.length co20) y124 := (by rw [hw, Ny124.out]; exact HP21.1); clear HP21; replace HO_5 := Aside0.mk (hp_); replace HB := Aside0.mk ((by rw [hw]; exact below_set (HB.out) GB19.out : Below w.heap.size w w22)); clear hg hw hp_)); try go_wp2_with (first | ((with_reducible refine gate_store (t := 3) (p := 60) rfl ?_); (try (rw [drewN_self wc]; generalize hq_ : World.drewN wc _ = wc; replace HO_5 := Aside0.mk (Kd.R_at hq_ HO_5.out); replace HB := Aside0.mk (below_at hq_ HB.out); clear hq_; (try (have HP21 := Kd.R_putg HO_5.out ((ji12) : Int) (Int.tmod (wrap64 ((wrap64 (x7_2 + (rd x5_2 (ji12)))) + (wrap64 ((rd l0 x6_1) * (rd l1 x8_2))))) 32768))); (try (obtain ⟨hx19_0, hf19_0⟩ := Kd.R_celln 0 HO_5.out ((ji12) : Int) (of_eq_true p19) (of_eq_true q19))))); refine store_event (t := 3) (p := 60) (v := ?vo_w22) (w1 := (wc.setCell ⟨go19, ((ji12) : Int).toNat, none⟩ (.int .i64 (Int.tmod (wrap64 ((wrap64 (x7_2 + (rd x5_2 (ji12)))) + (wrap64 ((rd l0 x6_1) * (rd l1 x8_2))))) 32768)))) ?hg ?ho ?hn ?hr ?_; (case ho => rfl); (case hg => rfl); (case hn => rfl); (case hr => first | (go_simp; done) | (go_simp; rfl)); intro w22 hw; have hg : wc.grownBy w22 (some go19) := (by rw [hw]; exact HP21.2); have hp_ : Kd.R (Kd.int .i64) 3 w22 w.heap.size (fun _ => True) (.slice (some ⟨go19, 0, none⟩) x5_2.length co20) y124 := (by rw [hw, Ny124.out]; exact HP21.1); clear HP21; replace HO_5 := Aside0.mk (hp_); replace HB := Aside0.mk ((by rw [hw]; exact below_set (HB.out) GB19.out : Below w.heap.size w w22)); clear hg hw hp_)))
                 go_roundg kj8
                 case measure => have := HK1.out; have := HK2.out; have := HJ8.out; omega
                 case rel => exact ⟨(y124), (wrap64 (Int.tdiv (wrap64 ((wrap64 (x7_2 + (rd x5_2 (ji12)))) + (wrap64 ((rd l0 x6_1) * (rd l1 x8_2))))) 32768)), (wrap64 (x8_2 + 1)), (by first | rfl | (simp; done) | (simp only [← hji12] <;> (first | rfl | simp)) | (simp [*]; done)), (by first | rfl | (simp; done) | (simp [*]; done)), H', ⟨by have := HK1.out; have := HK2.out; have := HJ8.out; omega⟩, ⟨rz HO_5⟩, ⟨bz⟩⟩
                ·rw [if_neg c18] at H
                 exact absurd H (by simp)
               ·rw [if_neg c17] at H
                exact absurd H (by simp)
              ·rw [if_neg c16] at H
               exact absurd H (by simp)
             ·rw [if_neg c15] at H
              have c15b0 : decide (x8_2 < (l1.length : Int)) = false := decide_eq_false c15
              clear c15
              obtain ⟨y125, hy125⟩ : ∃ y_ : List Int, y_ = (x5_2.set ((ji12) : Int).toNat (Int.tmod (wrap64 (x7_2 + (rd x5_2 (ji12)))) 32768)) := ⟨_, rfl⟩
              replace H : (manorboyref02_Nat_Mul.l1 kj8 l0 l1 y125 x6_1 (wrap64 (Int.tdiv (wrap64 (x7_2 + (rd x5_2 (ji12)))) 32768)) (wrap64 (x8_2 + 1))) = some r := by first | (rw [hy125]; with_reducible exact H) | (have H2_ := (Option.bind_some _ _).symm.trans H; rw [hy125]; with_reducible exact H2_) | (have H2_ := (Option.bind_some _ _).symm.trans H; with_reducible exact H2_) | with_reducible exact H | (rw [hy125]; exact H) | exact H
              have Ny125 := Aside0.mk hy125
              clear hy125
              have H' := Aside0.mk H
              clear H
              obtain ⟨Ao24, co24, eo24⟩ := Kd.R_slice HO_5.out
              subst eo24
              have p121 : 0 ≤ ((ji12) : Int) := oda
              have q121 : (ji12) < (x5_2.length : Int) := oda
              obtain ⟨ad121, e121, hx121_0⟩ := Kd.at_int (Kd.R_reads' HO_5.out).2.2 (ji12) p121 q121
              cases e121
              replace p121 := eq_true p121
              replace q121 := eq_true q121
              have p23 : 0 ≤ ((ji12) : Int) := oda
              have q23 : ((ji12) : Int) < ((x5_2.length : Int) : Int) := oda
              obtain ⟨go23, co23, eo23, gb23, gl23, cl23, HG23⟩ := Kd.R_form HO_5.out (by omega)
              (first | cases eo23 | (injection eo23 with ea_ en_ ec_; (first | subst ea_ | (injection ea_ with ea_; subst ea_)); subst ec_; clear en_))
              have GB23 := Aside0.mk gb23
              have GG23 := Aside0.mk HG23
              clear gb23 gl23 HG23
              (first | simp only [add_plain] at hx121_0 | skip)
              obtain ⟨hx23_0, hf23_0⟩ := Kd.R_celln 0 HO_5.out ((ji12) : Int) p23 q23
              replace p23 := eq_true p23
              replace q23 := eq_true q23
              have HP25 := Kd.R_putg HO_5.out ((ji12) : Int) (Int.tmod (wrap64 (x7_2 + (rd x5_2 (ji12)))) 32768)
              go_wp2_with (first | ((with_reducible refine gate_store (t := 3) (p := 60) rfl ?_); (try (rw [drewN_self wc]; generalize hq_ : World.drewN wc _ = wc; replace HO_5 := Aside0.mk (Kd.R_at hq_ HO_5.out); replace HB := Aside0.mk (below_at hq_ HB.out); clear hq_; (try (have HP25 := Kd.R_putg HO_5.out ((ji12) : Int) (Int.tmod (wrap64 (x7_2 + (rd x5_2 (ji12)))) 32768))); (try (obtain ⟨hx23_0, hf23_0⟩ := Kd.R_celln 0 HO_5.out ((ji12) : Int) (of_eq_true p23) (of_eq_true q23))))); refine store_event (t := 3) (p := 60) (v := ?vo_w26) (w1 := (wc.setCell ⟨go23, ((ji12) : Int).toNat, none⟩ (.int .i64 (Int.tmod (wrap64 (x7_2 + (rd x5_2 (ji12)))) 32768)))) ?hg ?ho ?hn ?hr ?_; (case ho => rfl); (case hg => rfl); (case hn => rfl); (case hr => first | (go_simp; done) | (go_simp; rfl)); intro w26 hw; have hg : wc.grownBy w26 (some go23) := (by rw [hw]; exact HP25.2); have hp_ : Kd.R (Kd.int .i64) 3 w26 w.heap.size (fun _ => True) (.slice (some ⟨go23, 0, none⟩) x5_2.length co24) y125 := (by rw [hw, Ny125.out]; exact HP25.1); clear HP25; replace HO_5 := Aside0.mk (hp_); replace HB := Aside0.mk ((by rw [hw]; exact below_set (HB.out) GB23.out : Below w.heap.size w w26)); clear hg hw hp_))
              repeat (go_quiet (first | ((with_reducible refine gate_store (t := 3) (p := 60) rfl ?_); (try (rw [drewN_self wc]; generalize hq_ : World.drewN wc _ = wc; replace HO_5 := Aside0.mk (Kd.R_at hq_ HO_5.out); replace HB := Aside0.mk (below_at hq_ HB.out); clear hq_; (try (have HP25 := Kd.R_putg HO_5.out ((ji12) : Int) (Int.tmod (wrap64 (x7_2 + (rd x5_2 (ji12)))) 32768))); (try (obtain ⟨hx23_0, hf23_0⟩ := Kd.R_celln 0 HO_5.out ((ji12) : Int) (of_eq_true p23) (of_eq_true q23))))); refine store_event (t := 3) (p := 60) (v := ?vo_w26) (w1 := (wc.setCell ⟨go23, ((ji12) : Int).toNat, none⟩ (.int .i64 (Int.tmod (wrap64 (x7_2 + (rd x5_2 (ji12)))) 32768)))) ?hg ?ho ?hn ?hr ?_; (case ho => rfl); (case hg => rfl); (case hn => rfl); (case hr => first | (go_simp; done) | (go_simp; rfl)); intro w26 hw; have hg : wc.grownBy w26 (some go23) := (by rw [hw]; exact HP25.2); have hp_ : Kd.R (Kd.int .i64) 3 w26 w.heap.size (fun _ => True) (.slice (some ⟨go23, 0, none⟩) x5_2.length co24) y125 := (by rw [hw, Ny125.out]; exact HP25.1); clear HP25; replace HO_5 := Aside0.mk (hp_); replace HB := Aside0.mk ((by rw [hw]; exact below_set (HB.out) GB23.out : Below w.heap.size w w26)); clear hg hw hp_)); try go_wp2_with (first | ((with_reducible refine gate_store (t := 3) (p := 60) rfl ?_); (try (rw [drewN_self wc]; generalize hq_ : World.drewN wc _ = wc; replace HO_5 := Aside0.mk (Kd.R_at hq_ HO_5.out); replace HB := Aside0.mk (below_at hq_ HB.out); clear hq_; (try (have HP25 := Kd.R_putg HO_5.out ((ji12) : Int) (Int.tmod (wrap64 (x7_2 + (rd x5_2 (ji12)))) 32768))); (try (obtain ⟨hx23_0, hf23_0⟩ := Kd.R_celln 0 HO_5.out ((ji12) : Int) (of_eq_true p23) (of_eq_true q23))))); refine store_event (t := 3) (p := 60) (v := ?vo_w26) (w1 := (wc.setCell ⟨go23, ((ji12) : Int).toNat, none⟩ (.int .i64 (Int.tmod (wrap64 (x7_2 + (rd x5_2 (ji12)))) 32768)))) ?hg ?ho ?hn ?hr ?_; (case ho => rfl); (case hg => rfl); (case hn => rfl); (case hr => first | (go_simp; done) | (go_simp; rfl)); intro w26 hw; have hg : wc.grownBy w26 (some go23) := (by rw [hw]; exact HP25.2); have hp_ : Kd.R (Kd.int .i64) 3 w26 w.heap.size (fun _ => True) (.slice (some ⟨go23, 0, none⟩) x5_2.length co24) y125 := (by rw [hw, Ny125.out]; exact HP25.1); clear HP25; replace HO_5 := Aside0.mk (hp_); replace HB := Aside0.mk ((by rw [hw]; exact below_set (HB.out) GB23.out : Below w.heap.size w w26)); clear hg hw hp_)))
              go_roundg kj8
              case measure => have := HK1.out; have := HK2.out; have := HJ8.out; omega
              case rel => exact ⟨(y125), (wrap64 (Int.tdiv (wrap64 (x7_2 + (rd x5_2 (ji12)))) 32768)), (wrap64 (x8_2 + 1)), (by first | rfl | (simp; done) | (simp only [← hji12] <;> (first | rfl | simp)) | (simp [*]; done)), (by first | rfl | (simp; done) | (simp [*]; done)), H', ⟨by have := HK1.out; have := HK2.out; have := HJ8.out; omega⟩, ⟨rz HO_5⟩, ⟨bz⟩⟩
            ·rw [if_neg c14] at H
             exact absurd H (by simp)
           ·rw [if_neg c13] at H
            exact absurd H (by simp)
          ·replace c11 := Bool.eq_false_iff.mpr c11
           subst c11
           rw [if_neg (show ¬ (false = true) by decide)] at H
           have H' := Aside0.mk H
           clear H
           go_wp2
           repeat (go_quiet (fail); try go_wp2)
           go_roundg kj8
           case measure => have := HK1.out; have := HK2.out; have := HJ8.out; omega
           case rel => exact ⟨(x5_2), (wrap64 (x6_1 + 1)), (by first | rfl | (simp; done) | (simp [*]; done)), H', ⟨by have := HK1.out; have := HK2.out; have := HJ8.out; omega⟩, ⟨rz HO_5⟩, ⟨bz⟩⟩
     ·rw [if_neg c8] at H
      have c8b0 : decide (x6_1 < (l0.length : Int)) = false := decide_eq_false c8
      clear c8
      replace H := Option.bind_eq_some_iff.mp H
      obtain ⟨t118, A270, H⟩ := H
      try dsimp only at H
      have A27 := Aside0.mk A270
      clear A270
      obtain rfl := Option.some.inj H
      obtain ⟨Ao28, co28, eo28⟩ := Kd.R_slice HO_5.out
      subst eo28
      go_wp2_with (first | (go_at_call 121; (with_reducible refine (manorboyref02_cut.calls k1 (fun k_ => some k_ = (.slice Ao28 x5_1.length co28 : Value).ownBlock) (.slice Ao28 x5_1.length co28) x5_1 t118 w _ ?side1 ?side2 A27.out).mono ?_); (case side1 => repeat (first | (with_reducible first | exact HB.out | apply below_alloc | apply pw_below_drewN | apply below_drew1) | exact HB.out)); (case side2 => exact Kd.R_tight rfl HO_5.out); rintro e w29 ⟨v119, rfl, ho0, hb, hkp⟩; have HO120 := Aside0.mk (Kd.R_mono (ok' := fun k_ => True) ho0 (fun k_ hk_ => trivial)); replace HB := Aside0.mk (hb); clear HO_5; (try clear hb); (try clear hkp); (try clear ho0)))
      repeat (go_quiet (first | (go_at_call 121; (with_reducible refine (manorboyref02_cut.calls k1 (fun k_ => some k_ = (.slice Ao28 x5_1.length co28 : Value).ownBlock) (.slice Ao28 x5_1.length co28) x5_1 t118 w _ ?side1 ?side2 A27.out).mono ?_); (case side1 => repeat (first | (with_reducible first | exact HB.out | apply below_alloc | apply pw_below_drewN | apply below_drew1) | exact HB.out)); (case side2 => exact Kd.R_tight rfl HO_5.out); rintro e w29 ⟨v119, rfl, ho0, hb, hkp⟩; have HO120 := Aside0.mk (Kd.R_mono (ok' := fun k_ => True) ho0 (fun k_ hk_ => trivial)); replace HB := Aside0.mk (hb); clear HO_5; (try clear hb); (try clear hkp); (try clear ho0))); try go_wp2_with (first | (go_at_call 121; (with_reducible refine (manorboyref02_cut.calls k1 (fun k_ => some k_ = (.slice Ao28 x5_1.length co28 : Value).ownBlock) (.slice Ao28 x5_1.length co28) x5_1 t118 w _ ?side1 ?side2 A27.out).mono ?_); (case side1 => repeat (first | (with_reducible first | exact HB.out | apply below_alloc | apply pw_below_drewN | apply below_drew1) | exact HB.out)); (case side2 => exact Kd.R_tight rfl HO_5.out); rintro e w29 ⟨v119, rfl, ho0, hb, hkp⟩; have HO120 := Aside0.mk (Kd.R_mono (ok' := fun k_ => True) ho0 (fun k_ hk_ => trivial)); replace HB := Aside0.mk (hb); clear HO_5; (try clear hb); (try clear hkp); (try clear ho0))))
      go_ret
      exact ⟨_, by first | rfl | (simp [errW_none, errW_some] <;> rfl) | (simp only [← hji3]; first | rfl | (simp [errW_none, errW_some] <;> rfl)) | (simp [*, errW_none, errW_some] <;> rfl), by (with_reducible repeat (first | apply Kd.R_alloc | apply Kd.R_drewN | apply Kd.R_drew)); exact HO120.out, bz⟩
  ·rw [if_neg c5] at H
   exact absurd H (by simp)
 ·rw [if_neg c4] at H
  exact absurd H (by simp)

end Go.Proofs.YteigbokklclmbaaGreatDoor.Z.Y.V
end
