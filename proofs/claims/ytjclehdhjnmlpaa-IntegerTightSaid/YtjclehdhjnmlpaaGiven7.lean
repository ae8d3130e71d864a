/- The contracts of ValidSpan, spans, SpanAdd, SpanSub and SpanMul of package integer, over the seat's program; for every input. -/
import Derived.Test.YtjclehdhjnmlpaaGiven6
namespace Go.Proofs.Ytjclehdhjnmlpaa.Given
open Go.RowKit Go.Shelf Go.Proofs.YtjclehdhjnmlpaaW.PrintWords Go.Proofs.YtjclehdhjnmlpaaW.PrintLast Go.Proofs.YtjclehdhjnmlpaaW.PrintMore
attribute [local go_sem] max2_int min2_int max_two min_two max_three min_three max_four min_four
set_option linter.unusedVariables false
set_option linter.unusedSimpArgs false

/-- Is it a span? -/
def vspan (lo hi : Int) : Bool := (vld lo && vld hi) && decide (lo ≤ hi)
def integer_ValidSpan.f (lo hi : Int) : Option Bool := some (vspan lo hi)
set_option maxRecDepth 100000 in
theorem validspan_c (lo hi : Int) (w : World) : Calls Try.prog 51 #[.agg #[.int .i64 lo, .int .i64 hi]] w fun e w' => e = .returned (.bool (vspan lo hi)) ∧ Below w.heap.size w w' := by
  have hA := lit_C (w.alloc (.cells #[.int .i64 lo, .int .i64 hi] 38)) [lo, hi] 3 (by simp)
  rw [World.size_alloc] at hA
  have HA := Lib.hid hA
  clear hA
  cases hv : (vld lo && vld hi) with
  | true =>
    have HV := Lib.hid ((all2 lo hi).trans hv)
    by_cases hle : lo ≤ hi
    · have e : vspan lo hi = true := by unfold vspan; rw [hv]; simpa using hle
      rw [e]; clear e hv
      go_enter Try.func51, Try.ntmps51
      go_wp2_with fail
      refine (all_c _ _ _ _ HA.out).mono ?_
      rintro e w' ⟨rfl, rfl⟩
      rw [HV.out]
      go_wp2
      go_ret
      exact ⟨rfl, by go_grown⟩
    · have e : vspan lo hi = false := by unfold vspan; rw [hv]; simpa using hle
      rw [e]; clear e hv
      go_enter Try.func51, Try.ntmps51
      go_wp2_with fail
      refine (all_c _ _ _ _ HA.out).mono ?_
      rintro e w' ⟨rfl, rfl⟩
      rw [HV.out]
      go_wp2
      go_ret
      exact ⟨by simp [hle], by go_grown⟩
  | false =>
    have HV := Lib.hid ((all2 lo hi).trans hv)
    have e : vspan lo hi = false := by unfold vspan; rw [hv]; rfl
    rw [e]; clear e hv
    go_enter Try.func51, Try.ntmps51
    go_wp2_with fail
    refine (all_c _ _ _ _ HA.out).mono ?_
    rintro e w' ⟨rfl, rfl⟩
    rw [HV.out]
    go_wp2
    go_ret
    exact ⟨rfl, by go_grown⟩

theorem integer_ValidSpan.calls (a0_0 a0_1 : Int) (r : Bool) (w : World) (h : integer_ValidSpan.f a0_0 a0_1 = some r) :
    Calls Try.prog 51 #[.agg #[.int .i64 a0_0, .int .i64 a0_1]] w fun e w' => e = .returned (.bool r) ∧ Below w.heap.size w w' := by
  cases h
  exact validspan_c _ _ _

theorem corners_c (g : FuncId) (he : Enters g) (op : Int → Int → Int) (ok : Int → Int → Prop)
    (hop : ∀ x y, ok x y → ∀ w, Calls Try.prog g #[.int .i64 x, .int .i64 y] w fun e w' => e = .returned (.int .i64 (op x y)) ∧ w = w')
    (a1 a2 b1 b2 : Int) (h11 : ok a1 b1) (h12 : ok a1 b2) (h21 : ok a2 b1) (h22 : ok a2 b2) (w : World) :
    Calls Try.prog 94 #[.agg #[.int .i64 a1, .int .i64 a2], .agg #[.int .i64 b1, .int .i64 b2], .func (.func g) #[] #[]] w fun e w' =>
      e = .returned (.agg #[.int .i64 (lmin [op a1 b1, op a1 b2, op a2 b1, op a2 b2]), .int .i64 (lmax [op a1 b1, op a1 b2, op a2 b1, op a2 b2])]) ∧ Below w.heap.size w w' :=
  callsIn_wide.1 (corners_in g he op ok hop a1 a2 b1 b2 h11 h12 h21 h22 w)

/-- The span from the least to the greatest of four numbers, cut to the integers. -/
def cutS (lo hi : Int) : Int × Int × Bool × Int :=
  if lo > 2147483647 ∨ hi < -2147483647 then (0, 0, false, 3) else (if lo < -2147483647 then -2147483647 else lo, if 2147483647 < hi then 2147483647 else hi, !(vld lo && vld hi), 0)
def spansS (op : Int → Int → Int) (a1 a2 b1 b2 : Int) : Int × Int × Bool × Int :=
  if (vspan a1 a2 && vspan b1 b2) = true then cutS (lmin [op a1 b1, op a1 b2, op a2 b1, op a2 b2]) (lmax [op a1 b1, op a1 b2, op a2 b1, op a2 b2]) else (0, 0, false, 1)
def sp4 (r : Int × Int × Bool × Int) : Value := .tuple #[.agg #[.int .i64 r.1, .int .i64 r.2.1], .bool r.2.2.1, .int .i64 r.2.2.2]

theorem bcell {W w1 : World} (hb : Below W.heap.size W w1) : (∀ b o, b < W.heap.size → w1.cell? ⟨b, o, none⟩ = W.cell? ⟨b, o, none⟩) ∧ (∀ b o, b < W.heap.size → w1.frozen? ⟨b, o, none⟩ = W.frozen? ⟨b, o, none⟩) :=
  ⟨fun b o h => hb.cell (p := ⟨b, o, none⟩) h, fun b o h => hb.frozen (p := ⟨b, o, none⟩) h⟩

set_option maxRecDepth 100000 in
set_option maxHeartbeats 4000000 in
theorem spans_bad1 (g : FuncId) (op : Int → Int → Int) (a1 a2 b1 b2 : Int) (w : World) (ha : vspan a1 a2 = false) :
    Calls Try.prog 92 #[.agg #[.int .i64 a1, .int .i64 a2], .agg #[.int .i64 b1, .int .i64 b2], .func (.func g) #[] #[]] w fun e w' =>
      e = .returned (.tuple #[.agg #[.int .i64 0, .int .i64 0], .bool false, .int .i64 1]) ∧ Below w.heap.size w w' := by
  have HA := Lib.hid ha
  clear ha
  go_enter Try.func92, Try.ntmps92
  go_wp2_with fail
  refine (validspan_c _ _ _).mono ?_
  rintro e w1 ⟨rfl, hb⟩
  rw [HA.out]
  obtain ⟨hc, hf⟩ := bcell hb
  have hs := hb.size
  simp only [World.size_alloc] at hs
  have hb0 : Below w.heap.size w w1 := (by go_grown : Below w.heap.size w (((w.alloc (.cells #[.int .i64 a1, .int .i64 a2] 38)).alloc (.cells #[.int .i64 b1, .int .i64 b2] 38)).alloc (.cells #[.int .i64 0, .int .i64 0] 38))).trans (hb.mono (by simp; omega))
  go_wp2
  refine bodyPost_ret (v := .tuple #[.agg #[.int .i64 0, .int .i64 0], .bool false, .int .i64 1]) (by simp [results, Try.results92, go_sem, hc]) rfl ⟨rfl, ?_⟩
  exact (hb0.setCell (by simp; omega) _).setCell (by simp; omega) _

set_option maxRecDepth 100000 in
set_option maxHeartbeats 4000000 in
theorem spans_bad2 (g : FuncId) (op : Int → Int → Int) (a1 a2 b1 b2 : Int) (w : World) (ha : vspan a1 a2 = true) (hb' : vspan b1 b2 = false) :
    Calls Try.prog 92 #[.agg #[.int .i64 a1, .int .i64 a2], .agg #[.int .i64 b1, .int .i64 b2], .func (.func g) #[] #[]] w fun e w' =>
      e = .returned (.tuple #[.agg #[.int .i64 0, .int .i64 0], .bool false, .int .i64 1]) ∧ Below w.heap.size w w' := by
  have HA := Lib.hid ha
  have HB := Lib.hid hb'
  clear ha hb'
  go_enter Try.func92, Try.ntmps92
  go_wp2_with fail
  refine (validspan_c _ _ _).mono ?_
  rintro e w1 ⟨rfl, hb⟩
  rw [HA.out]
  obtain ⟨hc, hf⟩ := bcell hb
  have hs := hb.size
  simp only [World.size_alloc] at hs
  have hb0 : Below w.heap.size w w1 := (by go_grown : Below w.heap.size w (((w.alloc (.cells #[.int .i64 a1, .int .i64 a2] 38)).alloc (.cells #[.int .i64 b1, .int .i64 b2] 38)).alloc (.cells #[.int .i64 0, .int .i64 0] 38))).trans (hb.mono (by simp; omega))
  go_wp2_with fail
  refine (validspan_c _ _ _).mono ?_
  rintro e w2 ⟨rfl, hb2⟩
  rw [HB.out]
  obtain ⟨hc2, hf2⟩ := bcell hb2
  have hs2 := hb2.size
  have hb1 := hb0.trans (hb2.mono hb0.size)
  have k0 : w2.cell? ⟨w.heap.size + 1 + 1, 0, none⟩ = some (.int .i64 0) := by rw [hc2 _ _ (by omega), hc _ _ (by simp)]; first | go_cell | simp [go_sem]
  have k1 : w2.cell? ⟨w.heap.size + 1 + 1, 1, none⟩ = some (.int .i64 0) := by rw [hc2 _ _ (by omega), hc _ _ (by simp)]; first | go_cell | simp [go_sem]
  have l0 : w2.frozen? ⟨w.heap.size + 1 + 1, 0, none⟩ = false := by rw [hf2 _ _ (by omega), hf _ _ (by simp)]; first | go_cell | simp [go_sem]
  have l1 : w2.frozen? ⟨w.heap.size + 1 + 1, 1, none⟩ = false := by rw [hf2 _ _ (by omega), hf _ _ (by simp)]; first | go_cell | simp [go_sem]
  clear hc hf hc2 hf2
  go_wp2
  refine bodyPost_ret (v := .tuple #[.agg #[.int .i64 0, .int .i64 0], .bool false, .int .i64 1]) (by simp [results, Try.results92, go_sem, k0, k1]) rfl ⟨rfl, ?_⟩
  exact (hb1.setCell (by simp; omega) _).setCell (by simp; omega) _

theorem set4_cells (W : World) (n : Nat) (v0 v1 x0 x1 L H : Value) (o : Obj) (k0 : W.cell? ⟨n, 0, none⟩ = some x0) (k1 : W.cell? ⟨n, 1, none⟩ = some x1) (hn : n < W.heap.size) :
    (((((W.setCell ⟨n, 0, none⟩ v0).setCell ⟨n, 1, none⟩ v1).setCell ⟨n, 0, none⟩ L).setCell ⟨n, 1, none⟩ H).alloc o).cell? ⟨n, 0, none⟩ = some L ∧
    (((((W.setCell ⟨n, 0, none⟩ v0).setCell ⟨n, 1, none⟩ v1).setCell ⟨n, 0, none⟩ L).setCell ⟨n, 1, none⟩ H).alloc o).cell? ⟨n, 1, none⟩ = some H := by
  have ne : (⟨n, 1, none⟩ : Addr) ≠ ⟨n, 0, none⟩ := by simp
  have ne' : (⟨n, 0, none⟩ : Addr) ≠ ⟨n, 1, none⟩ := by simp
  have a1 := (World.cell?_setCell_other W _ _ v0 ne').trans k1
  have a2 := World.cell?_setCell_same _ _ v1 a1
  have a3 := (World.cell?_setCell_other _ _ _ L ne').trans a2
  have a4 := World.cell?_setCell_same _ _ H a3
  have b1 := World.cell?_setCell_same _ _ v0 k0
  have b2 := (World.cell?_setCell_other _ _ _ v1 ne).trans b1
  have b3 := World.cell?_setCell_same _ _ L b2
  have b4 := (World.cell?_setCell_other _ _ _ H ne).trans b3
  constructor
  · rw [World.cell?_alloc_past _ _ _ (by simpa using hn)]; exact b4
  · rw [World.cell?_alloc_past _ _ _ (by simpa using hn)]; exact a4

theorem spans_fin (w w3 : World) (lo hi L H : Int) (r : Int × Int × Bool × Int)
    (k0 : w3.cell? ⟨w.heap.size + 1 + 1, 0, none⟩ = some (.int .i64 0)) (k1 : w3.cell? ⟨w.heap.size + 1 + 1, 1, none⟩ = some (.int .i64 0))
    (hlt : w.heap.size + 1 + 1 < w3.heap.size) (hb : Below w.heap.size w w3)
    (HRR : (if lo < -2147483647 then -2147483647 else lo, if 2147483647 < hi then 2147483647 else hi, !(vld lo && vld hi), (0 : Int)) = r)
    (hL : (if lo < -2147483647 then -2147483647 else lo) = L) (hH : (if 2147483647 < hi then 2147483647 else hi) = H)
    (a : Act) (h6 : a.tmps[6]? = some (.pointer (some ⟨w.heap.size + 1 + 1, 0, none⟩))) (h7 : a.tmps[7]? = some (.bool (!vld lo || !vld hi))) (h8 : a.tmps[8]? = some (.int .i64 0)) (hd : a.defers = []) :
    bodyPost Try.prog Try.f92 (fun e w' => e = Ending.returned (sp4 r) ∧ Below w.heap.size w w') Exit.ret a
      (((((w3.setCell ⟨w.heap.size + 1 + 1, 0, none⟩ (.int .i64 lo)).setCell ⟨w.heap.size + 1 + 1, 1, none⟩ (.int .i64 hi)).setCell ⟨w.heap.size + 1 + 1, 0, none⟩ (.int .i64 L)).setCell ⟨w.heap.size + 1 + 1, 1, none⟩ (.int .i64 H)).alloc (.cells #[.int .i64 lo, .int .i64 hi] 3)) := by
  obtain ⟨q0, q1⟩ := set4_cells w3 (w.heap.size + 1 + 1) (.int .i64 lo) (.int .i64 hi) _ _ (.int .i64 L) (.int .i64 H) (.cells #[.int .i64 lo, .int .i64 hi] 3) k0 k1 hlt
  rw [hL, hH] at HRR
  subst HRR
  refine bodyPost_ret (v := .tuple #[.agg #[.int .i64 L, .int .i64 H], .bool (!vld lo || !vld hi), .int .i64 0]) (by simp [results, Try.results92, go_sem, h6, h7, h8, q0, q1]) hd ⟨by simp [sp4], ?_⟩
  have h4 := (((hb.setCell (p := ⟨w.heap.size + 1 + 1, 0, none⟩) (by simp; omega) (.int .i64 lo)).setCell (p := ⟨w.heap.size + 1 + 1, 1, none⟩) (by simp; omega) (.int .i64 hi)).setCell (p := ⟨w.heap.size + 1 + 1, 0, none⟩) (by simp; omega) (.int .i64 L)).setCell (p := ⟨w.heap.size + 1 + 1, 1, none⟩) (by simp; omega) (.int .i64 H)
  exact h4.alloc (by simp; omega) _

set_option maxRecDepth 100000 in
set_option maxHeartbeats 4000000 in
theorem spans_good (g : FuncId) (he : Enters g) (op : Int → Int → Int)
    (hop : ∀ x y, vld x = true → vld y = true → ∀ w, Calls Try.prog g #[.int .i64 x, .int .i64 y] w fun e w' => e = .returned (.int .i64 (op x y)) ∧ w = w')
    (a1 a2 b1 b2 : Int) (w : World) (ha : vspan a1 a2 = true) (hb' : vspan b1 b2 = true) (lo hi : Int) (r : Int × Int × Bool × Int)
    (hlo : lmin [op a1 b1, op a1 b2, op a2 b1, op a2 b2] = lo) (hhi : lmax [op a1 b1, op a1 b2, op a2 b1, op a2 b2] = hi) (hr : cutS lo hi = r) :
    Calls Try.prog 92 #[.agg #[.int .i64 a1, .int .i64 a2], .agg #[.int .i64 b1, .int .i64 b2], .func (.func g) #[] #[]] w fun e w' =>
      e = .returned (sp4 r) ∧ Below w.heap.size w w' := by
  have HA := Lib.hid ha
  have HB := Lib.hid hb'
  have hav : vld a1 = true ∧ vld a2 = true := by unfold vspan at ha; simp at ha; exact ha.1
  have hbv : vld b1 = true ∧ vld b2 = true := by unfold vspan at hb'; simp at hb'; exact hb'.1
  have HCO := Lib.hid (fun w => corners_c g he op (fun x y => vld x = true ∧ vld y = true) (fun x y h => hop x y h.1 h.2) a1 a2 b1 b2 ⟨hav.1, hbv.1⟩ ⟨hav.1, hbv.2⟩ ⟨hav.2, hbv.1⟩ ⟨hav.2, hbv.2⟩ w)
  rw [hlo, hhi] at HCO
  clear ha hb' hav hbv hop he hlo hhi
  have HR := Lib.hid hr
  clear hr
  go_enter Try.func92, Try.ntmps92
  go_wp2_with fail
  refine (validspan_c _ _ _).mono ?_
  rintro e w1 ⟨rfl, hb⟩
  rw [HA.out]
  obtain ⟨hc, hf⟩ := bcell hb
  have hs := hb.size
  simp only [World.size_alloc] at hs
  have hb0 : Below w.heap.size w w1 := (by go_grown : Below w.heap.size w (((w.alloc (.cells #[.int .i64 a1, .int .i64 a2] 38)).alloc (.cells #[.int .i64 b1, .int .i64 b2] 38)).alloc (.cells #[.int .i64 0, .int .i64 0] 38))).trans (hb.mono (by simp; omega))
  go_wp2_with fail
  refine (validspan_c _ _ _).mono ?_
  rintro e w2 ⟨rfl, hb2⟩
  rw [HB.out]
  obtain ⟨hc2, hf2⟩ := bcell hb2
  have hs2 := hb2.size
  have hb1 := hb0.trans (hb2.mono hb0.size)
  have i0 : w2.cell? ⟨w.heap.size, 0, none⟩ = some (.int .i64 a1) := by rw [hc2 _ _ (by omega), hc _ _ (by simp; omega)]; first | go_cell | simp [go_sem]
  have i1 : w2.cell? ⟨w.heap.size, 1, none⟩ = some (.int .i64 a2) := by rw [hc2 _ _ (by omega), hc _ _ (by simp; omega)]; first | go_cell | simp [go_sem]
  have j0 : w2.cell? ⟨w.heap.size + 1, 0, none⟩ = some (.int .i64 b1) := by rw [hc2 _ _ (by omega), hc _ _ (by simp)]; first | go_cell | simp [go_sem]
  have j1 : w2.cell? ⟨w.heap.size + 1, 1, none⟩ = some (.int .i64 b2) := by rw [hc2 _ _ (by omega), hc _ _ (by simp)]; first | go_cell | simp [go_sem]
  have k0 : w2.cell? ⟨w.heap.size + 1 + 1, 0, none⟩ = some (.int .i64 0) := by rw [hc2 _ _ (by omega), hc _ _ (by simp)]; first | go_cell | simp [go_sem]
  have k1 : w2.cell? ⟨w.heap.size + 1 + 1, 1, none⟩ = some (.int .i64 0) := by rw [hc2 _ _ (by omega), hc _ _ (by simp)]; first | go_cell | simp [go_sem]
  have l0 : w2.frozen? ⟨w.heap.size + 1 + 1, 0, none⟩ = false := by rw [hf2 _ _ (by omega), hf _ _ (by simp)]; first | go_cell | simp [go_sem]
  have l1 : w2.frozen? ⟨w.heap.size + 1 + 1, 1, none⟩ = false := by rw [hf2 _ _ (by omega), hf _ _ (by simp)]; first | go_cell | simp [go_sem]
  clear hc hf hc2 hf2
  go_wp2_with fail
  refine (HCO.out _).mono ?_
  rintro e w3 ⟨rfl, hb3⟩
  obtain ⟨hc3, hf3⟩ := bcell hb3
  have hs3 := hb3.size
  have hb2' := hb1.trans (hb3.mono hb1.size)
  have k0 : w3.cell? ⟨w.heap.size + 1 + 1, 0, none⟩ = some (.int .i64 0) := by rw [hc3 _ _ (by omega)]; exact k0
  have k1 : w3.cell? ⟨w.heap.size + 1 + 1, 1, none⟩ = some (.int .i64 0) := by rw [hc3 _ _ (by omega)]; exact k1
  have l0 : w3.frozen? ⟨w.heap.size + 1 + 1, 0, none⟩ = false := by rw [hf3 _ _ (by omega)]; exact l0
  have l1 : w3.frozen? ⟨w.heap.size + 1 + 1, 1, none⟩ = false := by rw [hf3 _ _ (by omega)]; exact l1
  clear hc3 hf3 hb2 hb3 hb1
  have hlt : w.heap.size + 1 + 1 < w3.heap.size := by omega
  have HRR := HR.out
  clear HR
  clear HA HB HCO i0 i1 j0 j1 hb hs hs2 hs3
  rcases (by omega : lo > 2147483647 ∨ (lo ≤ 2147483647 ∧ hi < -2147483647) ∨ (lo ≤ 2147483647 ∧ -2147483647 ≤ hi)) with hbig | ⟨hl, hbig⟩ | ⟨hl, hh⟩
  · have e : cutS lo hi = (0, 0, false, 3) := by unfold cutS; rw [if_pos (by omega)]
    rw [e] at HRR
    subst HRR
    clear e
    go_wp2
    have q0 : ((((w3.setCell ⟨w.heap.size + 1 + 1, 0, none⟩ (.int .i64 lo)).setCell ⟨w.heap.size + 1 + 1, 1, none⟩ (.int .i64 hi)).setCell ⟨w.heap.size + 1 + 1, 0, none⟩ (.int .i64 0)).setCell ⟨w.heap.size + 1 + 1, 1, none⟩ (.int .i64 0)).cell? ⟨w.heap.size + 1 + 1, 0, none⟩ = some (.int .i64 0) := by first | go_cell | go_simp
    have q1 : ((((w3.setCell ⟨w.heap.size + 1 + 1, 0, none⟩ (.int .i64 lo)).setCell ⟨w.heap.size + 1 + 1, 1, none⟩ (.int .i64 hi)).setCell ⟨w.heap.size + 1 + 1, 0, none⟩ (.int .i64 0)).setCell ⟨w.heap.size + 1 + 1, 1, none⟩ (.int .i64 0)).cell? ⟨w.heap.size + 1 + 1, 1, none⟩ = some (.int .i64 0) := by first | go_cell | go_simp
    refine bodyPost_ret (v := .tuple #[.agg #[.int .i64 0, .int .i64 0], .bool false, .int .i64 3]) (by simp [results, Try.results92, go_sem, q0, q1]) rfl ⟨rfl, ?_⟩
    exact (((hb2'.setCell (by simp; omega) _).setCell (by simp; omega) _).setCell (by simp; omega) _).setCell (by simp; omega) _
  · have e : cutS lo hi = (0, 0, false, 3) := by unfold cutS; rw [if_pos (by omega)]
    rw [e] at HRR
    subst HRR
    clear e
    go_wp2
    have q0 : ((((w3.setCell ⟨w.heap.size + 1 + 1, 0, none⟩ (.int .i64 lo)).setCell ⟨w.heap.size + 1 + 1, 1, none⟩ (.int .i64 hi)).setCell ⟨w.heap.size + 1 + 1, 0, none⟩ (.int .i64 0)).setCell ⟨w.heap.size + 1 + 1, 1, none⟩ (.int .i64 0)).cell? ⟨w.heap.size + 1 + 1, 0, none⟩ = some (.int .i64 0) := by first | go_cell | go_simp
    have q1 : ((((w3.setCell ⟨w.heap.size + 1 + 1, 0, none⟩ (.int .i64 lo)).setCell ⟨w.heap.size + 1 + 1, 1, none⟩ (.int .i64 hi)).setCell ⟨w.heap.size + 1 + 1, 0, none⟩ (.int .i64 0)).setCell ⟨w.heap.size + 1 + 1, 1, none⟩ (.int .i64 0)).cell? ⟨w.heap.size + 1 + 1, 1, none⟩ = some (.int .i64 0) := by first | go_cell | go_simp
    refine bodyPost_ret (v := .tuple #[.agg #[.int .i64 0, .int .i64 0], .bool false, .int .i64 3]) (by simp [results, Try.results92, go_sem, q0, q1]) rfl ⟨rfl, ?_⟩
    exact (((hb2'.setCell (by simp; omega) _).setCell (by simp; omega) _).setCell (by simp; omega) _).setCell (by simp; omega) _
  · have e : cutS lo hi = (if lo < -2147483647 then -2147483647 else lo, if 2147483647 < hi then 2147483647 else hi, !(vld lo && vld hi), 0) := by unfold cutS; rw [if_neg (by omega)]
    rw [e] at HRR
    clear e
    have hA := lit_C (((w3.setCell ⟨w.heap.size + 1 + 1, 0, none⟩ (.int .i64 lo)).setCell ⟨w.heap.size + 1 + 1, 1, none⟩ (.int .i64 hi))) [lo, hi] 3 (by simp)
    rw [World.size_setCell, World.size_setCell] at hA
    have HA := Lib.hid hA
    clear hA
    have HV := Lib.hid (all2 lo hi)
    go_wp2_with fail
    refine (all_c _ _ _ _ HA.out).mono ?_
    rintro e w' ⟨rfl, rfl⟩
    rw [HV.out]
    go_wp2
    · exact spans_fin w w3 lo hi (-2147483647) 2147483647 r k0 k1 hlt hb2' HRR (by split <;> omega) (by split <;> omega) _ rfl rfl rfl rfl
    · exact spans_fin w w3 lo hi (-2147483647) hi r k0 k1 hlt hb2' HRR (by split <;> omega) (by split <;> omega) _ rfl rfl rfl rfl
    · exact spans_fin w w3 lo hi lo 2147483647 r k0 k1 hlt hb2' HRR (by split <;> omega) (by split <;> omega) _ rfl rfl rfl rfl
    · exact spans_fin w w3 lo hi lo hi r k0 k1 hlt hb2' HRR (by split <;> omega) (by split <;> omega) _ rfl rfl rfl rfl

theorem spans_c (g : FuncId) (he : Enters g) (op : Int → Int → Int)
    (hop : ∀ x y, vld x = true → vld y = true → ∀ w, Calls Try.prog g #[.int .i64 x, .int .i64 y] w fun e w' => e = .returned (.int .i64 (op x y)) ∧ w = w')
    (a1 a2 b1 b2 : Int) (w : World) :
    Calls Try.prog 92 #[.agg #[.int .i64 a1, .int .i64 a2], .agg #[.int .i64 b1, .int .i64 b2], .func (.func g) #[] #[]] w fun e w' =>
      e = .returned (sp4 (spansS op a1 a2 b1 b2)) ∧ Below w.heap.size w w' := by
  cases ha : vspan a1 a2 with
  | false =>
    have e : spansS op a1 a2 b1 b2 = (0, 0, false, 1) := by unfold spansS; rw [ha]; rfl
    rw [e]
    exact spans_bad1 g op a1 a2 b1 b2 w ha
  | true =>
    cases hb : vspan b1 b2 with
    | false =>
      have e : spansS op a1 a2 b1 b2 = (0, 0, false, 1) := by unfold spansS; rw [ha, hb]; rfl
      rw [e]
      exact spans_bad2 g op a1 a2 b1 b2 w ha hb
    | true =>
      have e : spansS op a1 a2 b1 b2 = cutS (lmin [op a1 b1, op a1 b2, op a2 b1, op a2 b2]) (lmax [op a1 b1, op a1 b2, op a2 b1, op a2 b2]) := by unfold spansS; rw [ha, hb]; rfl
      rw [e]
      exact spans_good g he op hop a1 a2 b1 b2 w ha hb _ _ _ rfl rfl rfl
end Go.Proofs.Ytjclehdhjnmlpaa.Given
