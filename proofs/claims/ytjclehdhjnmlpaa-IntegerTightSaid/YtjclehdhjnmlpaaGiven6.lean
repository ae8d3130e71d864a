/- The contract of 'corners' of package integer, over the seat's program: the least and the greatest of what an operation makes of the four pairs of the ends of two spans; the operation may be any that only computes. -/
import Derived.Test.YtjclehdhjnmlpaaGiven5
namespace Go.Proofs.Ytjclehdhjnmlpaa.Given
open Go.RowKit Go.Shelf Go.Proofs.YtjclehdhjnmlpaaW.PrintWords Go.Proofs.YtjclehdhjnmlpaaW.PrintLast Go.Proofs.YtjclehdhjnmlpaaW.PrintMore
set_option linter.unusedVariables false
set_option linter.unusedSimpArgs false
attribute [local go_sem] Oper.semAt_some

theorem ends_c (a1 a2 b1 b2 : Int) (w : World) : Calls Try.prog 98 #[.agg #[.int .i64 a1, .int .i64 a2], .agg #[.int .i64 b1, .int .i64 b2]] w fun e w' =>
    e = .returned (.func (.func 102) #[] #[.pointer (some ⟨w.heap.size, 0, none⟩), .pointer (some ⟨w.heap.size + 1, 0, none⟩)]) ∧ (w.alloc (.cells #[.int .i64 a1, .int .i64 a2] 38)).alloc (.cells #[.int .i64 b1, .int .i64 b2] 38) = w' := by
  have hmf : ∀ (fn : Fn) (first cap : Array Value) (w : World), (Instr.makeFunc fn first cap).run Try.prog w = .ok (.func fn first cap) w := fun _ _ _ _ => rfl
  go_enter Try.func98, Try.ntmps98
  go_wp2
  go_ret
  exact ⟨rfl, rfl⟩

/-- The results so far: 0 where there is none yet. -/
def nth (op : Int → Int → Int) {ok : Int → Int → Prop} (pre : List (Pr ok)) (j : Nat) : Int := (pre.map fun p => op p.1.1 p.1.2).getD j 0

theorem cells4_C (W : World) (b : Nat) (r0 r1 r2 r3 : Int) (h0 : W.cell? ⟨b, 0, none⟩ = some (.int .i64 r0)) (h1 : W.cell? ⟨b, 1, none⟩ = some (.int .i64 r1)) (h2 : W.cell? ⟨b, 2, none⟩ = some (.int .i64 r2)) (h3 : W.cell? ⟨b, 3, none⟩ = some (.int .i64 r3)) :
    Kd.C (Kd.int .i64) W (some ⟨b, 0, none⟩) 4 [r0, r1, r2, r3] := by
  refine Kd.C_of_reads (enc := Value.int .i64) (d := (0 : Int)) (h1 := fun _ => rfl) ⟨rfl, by omega, fun _ => ⟨_, rfl, ?_⟩⟩
  intro j hj
  have e : (⟨b, 0, none⟩ : Addr).add j = ⟨b, j, none⟩ := by
    unfold Addr.add
    split
    · rename_i h0; subst h0; rfl
    · simp
  rw [e]
  rcases (by omega : j = 0 ∨ j = 1 ∨ j = 2 ∨ j = 3) with h | h | h | h <;> subst h <;> assumption

set_option maxRecDepth 100000 in
set_option maxHeartbeats 4000000 in
theorem corners_in (g : FuncId) (he : Enters g) (op : Int → Int → Int) (ok : Int → Int → Prop)
    (hop : ∀ x y, ok x y → ∀ w, Calls Try.prog g #[.int .i64 x, .int .i64 y] w fun e w' => e = .returned (.int .i64 (op x y)) ∧ w = w')
    (a1 a2 b1 b2 : Int) (h11 : ok a1 b1) (h12 : ok a1 b2) (h21 : ok a2 b1) (h22 : ok a2 b2) (w : World) :
    CallsIn Fence.wide 9 Try.prog 94 #[.agg #[.int .i64 a1, .int .i64 a2], .agg #[.int .i64 b1, .int .i64 b2], .func (.func g) #[] #[]] w fun e w' =>
      e = .returned (.agg #[.int .i64 (lmin [op a1 b1, op a1 b2, op a2 b1, op a2 b2]), .int .i64 (lmax [op a1 b1, op a1 b2, op a2 b1, op a2 b2])]) ∧ Below w.heap.size w w' := by
  have HOP := Lib.hid hop
  clear hop
  have hro : Fence.wide.round = none := rfl
  have h94 : Fence.wide.fn 94 := trivial
  refine callsIn_of_wp_marks Try.func94 rfl h94 ?_ hro
  simp only [Try.ntmps94, List.size_toArray, List.length_cons, List.length_nil, Nat.reduceAdd, Nat.reduceSub, Array.replicate_succ, Array.replicate_zero, List.push_toArray, List.append_toArray, List.nil_append, List.cons_append]
  gi_wp2_with fail
  refine ⟨trivial, ?_⟩
  refine (callsIn_wide.2 (ends_c _ _ _ _ _)).mono ?_
  rintro e w' ⟨rfl, rfl⟩
  gi_wp2
  obtain ⟨Wl, hWl⟩ : ∃ X, (((((((w.alloc (.cells #[.int .i64 a1, .int .i64 a2] 38)).alloc (.cells #[.int .i64 b1, .int .i64 b2] 38)).alloc (.cells #[.func (.func g) #[] #[]] 56)).alloc (.cells #[.int .i64 0, .int .i64 0] 38)).alloc (.cells #[.int .i64 0, .int .i64 0, .int .i64 0, .int .i64 0] 66)).alloc (.cells #[.int .i64 0] 3)).alloc (.cells #[.int .i64 a1, .int .i64 a2] 38)).alloc (.cells #[.int .i64 b1, .int .i64 b2] 38) = X := ⟨_, rfl⟩
  rw [hWl]
  have c2_0 : Wl.cell? ⟨w.heap.size + 1 + 1, 0, none⟩ = some (.func (.func g) #[] #[]) := by rw [← hWl]; first | go_cell | (go_simp; done) | (simp [go_sem]; done)
  have c3_0 : Wl.cell? ⟨w.heap.size + 1 + 1 + 1, 0, none⟩ = some (.int .i64 0) := by rw [← hWl]; first | go_cell | (go_simp; done) | (simp [go_sem]; done)
  have c3_1 : Wl.cell? ⟨w.heap.size + 1 + 1 + 1, 1, none⟩ = some (.int .i64 0) := by rw [← hWl]; first | go_cell | (go_simp; done) | (simp [go_sem]; done)
  have c5_0 : Wl.cell? ⟨w.heap.size + 1 + 1 + 1 + 1 + 1, 0, none⟩ = some (.int .i64 0) := by rw [← hWl]; first | go_cell | (go_simp; done) | (simp [go_sem]; done)
  have c4_0 : Wl.cell? ⟨w.heap.size + 1 + 1 + 1 + 1, 0, none⟩ = some (.int .i64 0) := by rw [← hWl]; first | go_cell | (go_simp; done) | (simp [go_sem]; done)
  have c4_1 : Wl.cell? ⟨w.heap.size + 1 + 1 + 1 + 1, 1, none⟩ = some (.int .i64 0) := by rw [← hWl]; first | go_cell | (go_simp; done) | (simp [go_sem]; done)
  have c4_2 : Wl.cell? ⟨w.heap.size + 1 + 1 + 1 + 1, 2, none⟩ = some (.int .i64 0) := by rw [← hWl]; first | go_cell | (go_simp; done) | (simp [go_sem]; done)
  have c4_3 : Wl.cell? ⟨w.heap.size + 1 + 1 + 1 + 1, 3, none⟩ = some (.int .i64 0) := by rw [← hWl]; first | go_cell | (go_simp; done) | (simp [go_sem]; done)
  have c6_0 : Wl.cell? ⟨w.heap.size + 1 + 1 + 1 + 1 + 1 + 1, 0, none⟩ = some (.int .i64 a1) := by rw [← hWl]; first | go_cell | (go_simp; done) | (simp [go_sem]; done)
  have c6_1 : Wl.cell? ⟨w.heap.size + 1 + 1 + 1 + 1 + 1 + 1, 1, none⟩ = some (.int .i64 a2) := by rw [← hWl]; first | go_cell | (go_simp; done) | (simp [go_sem]; done)
  have c7_0 : Wl.cell? ⟨w.heap.size + 1 + 1 + 1 + 1 + 1 + 1 + 1, 0, none⟩ = some (.int .i64 b1) := by rw [← hWl]; first | go_cell | (go_simp; done) | (simp [go_sem]; done)
  have c7_1 : Wl.cell? ⟨w.heap.size + 1 + 1 + 1 + 1 + 1 + 1 + 1, 1, none⟩ = some (.int .i64 b2) := by rw [← hWl]; first | go_cell | (go_simp; done) | (simp [go_sem]; done)
  have f3_0 : Wl.frozen? ⟨w.heap.size + 1 + 1 + 1, 0, none⟩ = false := by rw [← hWl]; first | go_cell | (go_simp; done) | (simp [go_sem]; done)
  have f3_1 : Wl.frozen? ⟨w.heap.size + 1 + 1 + 1, 1, none⟩ = false := by rw [← hWl]; first | go_cell | (go_simp; done) | (simp [go_sem]; done)
  have f5_0 : Wl.frozen? ⟨w.heap.size + 1 + 1 + 1 + 1 + 1, 0, none⟩ = false := by rw [← hWl]; first | go_cell | (go_simp; done) | (simp [go_sem]; done)
  have f4_0 : Wl.frozen? ⟨w.heap.size + 1 + 1 + 1 + 1, 0, none⟩ = false := by rw [← hWl]; first | go_cell | (go_simp; done) | (simp [go_sem]; done)
  have f4_1 : Wl.frozen? ⟨w.heap.size + 1 + 1 + 1 + 1, 1, none⟩ = false := by rw [← hWl]; first | go_cell | (go_simp; done) | (simp [go_sem]; done)
  have f4_2 : Wl.frozen? ⟨w.heap.size + 1 + 1 + 1 + 1, 2, none⟩ = false := by rw [← hWl]; first | go_cell | (go_simp; done) | (simp [go_sem]; done)
  have f4_3 : Wl.frozen? ⟨w.heap.size + 1 + 1 + 1 + 1, 3, none⟩ = false := by rw [← hWl]; first | go_cell | (go_simp; done) | (simp [go_sem]; done)
  have hsz : Wl.heap.size = w.heap.size + 8 := by rw [← hWl]; first | go_cell | (go_simp; done) | (simp [go_sem]; done)
  have hB0 : Below w.heap.size w Wl := by rw [← hWl]; go_grown
  clear hWl
  have hK1 : KeepAt (fun k => k = w.heap.size + 1 + 1 + 1 + 1 + 1 + 1 ∨ k = w.heap.size + 1 + 1 + 1 + 1 + 1 + 1 + 1) Wl Wl := fun _ _ => rfl
  refine wpIn_rangeFunc_ownF hro (by omega) (gf := 102) (lb := #[.pointer (some ⟨w.heap.size + 1 + 1 + 1 + 1 + 1 + 1, 0, none⟩), .pointer (some ⟨w.heap.size + 1 + 1 + 1 + 1 + 1 + 1 + 1, 0, none⟩)]) rfl trivial (enters_of Try.func102 (by kernel_rfl) (by kernel_rfl))
    (ends1_stops Fence.wide _ trivial hro (by omega) (w.heap.size + 1 + 1 + 1 + 1 + 1 + 1) (w.heap.size + 1 + 1 + 1 + 1 + 1 + 1 + 1) ok a1 a2 b1 b2 h11 h12 h21 h22 Wl c6_0 c6_1 c7_0 c7_1 (by omega) (by omega))
    keepAt_t (fun W l o o' hl hg _ _ i hi => by
      show (W.putObj l o').heap[i]? = W.heap[i]?
      have : i ≠ l := by rcases hi with rfl | rfl <;> omega
      simp only [World.putObj, Array.getElem?_setIfInBounds]
      rw [if_neg (fun e => this e.symm)])
    (Below.refl _ _) (fun _ => rfl)
    (fun pre W => (W.cell? ⟨w.heap.size + 1 + 1, 0, none⟩ = some (.func (.func g) #[] #[]) ∧ W.cell? ⟨w.heap.size + 1 + 1 + 1, 0, none⟩ = some (.int .i64 0) ∧ W.frozen? ⟨w.heap.size + 1 + 1 + 1, 0, none⟩ = false ∧ W.cell? ⟨w.heap.size + 1 + 1 + 1, 1, none⟩ = some (.int .i64 0) ∧ W.frozen? ⟨w.heap.size + 1 + 1 + 1, 1, none⟩ = false ∧ W.cell? ⟨w.heap.size + 1 + 1 + 1 + 1 + 1, 0, none⟩ = some (.int .i64 pre.length) ∧ W.frozen? ⟨w.heap.size + 1 + 1 + 1 + 1 + 1, 0, none⟩ = false ∧ W.cell? ⟨w.heap.size + 1 + 1 + 1 + 1, 0, none⟩ = some (.int .i64 (nth op pre 0)) ∧ W.frozen? ⟨w.heap.size + 1 + 1 + 1 + 1, 0, none⟩ = false ∧ W.cell? ⟨w.heap.size + 1 + 1 + 1 + 1, 1, none⟩ = some (.int .i64 (nth op pre 1)) ∧ W.frozen? ⟨w.heap.size + 1 + 1 + 1 + 1, 1, none⟩ = false ∧ W.cell? ⟨w.heap.size + 1 + 1 + 1 + 1, 2, none⟩ = some (.int .i64 (nth op pre 2)) ∧ W.frozen? ⟨w.heap.size + 1 + 1 + 1 + 1, 2, none⟩ = false ∧ W.cell? ⟨w.heap.size + 1 + 1 + 1 + 1, 3, none⟩ = some (.int .i64 (nth op pre 3)) ∧ W.frozen? ⟨w.heap.size + 1 + 1 + 1 + 1, 3, none⟩ = false) ∧ Below w.heap.size w W)
    (fun _ _ _ => False)
    (OwnFrom.and (Own.from (fun s A B row hs hg hr => ⟨cell_kept hs.1 hg hr, cell_kept hs.2.1 hg hr, (frozen_kept hs.2.1 hg hr).trans hs.2.2.1, cell_kept hs.2.2.2.1 hg hr, (frozen_kept hs.2.2.2.1 hg hr).trans hs.2.2.2.2.1, cell_kept hs.2.2.2.2.2.1 hg hr, (frozen_kept hs.2.2.2.2.2.1 hg hr).trans hs.2.2.2.2.2.2.1, cell_kept hs.2.2.2.2.2.2.2.1 hg hr, (frozen_kept hs.2.2.2.2.2.2.2.1 hg hr).trans hs.2.2.2.2.2.2.2.2.1, cell_kept hs.2.2.2.2.2.2.2.2.2.1 hg hr, (frozen_kept hs.2.2.2.2.2.2.2.2.2.1 hg hr).trans hs.2.2.2.2.2.2.2.2.2.2.1, cell_kept hs.2.2.2.2.2.2.2.2.2.2.2.1 hg hr, (frozen_kept hs.2.2.2.2.2.2.2.2.2.2.2.1 hg hr).trans hs.2.2.2.2.2.2.2.2.2.2.2.2.1, cell_kept hs.2.2.2.2.2.2.2.2.2.2.2.2.2.1 hg hr, (frozen_kept hs.2.2.2.2.2.2.2.2.2.2.2.2.2.1 hg hr).trans hs.2.2.2.2.2.2.2.2.2.2.2.2.2.2⟩) _) (ownFrom_below (Nat.le_refl _) (by omega)))
    (fun _ _ _ _ _ hs _ _ => hs)
    ⟨⟨c2_0, c3_0, f3_0, c3_1, f3_1, (by simpa using c5_0), f5_0, c4_0, f4_0, c4_1, f4_1, c4_2, f4_2, c4_3, f4_3⟩, hB0⟩
    (fun x => { tmps := #[.agg #[.int .i64 a1, .int .i64 a2], .agg #[.int .i64 b1, .int .i64 b2], .func (.func g) #[] #[], .pointer (some ⟨w.heap.size, 0, none⟩), .pointer (some ⟨w.heap.size + 1, 0, none⟩), .pointer (some ⟨w.heap.size + 1 + 1, 0, none⟩), .pointer (some ⟨w.heap.size + 1 + 1 + 1, 0, none⟩), .pointer (some ⟨w.heap.size + 1 + 1 + 1 + 1, 0, none⟩), .pointer (some ⟨w.heap.size + 1 + 1 + 1 + 1 + 1, 0, none⟩), .int .i64 x.1.1, .int .i64 x.1.2, .agg #[.int .i64 a1, .int .i64 a2], .agg #[.int .i64 b1, .int .i64 b2], .func (.func 102) #[] #[.pointer (some ⟨w.heap.size + 1 + 1 + 1 + 1 + 1 + 1, 0, none⟩), .pointer (some ⟨w.heap.size + 1 + 1 + 1 + 1 + 1 + 1 + 1, 0, none⟩)], .int .i64 x.1.1, .int .i64 x.1.2, undef, undef, undef, undef, undef, undef, undef, undef, undef, undef, undef, undef, undef], defers := [] }) ?assign ?body ?done ?stop
  case assign =>
    intro l x W K hK
    gi_wp2
    exact hK
  case body =>
    clear c2_0 c3_0 c3_1 c5_0 c4_0 c4_1 c4_2 c4_3 c6_0 c6_1 c7_0 c7_1 f3_0 f3_1 f5_0 f4_0 f4_1 f4_2 f4_3 hB0 hK1
    rintro l pre x W ⟨⟨c2_0, c3_0, f3_0, c3_1, f3_1, c5_0, f5_0, c4_0, f4_0, c4_1, f4_1, c4_2, f4_2, c4_3, f4_3⟩, hB⟩ hlen
    have hd : 1 ≤ 9 - 1 - 1 := by omega
    have heu : ∀ args (w : World), (callFunc g args).run Try.prog w = .ok (.enter g args) w := he
    have hmx : Try.prog.follows .mixedOrders = true := by kernel_rfl
    have HX := Lib.hid x.2
    obtain ⟨k, hk⟩ : ∃ k, pre.length = k := ⟨_, rfl⟩
    rw [hk] at c5_0 hlen
    have hlt : k < 4 := hlen
    have d4 : ∃ v, W.cell? ⟨w.heap.size + 1 + 1 + 1 + 1, k, none⟩ = some (.int .i64 v) := by
      rcases (by omega : k = 0 ∨ k = 1 ∨ k = 2 ∨ k = 3) with h | h | h | h <;> subst h <;> exact ⟨_, by assumption⟩
    have d4f : W.frozen? ⟨w.heap.size + 1 + 1 + 1 + 1, k, none⟩ = false := by
      rcases (by omega : k = 0 ∨ k = 1 ∨ k = 2 ∨ k = 3) with h | h | h | h <;> subst h <;> assumption
    obtain ⟨v, d4⟩ := d4
    have HC := Lib.hid (And.intro c4_0 (And.intro c4_1 (And.intro c4_2 c4_3)))
    have HF := Lib.hid (And.intro f4_0 (And.intro f4_1 (And.intro f4_2 f4_3)))
    have HR := Lib.hid (And.intro c3_0 (And.intro f3_0 (And.intro c3_1 f3_1)))
    have HK := Lib.hid hk
    clear c4_0 c4_1 c4_2 c4_3 f4_0 f4_1 f4_2 f4_3 c3_0 f3_0 c3_1 f3_1 hk hlen
    refine wpIn_block (wpIn_seq (wpIn_mono (Q := Exit.then (fun a' W' => a' = { tmps := #[.agg #[.int .i64 a1, .int .i64 a2], .agg #[.int .i64 b1, .int .i64 b2], .func (.func g) #[] #[], .pointer (some ⟨w.heap.size, 0, none⟩), .pointer (some ⟨w.heap.size + 1, 0, none⟩), .pointer (some ⟨w.heap.size + 1 + 1, 0, none⟩), .pointer (some ⟨w.heap.size + 1 + 1 + 1, 0, none⟩), .pointer (some ⟨w.heap.size + 1 + 1 + 1 + 1, 0, none⟩), .pointer (some ⟨w.heap.size + 1 + 1 + 1 + 1 + 1, 0, none⟩), .int .i64 x.1.1, .int .i64 x.1.2, .agg #[.int .i64 a1, .int .i64 a2], .agg #[.int .i64 b1, .int .i64 b2], .func (.func 102) #[] #[.pointer (some ⟨w.heap.size + 1 + 1 + 1 + 1 + 1 + 1, 0, none⟩), .pointer (some ⟨w.heap.size + 1 + 1 + 1 + 1 + 1 + 1 + 1, 0, none⟩)], .int .i64 x.1.1, .int .i64 x.1.2, .int .i64 ↑k, .func (.func g) #[] #[], .int .i64 x.1.1, .int .i64 x.1.2, .int .i64 (op x.1.1 x.1.2), .pointer (some ⟨w.heap.size + 1 + 1 + 1 + 1, k, none⟩), undef, undef, undef, undef, undef, undef, undef], defers := [] } ∧ W' = (W.setCell ⟨w.heap.size + 1 + 1 + 1 + 1, k, none⟩ (.int .i64 (op x.1.1 x.1.2))).drew) (fun _ _ _ => False)) ?_ ?_))
    · gi_region_with_o (refine ⟨trivial, ?_⟩; refine (CallsIn.inRound l (callsIn_wide.2 (HOP.out _ _ HX.out _))).mono ?_; rintro e w' ⟨rfl, rfl⟩)
      all_goals exact ⟨rfl, rfl⟩
    · intro e a' W' h
      obtain ⟨rfl, rfl, rfl⟩ : e = .normal ∧ a' = _ ∧ W' = _ := by
        cases e with
        | normal => exact ⟨rfl, h.1, h.2⟩
        | exit id => exact h.elim
        | goto l => exact h.elim
        | ret => exact h.elim
        | panic ch => exact h.elim
        | outgrown => exact h.elim
      have d5' : ((W.setCell ⟨w.heap.size + 1 + 1 + 1 + 1, k, none⟩ (.int .i64 (op x.1.1 x.1.2))).drew).cell? ⟨w.heap.size + 1 + 1 + 1 + 1 + 1, 0, none⟩ = some (.int .i64 ↑k) := by go_cell
      have d5f : ((W.setCell ⟨w.heap.size + 1 + 1 + 1 + 1, k, none⟩ (.int .i64 (op x.1.1 x.1.2))).drew).frozen? ⟨w.heap.size + 1 + 1 + 1 + 1 + 1, 0, none⟩ = false := by go_cell
      show Code.wpIn _ _ _ _ _ _ _
      gi_wp2
      obtain ⟨e0, e1, e2, e3⟩ := HC.out
      obtain ⟨g0, g1, g2, g3⟩ := HF.out
      obtain ⟨r0, r1, r2, r3⟩ := HR.out
      have hk := HK.out
      have hl : (pre ++ [x]).length = k + 1 := by simp [hk]
      have hn : ∀ j, j ≠ k → nth op (pre ++ [x]) j = nth op pre j := by
        intro j hj
        unfold nth
        rw [List.map_append, List.getD_eq_getElem?_getD, List.getD_eq_getElem?_getD]
        by_cases hjk : j < k
        · rw [List.getElem?_append_left (by simp; omega)]
        · rw [List.getElem?_append_right (by simp; omega), List.getElem?_eq_none (by simp; omega), List.getElem?_eq_none (by simp; omega)]
      have hnk : nth op (pre ++ [x]) k = op x.1.1 x.1.2 := by
        unfold nth
        rw [List.map_append, List.getD_eq_getElem?_getD, List.getElem?_append_right (by simp; omega)]
        simp [hk]
      have hcast : ((k + 1 : Nat) : Int) = (k : Int) + 1 := by omega
      show _ ∧ _ ∧ _ ∧ _
      rw [hl, hcast]
      refine ⟨(KeepsOthers.setCell _ _ _).trans ((KeepsOthers.setCell _ _ _).trans (KeepsOthers.drew _)), ?_, ⟨?_, ?_, ?_, ?_, ?_, ?_, ?_, ?_, ?_, ?_, ?_, ?_, ?_, ?_, ?_⟩, ?_⟩
      · intro i hi
        refine (Below.heap_setCell _ _ _ _ ?_).trans (Below.heap_setCell _ _ _ _ ?_) <;> (rcases hi with rfl | rfl <;> (show _ ≠ _ + _; omega))
      · go_cell
      · go_cell
      · go_cell
      · go_cell
      · go_cell
      · go_cell
      · go_cell
      all_goals first | (rcases (by omega : k = 0 ∨ k = 1 ∨ k = 2 ∨ k = 3) with h | h | h | h <;> subst h <;> first | (rw [hnk]; go_cell) | (rw [hn _ (by omega)]; go_cell) | go_cell) | skip
      exact ((hB.setCell (p := ⟨w.heap.size + 1 + 1 + 1 + 1, k, none⟩) (by simp; omega) _).setCell (p := ⟨w.heap.size + 1 + 1 + 1 + 1 + 1, 0, none⟩) (by simp; omega) _).drew
  case done =>
    clear c2_0 c3_0 c3_1 c5_0 c4_0 c4_1 c4_2 c4_3 c6_0 c6_1 c7_0 c7_1 f3_0 f3_1 f5_0 f4_0 f4_1 f4_2 f4_3 hB0 hK1
    rintro D xs W hD rfl ⟨⟨c2_0, c3_0, f3_0, c3_1, f3_1, c5_0, f5_0, c4_0, f4_0, c4_1, f4_1, c4_2, f4_2, c4_3, f4_3⟩, hB⟩ hK
    have HL := Lib.hid (cells4_C W.drew (w.heap.size + 1 + 1 + 1 + 1) (op a1 b1) (op a1 b2) (op a2 b1) (op a2 b2) c4_0 c4_1 c4_2 c4_3)
    clear c4_0 c4_1 c4_2 c4_3 f4_0 f4_1 f4_2 f4_3 c5_0 f5_0 c2_0
    obtain ⟨mn, hmn⟩ : ∃ m, lmin [op a1 b1, op a1 b2, op a2 b1, op a2 b2] = m := ⟨_, rfl⟩
    obtain ⟨mx_, hmx_⟩ : ∃ m, lmax [op a1 b1, op a1 b2, op a2 b1, op a2 b2] = m := ⟨_, rfl⟩
    have H1 : Hid (Calls Try.prog 99 #[.slice (some ⟨w.heap.size + 1 + 1 + 1 + 1, 0, none⟩) 4 4] W.drew fun e w' => e = .returned (.int .i64 mn) ∧ W.drew = w') := by
      show Calls _ _ _ _ _
      rw [← hmn]; exact min_c _ 4 [op a1 b1, op a1 b2, op a2 b1, op a2 b2] _ (by simp) HL.out
    have H2 : Hid (Calls Try.prog 100 #[.slice (some ⟨w.heap.size + 1 + 1 + 1 + 1, 0, none⟩) 4 4] W.drew fun e w' => e = .returned (.int .i64 mx_) ∧ W.drew = w') := by
      show Calls _ _ _ _ _
      rw [← hmx_]; exact max_c _ 4 [op a1 b1, op a1 b2, op a2 b1, op a2 b2] _ (by simp) HL.out
    have HE := Lib.hid (And.intro hmn hmx_)
    clear hmn hmx_
    have hd : 1 ≤ 9 - 1 - 1 := by omega
    have hmx : Try.prog.follows .mixedOrders = true := by kernel_rfl
    gi_wp2
    refine wpIn_mono (Q := Exit.then (fun a' W' => a' = { tmps := #[.agg #[.int .i64 a1, .int .i64 a2], .agg #[.int .i64 b1, .int .i64 b2], .func (.func g) #[] #[], .pointer (some ⟨w.heap.size, 0, none⟩), .pointer (some ⟨w.heap.size + 1, 0, none⟩), .pointer (some ⟨w.heap.size + 1 + 1, 0, none⟩), .pointer (some ⟨w.heap.size + 1 + 1 + 1, 0, none⟩), .pointer (some ⟨w.heap.size + 1 + 1 + 1 + 1, 0, none⟩), .pointer (some ⟨w.heap.size + 1 + 1 + 1 + 1 + 1, 0, none⟩), undef, undef, .agg #[.int .i64 a1, .int .i64 a2], .agg #[.int .i64 b1, .int .i64 b2], .func (.func 102) #[] #[.pointer (some ⟨w.heap.size + 1 + 1 + 1 + 1 + 1 + 1, 0, none⟩), .pointer (some ⟨w.heap.size + 1 + 1 + 1 + 1 + 1 + 1 + 1, 0, none⟩)], undef, undef, undef, undef, undef, undef, undef, undef, undef, undef, .slice (some ⟨w.heap.size + 1 + 1 + 1 + 1, 0, none⟩) 4 4, .int .i64 mn, .slice (some ⟨w.heap.size + 1 + 1 + 1 + 1, 0, none⟩) 4 4, .int .i64 mx_, .agg #[.int .i64 mn, .int .i64 mx_]], defers := [{ target := .collected D, args := #[] }] } ∧ W' = (((W.setCell ⟨w.heap.size + 1 + 1 + 1, 0, none⟩ (.int .i64 mn)).setCell ⟨w.heap.size + 1 + 1 + 1, 1, none⟩ (.int .i64 mx_)).drew)) (fun _ _ _ => False)) ?_ ?_
    · gi_region_with_o (first | (refine ⟨trivial, ?_⟩; gi_at_call 99; refine (callsIn_wide.2 H1.out).mono ?_; rintro e w' ⟨rfl, rfl⟩) | (refine ⟨trivial, ?_⟩; gi_at_call 100; refine (callsIn_wide.2 H2.out).mono ?_; rintro e w' ⟨rfl, rfl⟩))
      all_goals exact ⟨rfl, rfl⟩
    · intro e a' W' h
      cases e with
      | normal =>
        obtain ⟨rfl, rfl⟩ := h
        show Exit.then _ _ _ _ _
        gi_wp2
        have hw3 : ((((W.setCell ⟨w.heap.size + 1 + 1 + 1, 0, none⟩ (.int .i64 mn)).setCell ⟨w.heap.size + 1 + 1 + 1, 1, none⟩ (.int .i64 mx_)).drew)).cell? ⟨w.heap.size + 1 + 1 + 1, 0, none⟩ = some (.int .i64 mn) := by go_cell
        have hw4 : ((((W.setCell ⟨w.heap.size + 1 + 1 + 1, 0, none⟩ (.int .i64 mn)).setCell ⟨w.heap.size + 1 + 1 + 1, 1, none⟩ (.int .i64 mx_)).drew)).cell? ⟨w.heap.size + 1 + 1 + 1, 1, none⟩ = some (.int .i64 mx_) := by go_cell
        have hK' := ((KeepsOthers.setCell W ⟨w.heap.size + 1 + 1 + 1, 0, none⟩ (.int .i64 mn)).trans ((KeepsOthers.setCell _ ⟨w.heap.size + 1 + 1 + 1, 1, none⟩ (.int .i64 mx_)).trans (KeepsOthers.drew _))).same D _ hK rfl
        have hBe := ((hB.setCell (p := ⟨w.heap.size + 1 + 1 + 1, 0, none⟩) (by simp; omega) (.int .i64 mn)).setCell (p := ⟨w.heap.size + 1 + 1 + 1, 1, none⟩) (by simp; omega) (.int .i64 mx_)).drew
        have hc5 := cell_kept hw3 (grownBy_putObj' _ D (.deferred none)) (fun r e => by cases e; exact ⟨_, hK', rfl⟩)
        have hc6 := cell_kept hw4 (grownBy_putObj' _ D (.deferred none)) (fun r e => by cases e; exact ⟨_, hK', rfl⟩)
        refine ⟨by simp, .inl ⟨_, _, rfl, run_takeDeferred hK', ?_⟩⟩
        refine ⟨.agg #[.int .i64 mn, .int .i64 mx_], ?_, by rw [HE.out.1, HE.out.2], hBe.trans (belowK_b (w := w) (Nat.le_refl _) _ D _ _ (by omega) hK' rfl rfl)⟩
        simp [results, Try.results94, go_sem, hc5, hc6]
      | exit id => exact h.elim
      | goto l => exact h.elim
      | ret => exact h.elim
      | panic ch => exact h.elim
      | outgrown => exact h.elim
  case stop =>
    rintro D c pre W _ _ h _
    exact h.elim
end Go.Proofs.Ytjclehdhjnmlpaa.Given
