/- The contract of SpanQuo of package integer, over the seat's program; for every input. -/
import Derived.Test.YtjclehdhjnmlpaaGiven9
namespace Go.Proofs.Ytjclehdhjnmlpaa.Given
open Go.RowKit Go.Shelf Go.Proofs.YtjclehdhjnmlpaaW.PrintWords Go.Proofs.YtjclehdhjnmlpaaW.PrintLast Go.Proofs.YtjclehdhjnmlpaaW.PrintMore
set_option linter.unusedVariables false
set_option linter.unusedSimpArgs false

set_option maxRecDepth 100000 in
set_option maxHeartbeats 4000000 in
theorem squo_bad1 (a1 a2 b1 b2 : Int) (w : World) (ha : vspan a1 a2 = false) :
    Calls Try.prog 72 #[.agg #[.int .i64 a1, .int .i64 a2], .agg #[.int .i64 b1, .int .i64 b2]] w fun e w' =>
      e = .returned (.tuple #[.agg #[.int .i64 0, .int .i64 0], .bool false, .int .i64 1]) ∧ Below w.heap.size w w' := by
  have HA := Lib.hid ha
  clear ha
  go_enter Try.func72, Try.ntmps72
  go_wp2_with fail
  refine (validspan_c _ _ _).mono ?_
  rintro e w1 ⟨rfl, hb⟩
  rw [HA.out]
  obtain ⟨hc, hf⟩ := bcell hb
  have hs := hb.size
  simp only [World.size_alloc] at hs
  have hb0 : Below w.heap.size w w1 := (by go_grown : Below w.heap.size w (((w.alloc (.cells #[.int .i64 a1, .int .i64 a2] 38)).alloc (.cells #[.int .i64 b1, .int .i64 b2] 38)).alloc (.cells #[.int .i64 0, .int .i64 0] 38))).trans (hb.mono (by simp; omega))
  go_wp2
  refine bodyPost_ret (v := .tuple #[.agg #[.int .i64 0, .int .i64 0], .bool false, .int .i64 1]) (by simp [results, Try.results72, go_sem, hc]) rfl ⟨rfl, ?_⟩
  exact (hb0.setCell (by simp; omega) _).setCell (by simp; omega) _

set_option maxRecDepth 100000 in
set_option maxHeartbeats 4000000 in
theorem squo_bad2 (a1 a2 b1 b2 : Int) (w : World) (ha : vspan a1 a2 = true) (hb' : vspan b1 b2 = false) :
    Calls Try.prog 72 #[.agg #[.int .i64 a1, .int .i64 a2], .agg #[.int .i64 b1, .int .i64 b2]] w fun e w' =>
      e = .returned (.tuple #[.agg #[.int .i64 0, .int .i64 0], .bool false, .int .i64 1]) ∧ Below w.heap.size w w' := by
  have HA := Lib.hid ha
  have HB := Lib.hid hb'
  clear ha hb'
  go_enter Try.func72, Try.ntmps72
  go_wp2_with fail
  refine (validspan_c _ _ _).mono ?_
  rintro e w1 ⟨rfl, hb⟩
  rw [HA.out]
  obtain ⟨hc, hf⟩ := bcell hb
  have hs := hb.size
  simp only [World.size_alloc] at hs
  have hb0 : Below w.heap.size w w1 := (by go_grown : Below w.heap.size w (((w.alloc (.cells #[.int .i64 a1, .int .i64 a2] 38)).alloc (.cells #[.int .i64 b1, .int .i64 b2] 38)).alloc (.cells #[.int .i64 0, .int .i64 0] 38))).trans (hb.mono (by simp; omega))
  go_wp2_with fail
  refine (validspan_c _ _ _).mono ?_
  rintro e w2 ⟨rfl, hb2⟩
  rw [HB.out]
  obtain ⟨hc2, hf2⟩ := bcell hb2
  have hs2 := hb2.size
  have hb1 := hb0.trans (hb2.mono hb0.size)
  have k0 : w2.cell? ⟨w.heap.size + 1 + 1, 0, none⟩ = some (.int .i64 0) := by rw [hc2 _ _ (by omega), hc _ _ (by simp)]; first | go_cell | simp [go_sem]
  have k1 : w2.cell? ⟨w.heap.size + 1 + 1, 1, none⟩ = some (.int .i64 0) := by rw [hc2 _ _ (by omega), hc _ _ (by simp)]; first | go_cell | simp [go_sem]
  have l0 : w2.frozen? ⟨w.heap.size + 1 + 1, 0, none⟩ = false := by rw [hf2 _ _ (by omega), hf _ _ (by simp)]; first | go_cell | simp [go_sem]
  have l1 : w2.frozen? ⟨w.heap.size + 1 + 1, 1, none⟩ = false := by rw [hf2 _ _ (by omega), hf _ _ (by simp)]; first | go_cell | simp [go_sem]
  clear hc hf hc2 hf2
  go_wp2
  refine bodyPost_ret (v := .tuple #[.agg #[.int .i64 0, .int .i64 0], .bool false, .int .i64 1]) (by simp [results, Try.results72, go_sem, k0, k1]) rfl ⟨rfl, ?_⟩
  exact (hb1.setCell (by simp; omega) _).setCell (by simp; omega) _


theorem squo_all (a1 a2 b1 b2 : Int) (w : World) :
    Calls Try.prog 72 #[.agg #[.int .i64 a1, .int .i64 a2], .agg #[.int .i64 b1, .int .i64 b2]] w fun e w' => e = .returned (sp4 (quoS a1 a2 b1 b2)) ∧ Below w.heap.size w w' := by
  cases ha : vspan a1 a2 with
  | false =>
    have e : quoS a1 a2 b1 b2 = (0, 0, false, 1) := by unfold quoS; rw [ha]; rfl
    rw [e]
    exact squo_bad1 a1 a2 b1 b2 w ha
  | true =>
    cases hb : vspan b1 b2 with
    | false =>
      have e : quoS a1 a2 b1 b2 = (0, 0, false, 1) := by unfold quoS; rw [ha, hb]; rfl
      rw [e]
      exact squo_bad2 a1 a2 b1 b2 w ha hb
    | true =>
      exact squo_good a1 a2 b1 b2 w ha hb _ (by unfold quoS; rw [ha, hb]; rfl)
def integer_SpanQuo.f (a1 a2 b1 b2 : Int) : Option (Int × Int × Bool × Int) := some (quoS a1 a2 b1 b2)
theorem integer_SpanQuo.calls (a0_0 a0_1 a1_0 a1_1 r1 r2 : Int) (r3 : Bool) (r4 : Int) (w : World) (h : integer_SpanQuo.f a0_0 a0_1 a1_0 a1_1 = some (r1, r2, r3, r4)) :
    Calls Try.prog 72 #[.agg #[.int .i64 a0_0, .int .i64 a0_1], .agg #[.int .i64 a1_0, .int .i64 a1_1]] w fun e w' => e = .returned (.tuple #[.agg #[.int .i64 r1, .int .i64 r2], .bool r3, .int .i64 r4]) ∧ Below w.heap.size w w' := by
  have e := Option.some.inj h
  exact (e ▸ squo_all a0_0 a0_1 a1_0 a1_1 w : Calls Try.prog 72 _ w fun e w' => e = .returned (sp4 (r1, r2, r3, r4)) ∧ Below w.heap.size w w')
end Go.Proofs.Ytjclehdhjnmlpaa.Given
