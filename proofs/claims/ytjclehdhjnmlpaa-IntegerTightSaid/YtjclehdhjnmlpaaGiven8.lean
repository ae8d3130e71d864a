/- The contracts of SpanAdd, SpanSub and SpanMul of package integer, over the seat's program; for every input. -/
import Derived.Test.YtjclehdhjnmlpaaGiven7
namespace Go.Proofs.Ytjclehdhjnmlpaa.Given
open Go.RowKit Go.Shelf Go.Proofs.YtjclehdhjnmlpaaW.PrintWords Go.Proofs.YtjclehdhjnmlpaaW.PrintLast Go.Proofs.YtjclehdhjnmlpaaW.PrintMore
set_option linter.unusedVariables false
set_option linter.unusedSimpArgs false

set_option maxRecDepth 100000 in
set_option maxHeartbeats 4000000 in
theorem span66_c (a1 a2 b1 b2 : Int) (w : World) (r : Int × Int × Bool × Int)
    (HS : ∀ w, Calls Try.prog 92 #[.agg #[.int .i64 a1, .int .i64 a2], .agg #[.int .i64 b1, .int .i64 b2], .func (.func 76) #[] #[]] w fun e w' => e = .returned (sp4 r) ∧ Below w.heap.size w w') :
    Calls Try.prog 66 #[.agg #[.int .i64 a1, .int .i64 a2], .agg #[.int .i64 b1, .int .i64 b2]] w fun e w' => e = .returned (sp4 r) ∧ Below w.heap.size w w' := by
  obtain ⟨r1, r2, r3, r4⟩ := r
  have H := Lib.hid HS
  clear HS
  go_enter Try.func66, Try.ntmps66
  go_wp2_with fail
  refine (H.out _).mono ?_
  rintro e w1 ⟨rfl, hb⟩
  have hs := hb.size
  simp only [World.size_alloc] at hs
  obtain ⟨hc, hf⟩ := bcell hb
  have hb0 : Below w.heap.size w w1 := (by go_grown : Below w.heap.size w (((w.alloc (.cells #[.int .i64 a1, .int .i64 a2] 38)).alloc (.cells #[.int .i64 b1, .int .i64 b2] 38)).alloc (.cells #[.int .i64 0, .int .i64 0] 38))).trans (hb.mono (by simp; omega))
  have k0 : w1.cell? ⟨w.heap.size + 1 + 1, 0, none⟩ = some (.int .i64 0) := by rw [hc _ _ (by simp)]; first | go_cell | simp [go_sem]
  have k1 : w1.cell? ⟨w.heap.size + 1 + 1, 1, none⟩ = some (.int .i64 0) := by rw [hc _ _ (by simp)]; first | go_cell | simp [go_sem]
  have l0 : w1.frozen? ⟨w.heap.size + 1 + 1, 0, none⟩ = false := by rw [hf _ _ (by simp)]; first | go_cell | simp [go_sem]
  have l1 : w1.frozen? ⟨w.heap.size + 1 + 1, 1, none⟩ = false := by rw [hf _ _ (by simp)]; first | go_cell | simp [go_sem]
  clear hc hf
  simp only [sp4]
  go_wp2
  refine bodyPost_ret (v := .tuple #[.agg #[.int .i64 r1, .int .i64 r2], .bool r3, .int .i64 r4]) (by simp [results, Try.results66, go_sem, k0, k1]) rfl ⟨rfl, ?_⟩
  exact (hb0.setCell (by simp; omega) _).setCell (by simp; omega) _
def integer_SpanAdd.f (a1 a2 b1 b2 : Int) : Option (Int × Int × Bool × Int) := some (spansS (fun x y => x + y) a1 a2 b1 b2)
theorem integer_SpanAdd.calls (a0_0 a0_1 a1_0 a1_1 r1 r2 : Int) (r3 : Bool) (r4 : Int) (w : World) (h : integer_SpanAdd.f a0_0 a0_1 a1_0 a1_1 = some (r1, r2, r3, r4)) :
    Calls Try.prog 66 #[.agg #[.int .i64 a0_0, .int .i64 a0_1], .agg #[.int .i64 a1_0, .int .i64 a1_1]] w fun e w' => e = .returned (.tuple #[.agg #[.int .i64 r1, .int .i64 r2], .bool r3, .int .i64 r4]) ∧ Below w.heap.size w w' := by
  have e := Option.some.inj h
  exact span66_c _ _ _ _ _ (r1, r2, r3, r4) (fun w => e ▸ spans_c 76 (enters_of Try.func76 (by kernel_rfl) (by kernel_rfl)) (fun x y => x + y) (fun x y hx hy w => add_c x y w hx hy) _ _ _ _ w)

set_option maxRecDepth 100000 in
set_option maxHeartbeats 4000000 in
theorem span68_c (a1 a2 b1 b2 : Int) (w : World) (r : Int × Int × Bool × Int)
    (HS : ∀ w, Calls Try.prog 92 #[.agg #[.int .i64 a1, .int .i64 a2], .agg #[.int .i64 b1, .int .i64 b2], .func (.func 78) #[] #[]] w fun e w' => e = .returned (sp4 r) ∧ Below w.heap.size w w') :
    Calls Try.prog 68 #[.agg #[.int .i64 a1, .int .i64 a2], .agg #[.int .i64 b1, .int .i64 b2]] w fun e w' => e = .returned (sp4 r) ∧ Below w.heap.size w w' := by
  obtain ⟨r1, r2, r3, r4⟩ := r
  have H := Lib.hid HS
  clear HS
  go_enter Try.func68, Try.ntmps68
  go_wp2_with fail
  refine (H.out _).mono ?_
  rintro e w1 ⟨rfl, hb⟩
  have hs := hb.size
  simp only [World.size_alloc] at hs
  obtain ⟨hc, hf⟩ := bcell hb
  have hb0 : Below w.heap.size w w1 := (by go_grown : Below w.heap.size w (((w.alloc (.cells #[.int .i64 a1, .int .i64 a2] 38)).alloc (.cells #[.int .i64 b1, .int .i64 b2] 38)).alloc (.cells #[.int .i64 0, .int .i64 0] 38))).trans (hb.mono (by simp; omega))
  have k0 : w1.cell? ⟨w.heap.size + 1 + 1, 0, none⟩ = some (.int .i64 0) := by rw [hc _ _ (by simp)]; first | go_cell | simp [go_sem]
  have k1 : w1.cell? ⟨w.heap.size + 1 + 1, 1, none⟩ = some (.int .i64 0) := by rw [hc _ _ (by simp)]; first | go_cell | simp [go_sem]
  have l0 : w1.frozen? ⟨w.heap.size + 1 + 1, 0, none⟩ = false := by rw [hf _ _ (by simp)]; first | go_cell | simp [go_sem]
  have l1 : w1.frozen? ⟨w.heap.size + 1 + 1, 1, none⟩ = false := by rw [hf _ _ (by simp)]; first | go_cell | simp [go_sem]
  clear hc hf
  simp only [sp4]
  go_wp2
  refine bodyPost_ret (v := .tuple #[.agg #[.int .i64 r1, .int .i64 r2], .bool r3, .int .i64 r4]) (by simp [results, Try.results68, go_sem, k0, k1]) rfl ⟨rfl, ?_⟩
  exact (hb0.setCell (by simp; omega) _).setCell (by simp; omega) _
def integer_SpanSub.f (a1 a2 b1 b2 : Int) : Option (Int × Int × Bool × Int) := some (spansS (fun x y => x - y) a1 a2 b1 b2)
theorem integer_SpanSub.calls (a0_0 a0_1 a1_0 a1_1 r1 r2 : Int) (r3 : Bool) (r4 : Int) (w : World) (h : integer_SpanSub.f a0_0 a0_1 a1_0 a1_1 = some (r1, r2, r3, r4)) :
    Calls Try.prog 68 #[.agg #[.int .i64 a0_0, .int .i64 a0_1], .agg #[.int .i64 a1_0, .int .i64 a1_1]] w fun e w' => e = .returned (.tuple #[.agg #[.int .i64 r1, .int .i64 r2], .bool r3, .int .i64 r4]) ∧ Below w.heap.size w w' := by
  have e := Option.some.inj h
  exact span68_c _ _ _ _ _ (r1, r2, r3, r4) (fun w => e ▸ spans_c 78 (enters_of Try.func78 (by kernel_rfl) (by kernel_rfl)) (fun x y => x - y) (fun x y hx hy w => sub_c x y w hx hy) _ _ _ _ w)

set_option maxRecDepth 100000 in
set_option maxHeartbeats 4000000 in
theorem span70_c (a1 a2 b1 b2 : Int) (w : World) (r : Int × Int × Bool × Int)
    (HS : ∀ w, Calls Try.prog 92 #[.agg #[.int .i64 a1, .int .i64 a2], .agg #[.int .i64 b1, .int .i64 b2], .func (.func 77) #[] #[]] w fun e w' => e = .returned (sp4 r) ∧ Below w.heap.size w w') :
    Calls Try.prog 70 #[.agg #[.int .i64 a1, .int .i64 a2], .agg #[.int .i64 b1, .int .i64 b2]] w fun e w' => e = .returned (sp4 r) ∧ Below w.heap.size w w' := by
  obtain ⟨r1, r2, r3, r4⟩ := r
  have H := Lib.hid HS
  clear HS
  go_enter Try.func70, Try.ntmps70
  go_wp2_with fail
  refine (H.out _).mono ?_
  rintro e w1 ⟨rfl, hb⟩
  have hs := hb.size
  simp only [World.size_alloc] at hs
  obtain ⟨hc, hf⟩ := bcell hb
  have hb0 : Below w.heap.size w w1 := (by go_grown : Below w.heap.size w (((w.alloc (.cells #[.int .i64 a1, .int .i64 a2] 38)).alloc (.cells #[.int .i64 b1, .int .i64 b2] 38)).alloc (.cells #[.int .i64 0, .int .i64 0] 38))).trans (hb.mono (by simp; omega))
  have k0 : w1.cell? ⟨w.heap.size + 1 + 1, 0, none⟩ = some (.int .i64 0) := by rw [hc _ _ (by simp)]; first | go_cell | simp [go_sem]
  have k1 : w1.cell? ⟨w.heap.size + 1 + 1, 1, none⟩ = some (.int .i64 0) := by rw [hc _ _ (by simp)]; first | go_cell | simp [go_sem]
  have l0 : w1.frozen? ⟨w.heap.size + 1 + 1, 0, none⟩ = false := by rw [hf _ _ (by simp)]; first | go_cell | simp [go_sem]
  have l1 : w1.frozen? ⟨w.heap.size + 1 + 1, 1, none⟩ = false := by rw [hf _ _ (by simp)]; first | go_cell | simp [go_sem]
  clear hc hf
  simp only [sp4]
  go_wp2
  refine bodyPost_ret (v := .tuple #[.agg #[.int .i64 r1, .int .i64 r2], .bool r3, .int .i64 r4]) (by simp [results, Try.results70, go_sem, k0, k1]) rfl ⟨rfl, ?_⟩
  exact (hb0.setCell (by simp; omega) _).setCell (by simp; omega) _
def integer_SpanMul.f (a1 a2 b1 b2 : Int) : Option (Int × Int × Bool × Int) := some (spansS (fun x y => x * y) a1 a2 b1 b2)
theorem integer_SpanMul.calls (a0_0 a0_1 a1_0 a1_1 r1 r2 : Int) (r3 : Bool) (r4 : Int) (w : World) (h : integer_SpanMul.f a0_0 a0_1 a1_0 a1_1 = some (r1, r2, r3, r4)) :
    Calls Try.prog 70 #[.agg #[.int .i64 a0_0, .int .i64 a0_1], .agg #[.int .i64 a1_0, .int .i64 a1_1]] w fun e w' => e = .returned (.tuple #[.agg #[.int .i64 r1, .int .i64 r2], .bool r3, .int .i64 r4]) ∧ Below w.heap.size w w' := by
  have e := Option.some.inj h
  exact span70_c _ _ _ _ _ (r1, r2, r3, r4) (fun w => e ▸ spans_c 77 (enters_of Try.func77 (by kernel_rfl) (by kernel_rfl)) (fun x y => x * y) (fun x y hx hy w => mul_c x y w hx hy) _ _ _ _ w)
end Go.Proofs.Ytjclehdhjnmlpaa.Given
