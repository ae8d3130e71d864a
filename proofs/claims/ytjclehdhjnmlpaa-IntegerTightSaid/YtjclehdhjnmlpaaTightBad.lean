/- The law IntegerTight where a span is none: it returns true. -/
import Derived.Test.YtjclehdhjnmlpaaPureSpanT
namespace Go.Proofs.Ytjclehdhjnmlpaa.T
open Go Go.RowKit Go.Shelf Go.Proofs.Ytjclehdhjnmlpaa.Given Go.Proofs.YtjclehdhjnmlpaaW.PrintWords Go.Proofs.YtjclehdhjnmlpaaW.PrintLast Go.Proofs.YtjclehdhjnmlpaaW.PrintMore
set_option linter.unusedVariables false
set_option linter.unusedSimpArgs false
set_option maxRecDepth 100000 in
set_option maxHeartbeats 4000000 in
theorem tight_bad1 (a1 a2 b1 b2 : Int) (w : World) (ha : vspan a1 a2 = false) :
    Calls Try.prog 13 #[.agg #[.int .i64 a1, .int .i64 a2], .agg #[.int .i64 b1, .int .i64 b2]] w fun e w' => e = .returned (.bool true) ∧ Below w.heap.size w w' := by
  have HA := Lib.hid ha
  clear ha
  go_enter Try.func13, Try.ntmps13
  go_wp2_with fail
  refine (manorboylaw01_wide.calls 1 true _ (wide_e 0)).mono ?_
  rintro e w0 ⟨rfl, hb0⟩
  obtain ⟨hc0, hf0⟩ := bcell hb0
  have hs0 := hb0.size
  simp only [World.size_alloc] at hs0
  have hbb : Below w.heap.size w w0 := (by go_grown : Below w.heap.size w ((w.alloc (.cells #[.int .i64 a1, .int .i64 a2] 38)).alloc (.cells #[.int .i64 b1, .int .i64 b2] 38))).trans (hb0.mono (by simp; omega))
  have i0 : w0.cell? ⟨w.heap.size, 0, none⟩ = some (.int .i64 a1) := by rw [hc0 _ _ (by simp; omega)]; first | go_cell | simp [go_sem]
  have i1 : w0.cell? ⟨w.heap.size, 1, none⟩ = some (.int .i64 a2) := by rw [hc0 _ _ (by simp; omega)]; first | go_cell | simp [go_sem]
  have j0 : w0.cell? ⟨w.heap.size + 1, 0, none⟩ = some (.int .i64 b1) := by rw [hc0 _ _ (by simp)]; first | go_cell | simp [go_sem]
  have j1 : w0.cell? ⟨w.heap.size + 1, 1, none⟩ = some (.int .i64 b2) := by rw [hc0 _ _ (by simp)]; first | go_cell | simp [go_sem]
  clear hc0 hf0 hb0
  go_wp2_with fail
  refine (validspan_c _ _ _).mono ?_
  rintro e w1 ⟨rfl, hb⟩
  rw [HA.out]
  have hbb1 := hbb.trans (hb.mono hbb.size)
  clear hb hbb
  go_wp2
  go_ret
  exact ⟨rfl, hbb1⟩
set_option maxRecDepth 100000 in
set_option maxHeartbeats 4000000 in
theorem tight_bad2 (a1 a2 b1 b2 : Int) (w : World) (ha : vspan a1 a2 = true) (hb' : vspan b1 b2 = false) :
    Calls Try.prog 13 #[.agg #[.int .i64 a1, .int .i64 a2], .agg #[.int .i64 b1, .int .i64 b2]] w fun e w' => e = .returned (.bool true) ∧ Below w.heap.size w w' := by
  have HA := Lib.hid ha
  have HB := Lib.hid hb'
  clear ha hb'
  go_enter Try.func13, Try.ntmps13
  go_wp2_with fail
  refine (manorboylaw01_wide.calls 1 true _ (wide_e 0)).mono ?_
  rintro e w0 ⟨rfl, hb0⟩
  obtain ⟨hc0, hf0⟩ := bcell hb0
  have hs0 := hb0.size
  simp only [World.size_alloc] at hs0
  have hbb : Below w.heap.size w w0 := (by go_grown : Below w.heap.size w ((w.alloc (.cells #[.int .i64 a1, .int .i64 a2] 38)).alloc (.cells #[.int .i64 b1, .int .i64 b2] 38))).trans (hb0.mono (by simp; omega))
  have i0 : w0.cell? ⟨w.heap.size, 0, none⟩ = some (.int .i64 a1) := by rw [hc0 _ _ (by simp; omega)]; first | go_cell | simp [go_sem]
  have i1 : w0.cell? ⟨w.heap.size, 1, none⟩ = some (.int .i64 a2) := by rw [hc0 _ _ (by simp; omega)]; first | go_cell | simp [go_sem]
  have j0 : w0.cell? ⟨w.heap.size + 1, 0, none⟩ = some (.int .i64 b1) := by rw [hc0 _ _ (by simp)]; first | go_cell | simp [go_sem]
  have j1 : w0.cell? ⟨w.heap.size + 1, 1, none⟩ = some (.int .i64 b2) := by rw [hc0 _ _ (by simp)]; first | go_cell | simp [go_sem]
  clear hc0 hf0 hb0
  go_wp2_with fail
  refine (validspan_c _ _ _).mono ?_
  rintro e w1 ⟨rfl, hb⟩
  rw [HA.out]
  obtain ⟨hc, hf⟩ := bcell hb
  have hbb1 := hbb.trans (hb.mono hbb.size)
  have j0 : w1.cell? ⟨w.heap.size + 1, 0, none⟩ = some (.int .i64 b1) := by rw [hc _ _ (by omega)]; exact j0
  have j1 : w1.cell? ⟨w.heap.size + 1, 1, none⟩ = some (.int .i64 b2) := by rw [hc _ _ (by omega)]; exact j1
  clear hc hf hb hbb
  go_wp2_with fail
  refine (validspan_c _ _ _).mono ?_
  rintro e w2 ⟨rfl, hb2⟩
  rw [HB.out]
  have hbb2 := hbb1.trans (hb2.mono hbb1.size)
  clear hb2 hbb1
  go_wp2
  go_ret
  exact ⟨rfl, hbb2⟩
end Go.Proofs.Ytjclehdhjnmlpaa.T
