/- The contract of SpanQuo of package integer, over the seat's program; for every input. -/
import Derived.Test.YtjclehdhjnmlpaaGiven7
namespace Go.Proofs.Ytjclehdhjnmlpaa.Given
open Go.RowKit Go.Shelf Go.Proofs.YtjclehdhjnmlpaaW.PrintWords Go.Proofs.YtjclehdhjnmlpaaW.PrintLast Go.Proofs.YtjclehdhjnmlpaaW.PrintMore
def imin (a b : Int) : Int := if b < a then b else a
def imax (a b : Int) : Int := if a < b then b else a
theorem max2_im (k k' : IntKind) (x y : Int) : Builtin.max2 (.int k x) (.int k' y) = pure (.int k (imax x y)) := max2_int k k' x y
theorem min2_im (k k' : IntKind) (x y : Int) : Builtin.min2 (.int k x) (.int k' y) = pure (.int k (imin x y)) := min2_int k k' x y
attribute [local go_sem] max2_im min2_im max_two min_two
set_option linter.unusedVariables false
set_option linter.unusedSimpArgs false

theorem idx0 (x y z t : Int) (w : World) : Sem.run Try.prog (Instr.index 63 (.agg #[.int .i64 x, .int .i64 y, .int .i64 z, .int .i64 t]) (.int .i64 0)) w = .ok (.agg #[.int .i64 x, .int .i64 y]) w := rfl
theorem idx1 (x y z t : Int) (w : World) : Sem.run Try.prog (Instr.index 63 (.agg #[.int .i64 x, .int .i64 y, .int .i64 z, .int .i64 t]) (.int .i64 1)) w = .ok (.agg #[.int .i64 z, .int .i64 t]) w := rfl
attribute [local go_sem] idx0 idx1
theorem half_ok (b1 b2 : Int) (h : vspan b1 b2 = true) : (¬ b1 > imin b2 (-1) → (vld b1 = true ∧ b1 ≠ 0) ∧ (vld (imin b2 (-1)) = true ∧ imin b2 (-1) ≠ 0)) ∧ (¬ imax b1 1 > b2 → (vld (imax b1 1) = true ∧ imax b1 1 ≠ 0) ∧ (vld b2 = true ∧ b2 ≠ 0)) := by
  unfold vspan at h
  simp at h
  have ⟨⟨h1, h2⟩, h3⟩ := h
  have v1 := vld_yes h1
  have v2 := vld_yes h2
  have V : ∀ n : Int, -2147483647 ≤ n → n ≤ 2147483647 → vld n = true := fun n x y => by unfold vld; simp; omega
  unfold imin imax
  constructor
  · intro h
    refine ⟨⟨h1, ?_⟩, V _ ?_ ?_, ?_⟩ <;> split at h <;> (try split) <;> omega
  · intro h
    refine ⟨⟨V _ ?_ ?_, ?_⟩, h2, ?_⟩ <;> split at h <;> (try split) <;> omega

/-- One half of the divisor, after the halves before it. -/
def stepS (a1 a2 : Int) (s : Bool × Int × Int) (h1 h2 : Int) : Bool × Int × Int :=
  if h1 > h2 then s else
    (true, if s.1 = true then imin s.2.1 (lmin [a1.tdiv h1, a1.tdiv h2, a2.tdiv h1, a2.tdiv h2]) else lmin [a1.tdiv h1, a1.tdiv h2, a2.tdiv h1, a2.tdiv h2],
      if s.1 = true then imax s.2.2 (lmax [a1.tdiv h1, a1.tdiv h2, a2.tdiv h1, a2.tdiv h2]) else lmax [a1.tdiv h1, a1.tdiv h2, a2.tdiv h1, a2.tdiv h2])
def halfS (b1 b2 : Int) (k : Nat) : Int × Int := if k = 0 then (b1, imin b2 (-1)) else (imax b1 1, b2)
def stS (a1 a2 b1 b2 : Int) : Nat → Bool × Int × Int
  | 0 => (false, 0, 0)
  | k + 1 => stepS a1 a2 (stS a1 a2 b1 b2 k) (halfS b1 b2 k).1 (halfS b1 b2 k).2
def quoS (a1 a2 b1 b2 : Int) : Int × Int × Bool × Int :=
  if (vspan a1 a2 && vspan b1 b2) = true then
    (if (stS a1 a2 b1 b2 2).1 = true then ((stS a1 a2 b1 b2 2).2.1, (stS a1 a2 b1 b2 2).2.2, decide (b1 ≤ 0) && decide (b2 ≥ 0), 0) else (0, 0, false, 5))
  else (0, 0, false, 1)

set_option maxRecDepth 100000 in
set_option maxHeartbeats 4000000 in
theorem squo_good (a1 a2 b1 b2 : Int) (w : World) (ha : vspan a1 a2 = true) (hb' : vspan b1 b2 = true) (r : Int × Int × Bool × Int)
    (hr : (if (stS a1 a2 b1 b2 2).1 = true then ((stS a1 a2 b1 b2 2).2.1, (stS a1 a2 b1 b2 2).2.2, decide (b1 ≤ 0) && decide (b2 ≥ 0), (0 : Int)) else (0, 0, false, 5)) = r) :
    Calls Try.prog 72 #[.agg #[.int .i64 a1, .int .i64 a2], .agg #[.int .i64 b1, .int .i64 b2]] w fun e w' => e = .returned (sp4 r) ∧ Below w.heap.size w w' := by
  have HA := Lib.hid ha
  have HB := Lib.hid hb'
  have HR := Lib.hid hr
  clear ha hb' hr
  go_enter Try.func72, Try.ntmps72
  go_wp2_with fail
  refine (validspan_c _ _ _).mono ?_
  rintro e w1 ⟨rfl, hb⟩
  rw [HA.out]
  obtain ⟨hc, hf⟩ := bcell hb
  have hs := hb.size
  simp only [World.size_alloc] at hs
  have hb0 : Below w.heap.size w w1 := (by go_grown : Below w.heap.size w (((w.alloc (.cells #[.int .i64 a1, .int .i64 a2] 38)).alloc (.cells #[.int .i64 b1, .int .i64 b2] 38)).alloc (.cells #[.int .i64 0, .int .i64 0] 38))).trans (hb.mono (by simp; omega))
  go_wp2_with fail
  refine (validspan_c _ _ _).mono ?_
  rintro e w2 ⟨rfl, hb2⟩
  rw [HB.out]
  obtain ⟨hc2, hf2⟩ := bcell hb2
  have hs2 := hb2.size
  have hb1 := hb0.trans (hb2.mono hb0.size)
  have i0 : w2.cell? ⟨w.heap.size, 0, none⟩ = some (.int .i64 a1) := by rw [hc2 _ _ (by omega), hc _ _ (by simp; omega)]; first | go_cell | simp [go_sem]
  have i1 : w2.cell? ⟨w.heap.size, 1, none⟩ = some (.int .i64 a2) := by rw [hc2 _ _ (by omega), hc _ _ (by simp; omega)]; first | go_cell | simp [go_sem]
  have j0 : w2.cell? ⟨w.heap.size + 1, 0, none⟩ = some (.int .i64 b1) := by rw [hc2 _ _ (by omega), hc _ _ (by simp)]; first | go_cell | simp [go_sem]
  have j1 : w2.cell? ⟨w.heap.size + 1, 1, none⟩ = some (.int .i64 b2) := by rw [hc2 _ _ (by omega), hc _ _ (by simp)]; first | go_cell | simp [go_sem]
  have k0 : w2.cell? ⟨w.heap.size + 1 + 1, 0, none⟩ = some (.int .i64 0) := by rw [hc2 _ _ (by omega), hc _ _ (by simp)]; first | go_cell | simp [go_sem]
  have k1 : w2.cell? ⟨w.heap.size + 1 + 1, 1, none⟩ = some (.int .i64 0) := by rw [hc2 _ _ (by omega), hc _ _ (by simp)]; first | go_cell | simp [go_sem]
  have l0 : w2.frozen? ⟨w.heap.size + 1 + 1, 0, none⟩ = false := by rw [hf2 _ _ (by omega), hf _ _ (by simp)]; first | go_cell | simp [go_sem]
  have l1 : w2.frozen? ⟨w.heap.size + 1 + 1, 1, none⟩ = false := by rw [hf2 _ _ (by omega), hf _ _ (by simp)]; first | go_cell | simp [go_sem]
  clear hc hf hc2 hf2
  have HCO := Lib.hid (fun h1 h2 (n1 : vld h1 = true ∧ h1 ≠ 0) (n2 : vld h2 = true ∧ h2 ≠ 0) (w : World) => corners_c 95 (enters_of Try.func95 (by kernel_rfl) (by kernel_rfl)) (fun x y => x.tdiv y) (fun x y => vld x = true ∧ y ≠ 0) (fun x y h w => squo_c x y w h.1 h.2) a1 a2 h1 h2 ⟨(by have := HA.out; unfold vspan at this; simp at this; exact this.1.1), n1.2⟩ ⟨(by have := HA.out; unfold vspan at this; simp at this; exact this.1.1), n2.2⟩ ⟨(by have := HA.out; unfold vspan at this; simp at this; exact this.1.2), n1.2⟩ ⟨(by have := HA.out; unfold vspan at this; simp at this; exact this.1.2), n2.2⟩ w)
  go_wp2_with fail
  go_loopg [7, 33] 2 (fun kq v7 v33 wr => ∃ k : Nat, kq + k = 2 ∧ v33 = .int .i64 k ∧ v7 = .bool (stS a1 a2 b1 b2 k).1 ∧ Hid (wr.cell? ⟨w.heap.size, 0, none⟩ = some (.int .i64 a1) ∧ wr.cell? ⟨w.heap.size, 1, none⟩ = some (.int .i64 a2) ∧ wr.cell? ⟨w.heap.size + 1, 0, none⟩ = some (.int .i64 b1) ∧ wr.cell? ⟨w.heap.size + 1, 1, none⟩ = some (.int .i64 b2) ∧ wr.cell? ⟨w.heap.size + 1 + 1, 0, none⟩ = some (.int .i64 (stS a1 a2 b1 b2 k).2.1) ∧ wr.cell? ⟨w.heap.size + 1 + 1, 1, none⟩ = some (.int .i64 (stS a1 a2 b1 b2 k).2.2) ∧ wr.frozen? ⟨w.heap.size + 1 + 1, 0, none⟩ = false ∧ wr.frozen? ⟨w.heap.size + 1 + 1, 1, none⟩ = false ∧ Below w.heap.size w wr ∧ w.heap.size + 3 ≤ wr.heap.size))
  case atStart => exact ⟨0, rfl, rfl, rfl, ⟨i0, i1, j0, j1, k0, k1, l0, l1, hb1, by omega⟩⟩
  case round =>
    obtain ⟨k, hk, rfl, rfl, ⟨c0, c1, d0, d1, e0, e1, f0, f1, hB, hS⟩⟩ := hrel
    clear hb hs hb0 hb2 hs2 hb1 i0 i1 j0 j1 k0 k1 l0 l1
    have hlt0 : w.heap.size < wr.heap.size := by omega
    have hlt1 : w.heap.size + 1 < wr.heap.size := by omega
    have hlt2 : w.heap.size + 1 + 1 < wr.heap.size := by omega
    rcases (by omega : k = 0 ∨ k = 1 ∨ k = 2) with rfl | rfl | rfl
    · have hst : stS a1 a2 b1 b2 1 = stepS a1 a2 (stS a1 a2 b1 b2 0) (b1) (imin b2 (-1)) := rfl
      obtain ⟨⟨s1, s2, s3⟩, hst0⟩ : ∃ x, stS a1 a2 b1 b2 0 = x := ⟨_, rfl⟩
      rw [hst0] at hst e0 e1 ⊢
      by_cases hgt : b1 > imin b2 (-1)
      · rw [show stepS a1 a2 (s1, s2, s3) (b1) (imin b2 (-1)) = (s1, s2, s3) from if_pos hgt] at hst
        have HST := Lib.hid hst
        clear HA HR hst hst0 HB HCO
        go_wp2
        go_roundg 1
        case measure => omega
        case rel => exact ⟨1, rfl, rfl, by rw [HST.out], ⟨by go_cell, by go_cell, by go_cell, by go_cell, by rw [HST.out]; go_cell, by rw [HST.out]; go_cell, by go_cell, by go_cell, (hB.alloc (by omega) _), by simp; omega⟩⟩
      · have hv := (half_ok b1 b2 HB.out).1 hgt
        have HCC := Lib.hid (HCO.out _ _ hv.1 hv.2)
        clear HA HR hst0 HB HCO hv
        cases s1 with
        | false =>
          rw [show stepS a1 a2 (false, s2, s3) (b1) (imin b2 (-1)) = (true, lmin [a1.tdiv (b1), a1.tdiv (imin b2 (-1)), a2.tdiv (b1), a2.tdiv (imin b2 (-1))], lmax [a1.tdiv (b1), a1.tdiv (imin b2 (-1)), a2.tdiv (b1), a2.tdiv (imin b2 (-1))]) from if_neg hgt] at hst
          generalize lmin [a1.tdiv (b1), a1.tdiv (imin b2 (-1)), a2.tdiv (b1), a2.tdiv (imin b2 (-1))] = L at HCC hst
          generalize lmax [a1.tdiv (b1), a1.tdiv (imin b2 (-1)), a2.tdiv (b1), a2.tdiv (imin b2 (-1))] = H at HCC hst
          have HST := Lib.hid hst
          clear hst
          go_wp2_with fail
          refine (HCC.out _).mono ?_
          rintro e w3 ⟨rfl, hb3⟩
          obtain ⟨hc3, hf3⟩ := bcell hb3
          have hs3 := hb3.size
          simp only [World.size_alloc] at hs3
          have hb3' : Below w.heap.size w w3 := (hB.alloc (by omega) _).trans (hb3.mono (by simp; omega))
          have c0 : w3.cell? ⟨w.heap.size, 0, none⟩ = some (.int .i64 a1) := by rw [hc3 _ _ (by simp; omega)]; go_cell
          have c1 : w3.cell? ⟨w.heap.size, 1, none⟩ = some (.int .i64 a2) := by rw [hc3 _ _ (by simp; omega)]; go_cell
          have d0 : w3.cell? ⟨w.heap.size + 1, 0, none⟩ = some (.int .i64 b1) := by rw [hc3 _ _ (by simp; omega)]; go_cell
          have d1 : w3.cell? ⟨w.heap.size + 1, 1, none⟩ = some (.int .i64 b2) := by rw [hc3 _ _ (by simp; omega)]; go_cell
          have e0 : w3.cell? ⟨w.heap.size + 1 + 1, 0, none⟩ = some (.int .i64 s2) := by rw [hc3 _ _ (by simp; omega)]; go_cell
          have e1 : w3.cell? ⟨w.heap.size + 1 + 1, 1, none⟩ = some (.int .i64 s3) := by rw [hc3 _ _ (by simp; omega)]; go_cell
          have f0 : w3.frozen? ⟨w.heap.size + 1 + 1, 0, none⟩ = false := by rw [hf3 _ _ (by simp; omega)]; go_cell
          have f1 : w3.frozen? ⟨w.heap.size + 1 + 1, 1, none⟩ = false := by rw [hf3 _ _ (by simp; omega)]; go_cell
          clear hc3 hf3 hb3
          have hlt0 : w.heap.size < w3.heap.size := by omega
          have hlt1 : w.heap.size + 1 < w3.heap.size := by omega
          have hlt2 : w.heap.size + 1 + 1 < w3.heap.size := by omega
          go_wp2
          all_goals go_roundg 1
          all_goals try (case measure => omega)
          all_goals exact ⟨1, rfl, rfl, by rw [HST.out], ⟨by go_cell, by go_cell, by go_cell, by go_cell, by rw [HST.out]; go_cell, by rw [HST.out]; go_cell, by go_cell, by go_cell, ((hb3'.setCell (by simp; omega) _).setCell (by simp; omega) _).alloc (by simp; omega) _, by simp; omega⟩⟩
        | true =>
          rw [show stepS a1 a2 (true, s2, s3) (b1) (imin b2 (-1)) = (true, imin s2 (lmin [a1.tdiv (b1), a1.tdiv (imin b2 (-1)), a2.tdiv (b1), a2.tdiv (imin b2 (-1))]), imax s3 (lmax [a1.tdiv (b1), a1.tdiv (imin b2 (-1)), a2.tdiv (b1), a2.tdiv (imin b2 (-1))])) from if_neg hgt] at hst
          generalize lmin [a1.tdiv (b1), a1.tdiv (imin b2 (-1)), a2.tdiv (b1), a2.tdiv (imin b2 (-1))] = L at HCC hst
          generalize lmax [a1.tdiv (b1), a1.tdiv (imin b2 (-1)), a2.tdiv (b1), a2.tdiv (imin b2 (-1))] = H at HCC hst
          have HST := Lib.hid hst
          clear hst
          go_wp2_with fail
          refine (HCC.out _).mono ?_
          rintro e w3 ⟨rfl, hb3⟩
          obtain ⟨hc3, hf3⟩ := bcell hb3
          have hs3 := hb3.size
          simp only [World.size_alloc] at hs3
          have hb3' : Below w.heap.size w w3 := (hB.alloc (by omega) _).trans (hb3.mono (by simp; omega))
          have c0 : w3.cell? ⟨w.heap.size, 0, none⟩ = some (.int .i64 a1) := by rw [hc3 _ _ (by simp; omega)]; go_cell
          have c1 : w3.cell? ⟨w.heap.size, 1, none⟩ = some (.int .i64 a2) := by rw [hc3 _ _ (by simp; omega)]; go_cell
          have d0 : w3.cell? ⟨w.heap.size + 1, 0, none⟩ = some (.int .i64 b1) := by rw [hc3 _ _ (by simp; omega)]; go_cell
          have d1 : w3.cell? ⟨w.heap.size + 1, 1, none⟩ = some (.int .i64 b2) := by rw [hc3 _ _ (by simp; omega)]; go_cell
          have e0 : w3.cell? ⟨w.heap.size + 1 + 1, 0, none⟩ = some (.int .i64 s2) := by rw [hc3 _ _ (by simp; omega)]; go_cell
          have e1 : w3.cell? ⟨w.heap.size + 1 + 1, 1, none⟩ = some (.int .i64 s3) := by rw [hc3 _ _ (by simp; omega)]; go_cell
          have f0 : w3.frozen? ⟨w.heap.size + 1 + 1, 0, none⟩ = false := by rw [hf3 _ _ (by simp; omega)]; go_cell
          have f1 : w3.frozen? ⟨w.heap.size + 1 + 1, 1, none⟩ = false := by rw [hf3 _ _ (by simp; omega)]; go_cell
          clear hc3 hf3 hb3
          have hlt0 : w.heap.size < w3.heap.size := by omega
          have hlt1 : w.heap.size + 1 < w3.heap.size := by omega
          have hlt2 : w.heap.size + 1 + 1 < w3.heap.size := by omega
          go_wp2
          all_goals go_roundg 1
          all_goals try (case measure => omega)
          all_goals exact ⟨1, rfl, rfl, by rw [HST.out], ⟨by go_cell, by go_cell, by go_cell, by go_cell, by rw [HST.out]; go_cell, by rw [HST.out]; go_cell, by go_cell, by go_cell, ((hb3'.setCell (by simp; omega) _).setCell (by simp; omega) _).alloc (by simp; omega) _, by simp; omega⟩⟩
    · have hst : stS a1 a2 b1 b2 2 = stepS a1 a2 (stS a1 a2 b1 b2 1) (imax b1 1) (b2) := rfl
      obtain ⟨⟨s1, s2, s3⟩, hst0⟩ : ∃ x, stS a1 a2 b1 b2 1 = x := ⟨_, rfl⟩
      rw [hst0] at hst e0 e1 ⊢
      by_cases hgt : imax b1 1 > b2
      · rw [show stepS a1 a2 (s1, s2, s3) (imax b1 1) (b2) = (s1, s2, s3) from if_pos hgt] at hst
        have HST := Lib.hid hst
        clear HA HR hst hst0 HB HCO
        go_wp2
        go_roundg 0
        case measure => omega
        case rel => exact ⟨2, rfl, rfl, by rw [HST.out], ⟨by go_cell, by go_cell, by go_cell, by go_cell, by rw [HST.out]; go_cell, by rw [HST.out]; go_cell, by go_cell, by go_cell, (hB.alloc (by omega) _), by simp; omega⟩⟩
      · have hv := (half_ok b1 b2 HB.out).2 hgt
        have HCC := Lib.hid (HCO.out _ _ hv.1 hv.2)
        clear HA HR hst0 HB HCO hv
        cases s1 with
        | false =>
          rw [show stepS a1 a2 (false, s2, s3) (imax b1 1) (b2) = (true, lmin [a1.tdiv (imax b1 1), a1.tdiv (b2), a2.tdiv (imax b1 1), a2.tdiv (b2)], lmax [a1.tdiv (imax b1 1), a1.tdiv (b2), a2.tdiv (imax b1 1), a2.tdiv (b2)]) from if_neg hgt] at hst
          generalize lmin [a1.tdiv (imax b1 1), a1.tdiv (b2), a2.tdiv (imax b1 1), a2.tdiv (b2)] = L at HCC hst
          generalize lmax [a1.tdiv (imax b1 1), a1.tdiv (b2), a2.tdiv (imax b1 1), a2.tdiv (b2)] = H at HCC hst
          have HST := Lib.hid hst
          clear hst
          go_wp2_with fail
          refine (HCC.out _).mono ?_
          rintro e w3 ⟨rfl, hb3⟩
          obtain ⟨hc3, hf3⟩ := bcell hb3
          have hs3 := hb3.size
          simp only [World.size_alloc] at hs3
          have hb3' : Below w.heap.size w w3 := (hB.alloc (by omega) _).trans (hb3.mono (by simp; omega))
          have c0 : w3.cell? ⟨w.heap.size, 0, none⟩ = some (.int .i64 a1) := by rw [hc3 _ _ (by simp; omega)]; go_cell
          have c1 : w3.cell? ⟨w.heap.size, 1, none⟩ = some (.int .i64 a2) := by rw [hc3 _ _ (by simp; omega)]; go_cell
          have d0 : w3.cell? ⟨w.heap.size + 1, 0, none⟩ = some (.int .i64 b1) := by rw [hc3 _ _ (by simp; omega)]; go_cell
          have d1 : w3.cell? ⟨w.heap.size + 1, 1, none⟩ = some (.int .i64 b2) := by rw [hc3 _ _ (by simp; omega)]; go_cell
          have e0 : w3.cell? ⟨w.heap.size + 1 + 1, 0, none⟩ = some (.int .i64 s2) := by rw [hc3 _ _ (by simp; omega)]; go_cell
          have e1 : w3.cell? ⟨w.heap.size + 1 + 1, 1, none⟩ = some (.int .i64 s3) := by rw [hc3 _ _ (by simp; omega)]; go_cell
          have f0 : w3.frozen? ⟨w.heap.size + 1 + 1, 0, none⟩ = false := by rw [hf3 _ _ (by simp; omega)]; go_cell
          have f1 : w3.frozen? ⟨w.heap.size + 1 + 1, 1, none⟩ = false := by rw [hf3 _ _ (by simp; omega)]; go_cell
          clear hc3 hf3 hb3
          have hlt0 : w.heap.size < w3.heap.size := by omega
          have hlt1 : w.heap.size + 1 < w3.heap.size := by omega
          have hlt2 : w.heap.size + 1 + 1 < w3.heap.size := by omega
          go_wp2
          all_goals go_roundg 0
          all_goals try (case measure => omega)
          all_goals exact ⟨2, rfl, rfl, by rw [HST.out], ⟨by go_cell, by go_cell, by go_cell, by go_cell, by rw [HST.out]; go_cell, by rw [HST.out]; go_cell, by go_cell, by go_cell, ((hb3'.setCell (by simp; omega) _).setCell (by simp; omega) _).alloc (by simp; omega) _, by simp; omega⟩⟩
        | true =>
          rw [show stepS a1 a2 (true, s2, s3) (imax b1 1) (b2) = (true, imin s2 (lmin [a1.tdiv (imax b1 1), a1.tdiv (b2), a2.tdiv (imax b1 1), a2.tdiv (b2)]), imax s3 (lmax [a1.tdiv (imax b1 1), a1.tdiv (b2), a2.tdiv (imax b1 1), a2.tdiv (b2)])) from if_neg hgt] at hst
          generalize lmin [a1.tdiv (imax b1 1), a1.tdiv (b2), a2.tdiv (imax b1 1), a2.tdiv (b2)] = L at HCC hst
          generalize lmax [a1.tdiv (imax b1 1), a1.tdiv (b2), a2.tdiv (imax b1 1), a2.tdiv (b2)] = H at HCC hst
          have HST := Lib.hid hst
          clear hst
          go_wp2_with fail
          refine (HCC.out _).mono ?_
          rintro e w3 ⟨rfl, hb3⟩
          obtain ⟨hc3, hf3⟩ := bcell hb3
          have hs3 := hb3.size
          simp only [World.size_alloc] at hs3
          have hb3' : Below w.heap.size w w3 := (hB.alloc (by omega) _).trans (hb3.mono (by simp; omega))
          have c0 : w3.cell? ⟨w.heap.size, 0, none⟩ = some (.int .i64 a1) := by rw [hc3 _ _ (by simp; omega)]; go_cell
          have c1 : w3.cell? ⟨w.heap.size, 1, none⟩ = some (.int .i64 a2) := by rw [hc3 _ _ (by simp; omega)]; go_cell
          have d0 : w3.cell? ⟨w.heap.size + 1, 0, none⟩ = some (.int .i64 b1) := by rw [hc3 _ _ (by simp; omega)]; go_cell
          have d1 : w3.cell? ⟨w.heap.size + 1, 1, none⟩ = some (.int .i64 b2) := by rw [hc3 _ _ (by simp; omega)]; go_cell
          have e0 : w3.cell? ⟨w.heap.size + 1 + 1, 0, none⟩ = some (.int .i64 s2) := by rw [hc3 _ _ (by simp; omega)]; go_cell
          have e1 : w3.cell? ⟨w.heap.size + 1 + 1, 1, none⟩ = some (.int .i64 s3) := by rw [hc3 _ _ (by simp; omega)]; go_cell
          have f0 : w3.frozen? ⟨w.heap.size + 1 + 1, 0, none⟩ = false := by rw [hf3 _ _ (by simp; omega)]; go_cell
          have f1 : w3.frozen? ⟨w.heap.size + 1 + 1, 1, none⟩ = false := by rw [hf3 _ _ (by simp; omega)]; go_cell
          clear hc3 hf3 hb3
          have hlt0 : w.heap.size < w3.heap.size := by omega
          have hlt1 : w.heap.size + 1 < w3.heap.size := by omega
          have hlt2 : w.heap.size + 1 + 1 < w3.heap.size := by omega
          go_wp2
          all_goals go_roundg 0
          all_goals try (case measure => omega)
          all_goals exact ⟨2, rfl, rfl, by rw [HST.out], ⟨by go_cell, by go_cell, by go_cell, by go_cell, by rw [HST.out]; go_cell, by rw [HST.out]; go_cell, by go_cell, by go_cell, ((hb3'.setCell (by simp; omega) _).setCell (by simp; omega) _).alloc (by simp; omega) _, by simp; omega⟩⟩
    · clear hk HA HB HCO
      have HRR := HR.out
      clear HR
      generalize stS a1 a2 b1 b2 2 = st at HRR e0 e1 ⊢
      obtain ⟨s1, s2, s3⟩ := st
      cases s1 with
      | false =>
        simp at HRR
        subst HRR
        go_wp2
        refine bodyPost_ret (v := .tuple #[.agg #[.int .i64 0, .int .i64 0], .bool false, .int .i64 5]) (by simp [results, Try.results72, go_sem, e0, e1]) rfl ⟨rfl, ?_⟩
        exact (hB.setCell (by simp; omega) _).setCell (by simp; omega) _
      | true =>
        simp at HRR
        subst HRR
        go_wp2
        by_cases g1 : b1 ≤ 0 <;> by_cases g2 : 0 ≤ b2
        all_goals
          go_region
          go_wp2
          refine bodyPost_ret (v := .tuple #[.agg #[.int .i64 s2, .int .i64 s3], .bool (decide (b1 ≤ 0) && decide (0 ≤ b2)), .int .i64 0]) (by simp [results, Try.results72, go_sem, e0, e1, g1, g2]) rfl ⟨by simp [sp4, g1, g2], ?_⟩
          exact ((hB.setCell (by simp; omega) _).setCell (by simp; omega) _).drew
end Go.Proofs.Ytjclehdhjnmlpaa.Given
