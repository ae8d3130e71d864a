/- The walk of the law IntegerTighter: it returns true for every input. -/
import Derived.Test.YtjclehdhjnmlpaaPureTighter
import Derived.Test.YtjclehdhjnmlpaaPureCmpT
import Derived.Test.YtjclehdhjnmlpaaTx11
namespace Go.Proofs.Ytjclehdhjnmlpaa.T
open Go Go.RowKit Go.Shelf Go.Proofs.Ytjclehdhjnmlpaa.Given Go.Proofs.YtjclehdhjnmlpaaW.PrintWords Go.Proofs.YtjclehdhjnmlpaaW.PrintLast Go.Proofs.YtjclehdhjnmlpaaW.PrintMore
set_option linter.unusedVariables false
set_option linter.unusedSimpArgs false

theorem fstep_out {a b c d y : Int} {s : Int × Int × Int} (h : ¬ (y ≠ 0 ∧ c ≤ y ∧ y ≤ d)) : fstep a b c d y s = s := by unfold fstep; rw [if_neg h]
theorem fstep_n (a b c d y : Int) (s : Int × Int × Int) : s.2.2 ≤ (fstep a b c d y s).2.2 ∧ (fstep a b c d y s).2.2 ≤ s.2.2 + 2 := by
  unfold fstep; split
  · split <;> exact ⟨by show s.2.2 ≤ s.2.2 + 2; omega, by show s.2.2 + 2 ≤ s.2.2 + 2; omega⟩
  · exact ⟨by omega, by omega⟩
theorem found_n (a b c d : Int) : ∀ k : Nat, 0 ≤ (foundS a b c d k).2.2 ∧ (foundS a b c d k).2.2 ≤ 2 * k
  | 0 => ⟨Int.le_refl _, Int.le_refl _⟩
  | k + 1 => by
    have ih := found_n a b c d k
    have h := fstep_n a b c d (byS c d k) (foundS a b c d k)
    show 0 ≤ (fstep a b c d (byS c d k) (foundS a b c d k)).2.2 ∧ (fstep a b c d (byS c d k) (foundS a b c d k)).2.2 ≤ _
    omega
theorem vld_mid {c d y : Int} (h : vspan c d = true) (hy : c ≤ y ∧ y ≤ d) : vld y = true := by
  have := (vspan_iff _ _).mp h
  unfold vld; simp; omega
theorem found_q {a b y : Int} (h : vspan a b = true) (h0 : y ≠ 0) (hy : vld y = true) : integer_Quo.f a y = some (a.tdiv y, 0) ∧ integer_Quo.f b y = some (b.tdiv y, 0) := by
  have v := (vspan_iff _ _).mp h
  have V : ∀ x : Int, -2147483647 ≤ x → x ≤ 2147483647 → vld x = true := fun x h1 h2 => by unfold vld; simp; omega
  have K : ∀ x : Int, -2147483647 ≤ x → x ≤ 2147483647 → integer_Quo.f x y = some (x.tdiv y, 0) := fun x h1 h2 => by
    have q := tdiv_in (b := y) h1 h2
    unfold integer_Quo.f divS rng
    rw [V x h1 h2, hy, Bool.and_self, if_pos rfl, if_neg h0, V _ q.1 q.2, if_pos rfl]
  exact ⟨K a (by omega) (by omega), K b (by omega) (by omega)⟩
theorem found_meet {a b c d y : Int} (h0 : y ≠ 0) (hy : c ≤ y ∧ y ≤ d) (s : Int × Int × Int) (h1 : 0 ≤ s.2.2) {u : Int} (h2 : s.2.2 ≤ u) (hu : u ≤ 8 := by omega) :
    ∃ m : Int × Int × Int, manorboylaw01_Found_meets.f s.1 s.2.1 s.2.2 0 (a.tdiv y) 0 = some (m.1, m.2.1, m.2.2, 0) ∧
      manorboylaw01_Found_meets.f m.1 m.2.1 m.2.2 0 (b.tdiv y) 0 = some ((fstep a b c d y s).1, (fstep a b c d y s).2.1, (fstep a b c d y s).2.2, 0) := by
  have w1 : wrap64 (s.2.2 + 1) = s.2.2 + 1 := w64 (by omega) (by omega)
  have w2 : wrap64 (s.2.2 + 1 + 1) = s.2.2 + 2 := by rw [w64 (by omega) (by omega)]; omega
  have e : fstep a b c d y s = (if s.2.2 = 0 then (mn (a.tdiv y) (b.tdiv y), mx (a.tdiv y) (b.tdiv y), s.2.2 + 2) else (mn (mn s.1 (a.tdiv y)) (b.tdiv y), mx (mx s.2.1 (a.tdiv y)) (b.tdiv y), s.2.2 + 2)) := by unfold fstep; rw [if_pos ⟨h0, hy.1, hy.2⟩]
  have i1 : ∀ q : Int, mn q q = q := fun q => by unfold mn; split <;> omega
  have i2 : ∀ q : Int, mx q q = q := fun q => by unfold mx; split <;> omega
  have hne : ¬ s.2.2 + 1 = 0 := by omega
  rw [e]
  by_cases hs : s.2.2 = 0
  · refine ⟨(a.tdiv y, a.tdiv y, s.2.2 + 1), ?_, ?_⟩
    · unfold manorboylaw01_Found_meets.f; rw [if_pos rfl, if_pos hs, i1, i2, w1]
    · unfold manorboylaw01_Found_meets.f; rw [if_pos rfl, if_neg hne, if_pos hs, w2]
  · refine ⟨(mn s.1 (a.tdiv y), mx s.2.1 (a.tdiv y), s.2.2 + 1), ?_, ?_⟩
    · unfold manorboylaw01_Found_meets.f; rw [if_pos rfl, if_neg hs, w1]
    · unfold manorboylaw01_Found_meets.f; rw [if_pos rfl, if_neg hne, if_neg hs, w2]

theorem tighter_cmp {a b c d : Int} (ha : vspan a b = true) (hc : vspan c d = true) : ∃ L H : Int, integer_SpanCmp.f 1 a b c d = some (L, H, 0) ∧ integer_Cmp.f a d = some (L, 0) ∧ integer_Cmp.f b c = some (H, 0) := by
  have ⟨⟨⟨p1, p2⟩, p3, p4⟩, p5⟩ := (vspan_iff _ _).mp ha
  have ⟨⟨⟨q1, q2⟩, q3, q4⟩, q5⟩ := (vspan_iff _ _).mp hc
  have V : ∀ x : Int, -2147483647 ≤ x → x ≤ 2147483647 → vld x = true := fun x h1 h2 => by unfold vld; simp; omega
  have K : ∀ x y : Int, vld x = true → vld y = true → integer_Cmp.f x y = some (if x < y then -1 else if x > y then 1 else 0, 0) := fun x y h1 h2 => by
    have e : sgn (x - y) = if x < y then -1 else if x > y then 1 else 0 := by unfold sgn; repeat' split <;> first | rfl | omega
    unfold integer_Cmp.f twoS rng
    rw [h1, h2, Bool.and_self, if_pos rfl, e, V _ (by repeat' split <;> omega) (by repeat' split <;> omega), if_pos rfl]
  refine ⟨_, _, ?_, K a d (V _ p1 p2) (V _ q3 q4), K b c (V _ p3 p4) (V _ q1 q2)⟩
  rw [cmp_e 0, if_pos ⟨ha, hc⟩]

set_option maxRecDepth 100000 in
set_option maxHeartbeats 16000000 in
theorem tighter_good (a1 a2 b1 b2 : Int) (w : World) (ha : vspan a1 a2 = true) (hb' : vspan b1 b2 = true) :
    Calls Try.prog 16 #[.agg #[.int .i64 a1, .int .i64 a2], .agg #[.int .i64 b1, .int .i64 b2]] w fun e w' => e = .returned (.bool true) ∧ Below w.heap.size w w' := by
  have HA := Lib.hid ha
  have HB := Lib.hid hb'
  clear ha hb'
  go_enter Try.func16, Try.ntmps16
  go_wp2_with fail
  refine (manorboylaw01_wide.calls 1 true _ (wide_e 0)).mono ?_
  rintro e w0 ⟨rfl, hb0⟩
  obtain ⟨hc0, hf0⟩ := bcell hb0
  have hs0 := hb0.size
  simp only [World.size_alloc] at hs0
  have hbb : Below w.heap.size w w0 := (by go_grown : Below w.heap.size w ((w.alloc (.cells #[.int .i64 a1, .int .i64 a2] 38)).alloc (.cells #[.int .i64 b1, .int .i64 b2] 38))).trans (hb0.mono (by simp; omega))
  have i0 : w0.cell? ⟨w.heap.size, 0, none⟩ = some (.int .i64 a1) := by rw [hc0 _ _ (by simp; omega)]; first | go_cell | simp [go_sem]
  have i1 : w0.cell? ⟨w.heap.size, 1, none⟩ = some (.int .i64 a2) := by rw [hc0 _ _ (by simp; omega)]; first | go_cell | simp [go_sem]
  have j0 : w0.cell? ⟨w.heap.size + 1, 0, none⟩ = some (.int .i64 b1) := by rw [hc0 _ _ (by simp)]; first | go_cell | simp [go_sem]
  have j1 : w0.cell? ⟨w.heap.size + 1, 1, none⟩ = some (.int .i64 b2) := by rw [hc0 _ _ (by simp)]; first | go_cell | simp [go_sem]
  clear hc0 hf0 hb0
  go_wp2_with fail
  refine (validspan_c _ _ _).mono ?_
  rintro e w1 ⟨rfl, hb⟩
  rw [HA.out]
  obtain ⟨hc, hf⟩ := bcell hb
  have hs := hb.size
  have hbb1 := hbb.trans (hb.mono hbb.size)
  have i0 : w1.cell? ⟨w.heap.size, 0, none⟩ = some (.int .i64 a1) := by rw [hc _ _ (by omega)]; exact i0
  have i1 : w1.cell? ⟨w.heap.size, 1, none⟩ = some (.int .i64 a2) := by rw [hc _ _ (by omega)]; exact i1
  have j0 : w1.cell? ⟨w.heap.size + 1, 0, none⟩ = some (.int .i64 b1) := by rw [hc _ _ (by omega)]; exact j0
  have j1 : w1.cell? ⟨w.heap.size + 1, 1, none⟩ = some (.int .i64 b2) := by rw [hc _ _ (by omega)]; exact j1
  clear hc hf hb hbb
  go_wp2_with fail
  refine (validspan_c _ _ _).mono ?_
  rintro e w2 ⟨rfl, hb2⟩
  rw [HB.out]
  obtain ⟨hc, hf⟩ := bcell hb2
  have hs2 := hb2.size
  have hbb2 := hbb1.trans (hb2.mono hbb1.size)
  have i0 : w2.cell? ⟨w.heap.size, 0, none⟩ = some (.int .i64 a1) := by rw [hc _ _ (by omega)]; exact i0
  have i1 : w2.cell? ⟨w.heap.size, 1, none⟩ = some (.int .i64 a2) := by rw [hc _ _ (by omega)]; exact i1
  have j0 : w2.cell? ⟨w.heap.size + 1, 0, none⟩ = some (.int .i64 b1) := by rw [hc _ _ (by omega)]; exact j0
  have j1 : w2.cell? ⟨w.heap.size + 1, 1, none⟩ = some (.int .i64 b2) := by rw [hc _ _ (by omega)]; exact j1
  clear hc hf hb2 hbb1
  have hlt : w.heap.size + 2 ≤ w2.heap.size := by omega
  clear hs hs0 hs2
  have hl0 : w.heap.size < w2.heap.size := by omega
  have hl1 : w.heap.size + 1 < w2.heap.size := by omega
  go_wp2_with fail
  go_loopg [8] 4 (fun kq v8 wr => ∃ k : Nat, kq + k = 4 ∧ v8 = .int .i64 k ∧ Hid (wr.cell? ⟨w.heap.size, 0, none⟩ = some (.int .i64 a1) ∧ wr.cell? ⟨w.heap.size, 1, none⟩ = some (.int .i64 a2) ∧ wr.cell? ⟨w.heap.size + 1, 0, none⟩ = some (.int .i64 b1) ∧ wr.cell? ⟨w.heap.size + 1, 1, none⟩ = some (.int .i64 b2) ∧ wr.cell? ⟨w2.heap.size + 1, 0, none⟩ = some (.int .i64 b1) ∧ wr.cell? ⟨w2.heap.size + 1, 1, none⟩ = some (.int .i64 b2) ∧ wr.cell? ⟨w2.heap.size + 1, 2, none⟩ = some (.int .i64 (-1)) ∧ wr.cell? ⟨w2.heap.size + 1, 3, none⟩ = some (.int .i64 1) ∧ IsS46 w wr w2.heap.size (foundS a1 a2 b1 b2 k).1 (foundS a1 a2 b1 b2 k).2.1 (foundS a1 a2 b1 b2 k).2.2 0 ∧ Below w.heap.size w wr ∧ w2.heap.size + 2 ≤ wr.heap.size))
  case atStart => exact ⟨0, rfl, rfl, ⟨by go_cell, by go_cell, by go_cell, by go_cell, by go_cell, by go_cell, by go_cell, by go_cell, ⟨blk_alloc (w := w2.alloc _) (by unfold World.alloc; exact Array.getElem?_push_size) _, by omega⟩, (hbb2.alloc (by omega) _).alloc (by simp; omega) _, by simp⟩⟩
  case round =>
    obtain ⟨k, hk, rfl, ⟨c0, c1, d0, d1, s0, s1, s2, s3, hI, hB, hS⟩⟩ := hrel
    clear i0 i1 j0 j1
    by_cases hk4 : k = 4
    · subst hk4
      obtain ⟨L, H, hSC, hC1, hC2⟩ := tighter_cmp HA.out HB.out
      have FQ := found_quo HA.out HB.out
      obtain ⟨⟨lo, hi, n⟩, hf⟩ : ∃ x, foundS a1 a2 b1 b2 4 = x := ⟨_, rfl⟩
      rw [hf] at hI FQ
      have f0 := blk_cell hI.1 0
      have f1 := blk_cell hI.1 1
      have f2 := blk_cell hI.1 2
      simp at f0 f1 f2
      have HSC := Lib.hid (fun w => integer_SpanCmp.calls 1 a1 a2 b1 b2 L H 0 w hSC)
      have HC1 := Lib.hid (fun w => integer_Cmp.calls a1 b2 L 0 w hC1)
      have HC2 := Lib.hid (fun w => integer_Cmp.calls a2 b1 H 0 w hC2)
      clear hSC hC1 hC2 hf hI s0 s1 s2 s3 hk
      go_wp2_with fail
      rcases FQ with ⟨z1, z2, z3, z4⟩ | ⟨z1, z2, z4⟩
      · refine (squo_all a1 a2 b1 b2 _).mono ?_
        rintro e w5 ⟨rfl, hb5⟩
        rw [z4]
        simp only [sp4]
        have hbq : Below wr.heap.size wr w5 := hb5
        obtain ⟨hc3, hf3⟩ := bcell hbq
        have hs3 := hbq.size
        have c0 := (hc3 _ _ (by omega)).trans c0
        have c1 := (hc3 _ _ (by omega)).trans c1
        have d0 := (hc3 _ _ (by omega)).trans d0
        have d1 := (hc3 _ _ (by omega)).trans d1
        have f0 := (hc3 _ _ (by omega)).trans f0
        have f1 := (hc3 _ _ (by omega)).trans f1
        have f2 := (hc3 _ _ (by omega)).trans f2
        have hB := hB.trans (hbq.mono hB.size)
        have hS := Nat.le_trans hS hs3
        clear hc3 hf3 hb5 hbq hs3
        have z3 : n = 0 := z3
        clear z1 z2 z4
        have l0 : w.heap.size < w5.heap.size := by omega
        have l1 : w.heap.size + 1 < w5.heap.size := by omega
        have l2 : w2.heap.size < w5.heap.size := by omega
        subst z3
        go_wp2_with fail
        refine (HSC.out _).mono ?_
        rintro e w6 ⟨rfl, hb6⟩
        obtain ⟨hc6, hf6⟩ := bcell hb6
        have hs6 := hb6.size
        simp only [World.size_alloc] at hs6
        have c0 : w6.cell? ⟨w.heap.size, 0, none⟩ = some (.int .i64 a1) := by rw [hc6 _ _ (by simp; omega)]; go_cell
        have c1 : w6.cell? ⟨w.heap.size, 1, none⟩ = some (.int .i64 a2) := by rw [hc6 _ _ (by simp; omega)]; go_cell
        have d0 : w6.cell? ⟨w.heap.size + 1, 0, none⟩ = some (.int .i64 b1) := by rw [hc6 _ _ (by simp; omega)]; go_cell
        have d1 : w6.cell? ⟨w.heap.size + 1, 1, none⟩ = some (.int .i64 b2) := by rw [hc6 _ _ (by simp; omega)]; go_cell
        have hB : Below w.heap.size w w6 := (hB.alloc (by omega) _).trans (hb6.mono (by simp; omega))
        clear hc6 hf6 hb6
        have l3 : w.heap.size < w6.heap.size := by omega
        have l4 : w.heap.size + 1 < w6.heap.size := by omega
        go_wp2_with fail
        refine (HC1.out _).mono ?_
        rintro e w7 ⟨rfl, hb7⟩
        obtain ⟨hc7, hf7⟩ := bcell hb7
        have hs7 := hb7.size
        simp only [World.size_alloc] at hs7
        have c0 : w7.cell? ⟨w.heap.size, 0, none⟩ = some (.int .i64 a1) := by rw [hc7 _ _ (by simp; omega)]; go_cell
        have c1 : w7.cell? ⟨w.heap.size, 1, none⟩ = some (.int .i64 a2) := by rw [hc7 _ _ (by simp; omega)]; go_cell
        have d0 : w7.cell? ⟨w.heap.size + 1, 0, none⟩ = some (.int .i64 b1) := by rw [hc7 _ _ (by simp; omega)]; go_cell
        have d1 : w7.cell? ⟨w.heap.size + 1, 1, none⟩ = some (.int .i64 b2) := by rw [hc7 _ _ (by simp; omega)]; go_cell
        have e0 : w7.cell? ⟨w6.heap.size, 0, none⟩ = some (.int .i64 L) := by rw [hc7 _ _ (by simp)]; first | go_cell | simp [go_sem]
        have e1 : w7.cell? ⟨w6.heap.size, 1, none⟩ = some (.int .i64 H) := by rw [hc7 _ _ (by simp)]; first | go_cell | simp [go_sem]
        have hB : Below w.heap.size w w7 := (hB.alloc (by omega) _).trans (hb7.mono (by simp; omega))
        clear hc7 hf7 hb7
        go_wp2_with fail
        refine (HC2.out _).mono ?_
        rintro e w8 ⟨rfl, hb8⟩
        obtain ⟨hc8, hf8⟩ := bcell hb8
        have hs8 := hb8.size
        have e0 : w8.cell? ⟨w6.heap.size, 0, none⟩ = some (.int .i64 L) := by rw [hc8 _ _ (by omega)]; exact e0
        have e1 : w8.cell? ⟨w6.heap.size, 1, none⟩ = some (.int .i64 H) := by rw [hc8 _ _ (by omega)]; exact e1
        have hB : Below w.heap.size w w8 := hB.trans (hb8.mono hB.size)
        clear hc8 hf8 hb8
        go_wp2
        go_ret
        exact ⟨by simp, hB⟩
      · refine (squo_all a1 a2 b1 b2 _).mono ?_
        rintro e w5 ⟨rfl, hb5⟩
        rw [z4]
        simp only [sp4]
        have hbq : Below wr.heap.size wr w5 := hb5
        obtain ⟨hc3, hf3⟩ := bcell hbq
        have hs3 := hbq.size
        have c0 := (hc3 _ _ (by omega)).trans c0
        have c1 := (hc3 _ _ (by omega)).trans c1
        have d0 := (hc3 _ _ (by omega)).trans d0
        have d1 := (hc3 _ _ (by omega)).trans d1
        have f0 := (hc3 _ _ (by omega)).trans f0
        have f1 := (hc3 _ _ (by omega)).trans f1
        have f2 := (hc3 _ _ (by omega)).trans f2
        have hB := hB.trans (hbq.mono hB.size)
        have hS := Nat.le_trans hS hs3
        clear hc3 hf3 hb5 hbq hs3
        have z2 : 0 < n := z2
        have z2' : (n > 0) = True := eq_true z2
        obtain ⟨mm, hmm⟩ : ∃ m : Bool, (decide (b1 ≤ 0) && decide (0 ≤ b2)) = m := ⟨_, rfl⟩
        have HI0 := Lib.hid (fun w => manorboyref01_In.calls 0 b1 b2 mm w (by rw [in_e, hmm]))
        rw [hmm]
        clear z1 z4 hmm
        have l0 : w.heap.size < w5.heap.size := by omega
        have l1 : w.heap.size + 1 < w5.heap.size := by omega
        have l2 : w2.heap.size < w5.heap.size := by omega
        go_wp2_with fail
        refine (HI0.out _).mono ?_
        rintro e w5' ⟨rfl, hb6⟩
        obtain ⟨hc6, hf6⟩ := bcell hb6
        have hs6 := hb6.size
        simp only [World.size_alloc] at hs6
        have c0 : w5'.cell? ⟨w.heap.size, 0, none⟩ = some (.int .i64 a1) := by rw [hc6 _ _ (by simp; omega)]; go_cell
        have c1 : w5'.cell? ⟨w.heap.size, 1, none⟩ = some (.int .i64 a2) := by rw [hc6 _ _ (by simp; omega)]; go_cell
        have d0 : w5'.cell? ⟨w.heap.size + 1, 0, none⟩ = some (.int .i64 b1) := by rw [hc6 _ _ (by simp; omega)]; go_cell
        have d1 : w5'.cell? ⟨w.heap.size + 1, 1, none⟩ = some (.int .i64 b2) := by rw [hc6 _ _ (by simp; omega)]; go_cell
        have f0 : w5'.cell? ⟨w2.heap.size, 0, none⟩ = some (.int .i64 lo) := by rw [hc6 _ _ (by simp; omega)]; go_cell
        have f1 : w5'.cell? ⟨w2.heap.size, 1, none⟩ = some (.int .i64 hi) := by rw [hc6 _ _ (by simp; omega)]; go_cell
        have f2 : w5'.cell? ⟨w2.heap.size, 2, none⟩ = some (.int .i64 n) := by rw [hc6 _ _ (by simp; omega)]; go_cell
        have g0 : w5'.cell? ⟨w5.heap.size, 0, none⟩ = some (.int .i64 lo) := by rw [hc6 _ _ (by simp)]; first | go_cell | simp [go_sem]
        have g1 : w5'.cell? ⟨w5.heap.size, 1, none⟩ = some (.int .i64 hi) := by rw [hc6 _ _ (by simp)]; first | go_cell | simp [go_sem]
        have hB : Below w.heap.size w w5' := (hB.alloc (by omega) _).trans (hb6.mono (by simp; omega))
        clear hc6 hf6 hb6
        have l0 : w.heap.size < w5'.heap.size := by omega
        have l1 : w.heap.size + 1 < w5'.heap.size := by omega
        have l2 : w2.heap.size < w5'.heap.size := by omega
        cases mm
        all_goals
          go_wp2_with fail
          refine (HSC.out _).mono ?_
          rintro e w6 ⟨rfl, hb6⟩
          obtain ⟨hc6, hf6⟩ := bcell hb6
          have hs6 := hb6.size
          try simp only [World.size_alloc] at hs6
          have c0 : w6.cell? ⟨w.heap.size, 0, none⟩ = some (.int .i64 a1) := by rw [hc6 _ _ (by first | omega | (simp; omega))]; go_cell
          have c1 : w6.cell? ⟨w.heap.size, 1, none⟩ = some (.int .i64 a2) := by rw [hc6 _ _ (by first | omega | (simp; omega))]; go_cell
          have d0 : w6.cell? ⟨w.heap.size + 1, 0, none⟩ = some (.int .i64 b1) := by rw [hc6 _ _ (by first | omega | (simp; omega))]; go_cell
          have d1 : w6.cell? ⟨w.heap.size + 1, 1, none⟩ = some (.int .i64 b2) := by rw [hc6 _ _ (by first | omega | (simp; omega))]; go_cell
          have hB : Below w.heap.size w w6 := hB.trans (hb6.mono (by first | omega | (simp; omega)))
          clear hc6 hf6 hb6
          have l3 : w.heap.size < w6.heap.size := by omega
          have l4 : w.heap.size + 1 < w6.heap.size := by omega
          go_wp2_with fail
          refine (HC1.out _).mono ?_
          rintro e w7 ⟨rfl, hb7⟩
          obtain ⟨hc7, hf7⟩ := bcell hb7
          have hs7 := hb7.size
          simp only [World.size_alloc] at hs7
          have c0 : w7.cell? ⟨w.heap.size, 0, none⟩ = some (.int .i64 a1) := by rw [hc7 _ _ (by simp; omega)]; go_cell
          have c1 : w7.cell? ⟨w.heap.size, 1, none⟩ = some (.int .i64 a2) := by rw [hc7 _ _ (by simp; omega)]; go_cell
          have d0 : w7.cell? ⟨w.heap.size + 1, 0, none⟩ = some (.int .i64 b1) := by rw [hc7 _ _ (by simp; omega)]; go_cell
          have d1 : w7.cell? ⟨w.heap.size + 1, 1, none⟩ = some (.int .i64 b2) := by rw [hc7 _ _ (by simp; omega)]; go_cell
          have e0 : w7.cell? ⟨w6.heap.size, 0, none⟩ = some (.int .i64 L) := by rw [hc7 _ _ (by simp)]; first | go_cell | simp [go_sem]
          have e1 : w7.cell? ⟨w6.heap.size, 1, none⟩ = some (.int .i64 H) := by rw [hc7 _ _ (by simp)]; first | go_cell | simp [go_sem]
          have hB : Below w.heap.size w w7 := (hB.alloc (by omega) _).trans (hb7.mono (by simp; omega))
          clear hc7 hf7 hb7
          go_wp2_with fail
          refine (HC2.out _).mono ?_
          rintro e w8 ⟨rfl, hb8⟩
          obtain ⟨hc8, hf8⟩ := bcell hb8
          have hs8 := hb8.size
          have e0 : w8.cell? ⟨w6.heap.size, 0, none⟩ = some (.int .i64 L) := by rw [hc8 _ _ (by omega)]; exact e0
          have e1 : w8.cell? ⟨w6.heap.size, 1, none⟩ = some (.int .i64 H) := by rw [hc8 _ _ (by omega)]; exact e1
          have hB : Below w.heap.size w w8 := hB.trans (hb8.mono hB.size)
          clear hc8 hf8 hb8
          go_wp2
          go_ret
          exact ⟨by simp, hB⟩
    · obtain ⟨y, hy⟩ : ∃ y, byS b1 b2 k = y := ⟨_, rfl⟩
      have sk : wr.cell? ⟨w2.heap.size + 1, k, none⟩ = some (.int .i64 y) := by
        rw [← hy]; rcases (by omega : k = 0 ∨ k = 1 ∨ k = 2 ∨ k = 3) with h | h | h | h <;> subst h <;> assumption
      have hst : foundS a1 a2 b1 b2 (k + 1) = fstep a1 a2 b1 b2 y (foundS a1 a2 b1 b2 k) := by rw [← hy]; rfl
      have hn := found_n a1 a2 b1 b2 k
      have hklt : (k : Int) < 4 := by omega
      have hk0 : (0 : Int) ≤ (k : Int) := by omega
      have hkq : (k : Int).toNat = k := by omega
      have HW := Lib.hid (w64 (n := (k : Int) + 1) (by omega) (by omega))
      clear hy
      by_cases h0 : y = 0
      · have HST := Lib.hid (hst.trans (fstep_out (by omega)))
        have h0' : (y == 0) = true := by simp [h0]
        clear hst HA HB h0
        go_wp2
        go_region
        go_wp2
        all_goals go_roundg (3 - k)
        all_goals try (case measure => omega)
        all_goals exact ⟨k + 1, by omega, rfl, ⟨c0, c1, d0, d1, s0, s1, s2, s3, by rw [HST.out]; exact hI, hB.drew, hS⟩⟩
      · have h0' : (y == 0) = false := by simp [h0]
        by_cases hio : b1 ≤ y ∧ y ≤ b2
        · have hv := found_q HA.out (y := y) h0 (vld_mid HB.out hio)
          have HIN := Lib.hid (fun w => manorboyref01_In.calls (y) b1 b2 true w (by rw [in_e]; simp [hio.1, hio.2]))
          have HQ1 := Lib.hid (fun w => integer_Quo.calls a1 (y) (a1.tdiv (y)) 0 w hv.1)
          have HQ2 := Lib.hid (fun w => integer_Quo.calls a2 (y) (a2.tdiv (y)) 0 w hv.2)
          obtain ⟨m, M1, M2⟩ := found_meet (a := a1) (b := a2) (c := b1) (d := b2) h0 hio _ hn.1 hn.2
          rw [← hst] at M2
          clear hst hv hio h0 HA HB
          go_wp2
          go_region_with (refine (HIN.out _).mono ?_; rintro e w3 ⟨rfl, hb3⟩)
          all_goals
            rename_i w3 hb3
            have hbq : Below wr.heap.size wr w3 := ((Below.refl _ wr).drew).trans hb3
            obtain ⟨hc3, hf3⟩ := bcell hbq
            have hs3 := hbq.size
            have c0 := (hc3 _ _ (by omega)).trans c0
            have c1 := (hc3 _ _ (by omega)).trans c1
            have d0 := (hc3 _ _ (by omega)).trans d0
            have d1 := (hc3 _ _ (by omega)).trans d1
            have s0 := (hc3 _ _ (by omega)).trans s0
            have s1 := (hc3 _ _ (by omega)).trans s1
            have s2 := (hc3 _ _ (by omega)).trans s2
            have s3 := (hc3 _ _ (by omega)).trans s3
            have sk := (hc3 _ _ (by omega)).trans sk
            have hI := hI.below hbq
            have hB := hB.trans (hbq.mono hB.size)
            have hS := Nat.le_trans hS hs3
            clear hc3 hf3 hb3 hbq hs3
            go_wp2
            go_region_with (refine (HQ1.out _).mono ?_; rintro e w4 ⟨rfl, hb4⟩)
          all_goals
            rename_i w4 hb4
            have hbq : Below w3.heap.size w3 w4 := ((Below.refl _ w3).drew).trans hb4
            obtain ⟨hc3, hf3⟩ := bcell hbq
            have hs3 := hbq.size
            have c0 := (hc3 _ _ (by omega)).trans c0
            have c1 := (hc3 _ _ (by omega)).trans c1
            have d0 := (hc3 _ _ (by omega)).trans d0
            have d1 := (hc3 _ _ (by omega)).trans d1
            have s0 := (hc3 _ _ (by omega)).trans s0
            have s1 := (hc3 _ _ (by omega)).trans s1
            have s2 := (hc3 _ _ (by omega)).trans s2
            have s3 := (hc3 _ _ (by omega)).trans s3
            have sk := (hc3 _ _ (by omega)).trans sk
            have hI := hI.below hbq
            have hB := hB.trans (hbq.mono hB.size)
            have hS := Nat.le_trans hS hs3
            clear hc3 hf3 hb4 hbq hs3
            go_wp2_with fail
            refine (manorboylaw01_Found_meets.calls w2.heap.size _ _ _ _ _ _ _ _ _ _ w _ hI hB M1).mono ?_
            rintro e w5 ⟨rfl, hI, hB, hK⟩
            have hs3 := hK.1
            have hc3 : ∀ b o, b < w4.heap.size → b ≠ w2.heap.size → w5.cell? ⟨b, o, none⟩ = w4.cell? ⟨b, o, none⟩ := fun b o h1 h2 => World.cell?_of_block (w := w4) (hK.2 b h1 h2 (by simp))
            have c0 := (hc3 _ _ (by omega) (by omega)).trans c0
            have c1 := (hc3 _ _ (by omega) (by omega)).trans c1
            have d0 := (hc3 _ _ (by omega) (by omega)).trans d0
            have d1 := (hc3 _ _ (by omega) (by omega)).trans d1
            have s0 := (hc3 _ _ (by omega) (by omega)).trans s0
            have s1 := (hc3 _ _ (by omega) (by omega)).trans s1
            have s2 := (hc3 _ _ (by omega) (by omega)).trans s2
            have s3 := (hc3 _ _ (by omega) (by omega)).trans s3
            have sk := (hc3 _ _ (by omega) (by omega)).trans sk
            have hS := Nat.le_trans hS hs3
            clear hc3 hK hs3
            go_wp2
            go_region_with (refine (HQ2.out _).mono ?_; rintro e w6 ⟨rfl, hb6⟩)
          all_goals
            rename_i w6 hb6
            have hbq : Below w5.heap.size w5 w6 := ((Below.refl _ w5).drew).trans hb6
            obtain ⟨hc3, hf3⟩ := bcell hbq
            have hs3 := hbq.size
            have c0 := (hc3 _ _ (by omega)).trans c0
            have c1 := (hc3 _ _ (by omega)).trans c1
            have d0 := (hc3 _ _ (by omega)).trans d0
            have d1 := (hc3 _ _ (by omega)).trans d1
            have s0 := (hc3 _ _ (by omega)).trans s0
            have s1 := (hc3 _ _ (by omega)).trans s1
            have s2 := (hc3 _ _ (by omega)).trans s2
            have s3 := (hc3 _ _ (by omega)).trans s3
            have sk := (hc3 _ _ (by omega)).trans sk
            have hI := hI.below hbq
            have hB := hB.trans (hbq.mono hB.size)
            have hS := Nat.le_trans hS hs3
            clear hc3 hf3 hb6 hbq hs3
            go_wp2_with fail
            refine (manorboylaw01_Found_meets.calls w2.heap.size _ _ _ _ _ _ _ _ _ _ w _ hI hB M2).mono ?_
            rintro e w7 ⟨rfl, hI, hB, hK⟩
            have hs3 := hK.1
            have hc3 : ∀ b o, b < w6.heap.size → b ≠ w2.heap.size → w7.cell? ⟨b, o, none⟩ = w6.cell? ⟨b, o, none⟩ := fun b o h1 h2 => World.cell?_of_block (w := w6) (hK.2 b h1 h2 (by simp))
            have c0 := (hc3 _ _ (by omega) (by omega)).trans c0
            have c1 := (hc3 _ _ (by omega) (by omega)).trans c1
            have d0 := (hc3 _ _ (by omega) (by omega)).trans d0
            have d1 := (hc3 _ _ (by omega) (by omega)).trans d1
            have s0 := (hc3 _ _ (by omega) (by omega)).trans s0
            have s1 := (hc3 _ _ (by omega) (by omega)).trans s1
            have s2 := (hc3 _ _ (by omega) (by omega)).trans s2
            have s3 := (hc3 _ _ (by omega) (by omega)).trans s3
            have sk := (hc3 _ _ (by omega) (by omega)).trans sk
            have hS := Nat.le_trans hS hs3
            clear hc3 hK hs3
            go_wp2
          all_goals go_roundg (3 - k)
          all_goals try (case measure => omega)
          all_goals exact ⟨k + 1, by omega, rfl, ⟨c0, c1, d0, d1, s0, s1, s2, s3, hI, hB, hS⟩⟩
        · have HST := Lib.hid (hst.trans (fstep_out (by omega)))
          have HIN := Lib.hid (fun w => manorboyref01_In.calls (y) b1 b2 false w (by rw [in_e]; simp; omega))
          clear hst hio h0 HA HB
          go_wp2
          go_region_with (refine (HIN.out _).mono ?_; rintro e w3 ⟨rfl, hb3⟩)
          all_goals
            rename_i w3 hb3
            have hbq : Below wr.heap.size wr w3 := ((Below.refl _ wr).drew).trans hb3
            obtain ⟨hc3, hf3⟩ := bcell hbq
            have hs3 := hbq.size
            have c0 := (hc3 _ _ (by omega)).trans c0
            have c1 := (hc3 _ _ (by omega)).trans c1
            have d0 := (hc3 _ _ (by omega)).trans d0
            have d1 := (hc3 _ _ (by omega)).trans d1
            have s0 := (hc3 _ _ (by omega)).trans s0
            have s1 := (hc3 _ _ (by omega)).trans s1
            have s2 := (hc3 _ _ (by omega)).trans s2
            have s3 := (hc3 _ _ (by omega)).trans s3
            have sk := (hc3 _ _ (by omega)).trans sk
            have hI := hI.below hbq
            have hB := hB.trans (hbq.mono hB.size)
            have hS := Nat.le_trans hS hs3
            clear hc3 hf3 hb3 hbq hs3
            go_wp2
          all_goals go_roundg (3 - k)
          all_goals try (case measure => omega)
          all_goals exact ⟨k + 1, by omega, rfl, ⟨c0, c1, d0, d1, s0, s1, s2, s3, by rw [HST.out]; exact hI, hB, hS⟩⟩
end Go.Proofs.Ytjclehdhjnmlpaa.T
