/- The walk of the law IntegerTight: it returns true for every input. -/
import Derived.Test.YtjclehdhjnmlpaaPureTight
namespace Go.Proofs.Ytjclehdhjnmlpaa.T
open Go Go.RowKit Go.Shelf Go.Proofs.Ytjclehdhjnmlpaa.Given Go.Proofs.YtjclehdhjnmlpaaW.PrintWords Go.Proofs.YtjclehdhjnmlpaaW.PrintLast Go.Proofs.YtjclehdhjnmlpaaW.PrintMore
set_option linter.unusedVariables false
set_option linter.unusedSimpArgs false

set_option maxRecDepth 100000 in
set_option maxHeartbeats 16000000 in
theorem tight_good (a1 a2 b1 b2 : Int) (w : World) (ha : vspan a1 a2 = true) (hb' : vspan b1 b2 = true) :
    Calls Try.prog 13 #[.agg #[.int .i64 a1, .int .i64 a2], .agg #[.int .i64 b1, .int .i64 b2]] w fun e w' => e = .returned (.bool true) ∧ Below w.heap.size w w' := by
  have HA := Lib.hid ha
  have HB := Lib.hid hb'
  clear ha hb'
  go_enter Try.func13, Try.ntmps13
  go_wp2_with fail
  refine (manorboylaw01_wide.calls 1 true _ (wide_e 0)).mono ?_
  rintro e w0 ⟨rfl, hb0⟩
  obtain ⟨hc0, hf0⟩ := bcell hb0
  have hs0 := hb0.size
  simp only [World.size_alloc] at hs0
  have hbb : Below w.heap.size w w0 := (by go_grown : Below w.heap.size w ((w.alloc (.cells #[.int .i64 a1, .int .i64 a2] 38)).alloc (.cells #[.int .i64 b1, .int .i64 b2] 38))).trans (hb0.mono (by simp; omega))
  have i0 : w0.cell? ⟨w.heap.size, 0, none⟩ = some (.int .i64 a1) := by rw [hc0 _ _ (by simp; omega)]; first | go_cell | simp [go_sem]
  have i1 : w0.cell? ⟨w.heap.size, 1, none⟩ = some (.int .i64 a2) := by rw [hc0 _ _ (by simp; omega)]; first | go_cell | simp [go_sem]
  have j0 : w0.cell? ⟨w.heap.size + 1, 0, none⟩ = some (.int .i64 b1) := by rw [hc0 _ _ (by simp)]; first | go_cell | simp [go_sem]
  have j1 : w0.cell? ⟨w.heap.size + 1, 1, none⟩ = some (.int .i64 b2) := by rw [hc0 _ _ (by simp)]; first | go_cell | simp [go_sem]
  clear hc0 hf0 hb0
  go_wp2_with fail
  refine (validspan_c _ _ _).mono ?_
  rintro e w1 ⟨rfl, hb⟩
  rw [HA.out]
  obtain ⟨hc, hf⟩ := bcell hb
  have hs := hb.size
  have hbb1 := hbb.trans (hb.mono hbb.size)
  have i0 : w1.cell? ⟨w.heap.size, 0, none⟩ = some (.int .i64 a1) := by rw [hc _ _ (by omega)]; exact i0
  have i1 : w1.cell? ⟨w.heap.size, 1, none⟩ = some (.int .i64 a2) := by rw [hc _ _ (by omega)]; exact i1
  have j0 : w1.cell? ⟨w.heap.size + 1, 0, none⟩ = some (.int .i64 b1) := by rw [hc _ _ (by omega)]; exact j0
  have j1 : w1.cell? ⟨w.heap.size + 1, 1, none⟩ = some (.int .i64 b2) := by rw [hc _ _ (by omega)]; exact j1
  clear hc hf hb hbb
  go_wp2_with fail
  refine (validspan_c _ _ _).mono ?_
  rintro e w2 ⟨rfl, hb2⟩
  rw [HB.out]
  obtain ⟨hc, hf⟩ := bcell hb2
  have hs2 := hb2.size
  have hbb2 := hbb1.trans (hb2.mono hbb1.size)
  have i0 : w2.cell? ⟨w.heap.size, 0, none⟩ = some (.int .i64 a1) := by rw [hc _ _ (by omega)]; exact i0
  have i1 : w2.cell? ⟨w.heap.size, 1, none⟩ = some (.int .i64 a2) := by rw [hc _ _ (by omega)]; exact i1
  have j0 : w2.cell? ⟨w.heap.size + 1, 0, none⟩ = some (.int .i64 b1) := by rw [hc _ _ (by omega)]; exact j0
  have j1 : w2.cell? ⟨w.heap.size + 1, 1, none⟩ = some (.int .i64 b2) := by rw [hc _ _ (by omega)]; exact j1
  clear hc hf hb2 hbb1
  have hlt : w.heap.size + 2 ≤ w2.heap.size := by omega
  clear hs hs0 hs2
  have hl0 : w.heap.size < w2.heap.size := by omega
  have hl1 : w.heap.size + 1 < w2.heap.size := by omega
  go_wp2_with fail
  go_loopg [6] 3 (fun kq v6 wr => ∃ j : Nat, kq + j = 3 ∧ v6 = .int .i64 j ∧ Hid (wr.cell? ⟨w.heap.size, 0, none⟩ = some (.int .i64 a1) ∧ wr.cell? ⟨w.heap.size, 1, none⟩ = some (.int .i64 a2) ∧ wr.cell? ⟨w.heap.size + 1, 0, none⟩ = some (.int .i64 b1) ∧ wr.cell? ⟨w.heap.size + 1, 1, none⟩ = some (.int .i64 b2) ∧ Below w.heap.size w wr ∧ w.heap.size + 2 ≤ wr.heap.size))
  case atStart => exact ⟨0, rfl, rfl, ⟨i0, i1, j0, j1, hbb2, by omega⟩⟩
  case round =>
    obtain ⟨j, hj, rfl, ⟨c0, c1, d0, d1, hB, hS⟩⟩ := hrel
    clear i0 i1 j0 j1 hbb2 hl0 hl1 hlt
    by_cases hj3 : j = 3
    · subst hj3
      clear HA HB hj
      go_wp2
      go_ret
      exact ⟨rfl, hB⟩
    · have hjlt : (j : Int) < 3 := by omega
      have hl0 : w.heap.size < wr.heap.size := by omega
      have hl1 : w.heap.size + 1 < wr.heap.size := by omega
      have HWj := Lib.hid (w64 (n := (j : Int) + 1) (by omega) (by omega))
      go_wp2_with fail
      obtain ⟨wo, hwo⟩ : ∃ x, x = wr := ⟨_, rfl⟩
      subst hwo
      have old3 : ∀ {o1 o2 o3 : Obj} (b o : Nat), b < wo.heap.size → (((wo.alloc o1).alloc o2).alloc o3).cell? ⟨b, o, none⟩ = wo.cell? ⟨b, o, none⟩ := fun b o h => (bcell ((((Below.refl wo.heap.size wo).alloc (by omega) _).alloc (by simp) _).alloc (by simp; omega) _)).1 b o h
      go_loopg [10] 4 (fun kq v10 ws => ∃ k : Nat, kq + k = 4 ∧ v10 = .int .i64 k ∧ Hid (ws.cell? ⟨w.heap.size, 0, none⟩ = some (.int .i64 a1) ∧ ws.cell? ⟨w.heap.size, 1, none⟩ = some (.int .i64 a2) ∧ ws.cell? ⟨w.heap.size + 1, 0, none⟩ = some (.int .i64 b1) ∧ ws.cell? ⟨w.heap.size + 1, 1, none⟩ = some (.int .i64 b2) ∧ ws.cell? ⟨wo.heap.size + 1, 0, none⟩ = some (.int .i64 a1) ∧ ws.cell? ⟨wo.heap.size + 1, 1, none⟩ = some (.int .i64 a1) ∧ ws.cell? ⟨wo.heap.size + 1, 2, none⟩ = some (.int .i64 a2) ∧ ws.cell? ⟨wo.heap.size + 1, 3, none⟩ = some (.int .i64 a2) ∧ ws.cell? ⟨wo.heap.size + 2, 0, none⟩ = some (.int .i64 b1) ∧ ws.cell? ⟨wo.heap.size + 2, 1, none⟩ = some (.int .i64 b2) ∧ ws.cell? ⟨wo.heap.size + 2, 2, none⟩ = some (.int .i64 b1) ∧ ws.cell? ⟨wo.heap.size + 2, 3, none⟩ = some (.int .i64 b2) ∧ IsS46 w ws wo.heap.size (foundT j a1 a2 b1 b2 k).1 (foundT j a1 a2 b1 b2 k).2.1 (foundT j a1 a2 b1 b2 k).2.2.1 (foundT j a1 a2 b1 b2 k).2.2.2 ∧ Below w.heap.size w ws ∧ wo.heap.size + 3 ≤ ws.heap.size))
      case atStart => exact ⟨0, rfl, rfl, ⟨by rw [old3 _ _ (by omega)]; exact c0, by rw [old3 _ _ (by omega)]; exact c1, by rw [old3 _ _ (by omega)]; exact d0, by rw [old3 _ _ (by omega)]; exact d1, by go_cell, by go_cell, by go_cell, by go_cell, by go_cell, by go_cell, by go_cell, by go_cell, ⟨blk_alloc (w := (wo.alloc _).alloc _) (blk_alloc (w := wo.alloc _) (by unfold World.alloc; exact Array.getElem?_push_size) _) _, by omega⟩, by refine Below.alloc (Below.alloc (Below.alloc hB ?_ _) ?_ _) ?_ _ <;> first | omega | (simp only [World.size_alloc]; omega), by first | omega | simp⟩⟩
      case round =>
        obtain ⟨k, hk, rfl, ⟨c0, c1, d0, d1, s0, s1, s2, s3, t0, t1, t2, t3, hI, hB, hS⟩⟩ := hrel
        by_cases hk4 : k = 4
        · subst hk4
          obtain ⟨lo, hi, may, er, hSP, hcs⟩ := spread_T (op := j) HA.out HB.out
          have HSP := Lib.hid (fun w => manorboylaw01_spread.calls j a1 a2 b1 b2 lo hi may er w hSP)
          obtain ⟨⟨flo, fhi, ok, out⟩, hf⟩ : ∃ x, foundT j a1 a2 b1 b2 4 = x := ⟨_, rfl⟩
          rw [hf] at hI hcs
          have f0 := blk_cell hI.1 0
          have f1 := blk_cell hI.1 1
          have f2 := blk_cell hI.1 2
          have f3 := blk_cell hI.1 3
          simp at f0 f1 f2 f3
          clear old3 hSP hf hI s0 s1 s2 s3 t0 t1 t2 t3 hk HA HB
          go_wp2_with fail
          refine (HSP.out _).mono ?_
          rintro e w5 ⟨rfl, hb5⟩
          have hbq : Below wr.heap.size wr w5 := hb5
          obtain ⟨hc3, hf3⟩ := bcell hbq
          have hs3 := hbq.size
          have c0 := (hc3 _ _ (by omega)).trans c0
          have c1 := (hc3 _ _ (by omega)).trans c1
          have d0 := (hc3 _ _ (by omega)).trans d0
          have d1 := (hc3 _ _ (by omega)).trans d1
          have f0 := (hc3 _ _ (by omega)).trans f0
          have f1 := (hc3 _ _ (by omega)).trans f1
          have f2 := (hc3 _ _ (by omega)).trans f2
          have f3 := (hc3 _ _ (by omega)).trans f3
          have hB := hB.trans (hbq.mono hB.size)
          have hS := Nat.le_trans hS hs3
          clear hc3 hf3 hb5 hbq hs3
          have l0 : w.heap.size < w5.heap.size := by omega
          have l1 : w.heap.size + 1 < w5.heap.size := by omega
          have l2 : wo.heap.size < w5.heap.size := by omega
          clear HSP
          rcases hcs with ⟨rfl, hok⟩ | ⟨rfl, hm, hlh⟩
          · have hok : ok = 0 := hok
            subst hok
            go_wp2
            go_roundg (2 - j)
            case measure => omega
            case rel => exact ⟨j + 1, by omega, rfl, ⟨by go_cell, by go_cell, by go_cell, by go_cell, hB.alloc (by omega) _, by simp; omega⟩⟩
          · cases may with
            | true =>
              have ho : (out > 0) = True := eq_true (by simpa using hm)
              have ho' : out > 0 := by simpa using hm
              clear hm hlh
              go_wp2
              go_roundg (2 - j)
              case measure => omega
              case rel => exact ⟨j + 1, by omega, rfl, ⟨by go_cell, by go_cell, by go_cell, by go_cell, hB.alloc (by omega) _, by simp; omega⟩⟩
            | false =>
              have ho : (out > 0) = False := eq_false (by simpa using hm)
              obtain ⟨e1, e2⟩ := hlh rfl
              have e1 : lo = flo := e1
              have e2 : hi = fhi := e2
              subst e1
              subst e2
              clear hm hlh
              go_wp2
              go_roundg (2 - j)
              case measure => omega
              case rel => exact ⟨j + 1, by omega, rfl, ⟨by go_cell, by go_cell, by go_cell, by go_cell, hB.alloc (by omega) _, by simp; omega⟩⟩
        · obtain ⟨x, hx⟩ : ∃ x, xT a1 a2 k = x := ⟨_, rfl⟩
          obtain ⟨y, hy⟩ : ∃ y, yT b1 b2 k = y := ⟨_, rfl⟩
          have hvx := xT_vld HA.out k (by omega)
          have hvy := yT_vld HB.out k (by omega)
          have sk : wr.cell? ⟨wo.heap.size + 1, k, none⟩ = some (.int .i64 x) := by
            rw [← hx]; rcases (by omega : k = 0 ∨ k = 1 ∨ k = 2 ∨ k = 3) with h | h | h | h <;> subst h <;> assumption
          have tk : wr.cell? ⟨wo.heap.size + 2, k, none⟩ = some (.int .i64 y) := by
            rw [← hy]; rcases (by omega : k = 0 ∨ k = 1 ∨ k = 2 ∨ k = 3) with h | h | h | h <;> subst h <;> assumption
          rw [hx] at hvx
          rw [hy] at hvy
          have hst : foundT j a1 a2 b1 b2 (k + 1) = vstep (opT j x y) (foundT j a1 a2 b1 b2 k) := by rw [← hx, ← hy]; rfl
          have hn := found_T j a1 a2 b1 b2 k
          have hklt : (k : Int) < 4 := by omega
          have hk0 : (0 : Int) ≤ (k : Int) := by omega
          have hkq : (k : Int).toNat = k := by omega
          have HW := Lib.hid (w64 (n := (k : Int) + 1) (by omega) (by omega))
          have M1 := meets_T (opT j x y) (foundT j a1 a2 b1 b2 k) hn.1 (by omega) hn.2.2.1 (by omega)
          have AP := apply_T (op := j) hvx hvy
          rw [← hst] at M1
          obtain ⟨⟨n, e⟩, hne⟩ : ∃ p, rng (opT j x y) = p := ⟨_, rfl⟩
          rw [hne] at M1 AP
          have HAP := Lib.hid (fun w => manorboylaw01_apply.calls j x y n e w AP)
          have M1 := Lib.hid M1
          clear old3 hx hy hvx hvy hst AP hne HA HB
          go_wp2
          go_region_with (refine (HAP.out _).mono ?_; rintro e w3 ⟨rfl, hb3⟩)
          all_goals
            rename_i w3 hb3
            have hbq : Below wr.heap.size wr w3 := ((Below.refl _ wr).drew).trans hb3
            obtain ⟨hc3, hf3⟩ := bcell hbq
            have hs3 := hbq.size
            have c0 := (hc3 _ _ (by omega)).trans c0
            have c1 := (hc3 _ _ (by omega)).trans c1
            have d0 := (hc3 _ _ (by omega)).trans d0
            have d1 := (hc3 _ _ (by omega)).trans d1
            have s0 := (hc3 _ _ (by omega)).trans s0
            have s1 := (hc3 _ _ (by omega)).trans s1
            have s2 := (hc3 _ _ (by omega)).trans s2
            have s3 := (hc3 _ _ (by omega)).trans s3
            have t0 := (hc3 _ _ (by omega)).trans t0
            have t1 := (hc3 _ _ (by omega)).trans t1
            have t2 := (hc3 _ _ (by omega)).trans t2
            have t3 := (hc3 _ _ (by omega)).trans t3
            have sk := (hc3 _ _ (by omega)).trans sk
            have tk := (hc3 _ _ (by omega)).trans tk
            have hI := hI.below hbq
            have hB := hB.trans (hbq.mono hB.size)
            have hS := Nat.le_trans hS hs3
            clear hc3 hf3 hb3 hbq hs3
            go_wp2_with fail
            refine (manorboylaw01_Found_meets.calls wo.heap.size _ _ _ _ _ _ _ _ _ _ w _ hI hB M1.out).mono ?_
            rintro e w5 ⟨rfl, hI, hB, hK⟩
            have hs3 := hK.1
            have hc3 : ∀ b o, b < w3.heap.size → b ≠ wo.heap.size → w5.cell? ⟨b, o, none⟩ = w3.cell? ⟨b, o, none⟩ := fun b o h1 h2 => World.cell?_of_block (w := w3) (hK.2 b h1 h2 (by simp))
            have c0 := (hc3 _ _ (by omega) (by omega)).trans c0
            have c1 := (hc3 _ _ (by omega) (by omega)).trans c1
            have d0 := (hc3 _ _ (by omega) (by omega)).trans d0
            have d1 := (hc3 _ _ (by omega) (by omega)).trans d1
            have s0 := (hc3 _ _ (by omega) (by omega)).trans s0
            have s1 := (hc3 _ _ (by omega) (by omega)).trans s1
            have s2 := (hc3 _ _ (by omega) (by omega)).trans s2
            have s3 := (hc3 _ _ (by omega) (by omega)).trans s3
            have t0 := (hc3 _ _ (by omega) (by omega)).trans t0
            have t1 := (hc3 _ _ (by omega) (by omega)).trans t1
            have t2 := (hc3 _ _ (by omega) (by omega)).trans t2
            have t3 := (hc3 _ _ (by omega) (by omega)).trans t3
            have sk := (hc3 _ _ (by omega) (by omega)).trans sk
            have tk := (hc3 _ _ (by omega) (by omega)).trans tk
            have hS := Nat.le_trans hS hs3
            clear hc3 hK hs3
            go_wp2
          all_goals go_roundg (3 - k)
          all_goals try (case measure => omega)
          all_goals exact ⟨k + 1, by omega, rfl, ⟨c0, c1, d0, d1, s0, s1, s2, s3, t0, t1, t2, t3, hI, hB, hS⟩⟩
end Go.Proofs.Ytjclehdhjnmlpaa.T
