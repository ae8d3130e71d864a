/- The contract of the iterator 'ends' of package integer, over the seat's program: it yields the four pairs of the ends of two spans. -/
import Derived.Test.YtjclehdhjnmlpaaGiven4
namespace Go.Proofs.Ytjclehdhjnmlpaa.Given
open Go.RowKit Go.Shelf Go.Proofs.YtjclehdhjnmlpaaW.PrintWords Go.Proofs.YtjclehdhjnmlpaaW.PrintLast Go.Proofs.YtjclehdhjnmlpaaW.PrintMore
set_option linter.unusedVariables false
set_option linter.unusedSimpArgs false
attribute [local go_sem] Oper.semAt_some

/-- The pairs of numbers that an operation takes. -/
abbrev Pr (ok : Int → Int → Prop) := { p : Int × Int // ok p.1 p.2 }
abbrev encs {ok : Int → Int → Prop} (p : Pr ok) : Array Value := #[.int .i64 p.1.1, .int .i64 p.1.2]
/-- The blocks in S lie as they lay. -/
def KeepAt (S : Nat → Prop) (W W' : World) : Prop := ∀ k, S k → W'.heap[k]? = W.heap[k]?
theorem keepAt_t {S : Nat → Prop} {A B C : World} (h : KeepAt S A B) (k : KeepAt S B C) : KeepAt S A C := fun i hi => (k i hi).trans (h i hi)
theorem keepAt_cell {S : Nat → Prop} {W W' : World} (h : KeepAt S W W') {b o : Nat} (hb : S b) : W'.cell? ⟨b, o, none⟩ = W.cell? ⟨b, o, none⟩ := World.cell?_of_block (w := W) (h b hb)

def pairs (ok : Int → Int → Prop) (a1 a2 b1 b2 : Int) (h11 : ok a1 b1) (h12 : ok a1 b2) (h21 : ok a2 b1) (h22 : ok a2 b2) : List (Pr ok) := [⟨(a1, b1), h11⟩, ⟨(a1, b2), h12⟩, ⟨(a2, b1), h21⟩, ⟨(a2, b2), h22⟩]

set_option maxRecDepth 100000 in
set_option maxHeartbeats 4000000 in
theorem ends1_stops (F : Fence) (n : Nat) (h102 : F.fn 102) (hro : F.round = none) (hn : 1 ≤ n) (A B : Nat) (ok : Int → Int → Prop) (a1 a2 b1 b2 : Int) (h11 : ok a1 b1) (h12 : ok a1 b2) (h21 : ok a2 b1) (h22 : ok a2 b2) (w : World)
    (ha1 : w.cell? ⟨A, 0, none⟩ = some (.int .i64 a1)) (ha2 : w.cell? ⟨A, 1, none⟩ = some (.int .i64 a2)) (hb1 : w.cell? ⟨B, 0, none⟩ = some (.int .i64 b1)) (hb2 : w.cell? ⟨B, 1, none⟩ = some (.int .i64 b2))
    (hA : A < w.heap.size) (hB : B < w.heap.size) :
    SeqStopsK F n Try.prog 102 #[.pointer (some ⟨A, 0, none⟩), .pointer (some ⟨B, 0, none⟩)] encs (KeepAt (fun k => k = A ∨ k = B)) (fun xs => xs = pairs ok a1 a2 b1 b2 h11 h12 h21 h22) (fun _ => True) 4 w := by
  intro l J Jx W hW _ _ hY h0
  have ha1' : W.cell? ⟨A, 0, none⟩ = some (.int .i64 a1) := (hW.cell (p := ⟨A, 0, none⟩) hA).trans ha1
  have ha2' : W.cell? ⟨A, 1, none⟩ = some (.int .i64 a2) := (hW.cell (p := ⟨A, 1, none⟩) hA).trans ha2
  have hb1' : W.cell? ⟨B, 0, none⟩ = some (.int .i64 b1) := (hW.cell (p := ⟨B, 0, none⟩) hB).trans hb1
  have hb2' : W.cell? ⟨B, 1, none⟩ = some (.int .i64 b2) := (hW.cell (p := ⟨B, 1, none⟩) hB).trans hb2
  clear ha1 ha2 hb1 hb2 hW
  have i0 : ∀ (x y : Value) (w : World), (Instr.index 72 (.agg #[x, y]) (.int .i64 0)).run Try.prog w = .ok x w := fun x y w => by kernel_rfl
  have i1 : ∀ (x y : Value) (w : World), (Instr.index 72 (.agg #[x, y]) (.int .i64 1)).run Try.prog w = .ok y w := fun x y w => by kernel_rfl
  refine callsIn_of_wp Try.func102 rfl h102 ?_ hro
  simp only [Try.ntmps102, List.size_toArray, List.length_cons, List.length_nil, Nat.reduceAdd, Nat.reduceSub, Array.replicate_succ, Array.replicate_zero, List.push_toArray, List.append_toArray, List.nil_append, List.cons_append]
  obtain ⟨f1, t1, as1, bd1, hy1, hR1⟩ := hY [] ⟨(a1, b1), h11⟩ W h0 (by simp)
  dsimp only [encs] at hy1
  gi_wp2
  refine wpIn_loop_rounds 3 ?_
  rw [roundsIn_succ]
  gi_wp2
  refine wpIn_loop_rounds 3 ?_
  rw [roundsIn_succ]
  gi_wp2
  refine hR1.mono ?_
  clear hR1 hy1
  rintro e W1 (⟨rfl, hJ1, hk1⟩ | ⟨rfl, hx1⟩)
  · obtain ⟨f2, t2, as2, bd2, hy2, hR2⟩ := hY _ ⟨(a1, b2), h12⟩ W1 hJ1 (by simp)
    dsimp only [encs] at hy2
    gi_wp2
    rw [roundsIn_succ]
    gi_wp2
    refine hR2.mono ?_
    clear hR2 hy2
    rintro e W2 (⟨rfl, hJ2, hk2⟩ | ⟨rfl, hx2⟩)
    · have hb1'' : W2.cell? ⟨B, 0, none⟩ = some (.int .i64 b1) := (keepAt_cell (keepAt_t hk1 hk2) (.inr rfl)).trans hb1'
      have hb2'' : W2.cell? ⟨B, 1, none⟩ = some (.int .i64 b2) := (keepAt_cell (keepAt_t hk1 hk2) (.inr rfl)).trans hb2'
      clear ha1' ha2' hb1' hb2'
      obtain ⟨f3, t3, as3, bd3, hy3, hR3⟩ := hY _ ⟨(a2, b1), h21⟩ W2 hJ2 (by simp)
      dsimp only [encs] at hy3
      gi_wp2
      rw [roundsIn_succ]
      gi_wp2
      rw [roundsIn_succ]
      gi_wp2
      refine wpIn_loop_rounds 3 ?_
      rw [roundsIn_succ]
      gi_wp2
      refine hR3.mono ?_
      clear hR3 hy3
      rintro e W3 (⟨rfl, hJ3, hk3⟩ | ⟨rfl, hx3⟩)
      · obtain ⟨f4, t4, as4, bd4, hy4, hR4⟩ := hY _ ⟨(a2, b2), h22⟩ W3 hJ3 (by simp)
        dsimp only [encs] at hy4
        gi_wp2
        rw [roundsIn_succ]
        gi_wp2
        refine hR4.mono ?_
        clear hR4 hy4
        rintro e W4 (⟨rfl, hJ4, hk4⟩ | ⟨rfl, hx4⟩)
        · gi_wp2
          rw [roundsIn_succ]
          gi_wp2
          rw [roundsIn_succ]
          gi_wp2
          first | go_end0 | refine bodyPost_ret (results_none rfl _ _ _) rfl ?_
          exact ⟨⟨_, rfl⟩, .inl ⟨_, rfl, by simpa [pairs] using hJ4⟩⟩
        · gi_wp2
          refine bodyPost_ret (results_none rfl _ _ _) rfl ?_
          exact ⟨⟨_, rfl⟩, .inr ⟨_, trivial, hx4⟩⟩
      · gi_wp2
        refine bodyPost_ret (results_none rfl _ _ _) rfl ?_
        exact ⟨⟨_, rfl⟩, .inr ⟨_, trivial, hx3⟩⟩
    · gi_wp2
      refine bodyPost_ret (results_none rfl _ _ _) rfl ?_
      exact ⟨⟨_, rfl⟩, .inr ⟨_, trivial, hx2⟩⟩
  · gi_wp2
    refine bodyPost_ret (results_none rfl _ _ _) rfl ?_
    exact ⟨⟨_, rfl⟩, .inr ⟨_, trivial, hx1⟩⟩
end Go.Proofs.Ytjclehdhjnmlpaa.Given
