/- The law IntegerLattice as a statement about whole numbers. -/
import Derived.Test.YtjclehdhjnmlpaaPureSpan
namespace Go.Proofs.Ytjclehdhjnmlpaa.S
open Go.Proofs.Ytjclehdhjnmlpaa.Given Go.Proofs.YtjclehdhjnmlpaaW.PrintWords Go.Proofs.YtjclehdhjnmlpaaW.PrintLast Go.Proofs.YtjclehdhjnmlpaaW.PrintMore
set_option linter.unusedVariables false
set_option linter.unusedSimpArgs false

theorem lattice_pure (a1 a2 b1 b2 c1 c2 n : Int) : manorboylaw01_IntegerLattice.f 8 a1 a2 b1 b2 c1 c2 n = some true := by
  unfold manorboylaw01_IntegerLattice.f
  simp only [wide_e, valid_e, Option.bind_some]
  cases ha : vspan a1 a2 with
  | false => simp [manorboylaw01_IntegerLattice.j0]
  | true =>
    cases hb : vspan b1 b2 with
    | false => simp [manorboylaw01_IntegerLattice.j0]
    | true =>
      cases hc : vspan c1 c2 with
      | false => simp [manorboylaw01_IntegerLattice.j0]
      | true =>
        have ⟨⟨⟨p1, p2⟩, p3, p4⟩, p5⟩ := (vspan_iff _ _).mp ha
        have ⟨⟨⟨q1, q2⟩, q3, q4⟩, q5⟩ := (vspan_iff _ _).mp hb
        have hj : vspan (mn a1 b1) (mx a2 b2) = true := by
          rw [vspan_iff]; unfold mn mx; split <;> split <;> omega
        have h3 : manorboylaw01_IntegerLattice.j3 5 true false a1 a2 (mn a1 b1) (mx a2 b2) = some true := by
          unfold manorboylaw01_IntegerLattice.j3
          simp only [meet_e, ha, hj, Option.bind_some]
          have e1 : mx a1 (mn a1 b1) = a1 := by unfold mn mx; split <;> split <;> omega
          have e2 : mn a2 (mx a2 b2) = a2 := by unfold mn mx; split <;> split <;> omega
          rw [e1, e2]
          have : ¬ a1 > a2 := by omega
          simp [this]
        have h2 : manorboylaw01_IntegerLattice.j2 6 true false a1 a2 b1 b2 c1 c2 = some true := by
          unfold manorboylaw01_IntegerLattice.j2
          simp only [join_e, within_e, ha, hb, Option.bind_some]
          have e1 : (decide (mn a1 b1 ≤ a1) && decide (a2 ≤ mx a2 b2)) = true := by
            unfold mn mx; simp; split <;> split <;> omega
          have e2 : (decide (mn a1 b1 ≤ b1) && decide (b2 ≤ mx a2 b2)) = true := by
            unfold mn mx; simp; split <;> split <;> omega
          simp only [and_self, if_true, e1, e2]
          by_cases g1 : (decide (c1 ≤ a1) && decide (a2 ≤ c2)) = true <;> by_cases g2 : (decide (c1 ≤ b1) && decide (b2 ≤ c2)) = true
          · have e3 : (decide (c1 ≤ mn a1 b1) && decide (mx a2 b2 ≤ c2)) = true := by
              simp at g1 g2
              unfold mn mx; simp; split <;> split <;> omega
            simp [g1, g2, e3, h3]
          all_goals simp [g1, g2, h3]
        simp only [if_true, Bool.not_true]
        unfold manorboylaw01_IntegerLattice.j0
        simp only [meet_e, ha, hb, and_self, if_true, Option.bind_some]
        rw [if_neg (by simp)]
        by_cases hgt : mx a1 b1 > mn a2 b2
        · simp only [if_pos hgt]
          rw [if_neg (by decide)]
          unfold manorboylaw01_IntegerLattice.j1
          simp only [in_e, Option.bind_some]
          rw [if_neg (by decide), if_neg (by decide)]
          by_cases g1 : (decide (a1 ≤ n) && decide (n ≤ a2)) = true <;> by_cases g2 : (decide (b1 ≤ n) && decide (n ≤ b2)) = true
          · exfalso
            simp at g1 g2
            revert hgt; unfold mn mx; split <;> split <;> omega
          all_goals simp [g1, g2, h2]
        · simp only [if_neg hgt]
          unfold manorboylaw01_IntegerLattice.j1
          simp only [in_e, Option.bind_some, if_true]
          rw [if_neg (by decide)]
          have e : (decide (mx a1 b1 ≤ n) && decide (n ≤ mn a2 b2)) = ((decide (a1 ≤ n) && decide (n ≤ a2)) && (decide (b1 ≤ n) && decide (n ≤ b2))) := by
            rw [Bool.eq_iff_iff]; simp; unfold mn mx; split <;> split <;> omega
          rw [e]
          by_cases g1 : (decide (a1 ≤ n) && decide (n ≤ a2)) = true <;> by_cases g2 : (decide (b1 ≤ n) && decide (n ≤ b2)) = true
          all_goals simp [g1, g2, h2]
end Go.Proofs.Ytjclehdhjnmlpaa.S
