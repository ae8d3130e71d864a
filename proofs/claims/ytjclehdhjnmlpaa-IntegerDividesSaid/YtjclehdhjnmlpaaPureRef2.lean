/- What the reference's divisions compute, in words of the integers; for all integers. -/
import Derived.Test.YtjclehdhjnmlpaaPureRef
import Derived.Test.YtjclehdhjnmlpaaPureDiv
import Derived.Test.YtjclehdhjnmlpaaPx13
set_option linter.unusedSimpArgs false
namespace Go.Proofs.Ytjclehdhjnmlpaa.Pure
open Go.RowKit Go.Proofs.Ytjclehdhjnmlpaa.Given Go.Proofs.Ytjclehdhjnmlpaa.P Go.Proofs.YtjclehdhjnmlpaaW.PrintWords Go.Proofs.YtjclehdhjnmlpaaW.PrintLast

theorem rquo_eq (k : Nat) (a b : Int) : manorboyref01_Quo.f (k + 1) a b = some (divS a b (a.tdiv b)) := by
  unfold manorboyref01_Quo.f divS
  rw [rvalid_eq, rvalid_eq]
  rcases bv (vld a) with h | h <;> rcases bv (vld b) with h' | h' <;> simp [h, h', manorboyref01_Quo.j0]
  have ⟨h1, h2⟩ := vld_yes h
  have ⟨h5, h6⟩ := tdiv_in (b := b) h1 h2
  by_cases hb : b = 0
  · simp [hb]
  · have hv : vld (a.tdiv b) = true := vld_mk h5 h6
    simp [hb, rng, hv, w64 (n := a.tdiv b) (by omega) (by omega)]
theorem rrem_eq (k : Nat) (a b : Int) : manorboyref01_Rem.f (k + 1) a b = some (divS a b (a.tmod b)) := by
  unfold manorboyref01_Rem.f
  rw [rquo_eq]
  rcases bv (vld a) with h | h <;> rcases bv (vld b) with h' | h' <;> simp [h, h', divS]
  have ⟨h1, h2⟩ := vld_yes h
  by_cases hb : b = 0
  · simp [hb]
  · have ⟨h5, h6⟩ := tdiv_in (b := b) h1 h2
    have ⟨h7, h8⟩ := qb_in (b := b) h1 h2
    have ⟨h9, h10⟩ := tmod_in (b := b) h1 h2
    have hv : vld (a.tdiv b) = true := vld_mk h5 h6
    have hv2 : vld (a.tmod b) = true := vld_mk h9 h10
    simp [hb, rng, hv, hv2]
    rw [w64 (n := a.tdiv b * b) (by omega) (by omega), tmod_eq, w64 (by omega) (by omega)]
theorem rfloor_eq (k : Nat) (a b : Int) : manorboyref01_Floor.f (k + 1) a b = some (divS a b (flr a b)) := by
  unfold manorboyref01_Floor.f
  rw [rquo_eq]
  rcases bv (vld a) with h | h <;> rcases bv (vld b) with h' | h' <;> simp only [divS_yes, divS_l, divS_r, h, h', divS] <;> try (simp; done)
  have ⟨h1, h2⟩ := vld_yes h
  by_cases hb : b = 0
  · simp [hb]
  · have ⟨h5, h6⟩ := tdiv_in (b := b) h1 h2
    have ⟨h7, h8⟩ := qb_in (b := b) h1 h2
    have ⟨h9, h10⟩ := tmod_in (b := b) h1 h2
    have hv : vld (a.tdiv b) = true := vld_mk h5 h6
    have hf := flr_ok h h'
    simp only [hb, rng, hv, hf, if_true, if_false, Bool.and_self, Option.bind_some]
    rw [w64 (n := a.tdiv b * b) (by omega) (by omega), tmod_eq, w64 (n := a.tmod b) (by omega) (by omega), w64 (n := a.tdiv b - 1) (by omega) (by omega)]
    unfold flr
    by_cases c : a.tmod b = 0
    · simp [c]
    · by_cases c2 : (decide (a < 0) != decide (b < 0)) = true
      · rw [if_neg c, if_pos c2, if_pos ⟨c, c2⟩]
      · rw [if_neg c, if_neg c2, if_neg (fun x => c2 x.2)]
theorem rmod_eq (k : Nat) (a b : Int) : manorboyref01_Mod.f (k + 1) a b = some (divS a b (a - flr a b * b)) := by
  unfold manorboyref01_Mod.f
  rw [rfloor_eq]
  rcases bv (vld a) with h | h <;> rcases bv (vld b) with h' | h' <;> simp only [divS_yes, divS_l, divS_r, h, h', divS] <;> try (simp; done)
  by_cases hb : b = 0
  · simp [hb]
  · have ⟨h5, h6, h7, h8⟩ := md_in h h' hb
    have hf := flr_ok h h'
    have hv : vld (a - flr a b * b) = true := vld_mk h5 h6
    simp only [hb, rng, hv, hf, if_true, if_false, Bool.and_self, Option.bind_some]
    rw [w64 (n := flr a b * b) (by omega) (by omega), w64 (by omega) (by omega)]
end Go.Proofs.Ytjclehdhjnmlpaa.Pure
