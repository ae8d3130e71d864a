/- Contracts and lemmas that the law's row leans on, joined by program (pack.py) out of the session's texts; no condition of its own. -/
import Derived.RowKit
import Derived.Laws.BitsLemmas
import Derived.Test.YteigbokklclmbaaGreatDoorRows
import Derived.Test.YteigbokklclmbaaGreatDoorRsxa
import Derived.Test.YteigbokklclmbaaGreatDoorRsxb
import Derived.Test.YteigbokklclmbaaGreatDoorRsxc
import Derived.Test.YteigbokklclmbaaGreatDoorRsxd
import Derived.Test.YteigbokklclmbaaGreatDoorRsxe
set_option linter.unusedVariables false
set_option linter.unusedSimpArgs false
set_option maxRecDepth 100000
set_option maxHeartbeats 8000000
section
namespace Go.Proofs.YteigbokklclmbaaGreatDoor.Z.Y.V
open Go.RowKit Go.Proofs.YteigbokklclmbaaGreatDoor.Given Go.Proofs.YteigbokklclmbaaGreatDoorW.PrintWords Go.Proofs.YteigbokklclmbaaGreatDoorW.PrintLast Go.Proofs.YteigbokklclmbaaGreatDoorW.PrintMore
attribute [local go_sem] max2_int min2_int max_two min_two max_three min_three max_four min_four   -- for this text's walks alone

attribute [local go_sem high] eqA23
def manorboylaw02_RealSums.j0 : Nat → Int → Int → Bool → Int → Int → Int → Int → Int → Int → Int → Int → Option (Bool)
 | 0, _, _, _, _, _, _, _, _, _, _, _ => none
 | k + 1, x6, x8, x28, x263000, x263001, x264000, x264001, x268000, x268001, x272000, x272001 => if x28 = true then ((manorboylaw02_sanity.f k).bind fun t274 => (if t274 = true then (if x6 = 1 then (if x8 = 1 then (if (x268000 == 0 && (x268001 == 0)) = true then (some (x272000 == 0 && (x272001 == 0))) else (some false)) else (some false)) else (some false)) else (some false))) else ((manorboylaw02_sanity.f k).bind fun t275 => (if t275 = true then ((manorboyref02_Add.f k x263000 x263001 x264000 x264001).bind fun bt276 => ((manorboylaw02_rounded.f x268000 x268001 x6 bt276.1 bt276.2.1 bt276.2.2).bind fun t279 => (if t279 = true then ((manorboyref02_Sub.f k x263000 x263001 x264000 x264001).bind fun bt280 => ((manorboylaw02_rounded.f x272000 x272001 x8 bt280.1 bt280.2.1 bt280.2.2).bind fun t283 => (some t283))) else (some false)))) else (some false)))
def manorboylaw02_RealSums.f (k : Nat) (a0_0 : Int) (a0_1 : Int) (a1_0 : Int) (a1_1 : Int) : Option (Bool) := (real_Add.f k a0_0 a0_1 a1_0 a1_1).bind fun bt264 => ((real_Sub.f k a0_0 a0_1 a1_0 a1_1).bind fun bt268 => ((manorboyref02_Valid.f k a0_0 a0_1).bind fun t272 => (if t272 = true then ((manorboyref02_Valid.f k a1_0 a1_1).bind fun t273 => (manorboylaw02_RealSums.j0 k bt264.2.2 bt268.2.2 (!t273) a0_0 a0_1 a1_0 a1_1 bt264.1 bt264.2.1 bt268.1 bt268.2.1)) else (manorboylaw02_RealSums.j0 k bt264.2.2 bt268.2.2 true a0_0 a0_1 a1_0 a1_1 bt264.1 bt264.2.1 bt268.1 bt268.2.1))))
def manorboylaw02_RealSums.T5 : Bool × List (List Nat × List Nat) := (true, [([], []), ([0, 0], [0]), ([1], [1]), ([1], [1]), ([1], [1]), ([1], [1]), ([4, 5, 1, 1], [1, 4, 5]), ([2, 3, 6, 6, 1], [1, 2, 3, 6]), ([1, 7], [1, 7]), ([8, 7], [8]), ([9], [9]), ([9], [9]), ([9], [9]), ([9], [9]), ([12, 13, 9, 9], [9, 12, 13]), ([10, 11, 14, 14, 9], [9, 10, 11, 14]), ([9, 15], [9, 15]), ([16, 15, 0, 1, 2, 3, 4, 5, 6, 7, 8, 9, 10, 11, 12, 13, 14, 15, 16], [16])])
def manorboylaw02_RealSums.B5 : List Nat := [0, 1, 3, 3, 3, 3, 51, 127, 255, 511, 1023, 1023, 1023, 1023, 13311, 32767, 65535, 131071]
theorem manorboylaw02_RealSums.tab5 : rtab .any (opsOf Tryz.f7 5) = manorboylaw02_RealSums.T5 := by kernel_rfl
theorem manorboylaw02_RealSums.bits5 : waitsOk manorboylaw02_RealSums.T5.2 manorboylaw02_RealSums.B5 = true := by kernel_rfl
theorem manorboylaw02_RealSums.calls (k : Nat) (a0_0 : Int) (a0_1 : Int) (a1_0 : Int) (a1_1 : Int) (r : Bool) (w : World) (h : manorboylaw02_RealSums.f k a0_0 a0_1 a1_0 a1_1 = some r) (hr : r = true) (ht : Table w) :
  Calls Tryz.prog 7 #[.agg #[.int .i64 a0_0, .int .i64 a0_1], .agg #[.int .i64 a1_0, .int .i64 a1_1]] w fun e w' => e = .returned (.bool r) ∧ Below w.heap.size w w' := by
 have hu23 := Tryz.underlying23
 have HB := Aside0.mk (Below.refl w.heap.size w)
 have HT := Aside0.mk (Lib.tabBelow_of_tabIs ht)
 clear ht
 have H := h; unfold manorboylaw02_RealSums.f at H; clear h
 replace H := Option.bind_eq_some_iff.mp H
 obtain ⟨⟨t264, t265, t266⟩, A30, H⟩ := H
 try dsimp only at H
 have A3 := Aside0.mk A30
 clear A30
 replace H := Option.bind_eq_some_iff.mp H
 obtain ⟨⟨t268, t269, t270⟩, A40, H⟩ := H
 try dsimp only at H
 have A4 := Aside0.mk A40
 clear A40
 have HC5 := Aside0.mk H
 clear H
 go_enter Tryz.func7, Tryz.ntmps7
 go_upto_region 3 with (first | ((with_reducible refine gate_dst (N := 2) rfl ?_); refine box_event ?hg (N := 2) ?hd (cs := #[.int .i64 a0_0, .int .i64 a0_1]) (t := 23) ?hr ?_; (case hd => rfl); (case hg => rfl); (case hr => first | (go_simp; done) | (go_simp; rfl)); intro gb262 hg w6 hbox hb; have BK262 := Aside0.mk hbox; have GW262 := ge hg; have GE262 := ge hg; replace HB := bs hb; clear hb hbox hg) | ((with_reducible refine gate_dst (N := 3) rfl ?_); refine box_event ?hg (N := 3) ?hd (cs := #[.int .i64 a1_0, .int .i64 a1_1]) (t := 23) ?hr ?_; (case hd => rfl); (case hg => rfl); (case hr => first | (go_simp; done) | (go_simp; rfl)); intro gb263 hg w7 hbox hb; have BK263 := Aside0.mk hbox; have GW263 := ge hg; have GE263 := ge hg; have NB262_263 := nl BK262 hg; have NB263_262 := nr BK262 hg; replace BK262 := kb BK262 hb; replace HB := bs hb; clear hb hbox hg; have hnb8 := NB262_263.out; have hnc8 := NB263_262.out; have hcz9_0 := Given.c20 BK262; have hcz9_1 := Given.c21 BK262; have hfz9_0 := blk_frozen BK262.out 0; have hfz9_1 := blk_frozen BK262.out 1; have hcz10_0 := Given.c20 BK263; have hcz10_1 := Given.c21 BK263; have hfz10_0 := blk_frozen BK263.out 0; have hfz10_1 := blk_frozen BK263.out 1) | ((with_reducible refine gate_callee (f := 33) rfl ?_); refine goesL_ (some 12) rfl rfl Tryz.func33 (by kernel_rfl) rfl #[.agg #[.int .i64 a0_0, .int .i64 a0_1], .agg #[.int .i64 a1_0, .int .i64 a1_1]] rfl az ?_; (with_reducible refine (real_Add.calls k a0_0 a0_1 a1_0 a1_1 t264 t265 t266 _ A3.out).mono ?_); rintro e w11 ⟨rfl, hb⟩; refine ⟨_, rfl, ?_⟩; replace BK262 := kb BK262 hb; replace BK263 := kb BK263 hb; replace HB := bs hb; (try clear hb)) | ((with_reducible refine gate_dst (N := 5) rfl ?_); refine box_event ?hg (N := 5) ?hd (cs := #[.int .i64 0, .int .i64 0]) (t := 23) ?hr ?_; (case hd => rfl); (case hg => rfl); (case hr => first | (go_simp; done) | (go_simp; rfl)); intro gb267 hg w12 hbox hb; have BK267 := Aside0.mk hbox; have GW267 := ge hg; have GE267 := ge hg; have NB262_267 := nl BK262 hg; have NB267_262 := nr BK262 hg; have NB263_267 := nl BK263 hg; have NB267_263 := nr BK263 hg; replace BK262 := kb BK262 hb; replace BK263 := kb BK263 hb; replace HB := bs hb; clear hb hbox hg; have hnb13 := NB267_262.out; have hnc13 := NB262_267.out; have hnb14 := NB267_263.out; have hnc14 := NB263_267.out; have hcz15_0 := Given.c20 BK267; have hcz15_1 := Given.c21 BK267; have hfz15_0 := blk_frozen BK267.out 0; have hfz15_1 := blk_frozen BK267.out 1; have hcz16_0 := Given.c20 BK262; have hcz16_1 := Given.c21 BK262; have hfz16_0 := blk_frozen BK262.out 0; have hfz16_1 := blk_frozen BK262.out 1; have hcz17_0 := Given.c20 BK263; have hcz17_1 := Given.c21 BK263; have hfz17_0 := blk_frozen BK263.out 0; have hfz17_1 := blk_frozen BK263.out 1) | ((with_reducible refine gate_callee (f := 34) rfl ?_); refine goesL_ (some 18) rfl rfl Tryz.func34 (by kernel_rfl) rfl #[.agg #[.int .i64 a0_0, .int .i64 a0_1], .agg #[.int .i64 a1_0, .int .i64 a1_1]] rfl az ?_; (with_reducible refine (real_Sub.calls k a0_0 a0_1 a1_0 a1_1 t268 t269 t270 _ A4.out).mono ?_); rintro e w18 ⟨rfl, hb⟩; refine ⟨_, rfl, ?_⟩; replace BK262 := Aside0.mk (blk_below (g := gb262) (o := .cells #[.int .i64 a0_0, .int .i64 a0_1] 23 (0, 0)) (by (with_reducible repeat (first | refine blk_drewN ?_ _ | refine blk_drew ?_ | refine blk_alloc ?_ _)); refine blk_far ?_ NB262_267.out _; (with_reducible repeat (first | refine blk_drewN ?_ _ | refine blk_drew ?_ | refine blk_alloc ?_ _)); refine blk_far ?_ NB262_267.out _; (with_reducible repeat (first | refine blk_drewN ?_ _ | refine blk_drew ?_ | refine blk_alloc ?_ _)); exact BK262.out) hb); replace BK263 := Aside0.mk (blk_below (g := gb263) (o := .cells #[.int .i64 a1_0, .int .i64 a1_1] 23 (0, 0)) (by (with_reducible repeat (first | refine blk_drewN ?_ _ | refine blk_drew ?_ | refine blk_alloc ?_ _)); refine blk_far ?_ NB263_267.out _; (with_reducible repeat (first | refine blk_drewN ?_ _ | refine blk_drew ?_ | refine blk_alloc ?_ _)); refine blk_far ?_ NB263_267.out _; (with_reducible repeat (first | refine blk_drewN ?_ _ | refine blk_drew ?_ | refine blk_alloc ?_ _)); exact BK263.out) hb); replace BK267 := Aside0.mk (blk_below (g := gb267) (o := .cells #[.int .i64 t264, .int .i64 t265] 23 (0, 0)) (by (with_reducible repeat (first | refine blk_drewN ?_ _ | refine blk_drew ?_ | refine blk_alloc ?_ _)); refine blk_put (cs := #[.int .i64 t264, .int .i64 0]) ?_ 1 _ rfl; (with_reducible repeat (first | refine blk_drewN ?_ _ | refine blk_drew ?_ | refine blk_alloc ?_ _)); refine blk_put (cs := #[.int .i64 0, .int .i64 0]) ?_ 0 _ rfl; (with_reducible repeat (first | refine blk_drewN ?_ _ | refine blk_drew ?_ | refine blk_alloc ?_ _)); exact BK267.out) hb); replace HB := bs hb; (try clear hb)) | ((with_reducible refine gate_dst (N := 7) rfl ?_); refine box_event ?hg (N := 7) ?hd (cs := #[.int .i64 0, .int .i64 0]) (t := 23) ?hr ?_; (case hd => rfl); (case hg => rfl); (case hr => first | (go_simp; done) | (go_simp; rfl)); intro gb271 hg w19 hbox hb; have BK271 := Aside0.mk hbox; have GW271 := ge hg; have GE271 := ge hg; have NB262_271 := nl BK262 hg; have NB271_262 := nr BK262 hg; have NB263_271 := nl BK263 hg; have NB271_263 := nr BK263 hg; have NB267_271 := nl BK267 hg; have NB271_267 := nr BK267 hg; replace BK262 := kb BK262 hb; replace BK263 := kb BK263 hb; replace BK267 := kb BK267 hb; replace HB := bs hb; clear hb hbox hg; have hnb20 := NB271_262.out; have hnc20 := NB262_271.out; have hnb21 := NB271_263.out; have hnc21 := NB263_271.out; have hnb22 := NB271_267.out; have hnc22 := NB267_271.out; have hcz23_0 := Given.c20 BK271; have hcz23_1 := Given.c21 BK271; have hfz23_0 := blk_frozen BK271.out 0; have hfz23_1 := blk_frozen BK271.out 1))
 (try simp only [Act.put, List.setIfInBounds_toArray, List.set_cons_zero, List.set_cons_succ])
 go_cut [28] (fun v28 wc => ∃ (kq : Nat) (x28_4 : Bool), v28 = .bool x28_4 ∧ Aside0 (manorboylaw02_RealSums.j0 kq t266 t270 x28_4 a0_0 a0_1 a1_0 a1_1 t264 t265 t268 t269 = some r) ∧ Aside0 (kq ≤ k) ∧ Aside0 (wc.heap[gb262]? = some (.cells #[.int .i64 a0_0, .int .i64 a0_1] 23 (0, 0))) ∧ Aside0 (wc.heap[gb263]? = some (.cells #[.int .i64 a1_0, .int .i64 a1_1] 23 (0, 0))) ∧ Aside0 (wc.heap[gb267]? = some (.cells #[.int .i64 t264, .int .i64 t265] 23 (0, 0))) ∧ Aside0 (wc.heap[gb271]? = some (.cells #[.int .i64 t268, .int .i64 t269] 23 (0, 0))) ∧ Aside0 (Below w.heap.size w wc))
 case first => as_aux_lemma =>
  have H := HC5.out
  clear HC5
  replace H := Option.bind_eq_some_iff.mp H
  obtain ⟨t272, A240, H⟩ := H
  try dsimp only at H
  have A24 := Aside0.mk A240
  clear A240
  by_cases c25 : t272 = true
  ·subst c25
   rw [if_pos rfl] at H
   replace H := Option.bind_eq_some_iff.mp H
   obtain ⟨t273, A260, H⟩ := H
   try dsimp only at H
   have A26 := Aside0.mk A260
   clear A260
   have H' := Aside0.mk H
   clear H
   have hnb27 := NB262_263.out
   have hnc27 := NB263_262.out
   have hnb28 := NB262_267.out
   have hnc28 := NB267_262.out
   have hnb29 := NB262_271.out
   have hnc29 := NB271_262.out
   have hcz30_0 := Given.c20 BK262
   have hcz30_1 := Given.c21 BK262
   have hfz30_0 := blk_frozen BK262.out 0
   have hfz30_1 := blk_frozen BK262.out 1
   go_wp2_with (first | ((with_reducible refine gate_callee (f := 18) rfl ?_); refine goesL_ (some 22) rfl rfl Tryz.func18 (by kernel_rfl) rfl #[.agg #[.int .i64 a0_0, .int .i64 a0_1]] rfl az ?_; (with_reducible refine (manorboyref02_Valid.calls k a0_0 a0_1 true _ A24.out).mono ?_); rintro e w31 ⟨rfl, hb⟩; refine ⟨_, rfl, ?_⟩; replace BK262 := Aside0.mk (blk_below (g := gb262) (o := .cells #[.int .i64 a0_0, .int .i64 a0_1] 23 (0, 0)) (by (with_reducible repeat (first | refine blk_drewN ?_ _ | refine blk_drew ?_ | refine blk_alloc ?_ _)); refine blk_far ?_ NB262_271.out _; (with_reducible repeat (first | refine blk_drewN ?_ _ | refine blk_drew ?_ | refine blk_alloc ?_ _)); refine blk_far ?_ NB262_271.out _; (with_reducible repeat (first | refine blk_drewN ?_ _ | refine blk_drew ?_ | refine blk_alloc ?_ _)); exact BK262.out) hb); replace BK263 := Aside0.mk (blk_below (g := gb263) (o := .cells #[.int .i64 a1_0, .int .i64 a1_1] 23 (0, 0)) (by (with_reducible repeat (first | refine blk_drewN ?_ _ | refine blk_drew ?_ | refine blk_alloc ?_ _)); refine blk_far ?_ NB263_271.out _; (with_reducible repeat (first | refine blk_drewN ?_ _ | refine blk_drew ?_ | refine blk_alloc ?_ _)); refine blk_far ?_ NB263_271.out _; (with_reducible repeat (first | refine blk_drewN ?_ _ | refine blk_drew ?_ | refine blk_alloc ?_ _)); exact BK263.out) hb); replace BK267 := Aside0.mk (blk_below (g := gb267) (o := .cells #[.int .i64 t264, .int .i64 t265] 23 (0, 0)) (by (with_reducible repeat (first | refine blk_drewN ?_ _ | refine blk_drew ?_ | refine blk_alloc ?_ _)); refine blk_far ?_ NB267_271.out _; (with_reducible repeat (first | refine blk_drewN ?_ _ | refine blk_drew ?_ | refine blk_alloc ?_ _)); refine blk_far ?_ NB267_271.out _; (with_reducible repeat (first | refine blk_drewN ?_ _ | refine blk_drew ?_ | refine blk_alloc ?_ _)); exact BK267.out) hb); replace BK271 := Aside0.mk (blk_below (g := gb271) (o := .cells #[.int .i64 t268, .int .i64 t269] 23 (0, 0)) (by (with_reducible repeat (first | refine blk_drewN ?_ _ | refine blk_drew ?_ | refine blk_alloc ?_ _)); refine blk_put (cs := #[.int .i64 t268, .int .i64 0]) ?_ 1 _ rfl; (with_reducible repeat (first | refine blk_drewN ?_ _ | refine blk_drew ?_ | refine blk_alloc ?_ _)); refine blk_put (cs := #[.int .i64 0, .int .i64 0]) ?_ 0 _ rfl; (with_reducible repeat (first | refine blk_drewN ?_ _ | refine blk_drew ?_ | refine blk_alloc ?_ _)); exact BK271.out) hb); replace HB := bs hb; (try clear hb); have hnb32 := NB263_267.out; have hnc32 := NB267_263.out; have hnb33 := NB263_271.out; have hnc33 := NB271_263.out; have hcz34_0 := Given.c20 BK263; have hcz34_1 := Given.c21 BK263; have hfz34_0 := blk_frozen BK263.out 0; have hfz34_1 := blk_frozen BK263.out 1) | (go_at_call 18; (with_reducible refine (manorboyref02_Valid.calls k a1_0 a1_1 t273 _ A26.out).mono ?_); rintro e w35 ⟨rfl, hb⟩; replace BK262 := kb BK262 hb; replace BK263 := kb BK263 hb; replace BK267 := kb BK267 hb; replace BK271 := kb BK271 hb; replace HB := bs hb; (try clear hb)))
   go_meet
   case rel => exact ⟨_, (!t273), (by first | rfl | (simp; done) | (simp [*]; done)), H', ⟨by first | omega | exact Nat.le_refl _⟩, ⟨kz BK262⟩, ⟨kz BK263⟩, ⟨kz BK267⟩, ⟨kz BK271⟩, ⟨bz⟩⟩
  ·replace c25 := Bool.eq_false_iff.mpr c25
   subst c25
   rw [if_neg (show ¬ (false = true) by decide)] at H
   have H' := Aside0.mk H
   clear H
   have hnb36 := NB262_263.out
   have hnc36 := NB263_262.out
   have hnb37 := NB262_267.out
   have hnc37 := NB267_262.out
   have hnb38 := NB262_271.out
   have hnc38 := NB271_262.out
   have hcz39_0 := Given.c20 BK262
   have hcz39_1 := Given.c21 BK262
   have hfz39_0 := blk_frozen BK262.out 0
   have hfz39_1 := blk_frozen BK262.out 1
   go_wp2_with (first | ((with_reducible refine gate_callee (f := 18) rfl ?_); refine goesL_ (some 22) rfl rfl Tryz.func18 (by kernel_rfl) rfl #[.agg #[.int .i64 a0_0, .int .i64 a0_1]] rfl az ?_; (with_reducible refine (manorboyref02_Valid.calls k a0_0 a0_1 false _ A24.out).mono ?_); rintro e w40 ⟨rfl, hb⟩; refine ⟨_, rfl, ?_⟩; replace BK262 := Aside0.mk (blk_below (g := gb262) (o := .cells #[.int .i64 a0_0, .int .i64 a0_1] 23 (0, 0)) (by (with_reducible repeat (first | refine blk_drewN ?_ _ | refine blk_drew ?_ | refine blk_alloc ?_ _)); refine blk_far ?_ NB262_271.out _; (with_reducible repeat (first | refine blk_drewN ?_ _ | refine blk_drew ?_ | refine blk_alloc ?_ _)); refine blk_far ?_ NB262_271.out _; (with_reducible repeat (first | refine blk_drewN ?_ _ | refine blk_drew ?_ | refine blk_alloc ?_ _)); exact BK262.out) hb); replace BK263 := Aside0.mk (blk_below (g := gb263) (o := .cells #[.int .i64 a1_0, .int .i64 a1_1] 23 (0, 0)) (by (with_reducible repeat (first | refine blk_drewN ?_ _ | refine blk_drew ?_ | refine blk_alloc ?_ _)); refine blk_far ?_ NB263_271.out _; (with_reducible repeat (first | refine blk_drewN ?_ _ | refine blk_drew ?_ | refine blk_alloc ?_ _)); refine blk_far ?_ NB263_271.out _; (with_reducible repeat (first | refine blk_drewN ?_ _ | refine blk_drew ?_ | refine blk_alloc ?_ _)); exact BK263.out) hb); replace BK267 := Aside0.mk (blk_below (g := gb267) (o := .cells #[.int .i64 t264, .int .i64 t265] 23 (0, 0)) (by (with_reducible repeat (first | refine blk_drewN ?_ _ | refine blk_drew ?_ | refine blk_alloc ?_ _)); refine blk_far ?_ NB267_271.out _; (with_reducible repeat (first | refine blk_drewN ?_ _ | refine blk_drew ?_ | refine blk_alloc ?_ _)); refine blk_far ?_ NB267_271.out _; (with_reducible repeat (first | refine blk_drewN ?_ _ | refine blk_drew ?_ | refine blk_alloc ?_ _)); exact BK267.out) hb); replace BK271 := Aside0.mk (blk_below (g := gb271) (o := .cells #[.int .i64 t268, .int .i64 t269] 23 (0, 0)) (by (with_reducible repeat (first | refine blk_drewN ?_ _ | refine blk_drew ?_ | refine blk_alloc ?_ _)); refine blk_put (cs := #[.int .i64 t268, .int .i64 0]) ?_ 1 _ rfl; (with_reducible repeat (first | refine blk_drewN ?_ _ | refine blk_drew ?_ | refine blk_alloc ?_ _)); refine blk_put (cs := #[.int .i64 0, .int .i64 0]) ?_ 0 _ rfl; (with_reducible repeat (first | refine blk_drewN ?_ _ | refine blk_drew ?_ | refine blk_alloc ?_ _)); exact BK271.out) hb); replace HB := bs hb; (try clear hb)))
   go_meet
   case rel => exact ⟨_, (true), (by first | rfl | (simp; done) | (simp [*]; done)), H', ⟨by first | omega | exact Nat.le_refl _⟩, ⟨kz BK262⟩, ⟨kz BK263⟩, ⟨kz BK267⟩, ⟨kz BK271⟩, ⟨bz⟩⟩
 case rest => as_aux_lemma =>
  clear HC5
  try clear c20
  try clear c21
  try clear c25
  try clear hcz10_0
  try clear hcz10_1
  try clear hcz15_0
  try clear hcz15_1
  try clear hcz16_0
  try clear hcz16_1
  try clear hcz17_0
  try clear hcz17_1
  try clear hcz23_0
  try clear hcz23_1
  try clear hcz30_0
  try clear hcz30_1
  try clear hcz34_0
  try clear hcz34_1
  try clear hcz39_0
  try clear hcz39_1
  try clear hcz9_0
  try clear hcz9_1
  try clear hfz10_0
  try clear hfz10_1
  try clear hfz15_0
  try clear hfz15_1
  try clear hfz16_0
  try clear hfz16_1
  try clear hfz17_0
  try clear hfz17_1
  try clear hfz23_0
  try clear hfz23_1
  try clear hfz30_0
  try clear hfz30_1
  try clear hfz34_0
  try clear hfz34_1
  try clear hfz39_0
  try clear hfz39_1
  try clear hfz9_0
  try clear hfz9_1
  obtain ⟨kq, x28_4, rfl, HA, HJ4, BK262, BK263, BK267, BK271, HB⟩ := hcut
  cases kq with
  | zero => exact absurd HA.out (by simp [manorboylaw02_RealSums.j0])
  | succ kj4 =>
   have H := HA.out
   clear HA
   simp only [manorboylaw02_RealSums.j0] at H
   by_cases c41 : x28_4 = true
   ·subst c41
    rw [if_pos rfl] at H
    replace H := Option.bind_eq_some_iff.mp H
    obtain ⟨t274, A420, H⟩ := H
    try dsimp only at H
    have A42 := Aside0.mk A420
    clear A420
    by_cases c43 : t274 = true
    ·subst c43
     rw [if_pos rfl] at H
     by_cases c44 : t266 = 1
     ·rw [if_pos c44] at H
      have c44b0 : (t266 == 1) = true := beq_iff_eq.mpr c44
      have c44b1 : (t266 != 1) = false := bne_eq_false_iff_eq.mpr c44
      clear c44
      by_cases c45 : t270 = 1
      ·rw [if_pos c45] at H
       have c45b0 : (t270 == 1) = true := beq_iff_eq.mpr c45
       have c45b1 : (t270 != 1) = false := bne_eq_false_iff_eq.mpr c45
       clear c45
       by_cases c46 : (t264 == 0 && (t265 == 0)) = true
       ·rw [if_pos c46] at H
        have c46b0 : (t264 == 0 && (t265 == 0)) = true := c46
        (try (have c46b1 : decide (t264 = 0 && (t265 == 0)) = true := by simpa using c46))
        (try (have c46b2 : (t264 == 0 && (t265 == 0)) = true := by simpa using c46))
        clear c46
        obtain rfl := Option.some.inj H
        go_wp2_with (first | ((with_reducible refine gate_callee (f := 19) rfl ?_); refine goesL_ (some 29) rfl rfl Tryz.func19 (by kernel_rfl) rfl #[] rfl az ?_; (with_reducible refine (manorboylaw02_sanity.calls kj4  true _ A42.out rfl (tabAt HT.out bz)).mono ?_); rintro e w47 ⟨rfl, hb⟩; refine ⟨_, rfl, ?_⟩; replace BK262 := kb BK262 hb; replace BK263 := kb BK263 hb; replace BK267 := kb BK267 hb; replace BK271 := kb BK271 hb; replace HB := bs hb; (try clear hb); have hnb48 := NB267_262.out; have hnc48 := NB262_267.out; have hnb49 := NB267_263.out; have hnc49 := NB263_267.out; have hnb50 := NB267_271.out; have hnc50 := NB271_267.out; have hcz51_0 := Given.c20 BK267; have hcz51_1 := Given.c21 BK267; have hfz51_0 := blk_frozen BK267.out 0; have hfz51_1 := blk_frozen BK267.out 1; have hnb52 := NB271_262.out; have hnc52 := NB262_271.out; have hnb53 := NB271_263.out; have hnc53 := NB263_271.out; have hcz54_0 := Given.c20 BK271; have hcz54_1 := Given.c21 BK271; have hfz54_0 := blk_frozen BK271.out 0; have hfz54_1 := blk_frozen BK271.out 1))
        go_ret
        exact ⟨by first | rfl | (simp [errW_none, errW_some] <;> rfl) | (simp [*, errW_none, errW_some] <;> rfl), bz⟩
       ·rw [if_neg c46] at H
        first | exact absurd (Option.some.inj H) (by rw [hr]; decide)
      ·rw [if_neg c45] at H
       first | exact absurd (Option.some.inj H) (by rw [hr]; decide)
     ·rw [if_neg c44] at H
      first | exact absurd (Option.some.inj H) (by rw [hr]; decide)
    ·replace c43 := Bool.eq_false_iff.mpr c43
     subst c43
     rw [if_neg (show ¬ (false = true) by decide)] at H
     first | exact absurd (Option.some.inj H) (by rw [hr]; decide)
   ·replace c41 := Bool.eq_false_iff.mpr c41
    subst c41
    rw [if_neg (show ¬ (false = true) by decide)] at H
    replace H := Option.bind_eq_some_iff.mp H
    obtain ⟨t275, A630, H⟩ := H
    try dsimp only at H
    have A63 := Aside0.mk A630
    clear A630
    by_cases c64 : t275 = true
    ·subst c64
     rw [if_pos rfl] at H
     replace H := Option.bind_eq_some_iff.mp H
     obtain ⟨⟨t276, t277, t278⟩, A650, H⟩ := H
     try dsimp only at H
     have A65 := Aside0.mk A650
     clear A650
     replace H := Option.bind_eq_some_iff.mp H
     obtain ⟨t279, A660, H⟩ := H
     try dsimp only at H
     have A66 := Aside0.mk A660
     clear A660
     by_cases c67 : t279 = true
     ·subst c67
      rw [if_pos rfl] at H
      replace H := Option.bind_eq_some_iff.mp H
      obtain ⟨⟨t280, t281, t282⟩, A680, H⟩ := H
      try dsimp only at H
      have A68 := Aside0.mk A680
      clear A680
      replace H := Option.bind_eq_some_iff.mp H
      obtain ⟨t283, A690, H⟩ := H
      try dsimp only at H
      have A69 := Aside0.mk A690
      clear A690
      obtain rfl := Option.some.inj H
      try go_wp2
      replace BK262 := Aside0.mk (blk_drew BK262.out)
      replace BK263 := Aside0.mk (blk_drew BK263.out)
      replace BK267 := Aside0.mk (blk_drew BK267.out)
      replace BK271 := Aside0.mk (blk_drew BK271.out)
      replace HB := Aside0.mk (below_drew1 HB.out)
      refine start_ (n := 18) (S := fun w' => w'.cell? ⟨gb267, 0, none⟩ = some (.int .i64 t264) ∧ w'.cell? ⟨gb267, 1, none⟩ = some (.int .i64 t265) ∧ w'.cell? ⟨gb262, 0, none⟩ = some (.int .i64 a0_0) ∧ w'.cell? ⟨gb262, 1, none⟩ = some (.int .i64 a0_1) ∧ w'.cell? ⟨gb263, 0, none⟩ = some (.int .i64 a1_0) ∧ w'.cell? ⟨gb263, 1, none⟩ = some (.int .i64 a1_1) ∧ w'.cell? ⟨gb271, 0, none⟩ = some (.int .i64 t268) ∧ w'.cell? ⟨gb271, 1, none⟩ = some (.int .i64 t269)) (ds := []) #[false, false, false, false, false, false, false, false, false, false, false, false, false, false, false, false, false, false] (by kernel_rfl) rfl rfl ⟨(blk_cell BK267.out 0).trans rfl, (blk_cell BK267.out 1).trans rfl, (blk_cell BK262.out 0).trans rfl, (blk_cell BK262.out 1).trans rfl, (blk_cell BK263.out 0).trans rfl, (blk_cell BK263.out 1).trans rfl, (blk_cell BK271.out 0).trans rfl, (blk_cell BK271.out 1).trans rfl⟩ (fun hHeld => ?_); refine with_tabW manorboylaw02_RealSums.tab5 manorboylaw02_RealSums.bits5 (fun HT_ HW_ => ?_)
      generalize wc.drew = w70 at BK262 BK263 BK267 BK271 HB hHeld ⊢
      refine one_ (i := 0) (N := some 48) #[true, false, false, false, false, false, false, false, false, false, false, false, false, false, false, false, false, false] rfl rfl (one_of HT_.out (by kernel_rfl)) (by decide) (fun K hK => ?_)
      refine goes_ Tryz.func19 (by kernel_rfl) rfl #[] (by rfl) rfl rfl az ?_
      with_reducible refine (manorboylaw02_sanity.calls kj4  true _ A63.out rfl (tabAt HT.out bz)).mono ?_
      rintro e w71 ⟨rfl, hb⟩
      refine ⟨_, rfl, ?_⟩
      replace BK262 := kb BK262 hb
      replace BK263 := kb BK263 hb
      replace BK267 := kb BK267 hb
      replace BK271 := kb BK271 hb
      replace HB := bs hb
      (try clear hb)
      refine hK.out _ _ ⟨(blk_cell BK267.out 0).trans rfl, (blk_cell BK267.out 1).trans rfl, (blk_cell BK262.out 0).trans rfl, (blk_cell BK262.out 1).trans rfl, (blk_cell BK263.out 0).trans rfl, (blk_cell BK263.out 1).trans rfl, (blk_cell BK271.out 0).trans rfl, (blk_cell BK271.out 1).trans rfl⟩ (fun hHeld => ?_)
      clear hK K
      refine norm_ (a' := ?_) ?_ ?_
      rotate_left
      ·show Act.put _ (some 48) _ = _
       simp only [Act.put, List.setIfInBounds_toArray, List.set_cons_zero, List.set_cons_succ, i64_w, i32_w]
       rfl
      refine pur 1 (some 49) #[tt,tt,ff,ff,ff,ff,ff,ff,ff,ff,ff,ff,ff,ff,ff,ff,ff,ff] ?_
      refine pur 3 (some 51) #[tt,tt,ff,tt,ff,ff,ff,ff,ff,ff,ff,ff,ff,ff,ff,ff,ff,ff] ?_
      refine take_ (i := 2) (N := some 50) (v := ?_) (a' := ?_) #[true, true, true, true, false, false, false, false, false, false, false, false, false, false, false, false, false, false] rfl rfl (take_ofW HT_.out HW_.out (by kernel_rfl)) (fun _ _ _ h => h) (Or.inl ⟨by rfl, ?_⟩) hHeld ?_ ?_
      rotate_left
      ·rintro w' ⟨s0, s1, s2, s3, s4, s5, s6, s7⟩
       go_simp
       with_reducible rfl
      rotate_left
      ·simp only [Act.put, List.setIfInBounds_toArray, List.set_cons_zero, List.set_cons_succ, i64_w, i32_w]
       rfl
      refine take_ (i := 4) (N := some 52) (v := ?_) (a' := ?_) #[true, true, true, true, true, false, false, false, false, false, false, false, false, false, false, false, false, false] rfl rfl (take_ofW HT_.out HW_.out (by kernel_rfl)) (fun _ _ _ h => h) (Or.inl ⟨by rfl, ?_⟩) hHeld ?_ ?_
      rotate_left
      ·rintro w' ⟨s0, s1, s2, s3, s4, s5, s6, s7⟩
       go_simp
       with_reducible rfl
      rotate_left
      ·simp only [Act.put, List.setIfInBounds_toArray, List.set_cons_zero, List.set_cons_succ, i64_w, i32_w]
       rfl
      refine take_ (i := 5) (N := some 53) (v := ?_) (a' := ?_) #[true, true, true, true, true, true, false, false, false, false, false, false, false, false, false, false, false, false] rfl rfl (take_ofW HT_.out HW_.out (by kernel_rfl)) (fun _ _ _ h => h) (Or.inl ⟨by rfl, ?_⟩) hHeld ?_ ?_
      rotate_left
      ·rintro w' ⟨s0, s1, s2, s3, s4, s5, s6, s7⟩
       go_simp
       with_reducible rfl
      rotate_left
      ·simp only [Act.put, List.setIfInBounds_toArray, List.set_cons_zero, List.set_cons_succ, i64_w, i32_w]
       rfl
      refine one_ (i := 6) (N := some 54) #[true, true, true, true, true, true, true, false, false, false, false, false, false, false, false, false, false, false] rfl rfl (one_of HT_.out (by kernel_rfl)) (by decide) (fun K hK => ?_)
      refine goes_ Tryz.func36 (by kernel_rfl) rfl #[.agg #[.int .i64 a0_0, .int .i64 a0_1], .agg #[.int .i64 a1_0, .int .i64 a1_1]] (by rfl) rfl rfl az ?_
      with_reducible refine (manorboyref02_Add.calls kj4 a0_0 a0_1 a1_0 a1_1 t276 t277 t278 _ A65.out).mono ?_
      rintro e w72 ⟨rfl, hb⟩
      refine ⟨_, rfl, ?_⟩
      replace BK262 := kb BK262 hb
      replace BK263 := kb BK263 hb
      replace BK267 := kb BK267 hb
      replace BK271 := kb BK271 hb
      replace HB := bs hb
      (try clear hb)
      refine hK.out _ _ ⟨(blk_cell BK267.out 0).trans rfl, (blk_cell BK267.out 1).trans rfl, (blk_cell BK262.out 0).trans rfl, (blk_cell BK262.out 1).trans rfl, (blk_cell BK263.out 0).trans rfl, (blk_cell BK263.out 1).trans rfl, (blk_cell BK271.out 0).trans rfl, (blk_cell BK271.out 1).trans rfl⟩ (fun hHeld => ?_)
      clear hK K
      refine norm_ (a' := ?_) ?_ ?_
      rotate_left
      ·show Act.put _ (some 54) _ = _
       simp only [Act.put, List.setIfInBounds_toArray, List.set_cons_zero, List.set_cons_succ, i64_w, i32_w]
       rfl
      refine one_ (i := 7) (N := some 55) #[true, true, true, true, true, true, true, true, false, false, false, false, false, false, false, false, false, false] rfl rfl (one_of HT_.out (by kernel_rfl)) (by decide) (fun K hK => ?_)
      refine goes_ Tryz.func35 (by kernel_rfl) rfl #[.agg #[.int .i64 t264, .int .i64 t265], .int .i64 t266, .agg #[.int .i64 t276, .int .i64 t277, .bool t278]] (by rfl) rfl rfl az ?_
      with_reducible refine (manorboylaw02_rounded.calls t264 t265 t266 t276 t277 t278 true _ A66.out).mono ?_
      rintro e w73 ⟨rfl, hb⟩
      refine ⟨_, rfl, ?_⟩
      replace BK262 := kb BK262 hb
      replace BK263 := kb BK263 hb
      replace BK267 := kb BK267 hb
      replace BK271 := kb BK271 hb
      replace HB := bs hb
      (try clear hb)
      refine hK.out _ _ ⟨(blk_cell BK267.out 0).trans rfl, (blk_cell BK267.out 1).trans rfl, (blk_cell BK262.out 0).trans rfl, (blk_cell BK262.out 1).trans rfl, (blk_cell BK263.out 0).trans rfl, (blk_cell BK263.out 1).trans rfl, (blk_cell BK271.out 0).trans rfl, (blk_cell BK271.out 1).trans rfl⟩ (fun hHeld => ?_)
      clear hK K
      refine norm_ (a' := ?_) ?_ ?_
      rotate_left
      ·show Act.put _ (some 55) _ = _
       simp only [Act.put, List.setIfInBounds_toArray, List.set_cons_zero, List.set_cons_succ, i64_w, i32_w]
       rfl
      refine pur 8 (some 56) #[tt,tt,tt,tt,tt,tt,tt,tt,tt,ff,ff,ff,ff,ff,ff,ff,ff,ff] ?_
      refine pur 9 (some 57) #[tt,tt,tt,tt,tt,tt,tt,tt,tt,tt,ff,ff,ff,ff,ff,ff,ff,ff] ?_
      refine pur 11 (some 59) #[tt,tt,tt,tt,tt,tt,tt,tt,tt,tt,ff,tt,ff,ff,ff,ff,ff,ff] ?_
      refine take_ (i := 10) (N := some 58) (v := ?_) (a' := ?_) #[true, true, true, true, true, true, true, true, true, true, true, true, false, false, false, false, false, false] rfl rfl (take_ofW HT_.out HW_.out (by kernel_rfl)) (fun _ _ _ h => h) (Or.inl ⟨by rfl, ?_⟩) hHeld ?_ ?_
      rotate_left
      ·rintro w' ⟨s0, s1, s2, s3, s4, s5, s6, s7⟩
       go_simp
       with_reducible rfl
      rotate_left
      ·simp only [Act.put, List.setIfInBounds_toArray, List.set_cons_zero, List.set_cons_succ, i64_w, i32_w]
       rfl
      refine take_ (i := 12) (N := some 60) (v := ?_) (a' := ?_) #[true, true, true, true, true, true, true, true, true, true, true, true, true, false, false, false, false, false] rfl rfl (take_ofW HT_.out HW_.out (by kernel_rfl)) (fun _ _ _ h => h) (Or.inl ⟨by rfl, ?_⟩) hHeld ?_ ?_
      rotate_left
      ·rintro w' ⟨s0, s1, s2, s3, s4, s5, s6, s7⟩
       go_simp
       with_reducible rfl
      rotate_left
      ·simp only [Act.put, List.setIfInBounds_toArray, List.set_cons_zero, List.set_cons_succ, i64_w, i32_w]
       rfl
      refine take_ (i := 13) (N := some 61) (v := ?_) (a' := ?_) #[true, true, true, true, true, true, true, true, true, true, true, true, true, true, false, false, false, false] rfl rfl (take_ofW HT_.out HW_.out (by kernel_rfl)) (fun _ _ _ h => h) (Or.inl ⟨by rfl, ?_⟩) hHeld ?_ ?_
      rotate_left
      ·rintro w' ⟨s0, s1, s2, s3, s4, s5, s6, s7⟩
       go_simp
       with_reducible rfl
      rotate_left
      ·simp only [Act.put, List.setIfInBounds_toArray, List.set_cons_zero, List.set_cons_succ, i64_w, i32_w]
       rfl
      refine one_ (i := 14) (N := some 62) #[true, true, true, true, true, true, true, true, true, true, true, true, true, true, true, false, false, false] rfl rfl (one_of HT_.out (by kernel_rfl)) (by decide) (fun K hK => ?_)
      refine goes_ Tryz.func37 (by kernel_rfl) rfl #[.agg #[.int .i64 a0_0, .int .i64 a0_1], .agg #[.int .i64 a1_0, .int .i64 a1_1]] (by rfl) rfl rfl az ?_
      with_reducible refine (manorboyref02_Sub.calls kj4 a0_0 a0_1 a1_0 a1_1 t280 t281 t282 _ A68.out).mono ?_
      rintro e w74 ⟨rfl, hb⟩
      refine ⟨_, rfl, ?_⟩
      replace BK262 := kb BK262 hb
      replace BK263 := kb BK263 hb
      replace BK267 := kb BK267 hb
      replace BK271 := kb BK271 hb
      replace HB := bs hb
      (try clear hb)
      refine hK.out _ _ ⟨(blk_cell BK267.out 0).trans rfl, (blk_cell BK267.out 1).trans rfl, (blk_cell BK262.out 0).trans rfl, (blk_cell BK262.out 1).trans rfl, (blk_cell BK263.out 0).trans rfl, (blk_cell BK263.out 1).trans rfl, (blk_cell BK271.out 0).trans rfl, (blk_cell BK271.out 1).trans rfl⟩ (fun hHeld => ?_)
      clear hK K
      refine norm_ (a' := ?_) ?_ ?_
      rotate_left
      ·show Act.put _ (some 62) _ = _
       simp only [Act.put, List.setIfInBounds_toArray, List.set_cons_zero, List.set_cons_succ, i64_w, i32_w]
       rfl
      refine one_ (i := 15) (N := some 63) #[true, true, true, true, true, true, true, true, true, true, true, true, true, true, true, true, false, false] rfl rfl (one_of HT_.out (by kernel_rfl)) (by decide) (fun K hK => ?_)
      refine goes_ Tryz.func35 (by kernel_rfl) rfl #[.agg #[.int .i64 t268, .int .i64 t269], .int .i64 t270, .agg #[.int .i64 t280, .int .i64 t281, .bool t282]] (by rfl) rfl rfl az ?_
      with_reducible refine (manorboylaw02_rounded.calls t268 t269 t270 t280 t281 t282 t283 _ A69.out).mono ?_
      rintro e w75 ⟨rfl, hb⟩
      refine ⟨_, rfl, ?_⟩
      replace BK262 := kb BK262 hb
      replace BK263 := kb BK263 hb
      replace BK267 := kb BK267 hb
      replace BK271 := kb BK271 hb
      replace HB := bs hb
      (try clear hb)
      refine hK.out _ _ ⟨(blk_cell BK267.out 0).trans rfl, (blk_cell BK267.out 1).trans rfl, (blk_cell BK262.out 0).trans rfl, (blk_cell BK262.out 1).trans rfl, (blk_cell BK263.out 0).trans rfl, (blk_cell BK263.out 1).trans rfl, (blk_cell BK271.out 0).trans rfl, (blk_cell BK271.out 1).trans rfl⟩ (fun hHeld => ?_)
      clear hK K
      refine norm_ (a' := ?_) ?_ ?_
      rotate_left
      ·show Act.put _ (some 63) _ = _
       simp only [Act.put, List.setIfInBounds_toArray, List.set_cons_zero, List.set_cons_succ, i64_w, i32_w]
       rfl
      refine pur 16 (some 64) #[tt,tt,tt,tt,tt,tt,tt,tt,tt,tt,tt,tt,tt,tt,tt,tt,tt,ff] ?_
      refine pur 17 (some 4) #[tt,tt,tt,tt,tt,tt,tt,tt,tt,tt,tt,tt,tt,tt,tt,tt,tt,tt] ?_
      refine done_ (done_of HT_.out (by kernel_rfl)) ?_
      try go_wp2
      go_ret
      exact ⟨by first | rfl | (simp [errW_none, errW_some] <;> rfl) | (simp [*, errW_none, errW_some] <;> rfl), bz⟩
     ·replace c67 := Bool.eq_false_iff.mpr c67
      subst c67
      rw [if_neg (show ¬ (false = true) by decide)] at H
      first | exact absurd (Option.some.inj H) (by rw [hr]; decide)
    ·replace c64 := Bool.eq_false_iff.mpr c64
     subst c64
     rw [if_neg (show ¬ (false = true) by decide)] at H
     first | exact absurd (Option.some.inj H) (by rw [hr]; decide)end Go.Proofs.YteigbokklclmbaaGreatDoor.Z.Y.V
end
section
namespace Go.Proofs.YteigbokklclmbaaGreatDoor.M
/-- The value of a row of digits, the lowest first. -/
def val (B : Nat) : List Int → Nat
  | [] => 0
  | x :: l => x.toNat + B * val B l
/-- The row of a number's digits, the lowest first, without zeros at the end. -/
def dg (B n : Nat) : List Int := if h : 2 ≤ B ∧ 0 < n then ((n % B : Nat) : Int) :: dg B (n / B) else []
termination_by n
decreasing_by exact Nat.div_lt_self h.2 h.1
/-- All digits lie below the base. -/
def InB (B : Nat) (l : List Int) : Prop := ∀ x ∈ l, 0 ≤ x ∧ x < B
theorem InB.nil {B : Nat} : InB B [] := fun _ h => by cases h
theorem InB.cons {B : Nat} {x : Int} {l : List Int} (h : 0 ≤ x ∧ x < B) (k : InB B l) : InB B (x :: l) := fun y hy => by
  rcases List.mem_cons.1 hy with rfl | hy
  · exact h
  · exact k y hy
theorem InB.append {B : Nat} {l m : List Int} (h : InB B l) (k : InB B m) : InB B (l ++ m) := fun y hy => by
  rcases List.mem_append.1 hy with hy | hy
  · exact h y hy
  · exact k y hy
theorem InB.snoc {B : Nat} {l : List Int} {x : Int} (h : InB B l) (k : 0 ≤ x ∧ x < B) : InB B (l ++ [x]) := h.append (InB.cons k InB.nil)
theorem InB.take {B : Nat} {l : List Int} (h : InB B l) (i : Nat) : InB B (l.take i) := fun y hy => h y (List.mem_of_mem_take hy)
theorem InB.drop {B : Nat} {l : List Int} (h : InB B l) (i : Nat) : InB B (l.drop i) := fun y hy => h y (List.mem_of_mem_drop hy)
theorem InB.set {B : Nat} {l : List Int} (h : InB B l) (i : Nat) {v : Int} (k : 0 ≤ v ∧ v < B) : InB B (l.set i v) := fun y hy => by
  rcases List.mem_or_eq_of_mem_set hy with hy | rfl
  · exact h y hy
  · exact k
theorem InB.getD {B : Nat} {l : List Int} (h : InB B l) (hB : 0 < B) (i : Nat) : 0 ≤ l.getD i 0 ∧ l.getD i 0 < B := by
  rw [List.getD_eq_getElem?_getD]
  rcases e : l[i]? with _ | x
  · simp; omega
  · simp; exact h x (List.mem_of_getElem? e)
theorem InB.replicate {B : Nat} (hB : 0 < B) (n : Nat) : InB B (List.replicate n 0) := fun y hy => by
  rw [List.eq_of_mem_replicate hy]; omega
theorem val_nil {B : Nat} : val B [] = 0 := rfl
theorem val_cons {B : Nat} (x : Int) (l : List Int) : val B (x :: l) = x.toNat + B * val B l := rfl
theorem val_append {B : Nat} : ∀ l m : List Int, val B (l ++ m) = val B l + B ^ l.length * val B m
  | [], m => by simp [val]
  | x :: l, m => by
    rw [List.cons_append, val_cons, val_cons, val_append l m, List.length_cons, Nat.pow_succ, Nat.mul_add, Nat.add_assoc, Nat.mul_comm (B ^ l.length) B, Nat.mul_assoc]
theorem val_snoc {B : Nat} (l : List Int) (x : Int) : val B (l ++ [x]) = val B l + B ^ l.length * x.toNat := by
  rw [val_append, val_cons, val_nil, Nat.mul_zero, Nat.add_zero]
theorem val_lt {B : Nat} : ∀ {l : List Int}, InB B l → val B l < B ^ l.length
  | [], _ => by simp [val]
  | x :: l, h => by
    have h0 := h x (List.mem_cons_self)
    have ih := val_lt (l := l) (fun y hy => h y (List.mem_cons_of_mem _ hy))
    have h1 : B * (val B l + 1) ≤ B * B ^ l.length := Nat.mul_le_mul_left B ih
    rw [val_cons, List.length_cons, Nat.pow_succ, Nat.mul_comm (B ^ l.length) B]
    rw [Nat.mul_add, Nat.mul_one] at h1
    omega
theorem val_drop {B : Nat} : ∀ (l : List Int) (i : Nat), val B (l.drop i) = (l.getD i 0).toNat + B * val B (l.drop (i + 1))
  | [], i => by simp [val]
  | x :: l, 0 => by simp [val]
  | x :: l, i + 1 => by
    have := val_drop (B := B) l i
    simpa using this
theorem val_drop_ge {B : Nat} {l : List Int} {i : Nat} (h : l.length ≤ i) : val B (l.drop i) = 0 := by
  rw [List.drop_eq_nil_of_le h]; rfl
theorem val_split {B : Nat} {l : List Int} {i : Nat} (h : i ≤ l.length) : val B l = val B (l.take i) + B ^ i * val B (l.drop i) := by
  have := val_append (B := B) (l.take i) (l.drop i)
  rw [List.take_append_drop, List.length_take, Nat.min_eq_left h] at this
  exact this
theorem val_set {B : Nat} : ∀ (l : List Int) (i : Nat) (v : Int), i < l.length → val B (l.set i v) + B ^ i * (l.getD i 0).toNat = val B l + B ^ i * v.toNat
  | [], i, v, h => by simp at h
  | x :: l, 0, v, h => by simp [val]; omega
  | x :: l, i + 1, v, h => by
    have ih := val_set (B := B) l i v (by simpa using h)
    rw [List.set_cons_succ, val_cons, val_cons, List.getD_cons_succ, Nat.pow_succ, Nat.mul_comm (B ^ i) B, Nat.mul_assoc, Nat.mul_assoc, Nat.add_assoc, ← Nat.mul_add, ih, Nat.mul_add, Nat.add_assoc]
theorem val_replicate {B : Nat} : ∀ n : Nat, val B (List.replicate n 0) = 0
  | 0 => rfl
  | n + 1 => by rw [List.replicate_succ, val_cons, val_replicate n]; rfl
theorem dg_zero {B : Nat} : dg B 0 = [] := by rw [dg]; simp
theorem dg_pos {B n : Nat} (hB : 2 ≤ B) (hn : 0 < n) : dg B n = ((n % B : Nat) : Int) :: dg B (n / B) := by rw [dg, dif_pos ⟨hB, hn⟩]
theorem dg_nil {B n : Nat} (hB : 2 ≤ B) : dg B n = [] ↔ n = 0 := by
  constructor
  · intro h
    rcases Nat.eq_zero_or_pos n with hn | hn
    · exact hn
    · rw [dg_pos hB hn] at h; cases h
  · rintro rfl; exact dg_zero
theorem val_dg {B : Nat} (hB : 2 ≤ B) (n : Nat) : val B (dg B n) = n := by
  induction n using Nat.strongRecOn with
  | ind n ih =>
    rcases Nat.eq_zero_or_pos n with rfl | hn
    · rw [dg_zero]; rfl
    · rw [dg_pos hB hn, val_cons, ih _ (Nat.div_lt_self hn hB), Int.toNat_natCast]
      exact Nat.mod_add_div n B
theorem InB_dg {B : Nat} (hB : 2 ≤ B) (n : Nat) : InB B (dg B n) := by
  induction n using Nat.strongRecOn with
  | ind n ih =>
    rcases Nat.eq_zero_or_pos n with rfl | hn
    · rw [dg_zero]; exact InB.nil
    · rw [dg_pos hB hn]
      have := Nat.mod_lt n (show 0 < B by omega)
      exact InB.cons (by omega) (ih _ (Nat.div_lt_self hn hB))
/-- A row is the row of its value, if it does not end with a zero. -/
theorem dg_val {B : Nat} (hB : 2 ≤ B) : ∀ {l : List Int}, InB B l → (∀ h : l ≠ [], l.getLast h ≠ 0) → dg B (val B l) = l
  | [], _, _ => by rw [val_nil, dg_zero]
  | x :: l, h, hl => by
    have hx := h x (List.mem_cons_self)
    have hI : InB B l := fun y hy => h y (List.mem_cons_of_mem _ hy)
    have hlast : ∀ h : l ≠ [], l.getLast h ≠ 0 := fun hne => by
      have := hl (by simp)
      rwa [List.getLast_cons hne] at this
    have ih := dg_val hB hI hlast
    have hpos : 0 < val B (x :: l) := by
      rw [val_cons]
      rcases l with _ | ⟨y, t⟩
      · have : x ≠ 0 := by simpa using hl (by simp)
        omega
      · have : val B (y :: t) ≠ 0 := fun e => by
          have := ih
          rw [e, dg_zero] at this
          cases this
        have : 0 < B * val B (y :: t) := Nat.mul_pos (by omega) (by omega)
        omega
    rw [dg_pos hB hpos, val_cons]
    have e1 : (x.toNat + B * val B l) % B = x.toNat := by rw [Nat.add_mul_mod_self_left, Nat.mod_eq_of_lt (by omega)]
    have e2 : (x.toNat + B * val B l) / B = val B l := by rw [Nat.add_mul_div_left _ _ (by omega), Nat.div_eq_of_lt (by omega), Nat.zero_add]
    rw [e1, e2, ih, Int.toNat_of_nonneg hx.1]
theorem dg_len_le {B : Nat} (hB : 2 ≤ B) : ∀ (m n : Nat), n < B ^ m → (dg B n).length ≤ m
  | 0, n, h => by
    have : n = 0 := by simpa using h
    rw [this, dg_zero]; exact Nat.le_refl _
  | m + 1, n, h => by
    rcases Nat.eq_zero_or_pos n with rfl | hn
    · rw [dg_zero]; simp
    · rw [dg_pos hB hn, List.length_cons]
      have := dg_len_le hB m (n / B) (by rw [Nat.div_lt_iff_lt_mul (by omega)]; rwa [Nat.pow_succ] at h)
      omega
theorem dg_small {B n : Nat} (hB : 2 ≤ B) (h0 : 0 < n) (h : n < B) : dg B n = [(n : Int)] := by
  rw [dg_pos hB h0, Nat.mod_eq_of_lt h, Nat.div_eq_of_lt h, dg_zero]
theorem dg_lt_pow {B : Nat} (hB : 2 ≤ B) (n : Nat) : n < B ^ (dg B n).length := by
  have := val_lt (InB_dg hB n)
  rwa [val_dg hB] at this
theorem dg_ge_pow {B n : Nat} (hB : 2 ≤ B) (hn : 0 < n) : B ^ ((dg B n).length - 1) ≤ n := by
  rcases Nat.lt_or_ge n (B ^ ((dg B n).length - 1)) with h | h
  · have := dg_len_le hB _ _ h
    have h2 : (dg B n).length ≠ 0 := fun e => by
      have := (dg_nil (n := n) hB).1 (List.eq_nil_of_length_eq_zero e); omega
    omega
  · exact h
/-- The comparison of two rows from above. -/
theorem val_lt_of_drop {B : Nat} {a b : List Int} {i : Nat} (ha : InB B a) (hb : InB B b) (hia : i < a.length) (hib : i < b.length) (he : a.drop (i + 1) = b.drop (i + 1)) (h : a.getD i 0 < b.getD i 0) : val B a < val B b := by
  have hB : 0 < B := by
    rcases Nat.eq_zero_or_pos B with e | e
    · subst e
      have := ha (a[i]) (List.getElem_mem hia); omega
    · exact e
  have h1 := val_split (B := B) (Nat.le_of_lt hia)
  have h2 := val_split (B := B) (Nat.le_of_lt hib)
  have h3 := val_lt (ha.take i)
  rw [List.length_take, Nat.min_eq_left (Nat.le_of_lt hia)] at h3
  have ga := ha.getD hB i
  have gb := hb.getD hB i
  rw [val_drop] at h1 h2
  rw [he] at h1
  rw [h1, h2]
  generalize val B (b.drop (i + 1)) = R at *
  generalize val B (a.take i) = p at *
  generalize val B (b.take i) = q at *
  have h4 : (a.getD i 0).toNat + 1 ≤ (b.getD i 0).toNat := by omega
  have h5 : B ^ i * ((a.getD i 0).toNat + 1 + B * R) ≤ B ^ i * ((b.getD i 0).toNat + B * R) := Nat.mul_le_mul_left _ (by omega)
  have h6 : B ^ i * ((a.getD i 0).toNat + 1 + B * R) = B ^ i * ((a.getD i 0).toNat + B * R) + B ^ i := by
    rw [show (a.getD i 0).toNat + 1 + B * R = ((a.getD i 0).toNat + B * R) + 1 by omega, Nat.mul_add, Nat.mul_one]
  omega
end Go.Proofs.YteigbokklclmbaaGreatDoor.M
end
section
namespace Go.Proofs.YteigbokklclmbaaGreatDoor.M
open Go Go.RowKit Go.Proofs.YteigbokklclmbaaGreatDoor.Given Go.Proofs.YteigbokklclmbaaGreatDoorW.PrintWords Go.Proofs.YteigbokklclmbaaGreatDoorW.PrintLast Go.Proofs.YteigbokklclmbaaGreatDoorW.PrintMore Go.Proofs.YteigbokklclmbaaGreatDoor.Z
abbrev B32 : Nat := 4294967296
abbrev D (n : Nat) : List Int := dg B32 n
theorem B2 : 2 ≤ B32 := by decide
/-- A number of modest size: at most 2048 digits. -/
def Sm (n : Nat) : Prop := (D n).length ≤ 2048
theorem pow32 (n : Nat) : B32 ^ n = 2 ^ (32 * n) := by rw [Nat.pow_mul]
theorem Sm.of {n m : Nat} (h : n < 2 ^ m) (hm : m ≤ 32 * 2048) : Sm n := by
  have key : ∀ L : Nat, m ≤ 32 * L → (D n).length ≤ L := fun L hL => by
    refine dg_len_le B2 L n ?_
    rw [pow32]
    exact Nat.lt_of_lt_of_le h (Nat.pow_le_pow_right (by decide) hL)
  exact key 2048 hm
theorem wu64 (x : Int) (h0 : 0 ≤ x) (h1 : x < 18446744073709551616) : IntKind.u64.wrap x = x := by
  have : IntKind.u64.wrap x = x % 18446744073709551616 := by simp [IntKind.wrap, IntKind.bits, IntKind.signed]
  rw [this]; omega
theorem rd_nat (l : List Int) (i : Nat) : rd l (i : Int) = l.getD i 0 := by unfold rd; rw [Int.toNat_natCast]
theorem rd_in {l : List Int} (h : InB B32 l) (i : Nat) : 0 ≤ rd l (i : Int) ∧ rd l (i : Int) < 4294967296 := by
  rw [rd_nat]; exact h.getD (by decide) i
theorem trim_ev : ∀ (n : Nat) (l : List Int), l.length = n → n ≤ 1000000 → InB B32 l → Ev (fun k => real_trim.l0 k l) (D (val B32 l))
  | 0, l, hl, _, h => by
    obtain rfl := List.eq_nil_of_length_eq_zero hl
    refine Ev.step (f := fun _ => some []) (fun k => by rw [real_trim.l0, if_neg (by simp)]) ?_
    rw [val_nil]
    show Ev _ (dg B32 0)
    rw [dg_zero]; exact Ev.now _
  | n + 1, l, hl, hn, h => by
    have hw : wrap64 ((l.length : Int) - 1) = (n : Int) := by rw [hl, w64 _ (by omega) (by omega)]; omega
    have hlt : n < l.length := by omega
    by_cases h0 : rd l (n : Int) = 0
    · refine Ev.step (f := fun k => real_trim.l0 k (l.take n)) (fun k => by rw [real_trim.l0, hw, if_pos (by omega), if_pos (by omega), if_pos (by omega), if_pos h0, if_pos (by omega), Int.toNat_natCast]) ?_
      have ih := trim_ev n (l.take n) (by rw [List.length_take]; omega) (by omega) (h.take n)
      have e : val B32 l = val B32 (l.take n) := by
        rw [val_split (B := B32) (Nat.le_of_lt hlt), val_drop, ← rd_nat, h0, val_drop_ge (by omega)]; simp
      rw [e]; exact ih
    · refine Ev.step (f := fun k => some l) (fun k => by rw [real_trim.l0, hw, if_pos (by omega), if_pos (by omega), if_pos (by omega), if_neg h0]) ?_
      have e : D (val B32 l) = l := dg_val B2 h (fun hne => by
        rw [rd_nat, List.getD_eq_getElem?_getD, List.getElem?_eq_getElem hlt] at h0
        rw [List.getLast_eq_getElem]
        have : l.length - 1 = n := by omega
        simpa [this] using h0)
      rw [e]; exact Ev.now _
theorem trim_f {l : List Int} (h : InB B32 l) (hl : l.length ≤ 1000000) {n : Nat} (hn : val B32 l = n) : Ev (fun k => real_trim.f k l) (D n) := by
  rw [← hn]; exact trim_ev _ l rfl hl h
theorem some_back {α : Type} {g : Nat → Option α} {r : α} (h : Ev g r) : Ev (fun k => (g k).bind fun t => some t) r := Ev.bind h (Ev.now r)
theorem natOf_ev (n : Nat) (h : n < 18446744073709551616) : Ev (fun k => real_natOf.f k (n : Int)) (D n) := by
  refine Ev.congr (f := fun k => (real_trim.f k [((n % 4294967296 : Nat) : Int), ((n / 4294967296 : Nat) : Int)]).bind fun t => some t) (fun k => by
    unfold real_natOf.f
    have e1 : (n : Int) % 4294967296 = ((n % 4294967296 : Nat) : Int) := by omega
    have e2 : (n : Int) / 4294967296 % 4294967296 = ((n / 4294967296 : Nat) : Int) := by omega
    rw [e1, e2]) ?_
  refine some_back (trim_f ?_ (by simp) ?_)
  · exact InB.cons (by show _ ∧ _ < (4294967296 : Int); omega) (InB.cons (by show _ ∧ _ < (4294967296 : Int); omega) InB.nil)
  · rw [val_cons, val_cons, val_nil, Int.toNat_natCast, Int.toNat_natCast]
    show _ + 4294967296 * (_ + 4294967296 * 0) = n
    omega
theorem mag_abs (a : Int) (h0 : -9223372036854775808 < a) (h1 : a ≤ 9223372036854775807) : mx a (wrap64 (-a)) = (a.natAbs : Int) := by
  unfold mx; rw [w64 _ (by omega) (by omega)]; split <;> omega
theorem magnitude_ev (a : Int) (h0 : -9223372036854775808 < a) (h1 : a ≤ 9223372036854775807) : Ev (fun k => real_magnitude.f k a) (D a.natAbs) := by
  have e : IntKind.u64.wrap (mx a (wrap64 (-a))) = (a.natAbs : Int) := by rw [mag_abs a h0 h1, wu64 _ (by omega) (by omega)]
  refine Ev.congr (f := fun k => (real_natOf.f k (a.natAbs : Int)).bind fun t => some t) (fun k => by unfold real_magnitude.f; rw [e]) ?_
  exact some_back (natOf_ev _ (by omega))
def cmpN (a b : Nat) : Int := if a < b then -1 else if a = b then 0 else 1
theorem cmp_l0 (a b : List Int) (ha : InB B32 a) (hb : InB B32 b) (hl : a.length = b.length) (hlen : a.length ≤ 1000000) : ∀ m : Nat, m ≤ a.length → a.drop m = b.drop m → Ev (fun k => real_nat_cmp.l0 k a b ((m : Int) - 1)) (cmpN (val B32 a) (val B32 b))
  | 0, _, he => by
    refine Ev.step (f := fun _ => some 0) (fun k => by rw [real_nat_cmp.l0, if_neg (by omega)]) ?_
    have : a = b := by simpa using he
    rw [this]; unfold cmpN; rw [if_neg (by omega), if_pos rfl]; exact Ev.now _
  | m + 1, hm, he => by
    have hw : ((m + 1 : Nat) : Int) - 1 = (m : Int) := by omega
    have hw2 : wrap64 ((m : Int) - 1) = (m : Int) - 1 := w64 _ (by omega) (by omega)
    rw [hw]
    by_cases h0 : rd a (m : Int) = rd b (m : Int)
    · refine Ev.step (f := fun k => real_nat_cmp.l0 k a b ((m : Int) - 1)) (fun k => by rw [real_nat_cmp.l0, if_pos (by omega), if_pos (by omega), if_pos (by omega), if_pos (by omega), if_pos h0, hw2]) ?_
      refine cmp_l0 a b ha hb hl hlen m (by omega) ?_
      have ea : a.drop m = rd a (m : Int) :: a.drop (m + 1) := by
        rw [rd_nat, List.drop_eq_getElem_cons (by omega), List.getD_eq_getElem?_getD, List.getElem?_eq_getElem (by omega)]; rfl
      have eb : b.drop m = rd b (m : Int) :: b.drop (m + 1) := by
        rw [rd_nat, List.drop_eq_getElem_cons (by omega), List.getD_eq_getElem?_getD, List.getElem?_eq_getElem (by omega)]; rfl
      rw [ea, eb, h0, he]
    · by_cases h1 : rd a (m : Int) < rd b (m : Int)
      · refine Ev.step (f := fun k => some (-1)) (fun k => by rw [real_nat_cmp.l0, if_pos (by omega), if_pos (by omega), if_pos (by omega), if_pos (by omega), if_neg h0, if_pos h1]) ?_
        have := val_lt_of_drop ha hb (show m < a.length by omega) (by omega) he (by rw [← rd_nat, ← rd_nat]; exact h1)
        unfold cmpN; rw [if_pos this]; exact Ev.now _
      · refine Ev.step (f := fun k => some 1) (fun k => by rw [real_nat_cmp.l0, if_pos (by omega), if_pos (by omega), if_pos (by omega), if_pos (by omega), if_neg h0, if_neg h1]) ?_
        have := val_lt_of_drop hb ha (show m < b.length by omega) (by omega) he.symm (by rw [← rd_nat, ← rd_nat]; omega)
        unfold cmpN; rw [if_neg (by omega), if_neg (by omega)]; exact Ev.now _
theorem cmp_ev {a b : Nat} (ha : Sm a) (hb : Sm b) : Ev (fun k => real_nat_cmp.f k (D a) (D b)) (cmpN a b) := by
  unfold Sm at ha hb
  by_cases hl : (D a).length = (D b).length
  · have hw : wrap64 (((D a).length : Int) - 1) = ((D a).length : Int) - 1 := w64 _ (by omega) (by omega)
    refine Ev.congr (f := fun k => real_nat_cmp.l0 k (D a) (D b) (((D a).length : Int) - 1)) (fun k => by unfold real_nat_cmp.f; rw [if_pos (by omega), hw]) ?_
    have := cmp_l0 (D a) (D b) (InB_dg B2 a) (InB_dg B2 b) hl (by omega) (D a).length (Nat.le_refl _) (by rw [List.drop_eq_nil_of_le (Nat.le_refl _), List.drop_eq_nil_of_le (by omega)])
    rw [val_dg B2, val_dg B2] at this
    exact this
  · have hla : a < B32 ^ (D a).length := dg_lt_pow B2 a
    have hlb : b < B32 ^ (D b).length := dg_lt_pow B2 b
    have h00 : (D 0).length = 0 := by rw [show D 0 = [] from dg_zero]; rfl
    by_cases h1 : (D a).length < (D b).length
    · refine Ev.congr (f := fun k => some (-1)) (fun k => by unfold real_nat_cmp.f; rw [if_neg (by omega), if_pos (by omega)]) ?_
      have hb0 : 0 < b := by
        rcases Nat.eq_zero_or_pos b with h | h
        · subst h; omega
        · exact h
      have h2 : B32 ^ ((D b).length - 1) ≤ b := dg_ge_pow B2 hb0
      have h3 := Nat.pow_le_pow_right (show 0 < B32 by decide) (show (D a).length ≤ (D b).length - 1 by omega)
      unfold cmpN; rw [if_pos (by omega)]; exact Ev.now _
    · refine Ev.congr (f := fun k => some 1) (fun k => by unfold real_nat_cmp.f; rw [if_neg (by omega), if_neg (by omega)]) ?_
      have ha0 : 0 < a := by
        rcases Nat.eq_zero_or_pos a with h | h
        · subst h; omega
        · exact h
      have h2 : B32 ^ ((D a).length - 1) ≤ a := dg_ge_pow B2 ha0
      have h3 := Nat.pow_le_pow_right (show 0 < B32 by decide) (show (D b).length ≤ (D a).length - 1 by omega)
      unfold cmpN; rw [if_neg (by omega), if_neg (by omega)]; exact Ev.now _
theorem add_j1 {a b x5 : List Int} {s : Int} {i n : Nat} {r : List Int} (hb : InB B32 b) (hs0 : 0 ≤ s) (hs : s < 1099511627776) (hx : x5.length ≤ 4096) (hi : i ≤ 4096)
    (h : Ev (fun k => real_nat_add.l0 k a b (x5 ++ [(s + rd b i) % 4294967296]) ((s + rd b i) / 4294967296) n ((i + 1 : Nat) : Int)) r) : Ev (fun k => real_nat_add.j1 k a b x5 s i n i) r := by
  have hr := rd_in hb i
  have hw : wrap64 ((i : Int) + 1) = ((i + 1 : Nat) : Int) := by rw [w64 _ (by omega) (by omega)]; omega
  have hu : IntKind.u64.wrap (rd b (i : Int)) = rd b (i : Int) := wu64 _ (by omega) (by omega)
  have hv : IntKind.u64.wrap (s + rd b (i : Int)) = s + rd b (i : Int) := wu64 _ (by omega) (by omega)
  by_cases hc : i < b.length
  · exact Ev.step (fun k => by rw [real_nat_add.j1, if_pos (by omega), if_pos (by omega), if_pos (by omega), hu, hv, hw]) h
  · have e : rd b (i : Int) = 0 := by rw [rd_nat, List.getD_eq_getElem?_getD, List.getElem?_eq_none (by omega)]; rfl
    rw [e, Int.add_zero] at h
    exact Ev.step (fun k => by rw [real_nat_add.j1, if_neg (by omega), if_pos (by omega), hw]) h
theorem add_l0 (a b : List Int) (ha : InB B32 a) (hb : InB B32 b) (n : Nat) (hn : n ≤ 4096) (hla : a.length ≤ n) (hlb : b.length ≤ n) (S : Nat) : ∀ (d i : Nat) (x5 : List Int) (c : Nat), n = i + d → x5.length = i → InB B32 x5 → c ≤ 1 → val B32 x5 + B32 ^ i * (c + val B32 (a.drop i) + val B32 (b.drop i)) = S → Ev (fun k => real_nat_add.l0 k a b x5 (c : Int) (n : Int) (i : Int)) (D S)
  | 0, i, x5, c, hd, hx, hI, hc, hS => by
    have e1 : (c : Int) % 4294967296 = (c : Int) := by omega
    refine Ev.step (f := fun k => (real_trim.f k (x5 ++ [(c : Int)])).bind fun t => some t) (fun k => by rw [real_nat_add.l0, if_neg (by omega), if_pos (by omega), e1]) ?_
    refine some_back (trim_f (hI.snoc (by show _ ∧ _ < (4294967296 : Int); omega)) (by simp; omega) ?_)
    rw [val_snoc, hx, Int.toNat_natCast]
    rw [val_drop_ge (by omega), val_drop_ge (by omega)] at hS
    simpa using hS
  | d + 1, i, x5, c, hd, hx, hI, hc, hS => by
    have hra := rd_in ha i
    have hrb := rd_in hb i
    have hua : IntKind.u64.wrap (rd a (i : Int)) = rd a (i : Int) := wu64 _ (by omega) (by omega)
    have hva : IntKind.u64.wrap ((c : Int) + rd a (i : Int)) = (c : Int) + rd a (i : Int) := wu64 _ (by omega) (by omega)
    obtain ⟨p, hp⟩ : ∃ p : Nat, rd a (i : Int) = p := ⟨(rd a (i : Int)).toNat, by omega⟩
    obtain ⟨q, hq⟩ : ∃ q : Nat, rd b (i : Int) = q := ⟨(rd b (i : Int)).toNat, by omega⟩
    have next : Ev (fun k => real_nat_add.l0 k a b (x5 ++ [((c : Int) + rd a i + rd b i) % 4294967296]) (((c : Int) + rd a i + rd b i) / 4294967296) n ((i + 1 : Nat) : Int)) (D S) := by
      rw [hp, hq]
      have e1 : ((c : Int) + p + q) % 4294967296 = (((c + p + q) % 4294967296 : Nat) : Int) := by omega
      have e2 : ((c : Int) + p + q) / 4294967296 = (((c + p + q) / 4294967296 : Nat) : Int) := by omega
      rw [e1, e2]
      refine add_l0 a b ha hb n hn hla hlb S d (i + 1) _ _ (by omega) (by simp [hx]) (hI.snoc (by show _ ∧ _ < (4294967296 : Int); omega)) (by omega) ?_
      rw [val_snoc, hx, Int.toNat_natCast, Nat.pow_succ]
      have f1 := val_drop (B := B32) a i
      have f2 := val_drop (B := B32) b i
      rw [← rd_nat, hp, Int.toNat_natCast] at f1
      rw [← rd_nat, hq, Int.toNat_natCast] at f2
      rw [f1, f2] at hS
      rw [← hS, Nat.mul_assoc, Nat.add_assoc, ← Nat.mul_add]
      congr 2
      show (c + p + q) % 4294967296 + 4294967296 * _ = _ + (p + 4294967296 * _) + (q + 4294967296 * _)
      omega
    by_cases hc1 : i < a.length
    · refine Ev.step (f := fun k => real_nat_add.j1 k a b x5 ((c : Int) + rd a i) i n i) (fun k => by rw [real_nat_add.l0, if_pos (by omega), if_pos (by omega), if_pos (by omega), hua, hva]) ?_
      exact add_j1 hb (by omega) (by omega) (by omega) (by omega) next
    · have e : rd a (i : Int) = 0 := by rw [rd_nat, List.getD_eq_getElem?_getD, List.getElem?_eq_none (by omega)]; rfl
      rw [e, Int.add_zero] at next
      refine Ev.step (f := fun k => real_nat_add.j1 k a b x5 (c : Int) i n i) (fun k => by rw [real_nat_add.l0, if_pos (by omega), if_neg (by omega)]) ?_
      exact add_j1 hb (by omega) (by omega) (by omega) (by omega) next
theorem add_ev {a b : Nat} (ha : Sm a) (hb : Sm b) : Ev (fun k => real_nat_add.f k (D a) (D b)) (D (a + b)) := by
  unfold Sm at ha hb
  have e : mx ((D a).length : Int) ((D b).length : Int) = ((max (D a).length (D b).length : Nat) : Int) := by unfold mx; split <;> omega
  refine Ev.congr (f := fun k => real_nat_add.l0 k (D a) (D b) [] ((0 : Nat) : Int) ((max (D a).length (D b).length : Nat) : Int) ((0 : Nat) : Int)) (fun k => by unfold real_nat_add.f; rw [e]; rfl) ?_
  exact add_l0 (D a) (D b) (InB_dg B2 a) (InB_dg B2 b) _ (by omega) (by omega) (by omega) (a + b) _ 0 [] 0 (by rw [Nat.zero_add]) rfl InB.nil (by omega) (by rw [val_nil, Nat.pow_zero, List.drop_zero, List.drop_zero, val_dg B2, val_dg B2]; omega)
theorem clone_is {l : List Int} (h : l.length ≤ 1000000) : real_nat_uint32.f l = some l := by
  unfold real_nat_uint32.f
  show (if ([] : List Int).length + l.length < 35184372088832 then some ([] ++ l) else none) = some l
  rw [if_pos (by simp; omega), List.nil_append]
theorem sub_j1 {b x5 : List Int} {x : Int} {i n : Nat} {r : List Int} (hi : i < x5.length) (hl : x5.length ≤ 4096) (hx0 : -4294967296 ≤ x) (hx1 : x < 4294967296)
    (h : Ev (fun k => real_nat_sub.l0 k b (x5.set i (x % 4294967296)) (if x < 0 then -1 else 0) n ((i + 1 : Nat) : Int)) r) : Ev (fun k => real_nat_sub.j1 k b x5 i x n i) r := by
  have hw : wrap64 ((i : Int) + 1) = ((i + 1 : Nat) : Int) := by rw [w64 _ (by omega) (by omega)]; omega
  by_cases hn : x < 0
  · rw [if_pos hn] at h
    have e : (wrap64 (x + 4294967296)) % 4294967296 = x % 4294967296 := by rw [w64 _ (by omega) (by omega)]; omega
    exact Ev.step (fun k => by rw [real_nat_sub.j1, if_pos hn, if_pos (by omega), if_pos (by omega), Int.toNat_natCast, e, hw]) h
  · rw [if_neg hn] at h
    exact Ev.step (fun k => by rw [real_nat_sub.j1, if_neg hn, if_pos (by omega), if_pos (by omega), Int.toNat_natCast, hw]) h
theorem sub_l0 (b : List Int) (hb : InB B32 b) (n : Nat) (hn : n ≤ 4096) (S : Nat) : ∀ (d i : Nat) (x5 : List Int) (c : Int), n = i + d → x5.length = n → InB B32 x5 → (c = 0 ∨ c = -1) → (val B32 x5 : Int) + B32 ^ i * (c - val B32 (b.drop i)) = S → Ev (fun k => real_nat_sub.l0 k b x5 c (n : Int) (i : Int)) (D S)
  | 0, i, x5, c, hd, hx, hI, hc, hS => by
    refine Ev.step (f := fun k => (real_trim.f k x5).bind fun t => some t) (fun k => by rw [real_nat_sub.l0, if_neg (by omega)]) ?_
    refine some_back (trim_f hI (by omega) ?_)
    have hlt := val_lt hI
    rw [hx, show n = i by omega] at hlt
    have hlt' : (val B32 x5 : Int) < (B32 : Int) ^ i := by exact_mod_cast hlt
    have hP : (0 : Int) < (B32 : Int) ^ i := Int.pow_pos (by decide)
    rcases Int.lt_or_le (c - (val B32 (b.drop i) : Int)) 0 with h | h
    · exfalso
      have := Int.mul_le_mul_of_nonneg_left (show c - (val B32 (b.drop i) : Int) ≤ -1 by omega) (Int.le_of_lt hP)
      rw [Int.mul_neg, Int.mul_one] at this
      omega
    · have : c - (val B32 (b.drop i) : Int) = 0 := by omega
      rw [this, Int.mul_zero, Int.add_zero] at hS
      omega
  | d + 1, i, x5, c, hd, hx, hI, hc, hS => by
    have hr5 := rd_in hI i
    have hrb := rd_in hb i
    have hi : i < x5.length := by omega
    have w1 : wrap64 (rd x5 (i : Int)) = rd x5 (i : Int) := w64 _ (by omega) (by omega)
    have w2 : wrap64 (rd x5 (i : Int) + c) = rd x5 (i : Int) + c := w64 _ (by omega) (by omega)
    have w3 : wrap64 (rd b (i : Int)) = rd b (i : Int) := w64 _ (by omega) (by omega)
    have w4 : wrap64 (rd x5 (i : Int) + c - rd b (i : Int)) = rd x5 (i : Int) + c - rd b (i : Int) := w64 _ (by omega) (by omega)
    have next : Ev (fun k => real_nat_sub.l0 k b (x5.set i ((rd x5 i + c - rd b i) % 4294967296)) (if rd x5 i + c - rd b i < 0 then -1 else 0) n ((i + 1 : Nat) : Int)) (D S) := by
      refine sub_l0 b hb n hn S d (i + 1) _ _ (by omega) (by rw [List.length_set]; exact hx) (hI.set i (by show _ ∧ _ < (4294967296 : Int); omega)) (by split <;> simp) ?_
      have f1 := val_drop (B := B32) b i
      rw [← rd_nat] at f1
      have f2 := val_set (B := B32) x5 i ((rd x5 i + c - rd b i) % 4294967296) hi
      rw [← rd_nat] at f2
      have f2' : (val B32 (x5.set i ((rd x5 i + c - rd b i) % 4294967296)) : Int) + (B32 : Int) ^ i * rd x5 i = val B32 x5 + (B32 : Int) ^ i * ((rd x5 i + c - rd b i) % 4294967296) := by
        have h1 : (((rd x5 i).toNat : Nat) : Int) = rd x5 i := Int.toNat_of_nonneg hr5.1
        have h2 : ((((rd x5 i + c - rd b i) % 4294967296).toNat : Nat) : Int) = (rd x5 i + c - rd b i) % 4294967296 := Int.toNat_of_nonneg (by omega)
        have h3 := congrArg (Nat.cast : Nat → Int) f2
        rw [Int.natCast_add, Int.natCast_add, Int.natCast_mul, Int.natCast_mul, h1, h2, Int.natCast_pow] at h3
        exact h3
      rw [f1] at hS
      rw [← hS, Int.pow_succ, Int.mul_assoc]
      generalize hP : (B32 : Int) ^ i = P at *
      have e1 : (((rd b (i : Int)).toNat + B32 * val B32 (b.drop (i + 1)) : Nat) : Int) = rd b i + 4294967296 * (val B32 (b.drop (i + 1)) : Int) := by
        rw [Int.natCast_add, Int.natCast_mul]; show _ + (4294967296 : Int) * _ = _; omega
      rw [e1]
      generalize (val B32 (b.drop (i + 1)) : Int) = R at *
      generalize rd x5 (i : Int) = u at *
      generalize rd b (i : Int) = v at *
      generalize (val B32 (x5.set i ((u + c - v) % 4294967296)) : Int) = X at *
      have e2 : (u + c - v) % 4294967296 = u + c - v - (if u + c - v < 0 then -1 else 0) * 4294967296 := by split <;> omega
      rw [e2] at f2'
      generalize (if u + c - v < 0 then (-1 : Int) else 0) = q at *
      have e3 : P * (u + c - v - q * 4294967296) = P * u + P * (c - v - q * 4294967296) := by rw [← Int.mul_add]; congr 1; omega
      rw [e3] at f2'
      rw [show X = val B32 x5 + P * (c - v - q * 4294967296) by omega, Int.add_assoc, ← Int.mul_add]
      congr 2
      show _ + (4294967296 : Int) * _ = _
      omega
    by_cases hcb : i < b.length
    · refine Ev.step (f := fun k => real_nat_sub.j1 k b x5 i (rd x5 i + c - rd b i) n i) (fun k => by rw [real_nat_sub.l0, if_pos (by omega), if_pos (by omega), if_pos (by omega), if_pos (by omega), w1, w2, w3, w4]) ?_
      exact sub_j1 hi (by omega) (by omega) (by omega) next
    · have e : rd b (i : Int) = 0 := by rw [rd_nat, List.getD_eq_getElem?_getD, List.getElem?_eq_none (by omega)]; rfl
      rw [e, Int.sub_zero] at next
      refine Ev.step (f := fun k => real_nat_sub.j1 k b x5 i (rd x5 i + c) n i) (fun k => by rw [real_nat_sub.l0, if_pos (by omega), if_pos (by omega), if_pos (by omega), if_neg (by omega), w1, w2]) ?_
      exact sub_j1 hi (by omega) (by omega) (by omega) next
theorem sub_ev {a b : Nat} (ha : Sm a) (hb : Sm b) (hle : b ≤ a) : Ev (fun k => real_nat_sub.f k (D a) (D b)) (D (a - b)) := by
  unfold Sm at ha hb
  refine Ev.congr (f := fun k => real_nat_sub.l0 k (D b) (D a) 0 ((D a).length : Int) ((0 : Nat) : Int)) (fun k => by unfold real_nat_sub.f; rw [clone_is (by omega)]; rfl) ?_
  refine sub_l0 (D b) (InB_dg B2 b) _ (by omega) (a - b) _ 0 (D a) 0 (by rw [Nat.zero_add]) rfl (InB_dg B2 a) (.inl rfl) ?_
  rw [Int.pow_zero, List.drop_zero, val_dg B2, val_dg B2]; omega
theorem or_shl (c x : Nat) (s : Nat) (hs : s ≤ 63) (hc : c < 2 ^ s) (hx : x * 2 ^ s < 18446744073709551616) (hx' : x < 18446744073709551616) :
    Go.bits .or .u64 (c : Int) (shl .u64 (IntKind.u64.wrap (x : Int)) (s : Int)) = ((c + x * 2 ^ s : Nat) : Int) := by
  have e0 : IntKind.u64.wrap (x : Int) = (x : Int) := wu64 _ (by omega) (by omega)
  have h1 : shl .u64 (IntKind.u64.wrap (x : Int)) (s : Int) = ((x * 2 ^ s : Nat) : Int) := by
    rw [e0]
    unfold shl
    rw [Int.toNat_natCast, Nat.min_eq_left (show s ≤ IntKind.u64.bits by show s ≤ 64; omega)]
    have : (x : Int) * 2 ^ s = ((x * 2 ^ s : Nat) : Int) := by rw [Int.natCast_mul, Int.natCast_pow]; rfl
    rw [this, wu64 _ (by omega) (by omega)]
  rw [h1]
  have h2 : 2 ^ s ≤ 2 ^ 63 := Nat.pow_le_pow_right (by decide) hs
  have hb := (bits_nat .u64 64 (by decide) (fun n h0 h1 => wu64 n h0 (by simpa using h1)) c (x * 2 ^ s) (by omega) (by omega)).2
  rw [hb, Nat.or_comm, Nat.mul_comm x, ← Nat.two_pow_add_eq_or_of_lt hc]
  congr 1; omega
theorem shl_l0 (a : List Int) (ha : InB B32 a) (n s : Nat) (hns : n % 32 = s) (hla : a.length ≤ 4096) (S : Nat) : ∀ (d i : Nat) (x5 : List Int) (c : Nat), a.length = i + d → x5.length ≤ 500000 + i → InB B32 x5 → c < 2 ^ s → Aside0 (val B32 x5 + B32 ^ x5.length * (c + 2 ^ s * val B32 (a.drop i)) = S) →
    Ev (fun k => real_nat_shl.l0 k (n : Int) x5 (c : Int) a (a.length : Int) (i : Int)) (D S)
  | 0, i, x5, c, hd, hx, hI, hc, hS => by
    have hc2 : (2 : Nat) ^ s ≤ 2 ^ 31 := Nat.pow_le_pow_right (by decide) (by omega)
    have e1 : Aside0 ((c : Int) % 4294967296 = (c : Int)) := Aside0.mk (by omega)
    refine Ev.step (f := fun k => (real_trim.f k (x5 ++ [(c : Int)])).bind fun t => some t) (fun k => by rw [real_nat_shl.l0, if_neg (by omega), if_pos (by omega), e1.out]) ?_
    refine some_back (trim_f (hI.snoc (by show _ ∧ _ < (4294967296 : Int); omega)) (by simp; omega) ?_)
    rw [val_snoc, Int.toNat_natCast]
    replace hS := hS.out
    rw [val_drop_ge (by omega)] at hS
    simpa using hS
  | d + 1, i, x5, c, hd, hx, hI, hc, hS => by
    have hc2 : (2 : Nat) ^ s ≤ 2 ^ 31 := Nat.pow_le_pow_right (by decide) (by omega)
    have hra := rd_in ha i
    obtain ⟨p, hp⟩ : ∃ p : Nat, rd a (i : Int) = p := ⟨(rd a (i : Int)).toNat, by omega⟩
    have ht : Aside0 (Int.tmod (n : Int) 32 = (s : Int)) := Aside0.mk (by rw [Int.tmod_eq_emod_of_nonneg (by omega)]; omega)
    have w2 : Aside0 (wrap64 ((i : Int) + 1) = ((i + 1 : Nat) : Int)) := Aside0.mk (by rw [w64 _ (by omega) (by omega)]; omega)
    have hpb : p * 2 ^ s ≤ 4294967295 * 2 ^ s := Nat.mul_le_mul_right _ (by omega)
    have ho := Aside0.mk (or_shl c p s (by omega) hc (by omega) (by omega))
    have e1 : Aside0 (((c + p * 2 ^ s : Nat) : Int) % 4294967296 = (((c + p * 2 ^ s) % 4294967296 : Nat) : Int)) := Aside0.mk (by omega)
    have e2 : Aside0 (((c + p * 2 ^ s : Nat) : Int) / 4294967296 = (((c + p * 2 ^ s) / 4294967296 : Nat) : Int)) := Aside0.mk (by omega)
    refine Ev.step (f := fun k => real_nat_shl.l0 k (n : Int) (x5 ++ [(((c + p * 2 ^ s) % 4294967296 : Nat) : Int)]) (((c + p * 2 ^ s) / 4294967296 : Nat) : Int) a a.length ((i + 1 : Nat) : Int)) (fun k => by
      rw [real_nat_shl.l0, if_pos (by omega), if_pos (by omega), if_pos (by omega), ht.out, if_pos (by omega), if_pos (by omega), hp, ho.out, e1.out, e2.out, w2.out]) ?_
    refine shl_l0 a ha n s hns hla S d (i + 1) _ _ (by omega) (by simp; omega) (hI.snoc (by show _ ∧ _ < (4294967296 : Int); omega)) ?_ (Aside0.mk ?_)
    · rw [Nat.div_lt_iff_lt_mul (by decide)]
      have : (2 : Nat) ^ s * 4294967296 = 4294967295 * 2 ^ s + 2 ^ s := by omega
      omega
    · have g := val_drop (B := B32) a i
      rw [← rd_nat, hp, Int.toNat_natCast] at g
      replace hS := hS.out
      rw [g] at hS
      rw [← hS, val_snoc, Int.toNat_natCast, List.length_append, List.length_singleton, Nat.pow_succ, Nat.mul_assoc, Nat.add_assoc, ← Nat.mul_add]
      congr 2
      show _ + 4294967296 * _ = c + 2 ^ s * (p + 4294967296 * _)
      generalize val B32 (a.drop (i + 1)) = R
      clear hpb e1 e2 ho
      have : 2 ^ s * (p + 4294967296 * R) = p * 2 ^ s + 4294967296 * (2 ^ s * R) := by rw [Nat.mul_add, Nat.mul_comm (2 ^ s) p, ← Nat.mul_assoc, Nat.mul_comm (2 ^ s) 4294967296, Nat.mul_assoc]
      rw [this, Nat.mul_add]
      generalize p * 2 ^ s = X
      generalize 2 ^ s * R = Y
      omega
theorem shl_ev {a : Nat} (ha : Sm a) (n : Nat) (hn : n ≤ 65536) : Ev (fun k => real_nat_shl.f k (D a) (n : Int)) (D (a * 2 ^ n)) := by
  unfold Sm at ha
  have t : Int.tdiv (n : Int) 32 = ((n / 32 : Nat) : Int) := by rw [Int.tdiv_eq_ediv_of_nonneg (by omega)]; omega
  have w1 : wrap64 ((n / 32 : Nat) : Int) = ((n / 32 : Nat) : Int) := w64 _ (by omega) (by omega)
  have w2 : wrap64 (((n / 32 : Nat) : Int) + ((D a).length : Int)) = ((n / 32 + (D a).length : Nat) : Int) := by rw [w64 _ (by omega) (by omega)]; omega
  have w3 : wrap64 (((n / 32 + (D a).length : Nat) : Int) + 1) = ((n / 32 + (D a).length + 1 : Nat) : Int) := by rw [w64 _ (by omega) (by omega)]; omega
  refine Ev.congr (f := fun k => real_nat_shl.l0 k (n : Int) (List.replicate (n / 32) 0) ((0 : Nat) : Int) (D a) ((D a).length : Int) ((0 : Nat) : Int)) (fun k => by unfold real_nat_shl.f; rw [t, w1, w2, w3, if_pos (by omega), if_pos (by omega), Int.toNat_natCast, Int.toNat_natCast, if_pos (by omega)]; rfl) ?_
  refine shl_l0 (D a) (InB_dg B2 a) n (n % 32) rfl (by omega) (a * 2 ^ n) (D a).length 0 _ 0 (by omega) (by simp; omega) (InB.replicate (by decide) _) (Nat.two_pow_pos _) (Aside0.mk ?_)
  rw [val_replicate, List.length_replicate, List.drop_zero, val_dg B2, Nat.zero_add, Nat.zero_add, pow32, ← Nat.mul_assoc, ← Nat.pow_add, Nat.mul_comm]
  congr 2; omega
/-- How many binary digits a number has. -/
def bl (n : Nat) : Nat := if h : 0 < n then bl (n / 2) + 1 else 0
termination_by n
decreasing_by exact Nat.div_lt_self h (by decide)
theorem bl_zero : bl 0 = 0 := by rw [bl]; simp
theorem bl_pos {n : Nat} (h : 0 < n) : bl n = bl (n / 2) + 1 := by rw [bl, dif_pos h]
theorem bl_lt (n : Nat) : n < 2 ^ bl n := by
  induction n using Nat.strongRecOn with
  | ind n ih =>
    rcases Nat.eq_zero_or_pos n with rfl | h
    · rw [bl_zero]; decide
    · rw [bl_pos h, Nat.pow_succ]
      have := ih (n / 2) (Nat.div_lt_self h (by decide))
      omega
theorem bl_ge {n : Nat} (h : 0 < n) : 2 ^ (bl n - 1) ≤ n := by
  induction n using Nat.strongRecOn with
  | ind n ih =>
    rw [bl_pos h, Nat.add_sub_cancel]
    rcases Nat.eq_zero_or_pos (n / 2) with h2 | h2
    · rw [h2, bl_zero]; exact h
    · have := ih (n / 2) (Nat.div_lt_self h (by decide)) h2
      have e : bl (n / 2) = bl (n / 2) - 1 + 1 := by rw [bl_pos h2]; omega
      rw [e, Nat.pow_succ]; omega
theorem bl_pos' {n : Nat} (h : 0 < n) : 0 < bl n := by rw [bl_pos h]; omega
theorem bl_le_iff {n m : Nat} : bl n ≤ m ↔ n < 2 ^ m := by
  constructor
  · intro h; exact Nat.lt_of_lt_of_le (bl_lt n) (Nat.pow_le_pow_right (by decide) h)
  · intro h
    rcases Nat.eq_zero_or_pos n with rfl | h0
    · rw [bl_zero]; omega
    · have h1 := bl_ge h0
      have h2 := bl_pos' h0
      rcases Nat.lt_or_ge m (bl n) with h3 | h3
      · have := Nat.pow_le_pow_right (show 0 < 2 by decide) (show m ≤ bl n - 1 by omega); omega
      · exact h3
theorem bl_of {n m : Nat} (h0 : 2 ^ m ≤ n) (h1 : n < 2 ^ (m + 1)) : bl n = m + 1 := by
  have a := bl_le_iff.2 h1
  have b : ¬ bl n ≤ m := fun h => by have := bl_le_iff.1 h; omega
  omega
theorem bits_l0 : ∀ (n : Nat) (x : Nat) (c : Int), bl x = n → 0 ≤ c → c + n ≤ 2000000 → Ev (fun k => real_nat_bits.l0 k c (x : Int)) (c + n)
  | 0, x, c, h, h0, h1 => by
    have : x = 0 := by
      rcases Nat.eq_zero_or_pos x with e | e
      · exact e
      · have := bl_pos' e; omega
    subst this
    refine Ev.step (f := fun _ => some c) (fun k => by rw [real_nat_bits.l0, if_neg (by omega)]) ?_
    rw [show c + ((0 : Nat) : Int) = c by omega]; exact Ev.now _
  | n + 1, x, c, h, h0, h1 => by
    have hx : 0 < x := by
      rcases Nat.eq_zero_or_pos x with e | e
      · subst e; rw [bl_zero] at h; omega
      · exact e
    rw [bl_pos hx] at h
    have e : (x : Int) / 2 = ((x / 2 : Nat) : Int) := by omega
    have w : wrap64 (c + 1) = c + 1 := w64 _ (by omega) (by omega)
    refine Ev.step (f := fun k => real_nat_bits.l0 k (c + 1) ((x / 2 : Nat) : Int)) (fun k => by rw [real_nat_bits.l0, if_pos (by omega), w, e]) ?_
    have ih := bits_l0 n (x / 2) (c + 1) (by omega) (by omega) (by omega)
    rw [show c + ((n + 1 : Nat) : Int) = c + 1 + (n : Int) by omega]; exact ih
theorem bits_ev {a : Nat} (ha : Sm a) : Ev (fun k => real_nat_bits.f k (D a)) (bl a : Int) := by
  unfold Sm at ha
  rcases Nat.eq_zero_or_pos a with rfl | h0
  · rw [bl_zero]
    refine Ev.congr (f := fun _ => some 0) (fun k => by rw [show D 0 = [] from dg_zero]; rfl) (Ev.now _)
  · have hne : (D a).length ≠ 0 := fun e => by
      have := (dg_nil (n := a) B2).1 (List.eq_nil_of_length_eq_zero e); omega
    obtain ⟨m, hm⟩ : ∃ m, (D a).length = m + 1 := ⟨(D a).length - 1, by omega⟩
    have w1 : wrap64 (((m + 1 : Nat) : Int) - 1) = (m : Int) := by rw [w64 _ (by omega) (by omega)]; omega
    have w2 : wrap64 (32 * (m : Int)) = ((32 * m : Nat) : Int) := by rw [w64 _ (by omega) (by omega)]; omega
    have hr : 0 ≤ rd (D a) (m : Int) ∧ rd (D a) (m : Int) < 4294967296 := rd_in (InB_dg B2 a) m
    have hs := val_split (B := B32) (l := D a) (i := m) (by omega)
    have hd := val_drop (B := B32) (D a) m
    have z1 : val B32 ((D a).drop (m + 1)) = 0 := val_drop_ge (by omega)
    rw [← rd_nat, z1, Nat.mul_zero, Nat.add_zero] at hd
    rw [val_dg B2, hd] at hs
    obtain ⟨t, ht⟩ : ∃ t : Nat, rd (D a) (m : Int) = t := ⟨(rd (D a) (m : Int)).toNat, by omega⟩
    rw [ht, Int.toNat_natCast] at hs
    have hlt : val B32 ((D a).take m) < B32 ^ ((D a).take m).length := val_lt ((show InB B32 (D a) from InB_dg B2 a).take m)
    rw [List.length_take, Nat.min_eq_left (by omega)] at hlt
    have hpow : B32 ^ ((D a).length - 1) ≤ a := dg_ge_pow B2 h0
    rw [hm, Nat.add_sub_cancel] at hpow
    have ht0 : 0 < t := by
      rcases Nat.eq_zero_or_pos t with e | e
      · subst e; omega
      · exact e
    have hbl : bl a = 32 * m + bl t := by
      have h1 := bl_ge ht0
      have h2 := bl_lt t
      have h3 := bl_pos' ht0
      have e : 32 * m + bl t = (32 * m + (bl t - 1)) + 1 := by omega
      rw [e]
      refine bl_of ?_ ?_
      · rw [Nat.pow_add, ← pow32]
        have := Nat.mul_le_mul_left (B32 ^ m) h1
        omega
      · rw [show 32 * m + (bl t - 1) + 1 = 32 * m + bl t by omega, Nat.pow_add, ← pow32]
        have := Nat.mul_le_mul_left (B32 ^ m) (show t + 1 ≤ 2 ^ bl t from h2)
        rw [Nat.mul_add, Nat.mul_one] at this
        omega
    have htb : bl t ≤ 32 := bl_le_iff.2 (by omega)
    refine Ev.congr (f := fun k => real_nat_bits.l0 k ((32 * m : Nat) : Int) (t : Int)) (fun k => by unfold real_nat_bits.f; rw [hm, if_neg (by omega), w1, if_pos (by omega), if_pos (by omega), w2, ht]) ?_
    have := bits_l0 (bl t) t ((32 * m : Nat) : Int) rfl (by omega) (by omega)
    rw [hbl, Int.natCast_add]; exact this
theorem small_l0 (a : List Int) (ha : InB B32 a) (hl : a.length ≤ 2) : ∀ (d i : Nat) (c : Nat), a.length = i + d → c < B32 ^ i → Aside0 (c + B32 ^ i * val B32 (a.drop i) = val B32 a) → Ev (fun k => real_nat_small.l0 k (c : Int) a (a.length : Int) (i : Int)) (val B32 a : Int)
  | 0, i, c, hd, hc, hT => by
    replace hT := hT.out
    rw [val_drop_ge (by omega), Nat.mul_zero, Nat.add_zero] at hT
    refine Ev.step (f := fun _ => some (c : Int)) (fun k => by rw [real_nat_small.l0, if_neg (by omega)]) ?_
    rw [hT]; exact Ev.now _
  | d + 1, i, c, hd, hc, hT => by
    have hra := rd_in ha i
    obtain ⟨p, hp⟩ : ∃ p : Nat, rd a (i : Int) = p := ⟨(rd a (i : Int)).toNat, by omega⟩
    have w1 : Aside0 (wrap64 (32 * (i : Int)) = ((32 * i : Nat) : Int)) := Aside0.mk (by rw [w64 _ (by omega) (by omega)]; omega)
    have w2 : Aside0 (wrap64 ((i : Int) + 1) = ((i + 1 : Nat) : Int)) := Aside0.mk (by rw [w64 _ (by omega) (by omega)]; omega)
    have hpw : (2 : Nat) ^ (32 * i) ≤ 4294967296 := by
      have := Nat.pow_le_pow_right (show 0 < 2 by decide) (show 32 * i ≤ 32 by omega); exact this
    have hpm : p * 2 ^ (32 * i) ≤ 4294967295 * 4294967296 := Nat.mul_le_mul (by omega) hpw
    have ho := Aside0.mk (or_shl c p (32 * i) (by omega) (by rw [← pow32]; exact hc) (by omega) (by omega))
    refine Ev.step (f := fun k => real_nat_small.l0 k ((c + p * 2 ^ (32 * i) : Nat) : Int) a a.length ((i + 1 : Nat) : Int)) (fun k => by
      rw [real_nat_small.l0, if_pos (by omega), if_pos (by omega), if_pos (by omega), w1.out, if_pos (Int.natCast_nonneg _), hp, ho.out, w2.out]) ?_
    refine small_l0 a ha hl d (i + 1) _ (by omega) ?_ (Aside0.mk ?_)
    · rw [Nat.pow_succ, ← pow32]
      have : p * B32 ^ i ≤ 4294967295 * B32 ^ i := Nat.mul_le_mul_right _ (by omega)
      show _ < B32 ^ i * 4294967296
      omega
    · have g := val_drop (B := B32) a i
      rw [← rd_nat, hp, Int.toNat_natCast] at g
      replace hT := hT.out
      rw [g] at hT
      rw [← hT, Nat.pow_succ, Nat.mul_assoc, Nat.add_assoc, ← pow32, Nat.mul_comm p, ← Nat.mul_add]
theorem small_ev {a : Nat} (ha : a < 18446744073709551616) : Ev (fun k => real_nat_small.f k (D a)) (a : Int) := by
  have hl : (D a).length ≤ 2 := dg_len_le B2 2 a (by show a < 4294967296 ^ 2; omega)
  have := small_l0 (D a) (InB_dg B2 a) hl (D a).length 0 0 (by omega) (by simp) (Aside0.mk (by rw [Nat.pow_zero, List.drop_zero]; omega))
  rw [val_dg B2] at this
  exact Ev.congr (fun k => by unfold real_nat_small.f; rfl) this
theorem Sm.bl {n : Nat} (h : M.bl n ≤ 32 * 2048) : Sm n := Sm.of (bl_lt n) h
theorem bl_mono {a b : Nat} (h : a ≤ b) : bl a ≤ bl b := bl_le_iff.2 (Nat.lt_of_le_of_lt h (bl_lt b))
theorem bl_shift (a m : Nat) : bl (a * 2 ^ m) ≤ bl a + m := by
  rw [bl_le_iff, Nat.pow_add]
  exact Nat.mul_lt_mul_of_pos_right (bl_lt a) (Nat.two_pow_pos m)
theorem bl_mul (a b : Nat) : bl (a * b) ≤ bl a + bl b := by
  rw [bl_le_iff, Nat.pow_add]
  rcases Nat.eq_zero_or_pos b with h | h
  · subst h; rw [Nat.mul_zero]; exact Nat.mul_pos (Nat.two_pow_pos _) (Nat.two_pow_pos _)
  · exact Nat.lt_of_lt_of_le (Nat.mul_lt_mul_of_pos_right (bl_lt a) h) (Nat.mul_le_mul_left _ (Nat.le_of_lt (bl_lt b)))
theorem bl_add (a b : Nat) : bl (a + b) ≤ max (bl a) (bl b) + 1 := by
  rw [bl_le_iff, Nat.pow_succ]
  have h1 := Nat.lt_of_lt_of_le (bl_lt a) (Nat.pow_le_pow_right (show 0 < 2 by decide) (Nat.le_max_left (bl a) (bl b)))
  have h2 := Nat.lt_of_lt_of_le (bl_lt b) (Nat.pow_le_pow_right (show 0 < 2 by decide) (Nat.le_max_right (bl a) (bl b)))
  omega
theorem bl_one : bl 1 = 1 := by rw [bl_pos (by decide)]; rw [show 1 / 2 = 0 by decide, bl_zero]
theorem div_l0 (a b : Nat) (hb : 0 < b) (hab : bl a ≤ 30000) (hbb : bl b ≤ 30000) : ∀ (m q r : Nat), m ≤ 30001 → a = q * 2 ^ m * b + r → r < 2 ^ m * b → Ev (fun k => real_nat_div.l0 k (D b) (D q) (D r) ((m : Int) - 1)) (D (a / b), D (a % b))
  | 0, q, r, _, h, hr => by
    rw [Nat.pow_zero, Nat.mul_one] at h
    rw [Nat.pow_zero, Nat.one_mul] at hr
    have e1 : a / b = q := by rw [h, Nat.mul_comm, Nat.mul_add_div hb, Nat.div_eq_of_lt hr, Nat.add_zero]
    have e2 : a % b = r := by rw [h, Nat.mul_comm, Nat.mul_add_mod, Nat.mod_eq_of_lt hr]
    refine Ev.step (f := fun _ => some (D q, D r)) (fun k => by rw [real_nat_div.l0, if_neg (by omega)]) ?_
    rw [e1, e2]; exact Ev.now _
  | m + 1, q, r, hm, h, hr => by
    have hw : ((m + 1 : Nat) : Int) - 1 = (m : Int) := by omega
    have hw2 : wrap64 ((m : Int) - 1) = (m : Int) - 1 := w64 _ (by omega) (by omega)
    rw [hw]
    have hra : r ≤ a := by omega
    have hqa : q * 2 ≤ a ∨ r = 0 ∨ True := .inr (.inr trivial)
    have hP := Nat.two_pow_pos m
    have hq1 : q * 2 ≤ a := by
      have h1 : q * 2 ≤ q * 2 ^ (m + 1) * b := by
        have : 2 ^ (m + 1) * b = 2 * (2 ^ m * b) := by rw [Nat.pow_succ]; ac_rfl
        rw [Nat.mul_assoc, this, ← Nat.mul_assoc]
        exact Nat.le_mul_of_pos_right _ (Nat.mul_pos hP hb)
      omega
    have b1 := bl_mono hra
    have b2 := bl_mono hq1
    have b3 := bl_mono (show q ≤ a by omega)
    have b4 := bl_shift b m
    have sb : Sm b := Sm.bl (by omega)
    have sq : Sm q := Sm.bl (by omega)
    have sq2 : Sm (q * 2) := Sm.bl (by omega)
    have sr : Sm r := Sm.bl (by omega)
    have sd : Sm (b * 2 ^ m) := Sm.bl (by omega)
    have s1 : Sm 1 := Sm.bl (by rw [bl_one]; decide)
    have hsh2 : Ev (fun k => real_nat_shl.f k (D q) 1) (D (q * 2)) := by
      have := shl_ev sq 1 (by decide)
      rw [Nat.pow_one] at this; exact this
    refine Ev.step (f := fun k => (real_nat_shl.f k (D b) (m : Int)).bind fun t162 => (real_nat_shl.f k (D q) 1).bind fun t165 => (real_nat_cmp.f k (D r) t162).bind fun t168 => if t168 ≥ 0 then (real_nat_sub.f k (D r) t162).bind fun t169 => (real_nat_add.f k t165 [1]).bind fun t175 => real_nat_div.l0 k (D b) t175 t169 (wrap64 ((m : Int) - 1)) else real_nat_div.l0 k (D b) t165 (D r) (wrap64 ((m : Int) - 1))) (fun k => by rw [real_nat_div.l0, if_pos (by omega)]) ?_
    refine Ev.bind (shl_ev sb m (by omega)) (Ev.bind hsh2 (Ev.bind (cmp_ev sr sd) ?_))
    rw [hw2]
    have hrr : 2 ^ (m + 1) * b = 2 ^ m * b + 2 ^ m * b := by rw [Nat.pow_succ, ← Nat.add_mul]; congr 1; omega
    have hqq : q * 2 ^ (m + 1) * b = q * 2 * 2 ^ m * b := by rw [Nat.pow_succ]; ac_rfl
    by_cases hc : r < b * 2 ^ m
    · have e : cmpN r (b * 2 ^ m) = -1 := by unfold cmpN; rw [if_pos hc]
      rw [e]
      refine Ev.congr (f := fun k => real_nat_div.l0 k (D b) (D (q * 2)) (D r) ((m : Int) - 1)) (fun k => by rw [if_neg (by omega)]) ?_
      exact div_l0 a b hb hab hbb m (q * 2) r (by omega) (by omega) (by rw [Nat.mul_comm]; exact hc)
    · have e : cmpN r (b * 2 ^ m) ≥ 0 := by unfold cmpN; rw [if_neg hc]; split <;> omega
      have one : D 1 = [1] := dg_small B2 (by decide) (by decide)
      refine Ev.congr (f := fun k => (real_nat_sub.f k (D r) (D (b * 2 ^ m))).bind fun t169 => (real_nat_add.f k (D (q * 2)) (D 1)).bind fun t175 => real_nat_div.l0 k (D b) t175 t169 ((m : Int) - 1)) (fun k => by rw [if_pos e, one]) ?_
      refine Ev.bind (sub_ev sr sd (by omega)) (Ev.bind (add_ev sq2 s1) ?_)
      refine div_l0 a b hb hab hbb m (q * 2 + 1) (r - b * 2 ^ m) (by omega) ?_ ?_
      · rw [hqq] at h
        rw [Nat.add_mul, Nat.one_mul, Nat.add_mul, Nat.mul_comm (2 ^ m) b]
        omega
      · rw [Nat.mul_comm b] at hc ⊢; omega
theorem div_ev {a b : Nat} (hb : 0 < b) (hab : bl a ≤ 30000) (hbb : bl b ≤ 30000) : Ev (fun k => real_nat_div.f k (D a) (D b)) (D (a / b), D (a % b)) := by
  have sa : Sm a := Sm.bl (by omega)
  have sb : Sm b := Sm.bl (by omega)
  have hla : (D a).length ≤ 2048 := sa
  refine Ev.congr (f := fun k => (real_nat_bits.f k (D a)).bind fun t160 => (real_nat_bits.f k (D b)).bind fun t161 => real_nat_div.l0 k (D b) [] (D a) (wrap64 (t160 - t161))) (fun k => by unfold real_nat_div.f; rw [clone_is (by omega)]; rfl) ?_
  refine Ev.bind (bits_ev sa) (Ev.bind (bits_ev sb) ?_)
  have w : wrap64 ((bl a : Int) - (bl b : Int)) = (bl a : Int) - (bl b : Int) := w64 _ (by omega) (by omega)
  rw [w]
  rcases Nat.lt_or_ge (bl a) (bl b) with h | h
  · have hlt : a < b := by
      have h3 := bl_lt a
      have h4 := bl_ge hb
      have := Nat.pow_le_pow_right (show 0 < 2 by decide) (show bl a ≤ bl b - 1 by omega); omega
    refine Ev.step (f := fun _ => some ([], D a)) (fun k => by rw [real_nat_div.l0, if_neg (by omega)]) ?_
    rw [Nat.div_eq_of_lt hlt, Nat.mod_eq_of_lt hlt, show D 0 = [] from dg_zero]; exact Ev.now _
  · have := div_l0 a b hb hab hbb (bl a - bl b + 1) 0 a (by omega) (by simp) ?_
    · rw [show D 0 = [] from dg_zero] at this
      rw [show (bl a : Int) - (bl b : Int) = ((bl a - bl b + 1 : Nat) : Int) - 1 by omega]; exact this
    · have h3 := bl_lt a
      have h4 := bl_ge hb
      have h5 := bl_pos' hb
      have := Nat.mul_le_mul_left (2 ^ (bl a - bl b + 1)) h4
      rw [← Nat.pow_add, show bl a - bl b + 1 + (bl b - 1) = bl a by omega] at this
      omega
end Go.Proofs.YteigbokklclmbaaGreatDoor.M
end
section
namespace Go.Proofs.YteigbokklclmbaaGreatDoor.M
open Go Go.RowKit Go.Proofs.YteigbokklclmbaaGreatDoor.Given Go.Proofs.YteigbokklclmbaaGreatDoorW.PrintWords Go.Proofs.YteigbokklclmbaaGreatDoorW.PrintLast Go.Proofs.YteigbokklclmbaaGreatDoorW.PrintMore Go.Proofs.YteigbokklclmbaaGreatDoor.Z Go.Proofs.YteigbokklclmbaaGreatDoor.Z.Y Go.Proofs.YteigbokklclmbaaGreatDoor.Z.Y.V
abbrev B15 : Nat := 32768
abbrev E (n : Nat) : List Int := dg B15 n
theorem C2 : 2 ≤ B15 := by decide
theorem pow15 (n : Nat) : B15 ^ n = 2 ^ (15 * n) := by rw [Nat.pow_mul]
/-- A number of modest size: at most 8000 digits. -/
def Se (n : Nat) : Prop := (E n).length ≤ 8000
theorem Se.of {n : Nat} (h : bl n ≤ 15 * 8000) : Se n := by
  have key : ∀ L : Nat, bl n ≤ 15 * L → (E n).length ≤ L := fun L hL => by
    refine dg_len_le C2 L n ?_
    rw [pow15]
    exact bl_le_iff.1 hL
  exact key 8000 h
theorem rd15 {l : List Int} (h : InB B15 l) (i : Nat) : 0 ≤ rd l (i : Int) ∧ rd l (i : Int) < 32768 := by
  rw [rd_nat]; exact h.getD (by decide) i
theorem E_in (n : Nat) : InB B15 (E n) := InB_dg C2 n
theorem E_val (n : Nat) : val B15 (E n) = n := val_dg C2 n
theorem E_lt (n : Nat) : n < B15 ^ (E n).length := dg_lt_pow C2 n
theorem E_ge {n : Nat} (h : 0 < n) : B15 ^ ((E n).length - 1) ≤ n := dg_ge_pow C2 h
/-- A row of the right length is the row of its value. -/
theorem dg_of_len {B : Nat} (hB : 2 ≤ B) {l : List Int} {n : Nat} (h : InB B l) (hl : l.length = n + 1) (hv : B ^ n ≤ val B l) : dg B (val B l) = l := by
  refine dg_val hB h (fun hne hz => ?_)
  rw [List.getLast_eq_getElem] at hz
  have h1 := val_split (B := B) (l := l) (i := n) (by omega)
  have h2 := val_drop (B := B) l n
  rw [val_drop_ge (show l.length ≤ n + 1 by omega), List.getD_eq_getElem?_getD, List.getElem?_eq_getElem (by omega)] at h2
  have e : l.length - 1 = n := by omega
  simp only [e] at hz
  rw [Option.getD_some, hz] at h2
  have h3 := val_lt (h.take n)
  rw [List.length_take, Nat.min_eq_left (by omega)] at h3
  simp only [Int.toNat_zero, Nat.mul_zero, Nat.add_zero] at h2
  rw [h2, Nat.mul_zero, Nat.add_zero] at h1
  omega
theorem cut_l0 (l : List Int) (h : InB B15 l) (hl : l.length ≤ 100000) (V : Nat) : ∀ m : Nat, m ≤ l.length → val B15 (l.take m) = V → Ev (fun k => manorboyref02_cut.l0 k l (m : Int)) (E V)
  | 0, hm, hv => by
    refine Ev.step (f := fun _ => some []) (fun k => by rw [manorboyref02_cut.l0, if_neg (by omega), if_pos (by omega), if_pos (by omega)]; rfl) ?_
    rw [List.take_zero, val_nil] at hv
    subst hv
    rw [show E 0 = [] from dg_zero]; exact Ev.now _
  | m + 1, hm, hv => by
    have w : wrap64 (((m + 1 : Nat) : Int) - 1) = (m : Int) := by rw [w64 _ (by omega) (by omega)]; omega
    have hs : l.take (m + 1) = l.take m ++ [rd l (m : Int)] := by
      rw [List.take_succ_eq_append_getElem (by omega), rd_nat, List.getD_eq_getElem?_getD, List.getElem?_eq_getElem (by omega), Option.getD_some]
    by_cases h0 : rd l (m : Int) = 0
    · refine Ev.step (fun k => by rw [manorboyref02_cut.l0, w, if_pos (by omega), if_pos (Int.natCast_nonneg _), if_pos (by omega), if_pos h0]) (cut_l0 l h hl V m (by omega) ?_)
      rw [hs, val_snoc, h0] at hv
      simpa using hv
    · refine Ev.step (f := fun _ => some (l.take (m + 1))) (fun k => by rw [manorboyref02_cut.l0, w, if_pos (by omega), if_pos (Int.natCast_nonneg _), if_pos (by omega), if_neg h0, if_pos (Int.natCast_nonneg _), if_pos (by omega), Int.toNat_natCast]) ?_
      have e : E (val B15 (l.take (m + 1))) = l.take (m + 1) := dg_val C2 (h.take _) (fun hne hz => by
        simp only [hs, List.getLast_concat] at hz; exact h0 hz)
      rw [← hv, e]; exact Ev.now _
theorem cut_ev {l : List Int} (h : InB B15 l) (hl : l.length ≤ 100000) {n : Nat} (hn : val B15 l = n) : Ev (fun k => manorboyref02_cut.f k l) (E n) := by
  have := cut_l0 l h hl n l.length (Nat.le_refl _) (by rw [List.take_length]; exact hn)
  exact Ev.congr (fun k => by unfold manorboyref02_cut.f; rfl) this
theorem small_l0' : ∀ (d n : Nat) (x : List Int), n < 2 ^ d → d ≤ 64 → n < 9223372036854775808 → x.length + d ≤ 1000 → Ev (fun k => manorboyref02_Small.l0 k (n : Int) x) (x ++ E n)
  | d, 0, x, _, _, _, _ => by
    refine Ev.step (f := fun _ => some x) (fun k => by rw [manorboyref02_Small.l0, if_neg (by omega)]) ?_
    rw [show E 0 = [] from dg_zero, List.append_nil]; exact Ev.now _
  | 0, n + 1, x, h, _, _, _ => by simp at h
  | d + 1, n + 1, x, h, hd, hn, hx => by
    have e1 : Int.tdiv ((n + 1 : Nat) : Int) 32768 = (((n + 1) / 32768 : Nat) : Int) := by rw [Int.tdiv_eq_ediv_of_nonneg (by omega)]; omega
    have e2 : Int.tmod ((n + 1 : Nat) : Int) 32768 = (((n + 1) % 32768 : Nat) : Int) := by rw [Int.tmod_eq_emod_of_nonneg (by omega)]; omega
    have e3 : wrap64 (((n + 1) / 32768 : Nat) : Int) = (((n + 1) / 32768 : Nat) : Int) := w64 _ (by omega) (by omega)
    refine Ev.step (f := fun k => manorboyref02_Small.l0 k (((n + 1) / 32768 : Nat) : Int) (x ++ [(((n + 1) % 32768 : Nat) : Int)])) (fun k => by rw [manorboyref02_Small.l0, if_pos (by omega), if_pos (by omega), e1, e2, e3]) ?_
    have ih := small_l0' d ((n + 1) / 32768) (x ++ [(((n + 1) % 32768 : Nat) : Int)]) (by
      rw [Nat.pow_succ] at h; omega) (by omega) (by omega) (by simp; omega)
    have e4 : E (n + 1) = (((n + 1) % 32768 : Nat) : Int) :: E ((n + 1) / 32768) := dg_pos C2 (by omega)
    rw [e4]
    rw [List.append_assoc] at ih
    exact ih
theorem smallE_ev {n : Nat} (h : n < 9223372036854775808) : Ev (fun k => manorboyref02_Small.f k (n : Int)) (E n) := by
  have := small_l0' 63 n [] (by omega) (by omega) h (by simp)
  rw [List.nil_append] at this
  exact Ev.congr (fun k => by unfold manorboyref02_Small.f; rfl) this
theorem cmpE_l0 (a b : List Int) (ha : InB B15 a) (hb : InB B15 b) (hl : a.length = b.length) (hlen : a.length ≤ 1000000) : ∀ m : Nat, m ≤ a.length → a.drop m = b.drop m → Ev (fun k => manorboyref02_Nat_Cmp.l0 k a b ((m : Int) - 1)) (cmpN (val B15 a) (val B15 b))
  | 0, _, he => by
    refine Ev.step (f := fun _ => some 0) (fun k => by rw [manorboyref02_Nat_Cmp.l0, if_neg (by omega)]) ?_
    have : a = b := by simpa using he
    rw [this]; unfold cmpN; rw [if_neg (by omega), if_pos rfl]; exact Ev.now _
  | m + 1, hm, he => by
    have hw : ((m + 1 : Nat) : Int) - 1 = (m : Int) := by omega
    have hw2 : wrap64 ((m : Int) - 1) = (m : Int) - 1 := w64 _ (by omega) (by omega)
    rw [hw]
    by_cases h1 : rd a (m : Int) < rd b (m : Int)
    · refine Ev.step (f := fun k => some (-1)) (fun k => by rw [manorboyref02_Nat_Cmp.l0, if_pos (by omega), if_pos (by omega), if_pos (by omega), if_pos (by omega), if_pos h1]) ?_
      have := val_lt_of_drop ha hb (show m < a.length by omega) (by omega) he (by rw [← rd_nat, ← rd_nat]; exact h1)
      unfold cmpN; rw [if_pos this]; exact Ev.now _
    · by_cases h2 : rd a (m : Int) > rd b (m : Int)
      · refine Ev.step (f := fun k => some 1) (fun k => by rw [manorboyref02_Nat_Cmp.l0, if_pos (by omega), if_pos (by omega), if_pos (by omega), if_pos (by omega), if_neg h1, if_pos h2]) ?_
        have := val_lt_of_drop hb ha (show m < b.length by omega) (by omega) he.symm (by rw [← rd_nat, ← rd_nat]; omega)
        unfold cmpN; rw [if_neg (by omega), if_neg (by omega)]; exact Ev.now _
      · refine Ev.step (f := fun k => manorboyref02_Nat_Cmp.l0 k a b ((m : Int) - 1)) (fun k => by rw [manorboyref02_Nat_Cmp.l0, if_pos (by omega), if_pos (by omega), if_pos (by omega), if_pos (by omega), if_neg h1, if_neg h2, hw2]) ?_
        refine cmpE_l0 a b ha hb hl hlen m (by omega) ?_
        have ea : a.drop m = rd a (m : Int) :: a.drop (m + 1) := by
          rw [rd_nat, List.drop_eq_getElem_cons (by omega), List.getD_eq_getElem?_getD, List.getElem?_eq_getElem (by omega)]; rfl
        have eb : b.drop m = rd b (m : Int) :: b.drop (m + 1) := by
          rw [rd_nat, List.drop_eq_getElem_cons (by omega), List.getD_eq_getElem?_getD, List.getElem?_eq_getElem (by omega)]; rfl
        rw [ea, eb, show rd a (m : Int) = rd b (m : Int) by omega, he]
theorem cmpE_ev {a b : Nat} (ha : Se a) (hb : Se b) : Ev (fun k => manorboyref02_Nat_Cmp.f k (E a) (E b)) (cmpN a b) := by
  unfold Se at ha hb
  have hla := E_lt a
  have hlb := E_lt b
  have h00 : (E 0).length = 0 := by rw [show E 0 = [] from dg_zero]; rfl
  by_cases h1 : (E a).length < (E b).length
  · refine Ev.congr (f := fun k => some (-1)) (fun k => by unfold manorboyref02_Nat_Cmp.f; rw [if_pos (by omega)]) ?_
    have hb0 : 0 < b := by
      rcases Nat.eq_zero_or_pos b with h | h
      · subst h; omega
      · exact h
    have h2 := E_ge hb0
    have h3 := Nat.pow_le_pow_right (show 0 < B15 by decide) (show (E a).length ≤ (E b).length - 1 by omega)
    unfold cmpN; rw [if_pos (by omega)]; exact Ev.now _
  · by_cases h2 : (E a).length > (E b).length
    · refine Ev.congr (f := fun k => some 1) (fun k => by unfold manorboyref02_Nat_Cmp.f; rw [if_neg (by omega), if_pos (by omega)]) ?_
      have ha0 : 0 < a := by
        rcases Nat.eq_zero_or_pos a with h | h
        · subst h; omega
        · exact h
      have h2 := E_ge ha0
      have h3 := Nat.pow_le_pow_right (show 0 < B15 by decide) (show (E b).length ≤ (E a).length - 1 by omega)
      unfold cmpN; rw [if_neg (by omega), if_neg (by omega)]; exact Ev.now _
    · have hl : (E a).length = (E b).length := by omega
      have hw : wrap64 (((E a).length : Int) - 1) = ((E a).length : Int) - 1 := w64 _ (by omega) (by omega)
      refine Ev.congr (f := fun k => manorboyref02_Nat_Cmp.l0 k (E a) (E b) (((E a).length : Int) - 1)) (fun k => by unfold manorboyref02_Nat_Cmp.f; rw [if_neg (by omega), if_neg (by omega), hw]) ?_
      have := cmpE_l0 (E a) (E b) (E_in a) (E_in b) hl (by omega) (E a).length (Nat.le_refl _) (by rw [List.drop_eq_nil_of_le (Nat.le_refl _), List.drop_eq_nil_of_le (by omega)])
      rw [E_val, E_val] at this
      exact this
theorem two_ev (n : Nat) (h : n ≤ 100000) : manorboyref02_Two.f (n : Int) = some (E (2 ^ n)) := by
  have t : Int.tdiv (n : Int) 15 = ((n / 15 : Nat) : Int) := by rw [Int.tdiv_eq_ediv_of_nonneg (by omega)]; omega
  have m : Int.tmod (n : Int) 15 = ((n % 15 : Nat) : Int) := by rw [Int.tmod_eq_emod_of_nonneg (by omega)]; omega
  have w1 : wrap64 ((n / 15 : Nat) : Int) = ((n / 15 : Nat) : Int) := w64 _ (by omega) (by omega)
  have w2 : wrap64 (((n / 15 : Nat) : Int) + 1) = ((n / 15 + 1 : Nat) : Int) := by rw [w64 _ (by omega) (by omega)]; omega
  have hp : (2 : Nat) ^ (n % 15) ≤ 16384 := by
    have := Nat.pow_le_pow_right (show 0 < 2 by decide) (show n % 15 ≤ 14 by omega); exact this
  have hp0 := Nat.two_pow_pos (n % 15)
  have hs : shl .i64 1 ((n % 15 : Nat) : Int) = ((2 ^ (n % 15) : Nat) : Int) := by
    unfold shl
    rw [Int.toNat_natCast, Nat.min_eq_left (show n % 15 ≤ IntKind.i64.bits by show n % 15 ≤ 64; omega), Int.one_mul]
    have : (2 : Int) ^ (n % 15) = ((2 ^ (n % 15) : Nat) : Int) := by rw [Int.natCast_pow]; rfl
    rw [this, i64_w]
    exact w64 _ (by omega) (by omega)
  unfold manorboyref02_Two.f
  rw [t, m, w1, w2, if_pos (Int.natCast_nonneg _), Int.toNat_natCast, if_pos (by omega), Option.bind_some, if_pos (Int.natCast_nonneg _), if_pos (Int.natCast_nonneg _), if_pos (by rw [List.length_replicate]; omega), Int.toNat_natCast, hs]
  have hI : InB B15 ((List.replicate (n / 15 + 1) (0 : Int)).set (n / 15) ((2 ^ (n % 15) : Nat) : Int)) := (InB.replicate (by decide) _).set _ (by show _ ∧ _ < (32768 : Int); omega)
  have hv := val_set (B := B15) (List.replicate (n / 15 + 1) (0 : Int)) (n / 15) ((2 ^ (n % 15) : Nat) : Int) (by rw [List.length_replicate]; omega)
  have hz : (List.replicate (n / 15 + 1) (0 : Int)).getD (n / 15) 0 = 0 := by
    rw [List.getD_eq_getElem?_getD]
    rcases e : (List.replicate (n / 15 + 1) (0 : Int))[n / 15]? with _ | v
    · rfl
    · exact List.eq_of_mem_replicate (List.mem_of_getElem? e)
  rw [hz, val_replicate, Int.toNat_natCast, Int.toNat_zero, Nat.mul_zero, Nat.add_zero, Nat.zero_add] at hv
  have hv2 : val B15 ((List.replicate (n / 15 + 1) (0 : Int)).set (n / 15) ((2 ^ (n % 15) : Nat) : Int)) = 2 ^ n := by
    rw [hv, pow15, ← Nat.pow_add]; congr 1; omega
  have := dg_of_len C2 hI (n := n / 15) (by rw [List.length_set, List.length_replicate]) (by rw [hv]; exact Nat.le_mul_of_pos_right _ hp0)
  rw [hv2] at this
  rw [← this]
theorem two_Ev (n : Nat) (h : n ≤ 100000) : Ev (fun _ => manorboyref02_Two.f (n : Int)) (E (2 ^ n)) := by
  rw [two_ev n h]; exact Ev.now _
theorem addE_l0 (a b : List Int) (ha : InB B15 a) (hb : InB B15 b) (n : Nat) (hn : n ≤ 8192) (hmax : n = max a.length b.length) (S : Nat) (hS0 : 0 < n → B15 ^ (n - 1) ≤ S) (hS1 : n = 0 → S = 0) : ∀ (d i : Nat) (x5 : List Int) (c : Nat), n = i + d → x5.length = i → InB B15 x5 → c ≤ 1 → Aside0 (val B15 x5 + B15 ^ i * (c + val B15 (a.drop i) + val B15 (b.drop i)) = S) → Ev (fun k => manorboyref02_Nat_Add.l0 k a b x5 (c : Int) (i : Int)) (E S)
  | 0, i, x5, c, hd, hx, hI, hc, hS => by
    replace hS := hS.out
    rw [val_drop_ge (by omega), val_drop_ge (by omega)] at hS
    have hf : (decide ((i : Int) < (b.length : Int))) = false := decide_eq_false (by omega)
    refine Ev.step (f := fun k => manorboyref02_Nat_Add.j1 k a b x5 (c : Int) (i : Int) false) (fun k => by rw [manorboyref02_Nat_Add.l0, if_neg (by omega), hf]) ?_
    by_cases h0 : (c : Int) > 0
    · have hc1 : c = 1 := by omega
      subst hc1
      refine Ev.step (f := fun _ => some (x5 ++ [((1 : Nat) : Int)])) (fun k => by rw [manorboyref02_Nat_Add.j1, if_neg (by decide), if_pos h0, if_pos (by omega)]) ?_
      have hI' : InB B15 (x5 ++ [((1 : Nat) : Int)]) := hI.snoc (by show _ ∧ _ < (32768 : Int); omega)
      have hv : val B15 (x5 ++ [((1 : Nat) : Int)]) = S := by
        rw [val_snoc, hx, Int.toNat_natCast]; simpa using hS
      have := dg_of_len C2 hI' (n := i) (by simp [hx]) (by rw [val_snoc, hx, Int.toNat_natCast]; omega)
      rw [hv] at this
      rw [show E S = dg B15 S from rfl, this]; exact Ev.now _
    · have hc0 : c = 0 := by omega
      subst hc0
      refine Ev.step (f := fun _ => some x5) (fun k => by rw [manorboyref02_Nat_Add.j1, if_neg (by decide), if_neg h0]) ?_
      have hv : val B15 x5 = S := by simpa using hS
      rcases Nat.eq_zero_or_pos i with hi | hi
      · have : x5 = [] := List.eq_nil_of_length_eq_zero (by omega)
        subst this
        rw [val_nil] at hv
        rw [← hv, show E 0 = [] from dg_zero]; exact Ev.now _
      · have hge := hS0 (by omega)
        have := dg_of_len C2 hI (n := i - 1) (by omega) (by rw [hv, show i - 1 = n - 1 by omega]; exact hge)
        rw [hv] at this
        rw [show E S = dg B15 S from rfl, this]; exact Ev.now _
  | d + 1, i, x5, c, hd, hx, hI, hc, hS => by
    have hra := rd15 ha i
    have hrb := rd15 hb i
    obtain ⟨p, hp⟩ : ∃ p : Nat, rd a (i : Int) = p := ⟨(rd a (i : Int)).toNat, by omega⟩
    obtain ⟨q, hq⟩ : ∃ q : Nat, rd b (i : Int) = q := ⟨(rd b (i : Int)).toNat, by omega⟩
    have w1 : Aside0 (wrap64 ((i : Int) + 1) = ((i + 1 : Nat) : Int)) := Aside0.mk (by rw [w64 _ (by omega) (by omega)]; omega)
    have w2 : Aside0 (wrap64 ((c : Int) + (p : Int)) = ((c + p : Nat) : Int)) := Aside0.mk (by rw [w64 _ (by omega) (by omega)]; omega)
    have key : ∀ s : Nat, s = c + p → Ev (fun k => manorboyref02_Nat_Add.j2 k a b x5 (s : Int) (i : Int)) (E S) := by
      intro s hs
      have hsb : s ≤ 32769 := by omega
      have w3 : Aside0 (wrap64 ((s : Int) + (q : Int)) = ((s + q : Nat) : Int)) := Aside0.mk (by rw [w64 _ (by omega) (by omega)]; omega)
      have e1 : ∀ z : Nat, z ≤ 65537 → Int.tmod (z : Int) 32768 = ((z % 32768 : Nat) : Int) := fun z hz => by rw [Int.tmod_eq_emod_of_nonneg (by omega)]; omega
      have e2 : ∀ z : Nat, z ≤ 65537 → wrap64 (Int.tdiv (z : Int) 32768) = ((z / 32768 : Nat) : Int) := fun z hz => by rw [Int.tdiv_eq_ediv_of_nonneg (by omega), w64 _ (by omega) (by omega)]; omega
      have next : Ev (fun k => manorboyref02_Nat_Add.l0 k a b (x5 ++ [(((s + q) % 32768 : Nat) : Int)]) (((s + q) / 32768 : Nat) : Int) ((i + 1 : Nat) : Int)) (E S) := by
        refine addE_l0 a b ha hb n hn hmax S hS0 hS1 d (i + 1) _ _ (by omega) (by simp [hx]) (hI.snoc (by show _ ∧ _ < (32768 : Int); omega)) (by omega) (Aside0.mk ?_)
        replace hS := hS.out
        rw [val_snoc, hx, Int.toNat_natCast, Nat.pow_succ]
        have f1 := val_drop (B := B15) a i
        have f2 := val_drop (B := B15) b i
        rw [← rd_nat, hp, Int.toNat_natCast] at f1
        rw [← rd_nat, hq, Int.toNat_natCast] at f2
        rw [f1, f2] at hS
        rw [← hS, Nat.mul_assoc, Nat.add_assoc, ← Nat.mul_add]
        congr 2
        show (s + q) % 32768 + 32768 * _ = _ + (p + 32768 * _) + (q + 32768 * _)
        omega
      by_cases hcb : i < b.length
      · exact Ev.step (fun k => by rw [manorboyref02_Nat_Add.j2, if_pos (by omega), if_pos (Int.natCast_nonneg _), if_pos (by omega), hq, w3.out, e1 _ (by omega), e2 _ (by omega), w1.out]) next
      · have e : rd b (i : Int) = 0 := by rw [rd_nat, List.getD_eq_getElem?_getD, List.getElem?_eq_none (by omega)]; rfl
        have q0 : q = 0 := by omega
        subst q0
        rw [Nat.add_zero] at next
        exact Ev.step (fun k => by rw [manorboyref02_Nat_Add.j2, if_neg (by omega), if_pos (by omega), e1 _ (by omega), e2 _ (by omega), w1.out]) next
    have j1 : Ev (fun k => manorboyref02_Nat_Add.j1 k a b x5 (c : Int) (i : Int) true) (E S) := by
      by_cases hca : i < a.length
      · exact Ev.step (fun k => by rw [manorboyref02_Nat_Add.j1, if_pos rfl, if_pos (by omega), if_pos (Int.natCast_nonneg _), hp, w2.out]) (key _ rfl)
      · have e : rd a (i : Int) = 0 := by rw [rd_nat, List.getD_eq_getElem?_getD, List.getElem?_eq_none (by omega)]; rfl
        exact Ev.step (fun k => by rw [manorboyref02_Nat_Add.j1, if_pos rfl, if_neg (by omega)]) (key c (by omega))
    by_cases hca : i < a.length
    · exact Ev.step (fun k => by rw [manorboyref02_Nat_Add.l0, if_pos (by omega)]) j1
    · have hf : (decide ((i : Int) < (b.length : Int))) = true := decide_eq_true (by omega)
      exact Ev.step (fun k => by rw [manorboyref02_Nat_Add.l0, if_neg (by omega), hf]) j1
theorem addE_ev {a b : Nat} (ha : Se a) (hb : Se b) : Ev (fun k => manorboyref02_Nat_Add.f k (E a) (E b)) (E (a + b)) := by
  unfold Se at ha hb
  have h00 : (E 0).length = 0 := by rw [show E 0 = [] from dg_zero]; rfl
  have := addE_l0 (E a) (E b) (E_in a) (E_in b) (max (E a).length (E b).length) (by omega) rfl (a + b) (fun h => by
      rcases Nat.le_total (E a).length (E b).length with hl | hl
      · rw [Nat.max_eq_right hl] at h ⊢
        have : 0 < b := by
          rcases Nat.eq_zero_or_pos b with h' | h'
          · subst h'; omega
          · exact h'
        have := E_ge this; omega
      · rw [Nat.max_eq_left hl] at h ⊢
        have : 0 < a := by
          rcases Nat.eq_zero_or_pos a with h' | h'
          · subst h'; omega
          · exact h'
        have := E_ge this; omega) (fun h => by
      have h1 := (dg_nil (n := a) C2).1 (List.eq_nil_of_length_eq_zero (show (E a).length = 0 by omega))
      have h2 := (dg_nil (n := b) C2).1 (List.eq_nil_of_length_eq_zero (show (E b).length = 0 by omega))
      omega) _ 0 [] 0 (by rw [Nat.zero_add]) rfl InB.nil (by omega) (Aside0.mk (by rw [val_nil, Nat.pow_zero, List.drop_zero, List.drop_zero, E_val, E_val]; omega))
  exact Ev.congr (fun k => by unfold manorboyref02_Nat_Add.f; rfl) this
theorem subE_l0 (a b : List Int) (ha : InB B15 a) (hb : InB B15 b) (hla : a.length ≤ 8192) (S : Nat) : ∀ (d i : Nat) (x5 : List Int) (c : Nat), a.length = i + d → x5.length = i → InB B15 x5 → c ≤ 1 → Aside0 ((val B15 x5 : Int) + (B15 : Int) ^ i * ((val B15 (a.drop i) : Int) - c - val B15 (b.drop i)) = S) → Ev (fun k => manorboyref02_Nat_Sub.l0 k a b x5 (c : Int) (i : Int)) (E S)
  | 0, i, x5, c, hd, hx, hI, hc, hS => by
    replace hS := hS.out
    refine Ev.step (f := fun k => (manorboyref02_cut.f k x5).bind fun t => some t) (fun k => by rw [manorboyref02_Nat_Sub.l0, if_neg (by omega)]) ?_
    refine some_back (cut_ev hI (by omega) ?_)
    rw [val_drop_ge (show a.length ≤ i by omega)] at hS
    have hlt := val_lt hI
    rw [hx] at hlt
    have hlt' : (val B15 x5 : Int) < (B15 : Int) ^ i := by exact_mod_cast hlt
    have hP : (0 : Int) < (B15 : Int) ^ i := Int.pow_pos (by decide)
    generalize (B15 : Int) ^ i = P at *
    generalize hz : ((0 : Nat) : Int) - (c : Int) - (val B15 (b.drop i) : Int) = z at *
    rcases Int.lt_or_le z 0 with h | h
    · exfalso
      have := Int.mul_le_mul_of_nonneg_left (show z ≤ -1 by omega) (Int.le_of_lt hP)
      rw [Int.mul_neg, Int.mul_one] at this
      omega
    · have : z = 0 := by omega
      rw [this, Int.mul_zero, Int.add_zero] at hS
      omega
  | d + 1, i, x5, c, hd, hx, hI, hc, hS => by
    have hra := rd15 ha i
    have hrb := rd15 hb i
    obtain ⟨p, hp⟩ : ∃ p : Nat, rd a (i : Int) = p := ⟨(rd a (i : Int)).toNat, by omega⟩
    obtain ⟨q, hq⟩ : ∃ q : Nat, rd b (i : Int) = q := ⟨(rd b (i : Int)).toNat, by omega⟩
    have w1 : Aside0 (wrap64 ((i : Int) + 1) = ((i + 1 : Nat) : Int)) := Aside0.mk (by rw [w64 _ (by omega) (by omega)]; omega)
    have w2 : Aside0 (wrap64 ((p : Int) - (c : Int)) = (p : Int) - (c : Int)) := Aside0.mk (w64 _ (by omega) (by omega))
    have w3 : Aside0 (wrap64 ((p : Int) - (c : Int) - (q : Int)) = (p : Int) - (c : Int) - (q : Int)) := Aside0.mk (w64 _ (by omega) (by omega))
    have key : ∀ (z : Int), z = (p : Int) - c - q → Ev (fun k => manorboyref02_Nat_Sub.j1 k a b x5 (i : Int) z) (E S) := by
      intro z hz
      have f1 := val_drop (B := B15) a i
      have f2 := val_drop (B := B15) b i
      rw [← rd_nat, hp, Int.toNat_natCast] at f1
      rw [← rd_nat, hq, Int.toNat_natCast] at f2
      have step : ∀ (y c' : Nat), (y : Int) - 32768 * c' = z → y < 32768 → c' ≤ 1 → Ev (fun k => manorboyref02_Nat_Sub.l0 k a b (x5 ++ [(y : Int)]) (c' : Int) ((i + 1 : Nat) : Int)) (E S) := by
        intro y c' hy hy2 hc'
        refine subE_l0 a b ha hb hla S d (i + 1) _ _ (by omega) (by simp [hx]) (hI.snoc (by show _ ∧ _ < (32768 : Int); omega)) hc' (Aside0.mk ?_)
        replace hS := hS.out
        rw [f1, f2] at hS
        rw [val_snoc, hx, Int.toNat_natCast, Int.pow_succ, Int.natCast_add, Int.natCast_mul, Int.natCast_pow, ← hS, Int.mul_assoc, Int.add_assoc, ← Int.mul_add]
        congr 2
        rw [Int.natCast_add, Int.natCast_add, Int.natCast_mul, Int.natCast_mul]
        show (y : Int) + (32768 : Int) * _ = (p : Int) + (32768 : Int) * _ - c - ((q : Int) + (32768 : Int) * _)
        generalize (val B15 (a.drop (i + 1)) : Int) = R1
        generalize (val B15 (b.drop (i + 1)) : Int) = R2
        omega
      by_cases hn : z < 0
      · have w4 : wrap64 (z + 32768) = (((z + 32768).toNat : Nat) : Int) := by rw [w64 _ (by omega) (by omega)]; omega
        refine Ev.step (f := fun k => manorboyref02_Nat_Sub.l0 k a b (x5 ++ [(((z + 32768).toNat : Nat) : Int)]) ((1 : Nat) : Int) ((i + 1 : Nat) : Int)) (fun k => by rw [manorboyref02_Nat_Sub.j1, if_pos hn, if_pos (by omega), w4, w1.out]; rfl) ?_
        exact step _ 1 (by omega) (by omega) (by omega)
      · have w4 : z = ((z.toNat : Nat) : Int) := by omega
        refine Ev.step (f := fun k => manorboyref02_Nat_Sub.l0 k a b (x5 ++ [((z.toNat : Nat) : Int)]) ((0 : Nat) : Int) ((i + 1 : Nat) : Int)) (fun k => by rw [manorboyref02_Nat_Sub.j1, if_neg hn, if_pos (by omega), w1.out, ← w4]; rfl) ?_
        exact step _ 0 (by omega) (by omega) (by omega)
    by_cases hcb : i < b.length
    · exact Ev.step (fun k => by rw [manorboyref02_Nat_Sub.l0, if_pos (by omega), if_pos (Int.natCast_nonneg _), if_pos (by omega), hp, hq, w2.out, w3.out]) (key _ rfl)
    · have e : rd b (i : Int) = 0 := by rw [rd_nat, List.getD_eq_getElem?_getD, List.getElem?_eq_none (by omega)]; rfl
      exact Ev.step (fun k => by rw [manorboyref02_Nat_Sub.l0, if_pos (by omega), if_pos (Int.natCast_nonneg _), if_neg (by omega), hp, w2.out]) (key _ (by omega))
theorem subE_ev {a b : Nat} (ha : Se a) (hb : Se b) (hle : b ≤ a) : Ev (fun k => manorboyref02_Nat_Sub.f k (E a) (E b)) (E (a - b)) := by
  unfold Se at ha hb
  have := subE_l0 (E a) (E b) (E_in a) (E_in b) (by omega) (a - b) _ 0 [] 0 (by rw [Nat.zero_add]) rfl InB.nil (by omega) (Aside0.mk (by rw [val_nil, Int.pow_zero, List.drop_zero, List.drop_zero, E_val, E_val]; omega))
  exact Ev.congr (fun k => by unfold manorboyref02_Nat_Sub.f; rfl) this
theorem mulE_l1 (B : Nat) (hB : B = B15) (a b : List Int) (ha : InB B a) (hb : InB B b) (i : Nat) (hi : i < a.length) (hal : a.length ≤ 9000) (hbl : b.length ≤ 9000) {r : List Int} (T : Nat) :
    ∀ (d j : Nat) (x5 : List Int) (c : Nat), b.length = j + d → x5.length = a.length + b.length → InB B x5 → c < B → Aside0 (val B x5 + B ^ (i + j) * (c + (rd a (i : Int)).toNat * val B (b.drop j)) = T) → (∀ q : Nat, i + b.length ≤ q → rd x5 (q : Int) = 0) →
    (∀ x6 : List Int, x6.length = a.length + b.length → InB B x6 → val B x6 = T → (∀ q : Nat, i + b.length < q → rd x6 (q : Int) = 0) → Ev (fun k => manorboyref02_Nat_Mul.l0 k a b x6 ((i + 1 : Nat) : Int)) r) →
    Ev (fun k => manorboyref02_Nat_Mul.l1 k a b x5 (i : Int) (c : Int) (j : Int)) r
  | 0, j, x5, c, hd, hl, hI, hc, hT, hz, hk => by
    have hj : j = b.length := by omega
    subst hj
    have w2 : Aside0 (wrap64 ((i : Int) + 1) = ((i + 1 : Nat) : Int)) := Aside0.mk (by rw [w64 _ (by omega) (by omega)]; omega)
    replace hT := hT.out
    rw [val_drop_ge (Nat.le_refl _), Nat.mul_zero, Nat.add_zero] at hT
    by_cases h0 : (c : Int) > 0
    · have hB' : B = 32768 := hB
      have w1 : Aside0 (wrap64 ((i : Int) + (b.length : Int)) = ((i + b.length : Nat) : Int)) := Aside0.mk (by rw [w64 _ (by omega) (by omega)]; omega)
      have w3 : Aside0 (wrap64 ((b.length : Int) + 1) = ((b.length + 1 : Nat) : Int)) := Aside0.mk (by rw [w64 _ (by omega) (by omega)]; omega)
      have hr : rd x5 ((i + b.length : Nat) : Int) = 0 := hz _ (Nat.le_refl _)
      have w4 : Aside0 (wrap64 ((c : Int) + 0) = (c : Int)) := Aside0.mk (by rw [Int.add_zero]; exact w64 _ (by omega) (by omega))
      have e1 : Aside0 (Int.tmod (c : Int) 32768 = (c : Int)) := Aside0.mk (by rw [Int.tmod_eq_emod_of_nonneg (by omega)]; omega)
      have e2 : Aside0 (wrap64 (Int.tdiv (c : Int) 32768) = 0) := Aside0.mk (by rw [Int.tdiv_eq_ediv_of_nonneg (by omega), show (c : Int) / 32768 = 0 by omega]; exact w64 0 (by omega) (by omega))
      have ht : (decide ((c : Int) > 0)) = true := decide_eq_true h0
      have hix : ((i + b.length : Nat) : Int) < (x5.length : Int) := by omega
      refine Ev.step (f := fun k => manorboyref02_Nat_Mul.j2 k a b x5 (i : Int) (c : Int) (b.length : Int) true) (fun k => by rw [manorboyref02_Nat_Mul.l1, if_neg (by omega), ht]) ?_
      refine Ev.step (f := fun k => manorboyref02_Nat_Mul.l1 k a b (x5.set (i + b.length) (c : Int)) (i : Int) 0 ((b.length + 1 : Nat) : Int)) (fun k => by rw [manorboyref02_Nat_Mul.j2, if_pos rfl, w1.out, if_pos (Int.natCast_nonneg _), if_pos hix, if_neg (by omega), hr, w4.out, e1.out, e2.out, w3.out, Int.toNat_natCast]) ?_
      refine Ev.step (f := fun k => manorboyref02_Nat_Mul.j2 k a b (x5.set (i + b.length) (c : Int)) (i : Int) 0 ((b.length + 1 : Nat) : Int) false) (fun k => by rw [manorboyref02_Nat_Mul.l1, if_neg (by omega)]; rfl) ?_
      refine Ev.step (f := fun k => manorboyref02_Nat_Mul.l0 k a b (x5.set (i + b.length) (c : Int)) ((i + 1 : Nat) : Int)) (fun k => by rw [manorboyref02_Nat_Mul.j2, if_neg (by decide), w2.out]) ?_
      refine hk _ (by rw [List.length_set]; exact hl) (hI.set _ (by omega)) ?_ ?_
      · have f := val_set (B := B) x5 (i + b.length) (c : Int) (by omega)
        rw [← rd_nat, hr, Int.toNat_natCast, Int.toNat_zero, Nat.mul_zero, Nat.add_zero] at f
        omega
      · intro q hq
        have := hz q (by omega)
        rw [rd_nat] at this ⊢
        rw [List.getD_eq_getElem?_getD, List.getElem?_set_ne (by omega), ← List.getD_eq_getElem?_getD]; exact this
    · have c0 : c = 0 := by omega
      subst c0
      refine Ev.step (f := fun k => manorboyref02_Nat_Mul.j2 k a b x5 (i : Int) ((0 : Nat) : Int) (b.length : Int) false) (fun k => by rw [manorboyref02_Nat_Mul.l1, if_neg (by omega)]; rfl) ?_
      refine Ev.step (f := fun k => manorboyref02_Nat_Mul.l0 k a b x5 ((i + 1 : Nat) : Int)) (fun k => by rw [manorboyref02_Nat_Mul.j2, if_neg (by decide), w2.out]) ?_
      exact hk _ hl hI (by simpa using hT) (fun q hq => hz q (by omega))
  | d + 1, j, x5, c, hd, hl, hI, hc, hT, hz, hk => by
    have hB' : B = 32768 := hB
    have w1 : Aside0 (wrap64 ((i : Int) + (j : Int)) = ((i + j : Nat) : Int)) := Aside0.mk (by rw [w64 _ (by omega) (by omega)]; omega)
    have w2 : Aside0 (wrap64 ((j : Int) + 1) = ((j + 1 : Nat) : Int)) := Aside0.mk (by rw [w64 _ (by omega) (by omega)]; omega)
    have hra := rd15 (hB ▸ ha) i
    have hrb := rd15 (hB ▸ hb) j
    have hr5 := rd15 (hB ▸ hI) (i + j)
    obtain ⟨x', hx⟩ : ∃ x' : Nat, rd a (i : Int) = x' := ⟨(rd a (i : Int)).toNat, by omega⟩
    obtain ⟨y, hy⟩ : ∃ y : Nat, rd b (j : Int) = y := ⟨(rd b (j : Int)).toNat, by omega⟩
    obtain ⟨o, ho⟩ : ∃ o : Nat, rd x5 ((i + j : Nat) : Int) = o := ⟨(rd x5 ((i + j : Nat) : Int)).toNat, by omega⟩
    have hm : x' * y ≤ 32767 * 32767 := Nat.mul_le_mul (by omega) (by omega)
    have u1 : Aside0 (wrap64 ((x' : Int) * (y : Int)) = ((x' * y : Nat) : Int)) := Aside0.mk (by rw [← Int.natCast_mul, w64 _ (by omega) (by omega)])
    have u2 : Aside0 (wrap64 ((c : Int) + (o : Int)) = ((c + o : Nat) : Int)) := Aside0.mk (by rw [w64 _ (by omega) (by omega)]; omega)
    have u3 : Aside0 (wrap64 (((c + o : Nat) : Int) + ((x' * y : Nat) : Int)) = ((c + o + x' * y : Nat) : Int)) := Aside0.mk (by rw [w64 _ (by omega) (by omega)]; omega)
    have e1 : Aside0 (Int.tmod ((c + o + x' * y : Nat) : Int) 32768 = (((c + o + x' * y) % 32768 : Nat) : Int)) := Aside0.mk (by rw [Int.tmod_eq_emod_of_nonneg (by omega)]; omega)
    have e2 : Aside0 (wrap64 (Int.tdiv ((c + o + x' * y : Nat) : Int) 32768) = (((c + o + x' * y) / 32768 : Nat) : Int)) := Aside0.mk (by rw [Int.tdiv_eq_ediv_of_nonneg (by omega), w64 _ (by omega) (by omega)]; omega)
    have hix : ((i + j : Nat) : Int) < (x5.length : Int) := by omega
    refine Ev.step (f := fun k => manorboyref02_Nat_Mul.j2 k a b x5 (i : Int) (c : Int) (j : Int) true) (fun k => by rw [manorboyref02_Nat_Mul.l1, if_pos (by omega)]) ?_
    refine Ev.step (f := fun k => manorboyref02_Nat_Mul.l1 k a b (x5.set (i + j) (((c + o + x' * y) % 32768 : Nat) : Int)) (i : Int) (((c + o + x' * y) / 32768 : Nat) : Int) ((j + 1 : Nat) : Int)) (fun k => by
      rw [manorboyref02_Nat_Mul.j2, if_pos rfl, w1.out, if_pos (Int.natCast_nonneg _), if_pos hix, if_pos (by omega), if_pos (Int.natCast_nonneg _), if_pos (by omega), if_pos (Int.natCast_nonneg _), hx, hy, ho, u1.out, u2.out, u3.out, e1.out, e2.out, w2.out, Int.toNat_natCast]) ?_
    refine mulE_l1 B hB a b ha hb i hi hal hbl T d (j + 1) _ _ (by omega) (by rw [List.length_set]; exact hl) (hI.set _ (by omega)) (by omega) (Aside0.mk ?_) ?_ hk
    · replace hT := hT.out
      have f := val_set (B := B) x5 (i + j) (((c + o + x' * y) % 32768 : Nat) : Int) (by omega)
      rw [← rd_nat, ho, Int.toNat_natCast, Int.toNat_natCast] at f
      have g := val_drop (B := B) b j
      rw [← rd_nat, hy, Int.toNat_natCast] at g
      rw [g, hx, Int.toNat_natCast] at hT
      rw [← hT, show i + (j + 1) = (i + j) + 1 by omega, Nat.pow_succ, Nat.mul_assoc, hx]
      generalize B ^ (i + j) = P at *
      generalize val B (b.drop (j + 1)) = R at *
      rw [Int.toNat_natCast]
      refine Nat.add_right_cancel (m := P * o) ?_
      rw [Nat.add_right_comm, f, Nat.add_assoc (val B x5), Nat.add_assoc (val B x5), ← Nat.mul_add, ← Nat.mul_add]
      congr 2
      rw [hB']
      have : x' * (y + 32768 * R) = x' * y + 32768 * (x' * R) := by rw [Nat.mul_add, ← Nat.mul_assoc, Nat.mul_comm x' 32768, Nat.mul_assoc]
      rw [this, Nat.mul_add]
      generalize x' * R = Z
      generalize x' * y = W at *
      clear hT f g hm u1 u2 u3 e1 e2
      omega
    · intro q hq
      have := hz q (by omega)
      rw [rd_nat] at this ⊢
      rw [List.getD_eq_getElem?_getD, List.getElem?_set_ne (by omega), ← List.getD_eq_getElem?_getD]; exact this
theorem mulE_l0 (B : Nat) (hB : B = B15) (a b : List Int) (ha : InB B a) (hb : InB B b) (hla : a.length ≤ 9000) (hlb : b.length ≤ 9000) : ∀ (d i : Nat) (x5 : List Int), a.length = i + d → x5.length = a.length + b.length → InB B x5 → Aside0 (val B x5 + B ^ i * (val B (a.drop i) * val B b) = val B a * val B b) → (∀ q : Nat, i + b.length ≤ q → rd x5 (q : Int) = 0) →
    Ev (fun k => manorboyref02_Nat_Mul.l0 k a b x5 (i : Int)) (E (val B a * val B b))
  | 0, i, x5, hd, hl, hI, hT, hz => by
    replace hT := hT.out
    refine Ev.step (f := fun k => (manorboyref02_cut.f k x5).bind fun t => some t) (fun k => by rw [manorboyref02_Nat_Mul.l0, if_neg (by omega)]) ?_
    subst hB
    refine some_back (cut_ev hI (by omega) ?_)
    rw [val_drop_ge (by omega)] at hT
    simpa using hT
  | d + 1, i, x5, hd, hl, hI, hT, hz => by
    have hB' : B = 32768 := hB
    refine Ev.step (f := fun k => manorboyref02_Nat_Mul.l1 k a b x5 (i : Int) ((0 : Nat) : Int) ((0 : Nat) : Int)) (fun k => by rw [manorboyref02_Nat_Mul.l0, if_pos (by omega)]; rfl) ?_
    have g := val_drop (B := B) a i
    rw [← rd_nat] at g
    refine mulE_l1 B hB a b ha hb i (by omega) (by omega) (by omega) (val B x5 + B ^ i * ((rd a i).toNat * val B b)) b.length 0 x5 0 (by omega) hl hI (by omega) (Aside0.mk (by rw [Nat.add_zero, Nat.zero_add, List.drop_zero])) hz ?_
    intro x6 hl6 hI6 hv6 hz6
    refine mulE_l0 B hB a b ha hb hla hlb d (i + 1) x6 (by omega) hl6 hI6 (Aside0.mk ?_) (fun q hq => hz6 q (by omega))
    replace hT := hT.out
    rw [hv6, ← hT, g, Nat.pow_succ, Nat.mul_assoc, Nat.add_assoc, ← Nat.mul_add]
    congr 2
    rw [Nat.add_mul, Nat.mul_assoc]
theorem mulE_ev {a b : Nat} (ha : Se a) (hb : Se b) : Ev (fun k => manorboyref02_Nat_Mul.f k (E a) (E b)) (E (a * b)) := by
  unfold Se at ha hb
  have w : wrap64 (((E a).length : Int) + ((E b).length : Int)) = (((E a).length + (E b).length : Nat) : Int) := by rw [w64 _ (by omega) (by omega)]; omega
  refine Ev.congr (f := fun k => manorboyref02_Nat_Mul.l0 k (E a) (E b) (List.replicate ((E a).length + (E b).length) 0) ((0 : Nat) : Int)) (fun k => by unfold manorboyref02_Nat_Mul.f; rw [w, if_pos (Int.natCast_nonneg _), Int.toNat_natCast, if_pos (by omega)]; rfl) ?_
  have := mulE_l0 B15 rfl (E a) (E b) (E_in a) (E_in b) (by omega) (by omega) (E a).length 0 (List.replicate ((E a).length + (E b).length) 0) (by omega) (by simp) (InB.replicate (by decide) _) (Aside0.mk (by rw [val_replicate, Nat.pow_zero, List.drop_zero]; omega)) (fun q _ => by
    rw [rd_nat, List.getD_eq_getElem?_getD]
    rcases e : (List.replicate ((E a).length + (E b).length) (0 : Int))[q]? with _ | v
    · rfl
    · exact List.eq_of_mem_replicate (List.mem_of_getElem? e))
  rw [E_val, E_val] at this
  exact this
end Go.Proofs.YteigbokklclmbaaGreatDoor.M
end
section
namespace Go.Proofs.YteigbokklclmbaaGreatDoor.M
/-- The exponent (above the least one) and the mantissa of the real with an index. -/
def sh (i : Nat) : Nat := i / 8388608 - 1
def man (i : Nat) : Nat := i - sh i * 8388608
/-- The real with an index, in units of 2^-150. -/
def G (i : Nat) : Nat := man i * 2 ^ sh i
/-- The middle of two neighbours, in units of 2^-151. -/
def H (i : Nat) : Nat := G i + G (i + 1)
theorem G_succ (i : Nat) : G (i + 1) = G i + 2 ^ sh i := by
  have hs : (sh (i + 1) = sh i ∧ man (i + 1) = man i + 1) ∨ (sh (i + 1) = sh i + 1 ∧ man i = 16777215 ∧ man (i + 1) = 8388608) := by
    unfold man sh; omega
  unfold G
  rcases hs with ⟨h1, h2⟩ | ⟨h1, h2, h3⟩
  · rw [h1, h2, Nat.add_mul, Nat.one_mul]
  · rw [h1, h2, h3, Nat.pow_succ]; omega
theorem G_zero : G 0 = 0 := by unfold G man sh; rfl
theorem G_lt_succ (i : Nat) : G i < G (i + 1) := by
  rw [G_succ]; have := Nat.two_pow_pos (sh i); omega
theorem G_lt {i j : Nat} (h : i < j) : G i < G j := by
  induction h with
  | refl => exact G_lt_succ i
  | step _ ih => exact Nat.lt_trans ih (G_lt_succ _)
theorem H_lt {i j : Nat} (h : i < j) : H i < H j := by
  unfold H; have h1 := G_lt h; have h2 := G_lt (show i + 1 < j + 1 by omega); omega
theorem H_le {i j : Nat} (h : i ≤ j) : H i ≤ H j := by
  rcases Nat.lt_or_ge i j with h' | h'
  · exact Nat.le_of_lt (H_lt h')
  · rw [Nat.le_antisymm h h']; exact Nat.le_refl _
theorem H_inj {i j : Nat} (h : H i = H j) : i = j := by
  rcases Nat.lt_trichotomy i j with h' | h' | h'
  · have := H_lt h'; omega
  · exact h'
  · have := H_lt h'; omega
theorem H_eq (i : Nat) : H i = (2 * man i + 1) * 2 ^ sh i := by
  unfold H; rw [G_succ]; unfold G
  rw [Nat.add_mul, Nat.one_mul, Nat.mul_assoc]; omega
/-- A mantissa and an exponent, also where the mantissa is one too great. -/
theorem G_at (m u : Nat) (hm : m ≤ 16777216) (hu : u = 0 ∨ 8388608 ≤ m) : G (m + u * 8388608) = m * 2 ^ u := by
  unfold G
  rcases Nat.lt_or_ge m 16777216 with h | h
  · have h1 : sh (m + u * 8388608) = u := by unfold sh; omega
    have h2 : man (m + u * 8388608) = m := by unfold man; rw [h1]; omega
    rw [h1, h2]
  · have e : m = 16777216 := by omega
    subst e
    have h1 : sh (16777216 + u * 8388608) = u + 1 := by unfold sh; omega
    have h2 : man (16777216 + u * 8388608) = 8388608 := by unfold man; rw [h1]; omega
    rw [h1, h2, Nat.pow_succ]; omega
/-- I is the index of the rounded value of N / D, which is in units of 2^-150: to the nearest, on the middle to the even one. -/
def Rd (N D I : Nat) : Prop := (I = 0 ∨ (H (I - 1) * D ≤ 2 * N ∧ (H (I - 1) * D = 2 * N → I % 2 = 0))) ∧ 2 * N ≤ H I * D ∧ (2 * N = H I * D → I % 2 = 0)
theorem Rd.mono {N D I N' D' J : Nat} (hD : 0 < D) (hD' : 0 < D') (h : Rd N D I) (h' : Rd N' D' J) (hle : N * D' ≤ N' * D) : I ≤ J := by
  rcases Nat.lt_or_ge J I with hlt | hge
  · exfalso
    obtain ⟨h1, _⟩ := h
    obtain ⟨_, h2, h3⟩ := h'
    rcases h1 with h1 | ⟨h1, h4⟩
    · omega
    · have hH : H J ≤ H (I - 1) := H_le (by omega)
      -- H (I-1) * D * D' ≤ 2 N D' ≤ 2 N' D ≤ H J * D' * D
      have a1 : H (I - 1) * D * D' ≤ 2 * N * D' := Nat.mul_le_mul_right _ h1
      have a2 : 2 * N' * D ≤ H J * D' * D := Nat.mul_le_mul_right _ h2
      have a3 : H J * D' * D ≤ H (I - 1) * D' * D := Nat.mul_le_mul_right _ (Nat.mul_le_mul_right _ hH)
      have e1 : H (I - 1) * D' * D = H (I - 1) * D * D' := by rw [Nat.mul_assoc, Nat.mul_comm D' D, ← Nat.mul_assoc]
      have e2 : 2 * N * D' = 2 * (N * D') := Nat.mul_assoc _ _ _
      have e3 : 2 * N' * D = 2 * (N' * D) := Nat.mul_assoc _ _ _
      have b1 : H (I - 1) * D * D' = 2 * N * D' := by omega
      have b2 : 2 * N' * D = H J * D' * D := by omega
      have b3 : H J * D' * D = H (I - 1) * D' * D := by omega
      have c1 := Nat.eq_of_mul_eq_mul_right hD' b1
      have c2 := Nat.eq_of_mul_eq_mul_right hD b2
      have c3 := Nat.eq_of_mul_eq_mul_right hD' (Nat.eq_of_mul_eq_mul_right hD b3)
      have := h4 c1
      have := h3 c2
      have := H_inj c3
      omega
  · exact hge
theorem Rd.only {N D I N' D' J : Nat} (hD : 0 < D) (hD' : 0 < D') (h : Rd N D I) (h' : Rd N' D' J) (he : N * D' = N' * D) : I = J :=
  Nat.le_antisymm (h.mono hD hD' h' (Nat.le_of_eq he)) (h'.mono hD' hD h (Nat.le_of_eq he.symm))
theorem Rd.exact (I D : Nat) (hD : 0 < D) : Rd (G I * D) D I := by
  have h1 : 2 * (G I * D) = 2 * G I * D := (Nat.mul_assoc _ _ _).symm
  refine ⟨?_, ?_, ?_⟩
  · rcases Nat.eq_zero_or_pos I with h | h
    · exact .inl h
    · right
      have : H (I - 1) < 2 * G I := by
        unfold H; rw [show I - 1 + 1 = I by omega]; have := G_lt (show I - 1 < I by omega); omega
      have := Nat.mul_lt_mul_of_pos_right this hD
      rw [h1]
      exact ⟨Nat.le_of_lt this, fun e => by omega⟩
  · rw [h1]; refine Nat.mul_le_mul_right _ ?_
    unfold H; have := G_lt_succ I; omega
  · intro e
    rw [h1] at e
    have := Nat.eq_of_mul_eq_mul_right hD e
    unfold H at this; have := G_lt_succ I; omega
/-- The same fraction, the same index. -/
theorem Rd.congr {N D I N' D' : Nat} (hD : 0 < D) (hD' : 0 < D') (h : Rd N D I) (he : N * D' = N' * D) : Rd N' D' I := by
  have key : ∀ X : Nat, (X * D ≤ 2 * N ↔ X * D' ≤ 2 * N') ∧ (X * D = 2 * N ↔ X * D' = 2 * N') ∧ (2 * N ≤ X * D ↔ 2 * N' ≤ X * D') := by
    intro X
    have e1 : X * D * D' = X * D' * D := by rw [Nat.mul_assoc, Nat.mul_comm D D', ← Nat.mul_assoc]
    have e2 : 2 * N * D' = 2 * N' * D := by rw [Nat.mul_assoc, he, ← Nat.mul_assoc]
    refine ⟨?_, ?_, ?_⟩
    · rw [← Nat.mul_le_mul_right_iff hD', e1, e2, Nat.mul_le_mul_right_iff hD]
    · constructor
      · intro h; exact Nat.eq_of_mul_eq_mul_right hD (by rw [← e1, ← e2, h])
      · intro h; exact Nat.eq_of_mul_eq_mul_right hD' (by rw [e1, e2, h])
    · rw [← Nat.mul_le_mul_right_iff hD', e1, e2, Nat.mul_le_mul_right_iff hD]
  obtain ⟨h1, h2, h3⟩ := h
  refine ⟨?_, (key _).2.2.1 h2, fun e => h3 ((key _).2.1.2 e.symm).symm⟩
  rcases h1 with h1 | ⟨h1, h4⟩
  · exact .inl h1
  · exact .inr ⟨(key _).1.1 h1, fun e => h4 ((key _).2.1.2 e)⟩
/-- What the rounding by hand comes to: of n / d in units of 2^(u - 150), with a quotient of at most 24 bits, is rounded so. -/
theorem Rd.of_quo (n d u : Nat) (hd : 0 < d) (hq : n / d < 16777216) (hu : u = 0 ∨ 8388608 ≤ n / d) :
    Rd (n * 2 ^ u) d ((n / d + if d < 2 * (n % d) ∨ (d = 2 * (n % d) ∧ n / d % 2 = 1) then 1 else 0) + u * 8388608) := by
  have hn := Nat.div_add_mod n d
  have hr := Nat.mod_lt n hd
  generalize n / d = m at *
  generalize n % d = r at *
  have hP := Nat.two_pow_pos u
  have hG := G_at m u (by omega) hu
  have hG1 : G (m + u * 8388608 + 1) = (m + 1) * 2 ^ u := by
    have := G_at (m + 1) u (by omega) (by omega)
    rw [← this]; congr 1; omega
  have hH : H (m + u * 8388608) = (2 * m + 1) * 2 ^ u := by
    unfold H; rw [hG, hG1, ← Nat.add_mul]; congr 1; omega
  have hpar : (m + u * 8388608) % 2 = m % 2 := by omega
  have e1 : 2 * (n * 2 ^ u) = 2 * n * 2 ^ u := (Nat.mul_assoc _ _ _).symm
  have e2 : (2 * m + 1) * 2 ^ u * d = (2 * m + 1) * d * 2 ^ u := by rw [Nat.mul_assoc, Nat.mul_comm (2 ^ u) d, ← Nat.mul_assoc]
  have e3 : (2 * m + 1) * d = 2 * (d * m) + d := by rw [Nat.add_mul, Nat.one_mul, Nat.mul_assoc, Nat.mul_comm m d]
  have hlow : ∀ J, J = m + u * 8388608 → J = 0 ∨ (H (J - 1) * d ≤ 2 * (n * 2 ^ u) ∧ (H (J - 1) * d = 2 * (n * 2 ^ u) → J % 2 = 0)) := by
    intro J hJ
    rcases Nat.eq_zero_or_pos J with h | h
    · exact .inl h
    · right
      have h1 : H (J - 1) < 2 * (m * 2 ^ u) := by
        unfold H; rw [show J - 1 + 1 = J by omega]
        have h2 := G_lt (show J - 1 < J by omega)
        have h3 : G J = m * 2 ^ u := by rw [hJ, hG]
        omega
      have h2 := Nat.mul_lt_mul_of_pos_right h1 hd
      have h3 : 2 * (m * 2 ^ u) * d ≤ 2 * (n * 2 ^ u) := by
        rw [Nat.mul_assoc]
        refine Nat.mul_le_mul_left _ ?_
        rw [Nat.mul_assoc, Nat.mul_comm (2 ^ u) d, ← Nat.mul_assoc]
        refine Nat.mul_le_mul_right _ ?_
        rw [Nat.mul_comm m d]; omega
      exact ⟨by omega, fun e => by omega⟩
  split
  · rename_i hc
    have hI : m + 1 + u * 8388608 = m + u * 8388608 + 1 := by omega
    rw [hI]
    refine ⟨.inr ?_, ?_, ?_⟩
    · rw [Nat.add_sub_cancel, hH, e1, e2]
      constructor
      · refine Nat.mul_le_mul_right _ ?_
        omega
      · intro e
        have := Nat.eq_of_mul_eq_mul_right hP e
        omega
    · have : 2 * ((m + 1) * 2 ^ u) ≤ H (m + u * 8388608 + 1) := by
        unfold H; rw [hG1]; have := G_lt_succ (m + u * 8388608 + 1); rw [hG1] at this; omega
      have h2 := Nat.mul_le_mul_right d this
      have h3 : 2 * (n * 2 ^ u) ≤ 2 * ((m + 1) * 2 ^ u) * d := by
        rw [Nat.mul_assoc]
        refine Nat.mul_le_mul_left _ ?_
        rw [Nat.mul_assoc, Nat.mul_comm (2 ^ u) d, ← Nat.mul_assoc]
        refine Nat.mul_le_mul_right _ ?_
        rw [Nat.add_mul, Nat.one_mul, Nat.mul_comm m d]; omega
      omega
    · intro e
      exfalso
      have : 2 * ((m + 1) * 2 ^ u) < H (m + u * 8388608 + 1) := by
        unfold H; rw [hG1]; have := G_lt_succ (m + u * 8388608 + 1); rw [hG1] at this; omega
      have h2 := Nat.mul_lt_mul_of_pos_right this hd
      have h3 : 2 * (n * 2 ^ u) ≤ 2 * ((m + 1) * 2 ^ u) * d := by
        rw [Nat.mul_assoc]
        refine Nat.mul_le_mul_left _ ?_
        rw [Nat.mul_assoc, Nat.mul_comm (2 ^ u) d, ← Nat.mul_assoc]
        refine Nat.mul_le_mul_right _ ?_
        rw [Nat.add_mul, Nat.one_mul, Nat.mul_comm m d]; omega
      omega
  · rename_i hc
    rw [Nat.add_zero]
    refine ⟨hlow _ rfl, ?_, ?_⟩
    · rw [hH, e1, e2]
      refine Nat.mul_le_mul_right _ ?_
      omega
    · rw [hH, e1, e2]
      intro e
      have := Nat.eq_of_mul_eq_mul_right hP e
      omega
/-- A fraction num * 2^e / den, as a fraction in units of 2^x. -/
def nx (e x : Int) (num : Nat) : Nat := if x ≤ e then num * 2 ^ (e - x).toNat else num
def dx (e x : Int) (den : Nat) : Nat := if x ≤ e then den else den * 2 ^ (x - e).toNat
theorem dx_pos {e x : Int} {den : Nat} (h : 0 < den) : 0 < dx e x den := by
  unfold dx; split
  · exact h
  · exact Nat.mul_pos h (Nat.two_pow_pos _)
theorem frac_step (e x : Int) (num den : Nat) : nx e x num * dx e (x + 1) den = 2 * (nx e (x + 1) num * dx e x den) := by
  unfold nx dx
  rcases Int.lt_trichotomy x e with h | h | h
  · rw [if_pos (by omega), if_pos (by omega), if_pos (by omega), if_pos (by omega), show (e - x).toNat = (e - (x + 1)).toNat + 1 by omega, Nat.pow_succ]
    rw [← Nat.mul_assoc, Nat.mul_comm (num * 2 ^ _) 2, Nat.mul_assoc 2]
  · subst h
    rw [if_pos (by omega), if_neg (by omega), if_neg (by omega), if_pos (by omega), show (x - x).toNat = 0 by omega, show (x + 1 - x).toNat = 1 by omega, Nat.pow_zero, Nat.mul_one, Nat.pow_one]
    rw [← Nat.mul_assoc, Nat.mul_comm _ 2]
  · rw [if_neg (by omega), if_neg (by omega), if_neg (by omega), if_neg (by omega), show (x + 1 - e).toNat = (x - e).toNat + 1 by omega, Nat.pow_succ]
    rw [← Nat.mul_assoc, ← Nat.mul_assoc, Nat.mul_comm _ 2, Nat.mul_assoc]
theorem frac_at (e : Int) (num den : Nat) (hden : 0 < den) : ∀ u : Nat, nx e (-150 + u) num * 2 ^ u * dx e (-150) den = nx e (-150) num * dx e (-150 + u) den
  | 0 => by simp
  | u + 1 => by
    have ih := frac_at e num den hden u
    have hs := frac_step e (-150 + u) num den
    have hx : (-150 + (u : Int) + 1) = (-150 + ((u + 1 : Nat) : Int)) := by omega
    rw [hx] at hs
    have hp : 0 < dx e (-150 + u) den := dx_pos hden
    refine Nat.eq_of_mul_eq_mul_right hp ?_
    -- n' * 2^(u+1) * D * d = N * d' * d ; n * d' = 2 n' d ; n 2^u D = N d
    generalize nx e (-150 + u) num = n at *
    generalize nx e (-150 + ((u + 1 : Nat) : Int)) num = n' at *
    generalize dx e (-150 + u) den = d at *
    generalize dx e (-150 + ((u + 1 : Nat) : Int)) den = d' at *
    generalize nx e (-150) num = N at *
    generalize dx e (-150) den = D at *
    have h1 : n' * 2 ^ (u + 1) * D * d = 2 * (n' * d) * (2 ^ u * D) := by
      rw [Nat.pow_succ]; ac_rfl
    rw [h1, ← hs]
    have h2 : n * d' * (2 ^ u * D) = n * 2 ^ u * D * d' := by ac_rfl
    rw [h2, ih]; ac_rfl
end Go.Proofs.YteigbokklclmbaaGreatDoor.M
end
section
namespace Go.Proofs.YteigbokklclmbaaGreatDoor.M
open Go Go.RowKit Go.Proofs.YteigbokklclmbaaGreatDoor.Given Go.Proofs.YteigbokklclmbaaGreatDoorW.PrintWords Go.Proofs.YteigbokklclmbaaGreatDoorW.PrintLast Go.Proofs.YteigbokklclmbaaGreatDoorW.PrintMore Go.Proofs.YteigbokklclmbaaGreatDoor.Z
/-- The real with an index, and what rounding to it answers (1000 in the exponent's place: it panics). -/
def atI (I : Nat) : Int × Int := if I = 0 then (0, 0) else ((man I : Int), (sh I : Int) - 150)
def rres (I : Nat) : Int × Int := if 2533359615 < I then (0, 1000) else atI I
theorem rounded_j4 (x m : Int) : Ev (fun k => real_rounded.j4 k x m) (if x > 150 then (0, 1000) else if m = 0 then (0, 0) else (m, x)) := by
  refine Ev.step (f := fun _ => some (if x > 150 then (0, 1000) else if m = 0 then (0, 0) else (m, x))) (fun k => ?_) (Ev.now _)
  rw [real_rounded.j4]
  split
  · rfl
  · split <;> rfl
theorem rounded_j3 (u m : Nat) (hu : u ≤ 60000) (hm : m ≤ 16777216) (hc : u = 0 ∨ 8388608 ≤ m) : Ev (fun k => real_rounded.j3 k (-150 + (u : Int)) (m : Int)) (rres (m + u * 8388608)) := by
  have w : wrap64 (-150 + (u : Int) + 1) = -150 + (u : Int) + 1 := w64 _ (by omega) (by omega)
  by_cases h : (m : Int) = 16777216
  · refine Ev.step (f := fun k => real_rounded.j4 k (-150 + (u : Int) + 1) 8388608) (fun k => by rw [real_rounded.j3, if_pos h, w]) ?_
    have := rounded_j4 (-150 + (u : Int) + 1) 8388608
    have e : (if -150 + (u : Int) + 1 > 150 then ((0 : Int), (1000 : Int)) else if (8388608 : Int) = 0 then (0, 0) else (8388608, -150 + (u : Int) + 1)) = rres (m + u * 8388608) := by
      unfold rres atI
      have hs : sh (m + u * 8388608) = u + 1 := by unfold sh; omega
      have hmn : man (m + u * 8388608) = 8388608 := by unfold man; rw [hs]; omega
      rw [hs, hmn]
      by_cases hg : -150 + (u : Int) + 1 > 150
      · rw [if_pos hg, if_pos (by omega)]
      · rw [if_neg hg, if_neg (by omega), if_neg (by omega), if_neg (by omega)]
        congr 1; omega
    rw [← e]; exact this
  · refine Ev.step (f := fun k => real_rounded.j4 k (-150 + (u : Int)) (m : Int)) (fun k => by rw [real_rounded.j3, if_neg h]) ?_
    have := rounded_j4 (-150 + (u : Int)) (m : Int)
    have e : (if -150 + (u : Int) > 150 then ((0 : Int), (1000 : Int)) else if (m : Int) = 0 then (0, 0) else ((m : Int), -150 + (u : Int))) = rres (m + u * 8388608) := by
      unfold rres atI
      have hs : sh (m + u * 8388608) = u := by unfold sh; omega
      have hmn : man (m + u * 8388608) = m := by unfold man; rw [hs]; omega
      rw [hs, hmn]
      by_cases hg : -150 + (u : Int) > 150
      · rw [if_pos hg, if_pos (by omega)]
      · by_cases hz : (m : Int) = 0
        · rw [if_neg hg, if_pos hz, if_neg (by omega), if_pos (by omega)]
        · rw [if_neg hg, if_neg hz, if_neg (by omega), if_neg (by omega)]
          congr 1 <;> omega
    rw [← e]; exact this
theorem rounded_j2 (u m : Nat) (b : Bool) (hu : u ≤ 60000) (hm : m < 16777216) (hc : u = 0 ∨ 8388608 ≤ m) : Ev (fun k => real_rounded.j2 k (-150 + (u : Int)) (m : Int) b) (rres ((m + if b = true then 1 else 0) + u * 8388608)) := by
  by_cases h : b = true
  · have w : wrap64 ((m : Int) + 1) = ((m + 1 : Nat) : Int) := by rw [w64 _ (by omega) (by omega)]; omega
    rw [if_pos h]
    refine Ev.step (fun k => by rw [real_rounded.j2, if_pos h, w]) (rounded_j3 u (m + 1) hu (by omega) (by omega))
  · rw [if_neg h, Nat.add_zero]
    exact Ev.step (fun k => by rw [real_rounded.j2, if_neg h]) (rounded_j3 u m hu (by omega) hc)
/-- Where the quotient has at most 24 bits. -/
theorem rounded_stop (num den n d u : Nat) (e : Int) (hd : 0 < d) (hn : bl n ≤ 30000) (hdd : bl d ≤ 29990) (hu : u ≤ 60000) (hq : n / d < 16777216) (hc : u = 0 ∨ 8388608 ≤ n / d) :
    Ev (fun k => real_rounded.j1 k (D num) e (D den) (-150 + (u : Int)) (D n) (D d)) (rres ((n / d + if d < 2 * (n % d) ∨ (d = 2 * (n % d) ∧ n / d % 2 = 1) then 1 else 0) + u * 8388608)) := by
  have hr := Nat.mod_lt n hd
  have b1 := bl_mono (Nat.le_of_lt hr)
  have b2 := bl_shift (n % d) 1
  rw [Nat.pow_one] at b2
  have b3 : bl (n / d) ≤ 24 := bl_le_iff.2 hq
  have hdiv := div_ev hd hn (show bl d ≤ 30000 by omega)
  clear hn
  generalize n / d = q at *
  generalize n % d = r at *
  have sq : Sm q := Sm.bl (by omega)
  have sr : Sm (r) := Sm.bl (by omega)
  have sr2 : Sm (r * 2) := Sm.bl (by omega)
  have sd : Sm d := Sm.bl (by omega)
  have hsh : Ev (fun k => real_nat_shl.f k (D (r)) 1) (D (r * 2)) := by
    have := shl_ev sr 1 (by decide)
    rw [Nat.pow_one] at this; exact this
  have hbl : ¬ ((bl (q) : Int) > 24) := by
    omega
  have w : wrap64 ((q : Nat) : Int) = ((q : Nat) : Int) := w64 _ (by omega) (by omega)
  refine Ev.step (fun k => by rw [real_rounded.j1]) ?_
  refine Ev.bind hdiv (Ev.bind (bits_ev sq) ?_)
  dsimp only
  refine Ev.congr (f := fun k => (real_nat_small.f k (D (q))).bind fun t195 => (real_nat_shl.f k (D (r)) 1).bind fun t196 => (real_nat_cmp.f k t196 (D d)).bind fun t199 => if t199 > 0 then real_rounded.j2 k (-150 + (u : Int)) (wrap64 t195) true else if t199 = 0 then real_rounded.j2 k (-150 + (u : Int)) (wrap64 t195) ((Int.tmod (wrap64 t195) 2) == 1) else real_rounded.j2 k (-150 + (u : Int)) (wrap64 t195) false) (fun k => by rw [if_neg hbl]) ?_
  refine Ev.bind (small_ev (by omega)) (Ev.bind hsh (Ev.bind (cmp_ev sr2 sd) ?_))
  rw [w]
  by_cases h1 : d < 2 * (r)
  · have e1 : cmpN (r * 2) d = 1 := by unfold cmpN; rw [if_neg (by omega), if_neg (by omega)]
    rw [e1, if_pos (Or.inl h1)]
    have := rounded_j2 u (q) true hu hq hc
    rw [if_pos rfl] at this
    exact Ev.congr (fun k => by rw [if_pos (by omega)]) this
  · by_cases h2 : d = 2 * (r)
    · have e1 : cmpN (r * 2) d = 0 := by unfold cmpN; rw [if_neg (by omega), if_pos (by omega)]
      rw [e1]
      have ht : (Int.tmod ((q : Nat) : Int) 2 == 1) = decide (q % 2 = 1) := by
        rw [Int.tmod_eq_emod_of_nonneg (by omega)]
        by_cases h : q % 2 = 1
        · rw [decide_eq_true h, beq_iff_eq]; omega
        · rw [decide_eq_false h, beq_eq_false_iff_ne]; omega
      have := rounded_j2 u (q) (decide (q % 2 = 1)) hu hq hc
      have e2 : (if decide (q % 2 = 1) = true then 1 else 0) = (if d < 2 * (r) ∨ (d = 2 * (r) ∧ q % 2 = 1) then 1 else 0) := by
        by_cases h : q % 2 = 1
        · rw [if_pos (by simpa using h), if_pos (Or.inr ⟨h2, h⟩)]
        · rw [if_neg (by simpa using h), if_neg (by rintro (h' | h') <;> omega)]
      rw [e2] at this
      exact Ev.congr (fun k => by rw [if_neg (by omega), if_pos rfl, ht]) this
    · have e1 : cmpN (r * 2) d = -1 := by unfold cmpN; rw [if_pos (by omega)]
      rw [e1, if_neg (by rintro (h' | h') <;> omega)]
      have := rounded_j2 u (q) false hu hq hc
      rw [if_neg (by decide)] at this
      exact Ev.congr (fun k => by rw [if_neg (by omega), if_neg (by omega)]) this
/-- The state of a round: how great the fraction's parts are, and how the shifts come to them. -/
theorem go_ (num den : Nat) (e : Int) (hnum : bl num ≤ 10000) (hden : 0 < den) (hden2 : bl den ≤ 10000) (he0 : -10000 ≤ e) (he1 : e ≤ 10000) (u : Nat) (hx : (-150 + (u : Int)) - e ≤ 10100) :
    bl (nx e (-150 + u) num) ≤ 30000 ∧ bl (dx e (-150 + u) den) ≤ 29990 ∧ ∀ r, Ev (fun k => real_rounded.j1 k (D num) e (D den) (-150 + (u : Int)) (D (nx e (-150 + u) num)) (D (dx e (-150 + u) den))) r → Ev (fun k => real_rounded.l0 k (D num) e (D den) (-150 + (u : Int))) r := by
  have sn : Sm num := Sm.bl (by omega)
  have sd : Sm den := Sm.bl (by omega)
  unfold nx dx
  by_cases h : -150 + (u : Int) ≤ e
  · rw [if_pos h, if_pos h]
    refine ⟨?_, by omega, fun r hr => ?_⟩
    · have := bl_shift num (e - (-150 + (u : Int))).toNat; omega
    · have w : wrap64 (e - (-150 + (u : Int))) = ((e - (-150 + (u : Int))).toNat : Int) := by rw [w64 _ (by omega) (by omega)]; omega
      refine Ev.step (f := fun k => (real_nat_shl.f k (D num) ((e - (-150 + (u : Int))).toNat : Int)).bind fun t => real_rounded.j1 k (D num) e (D den) (-150 + (u : Int)) t (D den)) (fun k => by rw [real_rounded.l0, if_pos (by omega), w]) ?_
      exact Ev.bind (shl_ev sn _ (by omega)) hr
  · rw [if_neg h, if_neg h]
    refine ⟨by omega, ?_, fun r hr => ?_⟩
    · have := bl_shift den ((-150 + (u : Int)) - e).toNat; omega
    · have w : wrap64 ((-150 + (u : Int)) - e) = (((-150 + (u : Int)) - e).toNat : Int) := by rw [w64 _ (by omega) (by omega)]; omega
      refine Ev.step (f := fun k => (real_nat_shl.f k (D den) (((-150 + (u : Int)) - e).toNat : Int)).bind fun t => real_rounded.j1 k (D num) e (D den) (-150 + (u : Int)) (D num) t) (fun k => by rw [real_rounded.l0, if_neg (by omega), w]) ?_
      exact Ev.bind (shl_ev sd _ (by omega)) hr
theorem stop_ (num den : Nat) (e : Int) (hnum : bl num ≤ 10000) (hden : 0 < den) (hden2 : bl den ≤ 10000) (he0 : -10000 ≤ e) (he1 : e ≤ 10000) (u : Nat) (hx : (-150 + (u : Int)) - e ≤ 10100)
    (hq : nx e (-150 + u) num / dx e (-150 + u) den < 16777216) (hge : u = 0 ∨ 8388608 * dx e (-150 + u) den ≤ nx e (-150 + u) num) :
    ∃ I, Rd (nx e (-150) num) (dx e (-150) den) I ∧ Ev (fun k => real_rounded.l0 k (D num) e (D den) (-150 + (u : Int))) (rres I) := by
  have hdp : 0 < dx e (-150 + u) den := dx_pos hden
  have hgo := go_ num den e hnum hden hden2 he0 he1 u hx
  have hc : u = 0 ∨ 8388608 ≤ nx e (-150 + u) num / dx e (-150 + u) den := by
    rcases hge with h | h
    · exact .inl h
    · right; rw [Nat.le_div_iff_mul_le hdp]; exact h
  refine ⟨_, Rd.congr hdp (dx_pos hden) (Rd.of_quo _ _ u hdp hq hc) (frac_at e num den hden u), hgo.2.2 _ ?_⟩
  exact rounded_stop num den _ _ u e hdp hgo.1 hgo.2.1 (by omega) hq hc
theorem rounded_l0 (num den : Nat) (e : Int) (hnum : bl num ≤ 10000) (hden : 0 < den) (hden2 : bl den ≤ 10000) (he0 : -10000 ≤ e) (he1 : e ≤ 10000) :
    ∀ (j u : Nat), (-150 + (u : Int)) - e + j ≤ 10100 → nx e (-150 + u) num < 2 ^ (24 + j) * dx e (-150 + u) den → (u = 0 ∨ 8388608 * dx e (-150 + u) den ≤ nx e (-150 + u) num) →
    ∃ I, Rd (nx e (-150) num) (dx e (-150) den) I ∧ Ev (fun k => real_rounded.l0 k (D num) e (D den) (-150 + (u : Int))) (rres I) := by
  intro j
  induction j with
  | zero => 
    intro u hx hlt hge
    rw [show (2 : Nat) ^ (24 + 0) = 16777216 by decide] at hlt
    exact stop_ num den e hnum hden hden2 he0 he1 u (by omega) (by rw [Nat.div_lt_iff_lt_mul (dx_pos hden)]; exact hlt) hge
  | succ j ih =>
    intro u hx hlt hge
    have hdp : 0 < dx e (-150 + u) den := dx_pos hden
    by_cases hq : nx e (-150 + u) num / dx e (-150 + u) den < 16777216
    · exact stop_ num den e hnum hden hden2 he0 he1 u (by omega) hq hge
    · have hq' : 16777216 * dx e (-150 + u) den ≤ nx e (-150 + u) num := by
        rw [← Nat.le_div_iff_mul_le hdp]; omega
      have hs := frac_step e (-150 + u) num den
      have hxx : (-150 + (u : Int) + 1) = (-150 + ((u + 1 : Nat) : Int)) := by omega
      rw [hxx] at hs
      have hdp' : 0 < dx e (-150 + ((u + 1 : Nat) : Int)) den := dx_pos hden
      have up : nx e (-150 + ((u + 1 : Nat) : Int)) num < 2 ^ (24 + j) * dx e (-150 + ((u + 1 : Nat) : Int)) den := by
        have h1 := Nat.mul_lt_mul_of_pos_right hlt hdp'
        rw [hs, show 24 + (j + 1) = (24 + j) + 1 from rfl, Nat.pow_succ] at h1
        clear hlt hge hq hq' hs ih
        generalize (2 : Nat) ^ (24 + j) = P at *
        generalize nx e (-150 + ((u + 1 : Nat) : Int)) num = n' at *
        generalize dx e (-150 + ((u + 1 : Nat) : Int)) den = d' at *
        generalize dx e (-150 + (u : Int)) den = d at *
        have h2 : P * 2 * d * d' = 2 * (P * d' * d) := by ac_rfl
        rw [h2] at h1
        exact Nat.lt_of_mul_lt_mul_right (a := d) (Nat.lt_of_mul_lt_mul_left (a := 2) h1)
      have low : 8388608 * dx e (-150 + ((u + 1 : Nat) : Int)) den ≤ nx e (-150 + ((u + 1 : Nat) : Int)) num := by
        have h1 := Nat.mul_le_mul_right (dx e (-150 + ((u + 1 : Nat) : Int)) den) hq'
        rw [hs] at h1
        clear hlt hge hq hq' hs ih up
        generalize nx e (-150 + ((u + 1 : Nat) : Int)) num = n' at *
        generalize dx e (-150 + ((u + 1 : Nat) : Int)) den = d' at *
        generalize dx e (-150 + (u : Int)) den = d at *
        have h2 : 16777216 * d * d' = 2 * (8388608 * d' * d) := by
          rw [show (16777216 : Nat) = 2 * 8388608 by decide]; ac_rfl
        rw [h2] at h1
        exact Nat.le_of_mul_le_mul_right (Nat.le_of_mul_le_mul_left h1 (by decide)) hdp
      obtain ⟨I, hR, hE⟩ := ih (u + 1) (by omega) up (.inr low)
      refine ⟨I, hR, ?_⟩
      have hgo := go_ num den e hnum hden hden2 he0 he1 u (by omega)
      have sq : Sm (nx e (-150 + u) num / dx e (-150 + u) den) := Sm.bl (by have := bl_mono (Nat.div_le_self (nx e (-150 + u) num) (dx e (-150 + u) den)); have := hgo.1; omega)
      have hbl : (bl (nx e (-150 + u) num / dx e (-150 + u) den) : Int) > 24 := by
        have : ¬ bl (nx e (-150 + u) num / dx e (-150 + u) den) ≤ 24 := fun h => hq (bl_le_iff.1 h)
        omega
      have w : wrap64 (-150 + (u : Int) + 1) = -150 + ((u + 1 : Nat) : Int) := by rw [w64 _ (by omega) (by omega)]; omega
      refine hgo.2.2 _ (Ev.step (fun k => by rw [real_rounded.j1]) ?_)
      refine Ev.bind (div_ev hdp hgo.1 (by have := hgo.2.1; omega)) (Ev.bind (bits_ev sq) ?_)
      dsimp only
      exact Ev.congr (fun k => by rw [if_pos hbl, w]) hE
theorem rounded_ev (num den : Nat) (e : Int) (hnum : bl num ≤ 10000) (hden : 0 < den) (hden2 : bl den ≤ 10000) (he0 : -10000 ≤ e) (he1 : e ≤ 10000) :
    ∃ I, Rd (nx e (-150) num) (dx e (-150) den) I ∧ Ev (fun k => real_rounded.f k (D num) e (D den)) (rres I) := by
  rcases Nat.eq_zero_or_pos num with h0 | h0
  · subst h0
    refine ⟨0, ⟨.inl rfl, ?_, fun _ => rfl⟩, ?_⟩
    · have : nx e (-150) 0 = 0 := by unfold nx; split <;> simp
      rw [this]; omega
    · refine Ev.congr (f := fun _ => some (0, 0)) (fun k => by rw [show D 0 = [] from dg_zero]; rfl) ?_
      exact Ev.now _
  · have sn : Sm num := Sm.bl (by omega)
    have sd : Sm den := Sm.bl (by omega)
    have hne : (D num).length ≠ 0 := fun e => by
      have := (dg_nil (n := num) B2).1 (List.eq_nil_of_length_eq_zero e); omega
    have w1 : wrap64 ((bl num : Int) - (bl den : Int)) = (bl num : Int) - (bl den : Int) := w64 _ (by omega) (by omega)
    have w2 : wrap64 ((bl num : Int) - (bl den : Int) + e) = (bl num : Int) - (bl den : Int) + e := w64 _ (by omega) (by omega)
    have w3 : wrap64 ((bl num : Int) - (bl den : Int) + e - 24) = (bl num : Int) - (bl den : Int) + e - 24 := w64 _ (by omega) (by omega)
    have w4 : wrap64 ((bl num : Int) - (bl den : Int) + e - 24 - 1) = (bl num : Int) - (bl den : Int) + e - 24 - 1 := w64 _ (by omega) (by omega)
    obtain ⟨u, hu⟩ : ∃ u : Nat, mx (-150) ((bl num : Int) - (bl den : Int) + e - 24 - 1) = -150 + (u : Int) := ⟨(mx (-150) ((bl num : Int) - (bl den : Int) + e - 24 - 1) + 150).toNat, by unfold mx; split <;> omega⟩
    have hu1 : (bl num : Int) - (bl den : Int) + e - 25 ≤ -150 + (u : Int) := by unfold mx at hu; split at hu <;> omega
    have hu2 : u = 0 ∨ (bl num : Int) - (bl den : Int) + e - 25 = -150 + (u : Int) := by unfold mx at hu; split at hu <;> omega
    have p1 := bl_pos' h0
    have p2 := bl_pos' hden
    obtain ⟨I, hR, hE⟩ := rounded_l0 num den e hnum hden hden2 he0 he1 2 u (by omega) (by
      have a1 := bl_lt num
      have a2 := bl_ge hden
      unfold nx dx
      by_cases h : -150 + (u : Int) ≤ e
      · rw [if_pos h, if_pos h]
        have c1 := Nat.mul_lt_mul_of_pos_right a1 (Nat.two_pow_pos (e - (-150 + (u : Int))).toNat)
        rw [← Nat.pow_add] at c1
        have c2 := Nat.mul_le_mul_left (2 ^ (24 + 2)) a2
        rw [← Nat.pow_add] at c2
        have c3 : 2 ^ (bl num + (e - (-150 + (u : Int))).toNat) ≤ 2 ^ (24 + 2 + (bl den - 1)) := Nat.pow_le_pow_right (by decide) (by omega)
        exact Nat.lt_of_lt_of_le c1 (Nat.le_trans c3 c2)
      · rw [if_neg h, if_neg h]
        have c2 := Nat.mul_le_mul_left (2 ^ (24 + 2)) (Nat.mul_le_mul_right (2 ^ ((-150 + (u : Int)) - e).toNat) a2)
        rw [← Nat.pow_add, ← Nat.pow_add] at c2
        have c3 : 2 ^ (bl num) ≤ 2 ^ (24 + 2 + (bl den - 1 + ((-150 + (u : Int)) - e).toNat)) := Nat.pow_le_pow_right (by decide) (by omega)
        exact Nat.lt_of_lt_of_le a1 (Nat.le_trans c3 c2)) (by
      rcases hu2 with hu2 | hu2
      · exact .inl hu2
      · right
        have a1 := bl_ge h0
        have a2 := bl_lt den
        unfold nx dx
        by_cases h : -150 + (u : Int) ≤ e
        · rw [if_pos h, if_pos h]
          have c1 := Nat.mul_le_mul_right (2 ^ (e - (-150 + (u : Int))).toNat) a1
          rw [← Nat.pow_add] at c1
          have c2 := Nat.mul_le_mul_left (2 ^ 23) (Nat.le_of_lt a2)
          rw [← Nat.pow_add] at c2
          have c3 : 2 ^ (23 + bl den) ≤ 2 ^ (bl num - 1 + (e - (-150 + (u : Int))).toNat) := Nat.pow_le_pow_right (by decide) (by omega)
          exact Nat.le_trans c2 (Nat.le_trans c3 c1)
        · rw [if_neg h, if_neg h]
          have c2 := Nat.mul_le_mul_left (2 ^ 23) (Nat.mul_le_mul_right (2 ^ ((-150 + (u : Int)) - e).toNat) (Nat.le_of_lt a2))
          rw [← Nat.pow_add, ← Nat.pow_add] at c2
          have c3 : 2 ^ (23 + (bl den + ((-150 + (u : Int)) - e).toNat)) ≤ 2 ^ (bl num - 1) := Nat.pow_le_pow_right (by decide) (by omega)
          exact Nat.le_trans c2 (Nat.le_trans c3 a1))
    refine ⟨I, hR, ?_⟩
    refine Ev.congr (f := fun k => (real_nat_bits.f k (D num)).bind fun t180 => (real_nat_bits.f k (D den)).bind fun t181 => real_rounded.l0 k (D num) e (D den) (mx (-150) (wrap64 (wrap64 (wrap64 (wrap64 (t180 - t181) + e) - 24) - 1)))) (fun k => by unfold real_rounded.f; rw [if_neg (by omega)]) ?_
    refine Ev.bind (bits_ev sn) (Ev.bind (bits_ev sd) ?_)
    rw [w1, w2, w3, w4, hu]
    exact hE
end Go.Proofs.YteigbokklclmbaaGreatDoor.M
end
section
namespace Go.Proofs.YteigbokklclmbaaGreatDoor.M
open Go Go.RowKit Go.Proofs.YteigbokklclmbaaGreatDoor.Given Go.Proofs.YteigbokklclmbaaGreatDoorW.PrintWords Go.Proofs.YteigbokklclmbaaGreatDoorW.PrintLast Go.Proofs.YteigbokklclmbaaGreatDoorW.PrintMore Go.Proofs.YteigbokklclmbaaGreatDoor.Z Go.Proofs.YteigbokklclmbaaGreatDoor.Z.Y Go.Proofs.YteigbokklclmbaaGreatDoor.Z.Y.V
/-- A sign laid on a real. -/
def sgn (neg : Bool) (p : Int × Int) : Int × Int := (if neg = true then -p.1 else p.1, p.2)
theorem bl_two (s : Nat) : bl (2 ^ s) ≤ s + 1 := bl_le_iff.2 (Nat.pow_lt_pow_right (by decide) (by omega))
theorem man_bd (I : Nat) : man I < 16777216 := by unfold man sh; omega
theorem atE_ev (I : Nat) (h : I ≤ 2533359616) : Ev (fun k => manorboyref02_At.f k (I : Int)) (atI I) := by
  have hn : ¬ ((I : Int) < 0) := by omega
  refine Ev.step (f := fun _ => some (atI I)) (fun k => ?_) (Ev.now _)
  rw [manorboyref02_At.f, if_neg hn]
  unfold atI
  by_cases h1 : (I : Int) < 16777216
  · rw [if_pos h1]
    by_cases h0 : (I : Int) = 0
    · rw [if_pos h0, if_pos (by omega)]
    · rw [if_neg h0, if_neg (by omega)]
      have h2 : sh I = 0 := by unfold sh; omega
      have h3 : man I = I := by unfold man; rw [h2]; omega
      rw [h2, h3]; rfl
  · rw [if_neg h1, if_neg (by omega)]
    have e1 : wrap64 ((I : Int) / 8388608 - 1) = ((sh I : Nat) : Int) := by
      rw [w64 _ (by omega) (by omega)]; unfold sh; omega
    have e2 : wrap64 (((sh I : Nat) : Int) * 8388608) = ((sh I : Nat) : Int) * 8388608 := w64 _ (by unfold sh; omega) (by unfold sh; omega)
    have e3 : wrap64 ((I : Int) - ((sh I : Nat) : Int) * 8388608) = ((man I : Nat) : Int) := by
      rw [w64 _ (by unfold sh; omega) (by unfold sh; omega)]; unfold man sh; omega
    have e4 : wrap64 (((sh I : Nat) : Int) - 150) = ((sh I : Nat) : Int) - 150 := w64 _ (by unfold sh; omega) (by unfold sh; omega)
    rw [e1, e2, e3, e4]
theorem atN_ev (I : Nat) (h : I ≤ 2533359616) : Ev (fun k => manorboyref02_At.f k (-(I : Int))) (sgn true (atI I)) := by
  rcases Nat.eq_zero_or_pos I with h0 | h0
  · subst h0
    exact atE_ev 0 (by omega)
  · have w : wrap64 (- -(I : Int)) = (I : Int) := by rw [w64 _ (by omega) (by omega)]; omega
    refine Ev.step (f := fun k => (manorboyref02_At.f k (I : Int)).bind fun bt => some (wrap64 (-bt.1), bt.2)) (fun k => by rw [manorboyref02_At.f, if_pos (by omega), w]) ?_
    refine Ev.bind (atE_ev I h) ?_
    have hm := man_bd I
    have e : wrap64 (-(atI I).1) = -(atI I).1 := by
      unfold atI; rw [if_neg (by omega)]; exact w64 _ (by show -9223372036854775808 ≤ -((man I : Nat) : Int); omega) (by show -((man I : Nat) : Int) ≤ _; omega)
    rw [e]
    unfold sgn
    rw [if_pos rfl]; exact Ev.now _
theorem half_ev (I : Nat) (h : I ≤ 2533359616) : Ev (fun k => manorboyref02_half.f k (I : Int)) (E (H I)) := by
  have hm := man_bd I
  have hs : sh I ≤ 302 := by unfold sh; omega
  have w1 : wrap64 (2 * ((man I : Nat) : Int)) = ((2 * man I : Nat) : Int) := by rw [w64 _ (by omega) (by omega)]; omega
  have w2 : wrap64 (((2 * man I : Nat) : Int) + 1) = ((2 * man I + 1 : Nat) : Int) := by rw [w64 _ (by omega) (by omega)]; omega
  have key : ∀ (x4 b : Int), x4 = ((sh I : Nat) : Int) - 150 → Ev (fun k => manorboyref02_half.j0 k x4 ((man I : Nat) : Int) b) (E (H I)) := by
    intro x4 b hx
    have w3 : wrap64 (x4 + 150) = ((sh I : Nat) : Int) := by rw [w64 _ (by omega) (by omega)]; omega
    refine Ev.step (f := fun k => (manorboyref02_Small.f k ((2 * man I + 1 : Nat) : Int)).bind fun t140 => (manorboyref02_Two.f ((sh I : Nat) : Int)).bind fun t143 => (manorboyref02_Nat_Mul.f k t140 t143).bind fun t146 => some t146) (fun k => by rw [manorboyref02_half.j0, w1, w2, w3]) ?_
    refine Ev.bind (smallE_ev (by omega)) (Ev.bind (two_Ev _ (by omega)) ?_)
    have b1 : bl (2 * man I + 1) ≤ 25 := bl_le_iff.2 (by omega)
    have b2 := bl_two (sh I)
    have := mulE_ev (a := 2 * man I + 1) (b := 2 ^ sh I) (Se.of (by omega)) (Se.of (by omega))
    rw [← H_eq] at this
    exact some_back this
  refine Ev.congr (f := fun k => (manorboyref02_At.f k (I : Int)).bind fun bt137 => if (I : Int) = 0 then manorboyref02_half.j0 k (-150) bt137.1 bt137.2 else manorboyref02_half.j0 k bt137.2 bt137.1 bt137.2) (fun k => rfl) ?_
  refine Ev.bind (atE_ev I h) ?_
  rcases Nat.eq_zero_or_pos I with h0 | h0
  · subst h0
    exact Ev.congr (fun k => if_pos rfl) (key (-150) _ (by have : sh 0 = 0 := rfl; rw [this]; rfl))
  · have e : atI I = (((man I : Nat) : Int), ((sh I : Nat) : Int) - 150) := by unfold atI; rw [if_neg (by omega)]
    rw [e]
    exact Ev.congr (fun k => if_neg (by omega)) (key _ _ rfl)
theorem bl_H (I : Nat) (h : I ≤ 2533359616) : bl (H I) ≤ 328 := by
  have hm := man_bd I
  have hs : sh I ≤ 302 := by unfold sh; omega
  rw [H_eq]
  have b1 : bl (2 * man I + 1) ≤ 25 := bl_le_iff.2 (by omega)
  have := bl_shift (2 * man I + 1) (sh I)
  omega
theorem H_odd (I : Nat) : man I % 2 = I % 2 := by unfold man sh; omega
/-- What the specification's rounding answers. -/
def rref (neg : Bool) (I : Nat) : Int × Int × Bool := if 2533359615 < I then (0, 0, false) else ((sgn neg (atI I)).1, (sgn neg (atI I)).2, true)
theorem round_j2 (neg : Bool) (a b : List Int) (I : Nat) (h : I ≤ 2533359616) : Ev (fun k => manorboyref02_Quotient_Round.j2 k (I : Int) neg a b) (rref neg I) := by
  unfold rref
  by_cases hI : (I : Int) > 2533359615
  · rw [if_pos (by omega)]
    exact Ev.step (fun k => by rw [manorboyref02_Quotient_Round.j2, if_pos hI]) (Ev.now _)
  · rw [if_neg (by omega)]
    have w : wrap64 (-(I : Int)) = -(I : Int) := w64 _ (by omega) (by omega)
    refine Ev.step (f := fun k => (manorboyref02_At.f k (I : Int)).bind fun bt173 => if neg = true then (manorboyref02_At.f k (-(I : Int))).bind fun bt176 => some (bt176.1, bt176.2, true) else some (bt173.1, bt173.2, true)) (fun k => by rw [manorboyref02_Quotient_Round.j2, if_neg hI, w]) ?_
    refine Ev.bind (atE_ev I h) ?_
    by_cases hn : neg = true
    · subst hn
      exact Ev.congr (fun k => if_pos rfl) (Ev.bind (atN_ev I h) (Ev.now _))
    · have hn' : neg = false := by simpa using hn
      subst hn'
      exact Ev.congr (fun k => if_neg (by decide)) (Ev.now _)
theorem round_go (neg : Bool) (x3 a b : List Int) (lo hi mid : Nat) (hlt : lo < hi) (hhi : hi ≤ 2533359616) (hmid : mid = (lo + hi) / 2) (k : Nat) :
    manorboyref02_Quotient_Round.l0 (k + 1) x3 (lo : Int) (hi : Int) neg a b = (manorboyref02_half.f k (mid : Int)).bind fun t157 => (manorboyref02_Nat_Mul.f k t157 b).bind fun t160 => (manorboyref02_Nat_Cmp.f k t160 x3).bind fun t163 => if t163 ≥ 0 then manorboyref02_Quotient_Round.l0 k x3 (lo : Int) (mid : Int) neg a b else manorboyref02_Quotient_Round.l0 k x3 ((mid + 1 : Nat) : Int) (hi : Int) neg a b := by
  have w1 : wrap64 ((lo : Int) + (hi : Int)) = ((lo + hi : Nat) : Int) := by rw [w64 _ (by omega) (by omega)]; omega
  have w2 : wrap64 (Int.tdiv ((lo + hi : Nat) : Int) 2) = (mid : Int) := by rw [Int.tdiv_eq_ediv_of_nonneg (by omega), w64 _ (by omega) (by omega)]; omega
  have w3 : wrap64 ((mid : Int) + 1) = ((mid + 1 : Nat) : Int) := by rw [w64 _ (by omega) (by omega)]; omega
  rw [manorboyref02_Quotient_Round.l0, if_pos (by omega), w1, w2, w3]
theorem round_end (neg : Bool) (x3 a b : List Int) (lo : Nat) (hlo : lo ≤ 2533359615) (k : Nat) :
    manorboyref02_Quotient_Round.l0 (k + 1) x3 (lo : Int) (lo : Int) neg a b = (manorboyref02_half.f k (lo : Int)).bind fun t164 => (manorboyref02_Nat_Mul.f k t164 b).bind fun t167 => (manorboyref02_Nat_Cmp.f k t167 x3).bind fun t170 => if t170 = 0 then (manorboyref02_At.f k (lo : Int)).bind fun bt171 => manorboyref02_Quotient_Round.j1 k (lo : Int) ((Int.tmod bt171.1 2) != 0) neg a b else manorboyref02_Quotient_Round.j1 k (lo : Int) false neg a b := by
  rw [manorboyref02_Quotient_Round.l0, if_neg (by omega), if_neg (by omega)]
theorem round_over (neg : Bool) (x3 a b : List Int) (lo : Nat) (hlo : 2533359615 < lo) (k : Nat) : manorboyref02_Quotient_Round.l0 (k + 1) x3 (lo : Int) (lo : Int) neg a b = some (0, 0, false) := by
  rw [manorboyref02_Quotient_Round.l0, if_neg (by omega), if_pos (by omega)]
theorem round_j1 (neg : Bool) (a b : List Int) (lo : Nat) (h : lo ≤ 2533359615) (fl : Bool) (I : Nat) (he : I = lo + if fl = true then 1 else 0) : Ev (fun k => manorboyref02_Quotient_Round.j1 k (lo : Int) fl neg a b) (rref neg I) := by
  have w4 : wrap64 ((lo : Int) + 1) = ((lo + 1 : Nat) : Int) := by rw [w64 _ (by omega) (by omega)]; omega
  rw [he]
  by_cases hf : fl = true
  · rw [if_pos hf]
    exact Ev.step (fun k => by rw [manorboyref02_Quotient_Round.j1, if_pos hf, w4]) (round_j2 neg a b (lo + 1) (by omega))
  · rw [if_neg hf, Nat.add_zero]
    exact Ev.step (fun k => by rw [manorboyref02_Quotient_Round.j1, if_neg hf]) (round_j2 neg a b lo (by omega))
theorem at_par (lo : Nat) : ((Int.tmod (atI lo).1 2) != 0) = decide (lo % 2 = 1) := by
  have h1 := H_odd lo
  unfold atI
  rcases Nat.eq_zero_or_pos lo with h | h
  · subst h; rfl
  · rw [if_neg (by omega)]
    show (Int.tmod ((man lo : Nat) : Int) 2 != 0) = _
    rw [Int.tmod_eq_emod_of_nonneg (by omega)]
    by_cases hp : lo % 2 = 1
    · rw [decide_eq_true hp, bne_iff_ne]; omega
    · rw [decide_eq_false hp, bne_eq_false_iff_eq]; omega
theorem cmp_neg {x y : Nat} (h : x < y) : ¬ cmpN x y ≥ 0 := by unfold cmpN; rw [if_pos h]; decide
theorem cmp_nn {x y : Nat} (h : ¬ x < y) : cmpN x y ≥ 0 := by unfold cmpN; rw [if_neg h]; split <;> decide
theorem cmp_eq {x y : Nat} (h : x = y) : cmpN x y = 0 := by unfold cmpN; rw [if_neg (by omega), if_pos h]
theorem cmp_gt {x y : Nat} (h : y < x) : ¬ cmpN x y = 0 := by unfold cmpN; rw [if_neg (by omega), if_neg (by omega)]; decide
/-- Which index the search ends with. -/
theorem Rd.at_low {N D lo : Nat} (hD : 0 < D) (hlow : lo = 0 ∨ H (lo - 1) * D < 2 * N) (hge : 2 * N ≤ H lo * D) : Rd N D (lo + if decide (2 * N = H lo * D ∧ lo % 2 = 1) = true then 1 else 0) := by
  by_cases heq : 2 * N = H lo * D
  · by_cases hp : lo % 2 = 1
    · rw [if_pos (decide_eq_true ⟨heq, hp⟩)]
      have h1 := Nat.mul_lt_mul_of_pos_right (H_lt (show lo < lo + 1 by omega)) hD
      refine ⟨.inr ⟨?_, fun _ => by omega⟩, ?_, fun e => ?_⟩
      · rw [Nat.add_sub_cancel]; omega
      · omega
      · omega
    · rw [if_neg (by rw [decide_eq_true_eq]; rintro ⟨_, h⟩; exact hp h), Nat.add_zero]
      refine ⟨?_, hge, fun _ => by omega⟩
      rcases hlow with h | h
      · exact .inl h
      · exact .inr ⟨Nat.le_of_lt h, fun e => by omega⟩
  · rw [if_neg (by rw [decide_eq_true_eq]; rintro ⟨h, _⟩; exact heq h), Nat.add_zero]
    refine ⟨?_, hge, fun e => absurd e heq⟩
    rcases hlow with h | h
    · exact .inl h
    · exact .inr ⟨Nat.le_of_lt h, fun e => by omega⟩
theorem round_l0 (neg : Bool) (N D : Nat) (hD : 0 < D) (hN : bl (2 * N) ≤ 100000) (hDb : bl D ≤ 50000) (a : List Int) (I : Nat) (hR : Rd N D I) : ∀ (m lo hi : Nat), hi - lo < m → lo ≤ hi → hi ≤ 2533359616 →
    (∀ i, i < lo → H i * D < 2 * N) → (∀ i, hi ≤ i → i ≤ 2533359615 → 2 * N ≤ H i * D) → Ev (fun k => manorboyref02_Quotient_Round.l0 k (E (2 * N)) (lo : Int) (hi : Int) neg a (E D)) (rref neg I)
  | 0, lo, hi, hm, _, _, _, _ => by omega
  | m + 1, lo, hi, hm, hle, hhi, hlow, hup => by
    have sD : Se D := Se.of (by omega)
    have sN : Se (2 * N) := Se.of (by omega)
    have hmul : ∀ i : Nat, i ≤ 2533359616 → Ev (fun k => manorboyref02_Nat_Mul.f k (E (H i)) (E D)) (E (H i * D)) ∧ Se (H i * D) := fun i hi => by
      have b1 := bl_H i hi
      have b2 := bl_mul (H i) D
      exact ⟨mulE_ev (Se.of (by omega)) sD, Se.of (by omega)⟩
    by_cases hlt : lo < hi
    · obtain ⟨mid, hmid⟩ : ∃ mid, mid = (lo + hi) / 2 := ⟨_, rfl⟩
      have hm1 : mid < hi := by omega
      have hm2 : lo ≤ mid := by omega
      refine Ev.step (fun k => round_go neg _ a _ lo hi mid hlt hhi hmid k) ?_
      obtain ⟨hm3, hm4⟩ := hmul mid (by omega)
      refine Ev.bind (half_ev mid (by omega)) (Ev.bind hm3 (Ev.bind (cmpE_ev hm4 sN) ?_))
      by_cases hc : H mid * D < 2 * N
      · refine Ev.congr (fun k => if_neg (cmp_neg hc)) (round_l0 neg N D hD hN hDb a I hR m (mid + 1) hi (by omega) (by omega) hhi (fun i hi' => ?_) hup)
        exact Nat.lt_of_le_of_lt (Nat.mul_le_mul_right D (H_le (show i ≤ mid by omega))) hc
      · refine Ev.congr (fun k => if_pos (cmp_nn hc)) (round_l0 neg N D hD hN hDb a I hR m lo mid (by omega) (by omega) (by omega) hlow (fun i hi' hi2 => ?_))
        exact Nat.le_trans (Nat.le_of_not_lt hc) (Nat.mul_le_mul_right D (H_le hi'))
    · have hlh : hi = lo := by omega
      subst hlh
      by_cases hov : 2533359615 < hi
      · refine Ev.step (fun k => round_over neg _ a _ hi hov k) ?_
        have : rref neg I = (0, 0, false) := by
          unfold rref
          rw [if_pos]
          rcases Nat.lt_or_ge 2533359615 I with h | h
          · exact h
          · have h1 := hlow I (by omega)
            have h2 := hR.2.1
            omega
        rw [this]; exact Ev.now _
      · have hge := hup hi (Nat.le_refl _) (by omega)
        obtain ⟨hm3, hm4⟩ := hmul hi (by omega)
        refine Ev.step (fun k => round_end neg _ a _ hi (by omega) k) ?_
        refine Ev.bind (half_ev hi (by omega)) (Ev.bind hm3 (Ev.bind (cmpE_ev hm4 sN) ?_))
        have hlo2 : hi = 0 ∨ H (hi - 1) * D < 2 * N := by
          rcases Nat.eq_zero_or_pos hi with h | h
          · exact .inl h
          · exact .inr (hlow (hi - 1) (by omega))
        have hI := hR.only hD hD (Rd.at_low hD hlo2 hge) rfl
        by_cases heq : 2 * N = H hi * D
        · refine Ev.congr (fun k => if_pos (cmp_eq heq.symm)) ?_
          refine Ev.bind (atE_ev hi (by omega)) ?_
          rw [at_par]
          refine round_j1 neg a _ hi (by omega) _ I ?_
          rw [hI]
          congr 2
          rw [Bool.decide_and, decide_eq_true heq, Bool.true_and]
        · refine Ev.congr (fun k => if_neg (cmp_gt (by omega))) (round_j1 neg a _ hi (by omega) false I ?_)
          rw [hI]
          congr 2
          rw [Bool.decide_and, decide_eq_false heq, Bool.false_and]
/-- The specification's rounding of num / den. -/
theorem round_ev (neg : Bool) (num den I : Nat) (hD : 0 < den) (hN : bl num ≤ 90000) (hDb : bl den ≤ 50000) (hR : Rd (num * 2 ^ 150) den I) : Ev (fun k => manorboyref02_Quotient_Round.f k neg (E num) (E den)) (rref neg I) := by
  have b1 := bl_shift num 151
  have e2 : num * 2 ^ 151 = 2 * (num * 2 ^ 150) := by
    rw [show (151 : Nat) = 150 + 1 from rfl, Nat.pow_succ]; ac_rfl
  have b3 := bl_two 151
  refine Ev.congr (f := fun k => (manorboyref02_Two.f ((151 : Nat) : Int)).bind fun t151 => (manorboyref02_Nat_Mul.f k (E num) t151).bind fun t154 => manorboyref02_Quotient_Round.l0 k t154 ((0 : Nat) : Int) ((2533359616 : Nat) : Int) neg (E num) (E den)) (fun k => rfl) ?_
  refine Ev.bind (two_Ev 151 (by decide)) (Ev.bind (mulE_ev (Se.of (by omega)) (Se.of (by omega))) ?_)
  rw [e2] at b1 ⊢
  exact round_l0 neg (num * 2 ^ 150) den hD (by omega) hDb (E num) I hR (2533359616 + 1) 0 2533359616 (by omega) (by omega) (by omega) (fun i hi => by omega) (fun i hi hi2 => by omega)
end Go.Proofs.YteigbokklclmbaaGreatDoor.M
end
section
namespace Go.Proofs.YteigbokklclmbaaGreatDoor.Z.Y
open Go Go.RowKit Go.Proofs.YteigbokklclmbaaGreatDoor.Given Go.Proofs.YteigbokklclmbaaGreatDoorW.PrintWords Go.Proofs.YteigbokklclmbaaGreatDoorW.PrintLast Go.Proofs.YteigbokklclmbaaGreatDoorW.PrintMore
/-- What a valid real is. -/
def VR (a b : Int) : Prop := (a = 0 ∧ b = 0) ∨ (1 ≤ mx a (wrap64 (-a)) ∧ mx a (wrap64 (-a)) < 16777216 ∧ (b = -150 ∨ (8388608 ≤ mx a (wrap64 (-a)) ∧ -150 < b ∧ b ≤ 150)))
instance (a b : Int) : Decidable (VR a b) := by unfold VR; infer_instance
theorem valid_real (a b : Int) : real_Valid.f a b = some (decide (VR a b)) := by
  unfold real_Valid.f
  have hd : ∀ (p q : Prop) [Decidable p] [Decidable q], (p ↔ q) → decide p = decide q := fun p q _ _ h => by simp [h]
  have hv : VR a b ↔ ((a = 0 ∧ b = 0) ∨ (1 ≤ mx a (wrap64 (-a)) ∧ mx a (wrap64 (-a)) < 16777216 ∧ (b = -150 ∨ (8388608 ≤ mx a (wrap64 (-a)) ∧ -150 < b ∧ b ≤ 150)))) := Iff.rfl
  generalize mx a (wrap64 (-a)) = m at *
  by_cases h0 : a = 0 ∧ b = 0
  · have : decide (VR a b) = true := decide_eq_true (hv.2 (.inl h0))
    rw [this, if_pos (by simp [h0.1, h0.2])]
  · have h0' : ¬ ((a == 0 && (b == 0)) = true) := by simpa using h0
    rw [if_neg h0']
    by_cases h1 : m < 1
    · rw [if_pos h1]; congr 1; symm; rw [decide_eq_false_iff_not, hv]; rintro (h | h); exact h0 h; omega
    rw [if_neg h1]
    by_cases h2 : m ≥ 16777216
    · rw [if_pos h2]; congr 1; symm; rw [decide_eq_false_iff_not, hv]; rintro (h | h); exact h0 h; omega
    rw [if_neg h2]
    by_cases h3 : b = -150
    · rw [if_pos h3]; congr 1; symm; rw [decide_eq_true_eq, hv]; exact .inr ⟨by omega, by omega, .inl h3⟩
    rw [if_neg h3]
    by_cases h4 : m ≥ 8388608
    · rw [if_pos h4]
      by_cases h5 : b > -150
      · rw [if_pos h5]; congr 1; apply hd; rw [hv]
        constructor
        · intro h; exact .inr ⟨by omega, by omega, .inr ⟨h4, h5, h⟩⟩
        · rintro (h | h)
          · exact absurd h h0
          · omega
      · rw [if_neg h5]; congr 1; symm; rw [decide_eq_false_iff_not, hv]; rintro (h | h); exact h0 h; omega
    · rw [if_neg h4]; congr 1; symm; rw [decide_eq_false_iff_not, hv]; rintro (h | h); exact h0 h; omega
theorem VR_abs {a b : Int} (hw : -9223372036854775808 ≤ a ∧ a ≤ 9223372036854775807) (h : VR a b) : -16777216 < a ∧ a < 16777216 ∧ -150 ≤ b ∧ b ≤ 150 ∧ (b > -150 → a ≠ 0 → a ≤ -8388608 ∨ 8388608 ≤ a) := by
  unfold VR mx wrap64 at h
  rcases h with ⟨rfl, rfl⟩ | h
  · omega
  · split at h <;> omega
theorem valid_ref (a b : Int) (hw : -9223372036854775808 ≤ a ∧ a ≤ 9223372036854775807) : manorboyref02_Valid.f 3 a b = some (decide (VR a b)) := by
  have key : ∀ m : Int, m = (if a < 0 then wrap64 (-a) else a) → manorboyref02_Valid.j0 3 m a b = some (decide (VR a b)) := by
    intro m hm
    have hmx : (0 ≤ m → mx a (wrap64 (-a)) = m) ∧ (m < 0 → mx a (wrap64 (-a)) < 1) := by
      unfold mx wrap64; unfold wrap64 at hm; split at hm <;> split <;> omega
    have hm0 : m = 0 ↔ a = 0 := by unfold wrap64 at hm; split at hm <;> omega
    have hv : VR a b ↔ ((a = 0 ∧ b = 0) ∨ (1 ≤ mx a (wrap64 (-a)) ∧ mx a (wrap64 (-a)) < 16777216 ∧ (b = -150 ∨ (8388608 ≤ mx a (wrap64 (-a)) ∧ -150 < b ∧ b ≤ 150)))) := Iff.rfl
    rw [manorboyref02_Valid.j0]
    by_cases h0 : m = 0
    · rw [if_pos h0]
      have ha : a = 0 := hm0.1 h0
      rw [if_pos ha]
      have := hmx.1 (by omega)
      by_cases hb : b = 0
      · have : decide (VR a b) = true := decide_eq_true (hv.2 (.inl ⟨ha, hb⟩))
        rw [this, hb]; rfl
      · have hf : (b == 0) = false := by simpa using hb
        rw [hf]; congr 1; symm; rw [decide_eq_false_iff_not, hv]; rintro (h | h) <;> omega
    rw [if_neg h0]
    have ha : a ≠ 0 := fun e => h0 (hm0.2 e)
    have j1t : manorboyref02_Valid.j1 2 m true a b = some false := by rw [manorboyref02_Valid.j1, if_pos rfl]
    by_cases h1 : m < 0
    · rw [if_pos h1, j1t]; have := hmx.2 h1; congr 1; symm; rw [decide_eq_false_iff_not, hv]; rintro (h | h) <;> omega
    rw [if_neg h1]
    have e := hmx.1 (by omega)
    rw [e] at hv
    by_cases h2 : m ≥ 16777216
    · rw [if_pos h2, j1t]; congr 1; symm; rw [decide_eq_false_iff_not, hv]; rintro (h | h) <;> omega
    rw [if_neg h2]
    by_cases h3 : b < -150
    · rw [if_pos h3, j1t]; congr 1; symm; rw [decide_eq_false_iff_not, hv]; rintro (h | h) <;> omega
    rw [if_neg h3, manorboyref02_Valid.j1]
    by_cases h4 : b > 150
    · rw [if_pos (by simpa using h4)]; congr 1; symm; rw [decide_eq_false_iff_not, hv]; rintro (h | h) <;> omega
    rw [if_neg (by simpa using h4)]
    by_cases h5 : m ≥ 8388608
    · rw [if_pos h5]; congr 1; symm; rw [decide_eq_true_eq, hv]; refine .inr ⟨by omega, by omega, ?_⟩; omega
    rw [if_neg h5]
    by_cases h6 : b = -150
    · have : (b == -150) = true := by simpa using h6
      rw [this]; congr 1; symm; rw [decide_eq_true_eq, hv]; exact .inr ⟨by omega, by omega, .inl h6⟩
    · have : (b == -150) = false := by simpa using h6
      rw [this]; congr 1; symm; rw [decide_eq_false_iff_not, hv]; rintro (h | h) <;> omega
  unfold manorboyref02_Valid.f
  by_cases h : a < 0
  · rw [if_pos h]; exact key _ (by rw [if_pos h])
  · rw [if_neg h]; exact key _ (by rw [if_neg h])
def fl (a b : Int) : Int := if 0 ≤ b then a * 2 ^ b.toNat else a / 2 ^ (-b).toNat
end Go.Proofs.YteigbokklclmbaaGreatDoor.Z.Y
end
section
namespace Go.Proofs.YteigbokklclmbaaGreatDoor.M
open Go Go.RowKit Go.Proofs.YteigbokklclmbaaGreatDoor.Given Go.Proofs.YteigbokklclmbaaGreatDoorW.PrintWords Go.Proofs.YteigbokklclmbaaGreatDoorW.PrintLast Go.Proofs.YteigbokklclmbaaGreatDoorW.PrintMore Go.Proofs.YteigbokklclmbaaGreatDoor.Z Go.Proofs.YteigbokklclmbaaGreatDoor.Z.Y Go.Proofs.YteigbokklclmbaaGreatDoor.Z.Y.V
/-- The range of an int. -/
def I64 (a : Int) : Prop := -9223372036854775808 ≤ a ∧ a ≤ 9223372036854775807
/-- What is known of the parts of a real. -/
def RC (a b : Int) : Prop := a.natAbs < 16777216 ∧ -150 ≤ b ∧ b ≤ 150
theorem VR.rc {a b : Int} (hw : I64 a) (h : VR a b) : RC a b := by
  obtain ⟨h1, h2, h3, h4, _⟩ := VR_abs hw h
  exact ⟨by omega, h3, h4⟩
/-- The index of a real's magnitude. -/
def ix (a b : Int) : Nat := if a = 0 then 0 else a.natAbs + (b + 150).toNat * 8388608
theorem VR.norm {a b : Int} (hw : I64 a) (h : VR a b) : (a = 0 ∧ b = 0) ∨ (a ≠ 0 ∧ ((b + 150).toNat = 0 ∨ 8388608 ≤ a.natAbs)) := by
  obtain ⟨h1, h2, h3, h4, h5⟩ := VR_abs hw h
  rcases h with ⟨h6, h7⟩ | h
  · exact .inl ⟨h6, h7⟩
  · right
    have ha : a ≠ 0 := by
      rintro rfl
      have : mx 0 (wrap64 (-0)) = 0 := by unfold mx wrap64; split <;> omega
      omega
    refine ⟨ha, ?_⟩
    by_cases hb : b > -150
    · right; have := h5 hb ha; omega
    · left; omega
theorem ix_G {a b : Int} (hw : I64 a) (h : VR a b) : G (ix a b) = a.natAbs * 2 ^ (b + 150).toNat := by
  unfold ix
  have hr := VR.rc hw h
  rcases VR.norm hw h with ⟨h1, h2⟩ | ⟨h1, h2⟩
  · rw [if_pos h1, G_zero, h1]; simp
  · rw [if_neg h1]; exact G_at _ _ (by have := hr.1; omega) h2
theorem ix_le {a b : Int} (hw : I64 a) (h : VR a b) : ix a b ≤ 2533359615 := by
  unfold ix; have hr := VR.rc hw h; obtain ⟨h1, h2, h3⟩ := hr; split <;> omega
/-- What an operation of the program answers: a real, or overflow. -/
def res3 (neg : Bool) (I : Nat) : Int × Int × Int := if 2533359615 < I then (0, 0, 3) else ((sgn neg (atI I)).1, (sgn neg (atI I)).2, 0)
/-- The same ahead of 'caught'. -/
def sgnr (neg : Bool) (I : Nat) : Int × Int := (if neg = true then wrap64 (-(rres I).1) else (rres I).1, (rres I).2)
theorem signed_is (neg : Bool) (p : Int × Int) : real_signed.f neg p.1 p.2 = some (if neg = true then wrap64 (-p.1) else p.1, p.2) := by
  unfold real_signed.f; split <;> rfl
theorem signed_back (neg : Bool) (I : Nat) : ((real_signed.f neg (rres I).1 (rres I).2).bind fun bt => some (bt.1, bt.2)) = some (sgnr neg I) := by
  rw [signed_is]; rfl
theorem atI_bd (I : Nat) (h : I ≤ 2533359615) : 0 ≤ (atI I).1 ∧ (atI I).1 < 16777216 ∧ -150 ≤ (atI I).2 ∧ (atI I).2 ≤ 150 := by
  have hm := man_bd I
  unfold atI
  split
  · show (0 : Int) ≤ 0 ∧ (0 : Int) < 16777216 ∧ -150 ≤ (0 : Int) ∧ (0 : Int) ≤ 150; omega
  · show (0 : Int) ≤ ((man I : Nat) : Int) ∧ ((man I : Nat) : Int) < 16777216 ∧ -150 ≤ ((sh I : Nat) : Int) - 150 ∧ ((sh I : Nat) : Int) - 150 ≤ 150
    unfold sh; omega
theorem rres_in {I : Nat} (h : I ≤ 2533359615) : rres I = atI I := by unfold rres; rw [if_neg (by omega)]
theorem sgnr_in {neg : Bool} {I : Nat} (h : I ≤ 2533359615) : sgnr neg I = sgn neg (atI I) := by
  have hb := atI_bd I h
  have hw : wrap64 (-(atI I).1) = -(atI I).1 := w64 _ (by omega) (by omega)
  unfold sgnr sgn
  rw [rres_in h, hw]
theorem caught_is (neg : Bool) (I : Nat) : caughtS (sgnr neg I).1 (sgnr neg I).2 = res3 neg I := by
  unfold caughtS res3
  by_cases h : 2533359615 < I
  · rw [if_pos h, if_pos]
    unfold sgnr rres; rw [if_pos h]
  · rw [if_neg h, sgnr_in (by omega), if_neg]
    have := atI_bd I (by omega)
    show ¬ (atI I).2 = 1000
    omega
/-- A sum of two signed numbers: its sign and its magnitude. -/
def plus (sx sy : Bool) (gx gy : Nat) : Bool × Nat := if (sx == sy) = true then (sx, gx + gy) else if gy ≤ gx then (sx, gx - gy) else (sy, gy - gx)
theorem one_D : D 1 = [1] := dg_small B2 (by decide) (by decide)
theorem nx_at (e : Int) (h : -150 ≤ e) (n : Nat) : nx e (-150) n = n * 2 ^ (e + 150).toNat := by
  unfold nx; rw [if_pos h]; congr 2
theorem dx_at (e : Int) (h : -150 ≤ e) (n : Nat) : dx e (-150) n = n := by unfold dx; rw [if_pos h]
/-- The program's rounding of a whole number times a power of two. -/
theorem rounded_one (n : Nat) (e : Int) (hn : bl n ≤ 10000) (h0 : -150 ≤ e) (h1 : e ≤ 10000) : ∃ I, Rd (n * 2 ^ (e + 150).toNat) 1 I ∧ Ev (fun k => real_rounded.f k (D n) e [1]) (rres I) := by
  obtain ⟨I, hR, hE⟩ := rounded_ev n 1 e hn (by decide) (by rw [bl_one]; decide) (by omega) h1
  rw [nx_at e h0, dx_at e h0] at hR
  rw [one_D] at hE
  exact ⟨I, hR, hE⟩
theorem shift_eq (m : Nat) (x e : Int) (h : e ≤ x) (h0 : -150 ≤ e) : m * 2 ^ (x - e).toNat * 2 ^ (e + 150).toNat = m * 2 ^ (x + 150).toNat := by
  rw [Nat.mul_assoc, ← Nat.pow_add]; congr 2; omega
theorem real_sum_ev {x0 x1 y0 y1 : Int} (hx : RC x0 x1) (hy : RC y0 y1) :
    ∃ I, Rd (plus (decide (x0 < 0)) (decide (y0 < 0)) (x0.natAbs * 2 ^ (x1 + 150).toNat) (y0.natAbs * 2 ^ (y1 + 150).toNat)).2 1 I ∧ Ev (fun k => real_sum.f k x0 x1 y0 y1) (sgnr (plus (decide (x0 < 0)) (decide (y0 < 0)) (x0.natAbs * 2 ^ (x1 + 150).toNat) (y0.natAbs * 2 ^ (y1 + 150).toNat)).1 I) := by
  obtain ⟨hx1, hx2, hx3⟩ := hx
  obtain ⟨hy1, hy2, hy3⟩ := hy
  obtain ⟨e, he⟩ : ∃ e, e = mn x1 y1 := ⟨_, rfl⟩
  have he1 : e ≤ x1 ∧ e ≤ y1 ∧ -150 ≤ e ∧ e ≤ 150 := by rw [he]; unfold mn; split <;> omega
  have wx : wrap64 (x1 - e) = (((x1 - e).toNat : Nat) : Int) := by rw [w64 _ (by omega) (by omega)]; omega
  have wy : wrap64 (y1 - e) = (((y1 - e).toNat : Nat) : Int) := by rw [w64 _ (by omega) (by omega)]; omega
  have bx : bl x0.natAbs ≤ 24 := bl_le_iff.2 hx1
  have by_ : bl y0.natAbs ≤ 24 := bl_le_iff.2 hy1
  have sx := shift_eq x0.natAbs x1 e he1.1 he1.2.2.1
  have sy := shift_eq y0.natAbs y1 e he1.2.1 he1.2.2.1
  have bx2 := bl_shift x0.natAbs (x1 - e).toNat
  have by2 := bl_shift y0.natAbs (y1 - e).toNat
  have ex := shl_ev (a := x0.natAbs) (Sm.bl (by omega)) (x1 - e).toNat (by omega)
  have ey := shl_ev (a := y0.natAbs) (Sm.bl (by omega)) (y1 - e).toNat (by omega)
  have mxe := magnitude_ev x0 (by omega) (by omega)
  have mye := magnitude_ev y0 (by omega) (by omega)
  rw [← sx, ← sy]
  generalize hA : x0.natAbs * 2 ^ (x1 - e).toNat = A at *
  generalize hB : y0.natAbs * 2 ^ (y1 - e).toNat = B at *
  have sA : Sm A := Sm.bl (by omega)
  have sB : Sm B := Sm.bl (by omega)
  have hP := Nat.two_pow_pos (e + 150).toNat
  have start : ∀ r, Ev (fun k => if ((decide (x0 < 0)) == (decide (y0 < 0))) = true then ((real_nat_add.f k (D A) (D B)).bind fun t271 => ((real_rounded.f k t271 e (([1] : List Int))).bind fun bt277 => ((real_signed.f (decide (x0 < 0)) bt277.1 bt277.2).bind fun bt279 => (some (bt279.1, bt279.2))))) else ((real_nat_cmp.f k (D A) (D B)).bind fun t281 => (if t281 ≥ 0 then ((real_nat_sub.f k (D A) (D B)).bind fun t282 => ((real_rounded.f k t282 e (([1] : List Int))).bind fun bt288 => ((real_signed.f (decide (x0 < 0)) bt288.1 bt288.2).bind fun bt290 => (some (bt290.1, bt290.2))))) else ((real_nat_sub.f k (D B) (D A)).bind fun t292 => ((real_rounded.f k t292 e (([1] : List Int))).bind fun bt298 => ((real_signed.f (decide (y0 < 0)) bt298.1 bt298.2).bind fun bt300 => (some (bt300.1, bt300.2)))))))) r → Ev (fun k => real_sum.f k x0 x1 y0 y1) r := by
    intro r hr
    refine Ev.congr (f := fun k => (real_magnitude.f k x0).bind fun t259 => (real_nat_shl.f k t259 (((x1 - e).toNat : Nat) : Int)).bind fun t262 => (real_magnitude.f k y0).bind fun t265 => (real_nat_shl.f k t265 (((y1 - e).toNat : Nat) : Int)).bind fun t268 => _) (fun k => by unfold real_sum.f; rw [← he, wx, wy]) ?_
    exact Ev.bind mxe (Ev.bind ex (Ev.bind mye (Ev.bind ey hr)))
  unfold plus
  by_cases hs : (decide (x0 < 0) == decide (y0 < 0)) = true
  · rw [if_pos hs]
    have b3 := bl_add A B
    obtain ⟨I, hR, hE⟩ := rounded_one (A + B) e (by omega) he1.2.2.1 (by omega)
    refine ⟨I, by rw [Nat.add_mul] at hR; exact hR, start _ (Ev.congr (fun k => if_pos hs) ?_)⟩
    refine Ev.bind (add_ev sA sB) (Ev.bind hE ?_)
    exact Ev.congr (fun k => signed_back _ I) (Ev.now _)
  · rw [if_neg hs]
    by_cases hc : B * 2 ^ (e + 150).toNat ≤ A * 2 ^ (e + 150).toNat
    · rw [if_pos hc]
      have hc' : B ≤ A := Nat.le_of_mul_le_mul_right hc hP
      have b3 := bl_mono (Nat.sub_le A B)
      obtain ⟨I, hR, hE⟩ := rounded_one (A - B) e (by omega) he1.2.2.1 (by omega)
      refine ⟨I, by rw [Nat.sub_mul] at hR; exact hR, start _ (Ev.congr (fun k => if_neg hs) ?_)⟩
      refine Ev.bind (cmp_ev sA sB) (Ev.congr (fun k => if_pos (cmp_nn (by omega))) ?_)
      refine Ev.bind (sub_ev sA sB hc') (Ev.bind hE ?_)
      exact Ev.congr (fun k => signed_back _ I) (Ev.now _)
    · rw [if_neg hc]
      have hc' : A < B := by
        rcases Nat.lt_or_ge A B with h | h
        · exact h
        · exact absurd (Nat.mul_le_mul_right _ h) hc
      have b3 := bl_mono (Nat.sub_le B A)
      obtain ⟨I, hR, hE⟩ := rounded_one (B - A) e (by omega) he1.2.2.1 (by omega)
      refine ⟨I, by rw [Nat.sub_mul] at hR; exact hR, start _ (Ev.congr (fun k => if_neg hs) ?_)⟩
      refine Ev.bind (cmp_ev sA sB) (Ev.congr (fun k => if_neg (cmp_neg hc')) ?_)
      refine Ev.bind (sub_ev sB sA (by omega)) (Ev.bind hE ?_)
      exact Ev.congr (fun k => signed_back _ I) (Ev.now _)
/-- The program's Add of two reals. -/
theorem real_Add_ev {x0 x1 y0 y1 : Int} (wx : I64 x0) (wy : I64 y0) (hx : VR x0 x1) (hy : VR y0 y1) :
    ∃ I, Rd (plus (decide (x0 < 0)) (decide (y0 < 0)) (G (ix x0 x1)) (G (ix y0 y1))).2 1 I ∧ Ev (fun k => real_Add.f k x0 x1 y0 y1) (res3 (plus (decide (x0 < 0)) (decide (y0 < 0)) (G (ix x0 x1)) (G (ix y0 y1))).1 I) := by
  obtain ⟨I, hR, hE⟩ := real_sum_ev (VR.rc wx hx) (VR.rc wy hy)
  rw [← ix_G wx hx, ← ix_G wy hy] at hR hE
  refine ⟨I, hR, ?_⟩
  rw [← caught_is]
  refine Ev.congr (f := fun k => (real_sum.f k x0 x1 y0 y1).bind fun r => some (caughtS r.1 r.2)) (fun k => by
    unfold real_Add.f; rw [valid_real, valid_real, decide_eq_true hx, decide_eq_true hy]; rfl) ?_
  exact Ev.bind hE (Ev.now _)
theorem neg_VR {y0 y1 : Int} (wy : I64 y0) (hy : VR y0 y1) : VR (-y0) y1 ∧ I64 (-y0) ∧ wrap64 (-y0) = -y0 ∧ ix (-y0) y1 = ix y0 y1 := by
  have hr := VR.rc wy hy
  obtain ⟨h1, h2, h3⟩ := hr
  have hw : wrap64 (-y0) = -y0 := w64 _ (by omega) (by omega)
  refine ⟨?_, ⟨by omega, by omega⟩, hw, ?_⟩
  · unfold VR at hy ⊢
    rcases hy with ⟨h4, h5⟩ | h4
    · left; omega
    · right
      have e : mx (-y0) (wrap64 (- -y0)) = mx y0 (wrap64 (-y0)) := by
        rw [hw, w64 (- -y0) (by omega) (by omega)]; unfold mx; split <;> split <;> omega
      rw [e]; exact h4
  · unfold ix
    by_cases h : y0 = 0
    · rw [if_pos h, if_pos (by omega)]
    · rw [if_neg h, if_neg (by omega), Int.natAbs_neg]
theorem real_Sub_ev {x0 x1 y0 y1 : Int} (wx : I64 x0) (wy : I64 y0) (hx : VR x0 x1) (hy : VR y0 y1) :
    ∃ I, Rd (plus (decide (x0 < 0)) (decide (-y0 < 0)) (G (ix x0 x1)) (G (ix y0 y1))).2 1 I ∧ Ev (fun k => real_Sub.f k x0 x1 y0 y1) (res3 (plus (decide (x0 < 0)) (decide (-y0 < 0)) (G (ix x0 x1)) (G (ix y0 y1))).1 I) := by
  obtain ⟨hn, wn, hw, hi⟩ := neg_VR wy hy
  obtain ⟨I, hR, hE⟩ := real_sum_ev (VR.rc wx hx) (VR.rc wn hn)
  rw [← ix_G wx hx, ← ix_G wn hn, hi] at hR hE
  refine ⟨I, hR, ?_⟩
  rw [← caught_is]
  refine Ev.congr (f := fun k => ((real_sum.f k x0 x1 (-y0) y1).bind fun bt320 => some (bt320.1, bt320.2)).bind fun r => some (caughtS r.1 r.2)) (fun k => by
    unfold real_Sub.f real_SubOp.f; rw [valid_real, valid_real, decide_eq_true hx, decide_eq_true hy]
    have : real_signed.f true y0 y1 = some (-y0, y1) := by unfold real_signed.f; rw [if_pos rfl, hw]
    rw [this]; rfl) ?_
  exact Ev.bind (Ev.bind hE (Ev.now _)) (Ev.now _)
theorem of_ev {a b : Int} (wa : I64 a) (h : VR a b) : Ev (fun k => manorboyref02_Of.f k a b) (decide (a < 0), E (G (ix a b)), E (2 ^ 150)) := by
  have hr := VR.rc wa h
  obtain ⟨h1, h2, h3⟩ := hr
  have hG := ix_G wa h
  have b1 : bl a.natAbs ≤ 24 := bl_le_iff.2 h1
  have key : ∀ x4 : Int, (x4 = b ∨ (a = 0 ∧ x4 = -150)) → Ev (fun k => manorboyref02_Of.j1 k ((a.natAbs : Nat) : Int) x4 a b) (decide (a < 0), E (G (ix a b)), E (2 ^ 150)) := by
    intro x4 hx
    have w : wrap64 (x4 + 150) = (((x4 + 150).toNat : Nat) : Int) := by rw [w64 _ (by omega) (by omega)]; omega
    refine Ev.step (f := fun k => (manorboyref02_Small.f k ((a.natAbs : Nat) : Int)).bind fun t180 => (manorboyref02_Two.f (((x4 + 150).toNat : Nat) : Int)).bind fun t183 => (manorboyref02_Nat_Mul.f k t180 t183).bind fun t186 => (manorboyref02_Two.f ((150 : Nat) : Int)).bind fun t189 => some (decide (a < 0), t186, t189)) (fun k => by rw [manorboyref02_Of.j1, w]; rfl) ?_
    have b2 := bl_two (x4 + 150).toNat
    have hm := mulE_ev (a := a.natAbs) (b := 2 ^ (x4 + 150).toNat) (Se.of (by omega)) (Se.of (by omega))
    have e : a.natAbs * 2 ^ (x4 + 150).toNat = G (ix a b) := by
      rw [hG]
      rcases hx with rfl | ⟨h0, _⟩
      · rfl
      · rw [h0]; simp
    rw [e] at hm
    exact Ev.bind (smallE_ev (by omega)) (Ev.bind (two_Ev _ (by omega)) (Ev.bind hm (Ev.bind (two_Ev 150 (by decide)) (Ev.now _))))
  have j0 : Ev (fun k => manorboyref02_Of.j0 k ((a.natAbs : Nat) : Int) a b) (decide (a < 0), E (G (ix a b)), E (2 ^ 150)) := by
    by_cases h0 : ((a.natAbs : Nat) : Int) = 0
    · exact Ev.step (fun k => by rw [manorboyref02_Of.j0, if_pos h0]) (key (-150) (.inr ⟨by omega, rfl⟩))
    · exact Ev.step (fun k => by rw [manorboyref02_Of.j0, if_neg h0]) (key b (.inl rfl))
  by_cases hn : a < 0
  · have w : wrap64 (-a) = ((a.natAbs : Nat) : Int) := by rw [w64 _ (by omega) (by omega)]; omega
    exact Ev.congr (fun k => by unfold manorboyref02_Of.f; rw [if_pos hn, w]) j0
  · have e : a = ((a.natAbs : Nat) : Int) := by omega
    refine Ev.congr (fun k => ?_) j0
    unfold manorboyref02_Of.f; rw [if_neg hn]
    conv => lhs; rw [show manorboyref02_Of.j0 k a a b = manorboyref02_Of.j0 k ((a.natAbs : Nat) : Int) a b by rw [← e]]
theorem bl_G {I : Nat} (h : I ≤ 2533359615) : bl (G I) ≤ 326 := by
  have hm := man_bd I
  have hs : sh I ≤ 301 := by unfold sh; omega
  have b1 : bl (man I) ≤ 24 := bl_le_iff.2 hm
  have := bl_shift (man I) (sh I)
  unfold G; omega
theorem rd_150 {N I : Nat} (h : Rd N 1 I) : Rd (N * 2 ^ 150) (2 ^ 150) I := Rd.congr (by decide) (Nat.two_pow_pos _) h (by rw [Nat.mul_one])
theorem ref_add_ev {x0 x1 y0 y1 : Int} (wx : I64 x0) (wy : I64 y0) (hx : VR x0 x1) (hy : VR y0 y1) {I : Nat} (hR : Rd (plus (decide (x0 < 0)) (decide (y0 < 0)) (G (ix x0 x1)) (G (ix y0 y1))).2 1 I) :
    Ev (fun k => manorboyref02_Add.f k x0 x1 y0 y1) (rref (plus (decide (x0 < 0)) (decide (y0 < 0)) (G (ix x0 x1)) (G (ix y0 y1))).1 I) := by
  have bx := bl_G (ix_le wx hx)
  have by_ := bl_G (ix_le wy hy)
  have ox := of_ev wx hx
  have oy := of_ev wy hy
  have b150 := bl_two 150
  generalize G (ix x0 x1) = gx at *
  generalize G (ix y0 y1) = gy at *
  refine Ev.congr (f := fun k => (manorboyref02_Of.f k x0 x1).bind fun bt217 => (manorboyref02_Of.f k y0 y1).bind fun bt225 => _) (fun k => rfl) ?_
  refine Ev.bind ox (Ev.bind oy ?_)
  dsimp only
  unfold plus at hR ⊢
  have sgx : Se gx := Se.of (by omega)
  have sgy : Se gy := Se.of (by omega)
  by_cases hs : (decide (x0 < 0) == decide (y0 < 0)) = true
  · rw [if_pos hs] at hR ⊢
    have b3 := bl_add gx gy
    refine Ev.congr (fun k => if_pos hs) ?_
    refine Ev.bind (addE_ev sgx sgy) (Ev.bind (round_ev _ _ _ I (Nat.two_pow_pos _) (by omega) (by omega) (rd_150 hR)) ?_)
    exact Ev.now _
  · rw [if_neg hs] at hR ⊢
    refine Ev.congr (fun k => if_neg hs) ?_
    refine Ev.bind (cmpE_ev sgx sgy) ?_
    by_cases hc : gy ≤ gx
    · rw [if_pos hc] at hR ⊢
      have b3 := bl_mono (Nat.sub_le gx gy)
      refine Ev.congr (fun k => if_pos (cmp_nn (by omega))) ?_
      refine Ev.bind (subE_ev sgx sgy hc) (Ev.bind (round_ev _ _ _ I (Nat.two_pow_pos _) (by omega) (by omega) (rd_150 hR)) ?_)
      exact Ev.now _
    · rw [if_neg hc] at hR ⊢
      have b3 := bl_mono (Nat.sub_le gy gx)
      refine Ev.congr (fun k => if_neg (cmp_neg (by omega))) ?_
      refine Ev.bind (subE_ev sgy sgx (by omega)) (Ev.bind (round_ev _ _ _ I (Nat.two_pow_pos _) (by omega) (by omega) (rd_150 hR)) ?_)
      exact Ev.now _
theorem ref_sub_ev {x0 x1 y0 y1 : Int} (wx : I64 x0) (wy : I64 y0) (hx : VR x0 x1) (hy : VR y0 y1) {I : Nat} (hR : Rd (plus (decide (x0 < 0)) (decide (-y0 < 0)) (G (ix x0 x1)) (G (ix y0 y1))).2 1 I) :
    Ev (fun k => manorboyref02_Sub.f k x0 x1 y0 y1) (rref (plus (decide (x0 < 0)) (decide (-y0 < 0)) (G (ix x0 x1)) (G (ix y0 y1))).1 I) := by
  obtain ⟨hn, wn, hw, hi⟩ := neg_VR wy hy
  have h := ref_add_ev wx wn hx hn (I := I) (by rw [hi]; exact hR)
  rw [hi] at h
  refine Ev.congr (f := fun k => (manorboyref02_Add.f k x0 x1 (-y0) y1).bind fun bt259 => some (bt259.1, bt259.2.1, bt259.2.2)) (fun k => by unfold manorboyref02_Sub.f manorboyref02_Neg.f; rw [hw]; rfl) ?_
  exact Ev.bind h (Ev.now _)
/-- Both answers are held to be the same. -/
theorem rounded_same (neg : Bool) (I : Nat) : manorboylaw02_rounded.f (res3 neg I).1 (res3 neg I).2.1 (res3 neg I).2.2 (rref neg I).1 (rref neg I).2.1 (rref neg I).2.2 = some true := by
  unfold manorboylaw02_rounded.f res3 rref manorboylaw02_is.f
  by_cases h : 2533359615 < I
  · rw [if_pos h, if_pos h]; rfl
  · rw [if_neg h, if_neg h]; simp
theorem sanity_ev : Ev (fun k => manorboylaw02_sanity.f k) true := Ev.of (fun k => manorboylaw02_sanity.mono k) sanity_ok
theorem valid_ev (a b : Int) (hw : I64 a) : Ev (fun k => manorboyref02_Valid.f k a b) (decide (VR a b)) := Ev.of (fun k => manorboyref02_Valid.mono _ _ _) (valid_ref a b hw)
theorem bad_sum {x0 x1 y0 y1 : Int} (h : ¬ (VR x0 x1 ∧ VR y0 y1)) (k : Nat) : real_Add.f k x0 x1 y0 y1 = some (0, 0, 1) ∧ real_Sub.f k x0 x1 y0 y1 = some (0, 0, 1) := by
  have hv : ¬ (decide (VR x0 x1) && decide (VR y0 y1)) = true := by simpa using h
  unfold real_Add.f real_Sub.f
  rw [valid_real, valid_real]
  exact ⟨by simp only [Option.bind_some]; rw [if_neg hv], by simp only [Option.bind_some]; rw [if_neg hv]⟩
theorem pure_real_sums (x0 x1 y0 y1 : Int) (wx : I64 x0) (_ : I64 x1) (wy : I64 y0) (_ : I64 y1) : ∃ k, manorboylaw02_RealSums.f k x0 x1 y0 y1 = some true := by
  refine Ev.rounds ?_
  have bad : ¬ (VR x0 x1 ∧ VR y0 y1) → Ev (fun k => manorboylaw02_RealSums.j0 k 1 1 true x0 x1 y0 y1 0 0 0 0) true := fun _ => by
    refine Ev.step (fun k => by rw [manorboylaw02_RealSums.j0, if_pos rfl]) ?_
    exact Ev.bind sanity_ev (Ev.congr (fun k => rfl) (Ev.now _))
  by_cases hx : VR x0 x1
  · by_cases hy : VR y0 y1
    · obtain ⟨I, hR, hE⟩ := real_Add_ev wx wy hx hy
      obtain ⟨J, hS, hF⟩ := real_Sub_ev wx wy hx hy
      have hA := ref_add_ev wx wy hx hy hR
      have hB := ref_sub_ev wx wy hx hy hS
      refine Ev.congr (fun k => by unfold manorboylaw02_RealSums.f; rfl) (Ev.bind hE (Ev.bind hF (Ev.bind (valid_ev x0 x1 wx) ?_)))
      rw [decide_eq_true hx]
      refine Ev.congr (fun k => if_pos rfl) (Ev.bind (valid_ev y0 y1 wy) ?_)
      rw [decide_eq_true hy]
      refine Ev.step (fun k => by rw [manorboylaw02_RealSums.j0, if_neg (by decide)]) ?_
      refine Ev.bind sanity_ev (Ev.congr (fun k => if_pos rfl) ?_)
      refine Ev.bind hA ?_
      rw [rounded_same]
      refine Ev.congr (fun k => by rw [Option.bind_some, if_pos rfl]) (Ev.bind hB ?_)
      rw [rounded_same]
      exact Ev.now _
    · have hn : ¬ (VR x0 x1 ∧ VR y0 y1) := fun h => hy h.2
      refine Ev.congr (f := fun k => (manorboyref02_Valid.f k x0 x1).bind fun t272 => if t272 = true then ((manorboyref02_Valid.f k y0 y1).bind fun t273 => (manorboylaw02_RealSums.j0 k 1 1 (!t273) x0 x1 y0 y1 0 0 0 0)) else (manorboylaw02_RealSums.j0 k 1 1 true x0 x1 y0 y1 0 0 0 0)) (fun k => by unfold manorboylaw02_RealSums.f; rw [(bad_sum hn k).1, (bad_sum hn k).2]; rfl) (Ev.bind (valid_ev x0 x1 wx) ?_)
      rw [decide_eq_true hx]
      refine Ev.congr (fun k => if_pos rfl) (Ev.bind (valid_ev y0 y1 wy) ?_)
      rw [decide_eq_false hy]
      exact bad hn
  · have hn : ¬ (VR x0 x1 ∧ VR y0 y1) := fun h => hx h.1
    refine Ev.congr (f := fun k => (manorboyref02_Valid.f k x0 x1).bind fun t272 => if t272 = true then ((manorboyref02_Valid.f k y0 y1).bind fun t273 => (manorboylaw02_RealSums.j0 k 1 1 (!t273) x0 x1 y0 y1 0 0 0 0)) else (manorboylaw02_RealSums.j0 k 1 1 true x0 x1 y0 y1 0 0 0 0)) (fun k => by unfold manorboylaw02_RealSums.f; rw [(bad_sum hn k).1, (bad_sum hn k).2]; rfl) (Ev.bind (valid_ev x0 x1 wx) ?_)
    rw [decide_eq_false hx]
    exact Ev.congr (fun k => if_neg (by decide)) (bad hn)
end Go.Proofs.YteigbokklclmbaaGreatDoor.M
end
section
namespace Go.Proofs.YteigbokklclmbaaGreatDoor.Given
open Go
theorem gT : Tryz.prog.globalNamed "internal/strconv.uint64pow10" = some 0 := by kernel_rfl
theorem gTType : (Tryz.prog.globals[0]?).map (·.type) = some 188 := by kernel_rfl
theorem pow10_datum : (Rows.laid_internal_strconv_uint64pow10 : DataW Unit) = Lib.tabData .u64 Lib.pow10Tab := by kernel_rfl
theorem table_of {W : World} (h : laidMet Tryz.prog [("math/bits.deBruijn32tab", Rows.laid_math_bits_deBruijn32tab), ("math/bits.deBruijn64tab", Rows.laid_math_bits_deBruijn64tab), ("internal/strconv.uint64pow10", Rows.laid_internal_strconv_uint64pow10), ("unicode/utf8.acceptRanges", Rows.laid_unicode_utf8_acceptRanges), ("unicode/utf8.first", Rows.laid_unicode_utf8_first)] W) : Z.Table W := by
  obtain ⟨ps, ⟨_, _, _, _, _, _, _, _, _, _, ⟨_, _, _, _, _, _, _, _, _, _, ⟨g, t, cs, f, p, q, hg, ht, hv, hd, _, _⟩, _⟩, _⟩, _⟩ := h
  obtain rfl := Option.some.inj (gT.symm.trans hg)
  obtain rfl := Option.some.inj (gTType.symm.trans ht)
  rw [pow10_datum] at hd
  show Lib.TabIs _ _ _ _ _
  unfold Lib.TabIs
  rw [hv, ← Lib.cells_of_tab Tryz.underlying188 Tryz.underlying72 (by kernel_rfl) (by kernel_rfl) hd]
theorem i64_lit {a : Int} (h : (Lit.int IntKind.i64 a).wf = true) : -9223372036854775808 ≤ a ∧ a ≤ 9223372036854775807 := by
  have h1 : (decide ((-9223372036854775808 : Int) ≤ a) && decide (a ≤ (9223372036854775807 : Int))) = true := h
  simpa using h1
end Go.Proofs.YteigbokklclmbaaGreatDoor.Given
end
