/- Contracts of functions that the laws reach, written by program (printx.py): each call returns what its plain Lean function computes, where that has a value; no other condition. -/
import Derived.Test.YtjclehdhjnmlpaaTx0
import Derived.Test.YtjclehdhjnmlpaaTx1
import Derived.Test.YtjclehdhjnmlpaaTx2
import Derived.Test.YtjclehdhjnmlpaaTx3
import Derived.Test.YtjclehdhjnmlpaaTx4
namespace Go.Proofs.Ytjclehdhjnmlpaa.T
open Go.RowKit Go.Proofs.Ytjclehdhjnmlpaa.Given Go.Proofs.YtjclehdhjnmlpaaW.PrintWords Go.Proofs.YtjclehdhjnmlpaaW.PrintLast Go.Proofs.YtjclehdhjnmlpaaW.PrintMore
attribute [local go_sem] max2_int min2_int max_two min_two max_three min_three max_four min_four   -- for this text's walks alone
set_option linter.unusedVariables false
set_option linter.unusedSimpArgs false

attribute [local go_sem high] eqA38
/-! ### manorboylaw01_IntegerSpans: function 15 -/
mutual
def manorboylaw01_IntegerSpans.j0 : Nat → Bool → Int → Int → Int → Int → Option (Bool)
  | 0, _, _, _, _, _ => none
  | k + 1, x35, x174000, x174001, x175000, x175001 => if x35 = true then (some false) else ((integer_SpanAdd.f x174000 x174001 x175000 x175001).bind fun bt185 => ((manorboyref01_SpanAdd.f x174000 x174001 x175000 x175001).bind fun bt189 => (if (!(bt185.1 == bt189.1) || (!(bt185.2.1 == bt189.2.1))) = true then (manorboylaw01_IntegerSpans.j1 k true x174000 x174001 x175000 x175001) else (if (bt185.2.2.1 != bt189.2.2.1) = true then (manorboylaw01_IntegerSpans.j1 k true x174000 x174001 x175000 x175001) else (manorboylaw01_IntegerSpans.j1 k (bt185.2.2.2 != bt189.2.2.2) x174000 x174001 x175000 x175001)))))
def manorboylaw01_IntegerSpans.j1 : Nat → Bool → Int → Int → Int → Int → Option (Bool)
  | 0, _, _, _, _, _ => none
  | k + 1, x62, x174000, x174001, x175000, x175001 => if x62 = true then (some false) else ((integer_SpanSub.f x174000 x174001 x175000 x175001).bind fun bt193 => ((manorboyref01_SpanSub.f x174000 x174001 x175000 x175001).bind fun bt197 => (if (!(bt193.1 == bt197.1) || (!(bt193.2.1 == bt197.2.1))) = true then (manorboylaw01_IntegerSpans.j2 k true x174000 x174001 x175000 x175001) else (if (bt193.2.2.1 != bt197.2.2.1) = true then (manorboylaw01_IntegerSpans.j2 k true x174000 x174001 x175000 x175001) else (manorboylaw01_IntegerSpans.j2 k (bt193.2.2.2 != bt197.2.2.2) x174000 x174001 x175000 x175001)))))
def manorboylaw01_IntegerSpans.j2 : Nat → Bool → Int → Int → Int → Int → Option (Bool)
  | 0, _, _, _, _, _ => none
  | k + 1, x89, x174000, x174001, x175000, x175001 => if x89 = true then (some false) else ((integer_SpanMul.f x174000 x174001 x175000 x175001).bind fun bt201 => ((manorboyref01_SpanMul.f x174000 x174001 x175000 x175001).bind fun bt205 => (if (!(bt201.1 == bt205.1) || (!(bt201.2.1 == bt205.2.1))) = true then (manorboylaw01_IntegerSpans.j3 k true x174000 x174001 x175000 x175001) else (if (bt201.2.2.1 != bt205.2.2.1) = true then (manorboylaw01_IntegerSpans.j3 k true x174000 x174001 x175000 x175001) else (manorboylaw01_IntegerSpans.j3 k (bt201.2.2.2 != bt205.2.2.2) x174000 x174001 x175000 x175001)))))
def manorboylaw01_IntegerSpans.j3 : Nat → Bool → Int → Int → Int → Int → Option (Bool)
  | 0, _, _, _, _, _ => none
  | k + 1, x116, x174000, x174001, x175000, x175001 => if x116 = true then (some false) else ((integer_SpanQuo.f x174000 x174001 x175000 x175001).bind fun bt209 => ((manorboyref01_SpanQuo.f k x174000 x174001 x175000 x175001).bind fun bt213 => ((manorboylaw01_wide.f k).bind fun t217 => (if t217 = true then (if (bt209.1 == bt213.1 && (bt209.2.1 == bt213.2.1)) = true then (if (bt209.2.2.1 == bt213.2.2.1) = true then (some (bt209.2.2.2 == bt213.2.2.2)) else (some false)) else (some false)) else (some false)))))
end
def manorboylaw01_IntegerSpans.f (k : Nat) (a0_0 : Int) (a0_1 : Int) (a1_0 : Int) (a1_1 : Int) : Option (Bool) := (integer_SpanNeg.f a0_0 a0_1).bind fun bt175 => ((manorboyref01_SpanNeg.f a0_0 a0_1).bind fun bt179 => ((integer_ValidSpan.f a0_0 a0_1).bind fun t183 => ((manorboyref01_ValidSpan.f a0_0 a0_1).bind fun t184 => (if (t183 != t184) = true then (manorboylaw01_IntegerSpans.j0 k true a0_0 a0_1 a1_0 a1_1) else (if (!(bt175.1 == bt179.1) || (!(bt175.2.1 == bt179.2.1))) = true then (manorboylaw01_IntegerSpans.j0 k true a0_0 a0_1 a1_0 a1_1) else (manorboylaw01_IntegerSpans.j0 k (bt175.2.2 != bt179.2.2) a0_0 a0_1 a1_0 a1_1))))))
theorem manorboylaw01_IntegerSpans.mono_l : ∀ k, (∀ y0 y1 y2 y3 y4, LeO (manorboylaw01_IntegerSpans.j0 k y0 y1 y2 y3 y4) (manorboylaw01_IntegerSpans.j0 (k + 1) y0 y1 y2 y3 y4)) ∧ (∀ y0 y1 y2 y3 y4, LeO (manorboylaw01_IntegerSpans.j1 k y0 y1 y2 y3 y4) (manorboylaw01_IntegerSpans.j1 (k + 1) y0 y1 y2 y3 y4)) ∧ (∀ y0 y1 y2 y3 y4, LeO (manorboylaw01_IntegerSpans.j2 k y0 y1 y2 y3 y4) (manorboylaw01_IntegerSpans.j2 (k + 1) y0 y1 y2 y3 y4)) ∧ (∀ y0 y1 y2 y3 y4, LeO (manorboylaw01_IntegerSpans.j3 k y0 y1 y2 y3 y4) (manorboylaw01_IntegerSpans.j3 (k + 1) y0 y1 y2 y3 y4))
  | 0 => ⟨fun _ _ _ _ _ r h => by simp [manorboylaw01_IntegerSpans.j0] at h, fun _ _ _ _ _ r h => by simp [manorboylaw01_IntegerSpans.j1] at h, fun _ _ _ _ _ r h => by simp [manorboylaw01_IntegerSpans.j2] at h, fun _ _ _ _ _ r h => by simp [manorboylaw01_IntegerSpans.j3] at h⟩
  | k + 1 => by
    obtain ⟨ih0, ih1, ih2, ih3⟩ := manorboylaw01_IntegerSpans.mono_l k
    refine ⟨?_, ?_, ?_, ?_⟩
    · intro y0 y1 y2 y3 y4
      unfold manorboylaw01_IntegerSpans.j0
      repeat' first
      | (with_reducible exact ih0 _ _ _ _ _)
      | (with_reducible exact ih1 _ _ _ _ _)
      | (with_reducible exact ih2 _ _ _ _ _)
      | (with_reducible exact ih3 _ _ _ _ _)
      | (with_reducible exact manorboylaw01_wide.mono _)
      | (with_reducible exact manorboyref01_SpanQuo.mono _ _ _ _ _)
      | (with_reducible exact LeO.refl _)
      | (with_reducible exact LeO.none _)
      | (with_reducible refine LeO.ite ?_ ?_)
      | (with_reducible refine LeO.bind ?_ (fun _ => ?_))
      | exact ih0 _ _ _ _ _
      | exact ih1 _ _ _ _ _
      | exact ih2 _ _ _ _ _
      | exact ih3 _ _ _ _ _
      | exact manorboylaw01_wide.mono _
      | exact manorboyref01_SpanQuo.mono _ _ _ _ _
      | exact LeO.none _
      | refine LeO.ite ?_ ?_
      | refine LeO.bind ?_ (fun _ => ?_)
    · intro y0 y1 y2 y3 y4
      unfold manorboylaw01_IntegerSpans.j1
      repeat' first
      | (with_reducible exact ih0 _ _ _ _ _)
      | (with_reducible exact ih1 _ _ _ _ _)
      | (with_reducible exact ih2 _ _ _ _ _)
      | (with_reducible exact ih3 _ _ _ _ _)
      | (with_reducible exact manorboylaw01_wide.mono _)
      | (with_reducible exact manorboyref01_SpanQuo.mono _ _ _ _ _)
      | (with_reducible exact LeO.refl _)
      | (with_reducible exact LeO.none _)
      | (with_reducible refine LeO.ite ?_ ?_)
      | (with_reducible refine LeO.bind ?_ (fun _ => ?_))
      | exact ih0 _ _ _ _ _
      | exact ih1 _ _ _ _ _
      | exact ih2 _ _ _ _ _
      | exact ih3 _ _ _ _ _
      | exact manorboylaw01_wide.mono _
      | exact manorboyref01_SpanQuo.mono _ _ _ _ _
      | exact LeO.none _
      | refine LeO.ite ?_ ?_
      | refine LeO.bind ?_ (fun _ => ?_)
    · intro y0 y1 y2 y3 y4
      unfold manorboylaw01_IntegerSpans.j2
      repeat' first
      | (with_reducible exact ih0 _ _ _ _ _)
      | (with_reducible exact ih1 _ _ _ _ _)
      | (with_reducible exact ih2 _ _ _ _ _)
      | (with_reducible exact ih3 _ _ _ _ _)
      | (with_reducible exact manorboylaw01_wide.mono _)
      | (with_reducible exact manorboyref01_SpanQuo.mono _ _ _ _ _)
      | (with_reducible exact LeO.refl _)
      | (with_reducible exact LeO.none _)
      | (with_reducible refine LeO.ite ?_ ?_)
      | (with_reducible refine LeO.bind ?_ (fun _ => ?_))
      | exact ih0 _ _ _ _ _
      | exact ih1 _ _ _ _ _
      | exact ih2 _ _ _ _ _
      | exact ih3 _ _ _ _ _
      | exact manorboylaw01_wide.mono _
      | exact manorboyref01_SpanQuo.mono _ _ _ _ _
      | exact LeO.none _
      | refine LeO.ite ?_ ?_
      | refine LeO.bind ?_ (fun _ => ?_)
    · intro y0 y1 y2 y3 y4
      unfold manorboylaw01_IntegerSpans.j3
      repeat' first
      | (with_reducible exact ih0 _ _ _ _ _)
      | (with_reducible exact ih1 _ _ _ _ _)
      | (with_reducible exact ih2 _ _ _ _ _)
      | (with_reducible exact ih3 _ _ _ _ _)
      | (with_reducible exact manorboylaw01_wide.mono _)
      | (with_reducible exact manorboyref01_SpanQuo.mono _ _ _ _ _)
      | (with_reducible exact LeO.refl _)
      | (with_reducible exact LeO.none _)
      | (with_reducible refine LeO.ite ?_ ?_)
      | (with_reducible refine LeO.bind ?_ (fun _ => ?_))
      | exact ih0 _ _ _ _ _
      | exact ih1 _ _ _ _ _
      | exact ih2 _ _ _ _ _
      | exact ih3 _ _ _ _ _
      | exact manorboylaw01_wide.mono _
      | exact manorboyref01_SpanQuo.mono _ _ _ _ _
      | exact LeO.none _
      | refine LeO.ite ?_ ?_
      | refine LeO.bind ?_ (fun _ => ?_)
theorem manorboylaw01_IntegerSpans.mono : ∀ a0 a1 a2 a3 k, LeO (manorboylaw01_IntegerSpans.f k a0 a1 a2 a3) (manorboylaw01_IntegerSpans.f (k + 1) a0 a1 a2 a3) := by
  intro a0 a1 a2 a3 k
  obtain ⟨ih0, ih1, ih2, ih3⟩ := manorboylaw01_IntegerSpans.mono_l k
  unfold manorboylaw01_IntegerSpans.f
  repeat' first
      | (with_reducible exact ih0 _ _ _ _ _)
      | (with_reducible exact ih1 _ _ _ _ _)
      | (with_reducible exact ih2 _ _ _ _ _)
      | (with_reducible exact ih3 _ _ _ _ _)
      | (with_reducible exact manorboylaw01_wide.mono _)
      | (with_reducible exact manorboyref01_SpanQuo.mono _ _ _ _ _)
      | (with_reducible exact LeO.refl _)
      | (with_reducible exact LeO.none _)
      | (with_reducible refine LeO.ite ?_ ?_)
      | (with_reducible refine LeO.bind ?_ (fun _ => ?_))
      | exact ih0 _ _ _ _ _
      | exact ih1 _ _ _ _ _
      | exact ih2 _ _ _ _ _
      | exact ih3 _ _ _ _ _
      | exact manorboylaw01_wide.mono _
      | exact manorboyref01_SpanQuo.mono _ _ _ _ _
      | exact LeO.none _
      | refine LeO.ite ?_ ?_
      | refine LeO.bind ?_ (fun _ => ?_)
def manorboylaw01_IntegerSpans.T3 : Bool × List (List Nat × List Nat) := (true, [([], []), ([0], [0]), ([], []), ([2, 1], [2]), ([1, 3], [1, 3]), ([4, 3], [4]), ([5], [5]), ([5], [5]), ([6, 7, 5], [5, 6, 7]), ([5, 8], [5, 8]), ([9, 5], [9]), ([10], [10]), ([10], [10]), ([11, 12, 10], [10, 11, 12]), ([10, 13], [10, 13])])
def manorboylaw01_IntegerSpans.B3 : List Nat := [0, 1, 0, 7, 15, 31, 63, 63, 255, 511, 1023, 2047, 2047, 8191, 16383]
theorem manorboylaw01_IntegerSpans.tab3 : rtab .any (opsOf Try.f15 3) = manorboylaw01_IntegerSpans.T3 := by kernel_rfl
theorem manorboylaw01_IntegerSpans.bits3 : waitsOk manorboylaw01_IntegerSpans.T3.2 manorboylaw01_IntegerSpans.B3 = true := by kernel_rfl
set_option maxHeartbeats 8000000 in
set_option maxRecDepth 100000 in
theorem manorboylaw01_IntegerSpans.calls (k : Nat) (a0_0 : Int) (a0_1 : Int) (a1_0 : Int) (a1_1 : Int) (r : Bool) (w : World) (h : manorboylaw01_IntegerSpans.f k a0_0 a0_1 a1_0 a1_1 = some r) :
    Calls Try.prog 15 #[.agg #[.int .i64 a0_0, .int .i64 a0_1], .agg #[.int .i64 a1_0, .int .i64 a1_1]] w fun e w' => e = .returned (.bool r) ∧ Below w.heap.size w w' := by
  have hu38 := Try.underlying38
  have HB := Aside0.mk (Below.refl w.heap.size w)
  have H : ((integer_SpanNeg.f a0_0 a0_1).bind fun bt175 => ((manorboyref01_SpanNeg.f a0_0 a0_1).bind fun bt179 => ((integer_ValidSpan.f a0_0 a0_1).bind fun t183 => ((manorboyref01_ValidSpan.f a0_0 a0_1).bind fun t184 => (if (t183 != t184) = true then (manorboylaw01_IntegerSpans.j0 k true a0_0 a0_1 a1_0 a1_1) else (if (!(bt175.1 == bt179.1) || (!(bt175.2.1 == bt179.2.1))) = true then (manorboylaw01_IntegerSpans.j0 k true a0_0 a0_1 a1_0 a1_1) else (manorboylaw01_IntegerSpans.j0 k (bt175.2.2 != bt179.2.2) a0_0 a0_1 a1_0 a1_1))))))) = some r := h
  clear h
  replace H := Option.bind_eq_some_iff.mp H
  obtain ⟨⟨t175, t176, t177⟩, A30, H⟩ := H
  replace H : ((manorboyref01_SpanNeg.f a0_0 a0_1).bind fun bt179 => ((integer_ValidSpan.f a0_0 a0_1).bind fun t183 => ((manorboyref01_ValidSpan.f a0_0 a0_1).bind fun t184 => (if (t183 != t184) = true then (manorboylaw01_IntegerSpans.j0 k true a0_0 a0_1 a1_0 a1_1) else (if (!(t175 == bt179.1) || (!(t176 == bt179.2.1))) = true then (manorboylaw01_IntegerSpans.j0 k true a0_0 a0_1 a1_0 a1_1) else (manorboylaw01_IntegerSpans.j0 k (t177 != bt179.2.2) a0_0 a0_1 a1_0 a1_1)))))) = some r := H
  have A3 := Aside0.mk A30
  clear A30
  replace H := Option.bind_eq_some_iff.mp H
  obtain ⟨⟨t179, t180, t181⟩, A40, H⟩ := H
  replace H : ((integer_ValidSpan.f a0_0 a0_1).bind fun t183 => ((manorboyref01_ValidSpan.f a0_0 a0_1).bind fun t184 => (if (t183 != t184) = true then (manorboylaw01_IntegerSpans.j0 k true a0_0 a0_1 a1_0 a1_1) else (if (!(t175 == t179) || (!(t176 == t180))) = true then (manorboylaw01_IntegerSpans.j0 k true a0_0 a0_1 a1_0 a1_1) else (manorboylaw01_IntegerSpans.j0 k (t177 != t181) a0_0 a0_1 a1_0 a1_1))))) = some r := H
  have A4 := Aside0.mk A40
  clear A40
  have HC5 := Aside0.mk H
  clear H
  go_enter Try.func15, Try.ntmps15
  go_upto_region 3 with (first | ((with_reducible refine gate_dst (N := 2) rfl ?_); refine box_event ?hg (N := 2) ?hd (cs := #[.int .i64 a0_0, .int .i64 a0_1]) (t := 38) ?hr ?_; (case hd => rfl); (case hg => rfl); (case hr => first | (go_simp; done) | (go_simp; rfl)); intro gb173 hg w6 hbox hb; have n0_ := Aside0.mk (below_step (by repeat (first | (with_reducible first | exact HB.out | apply below_alloc | apply pw_below_drewN | apply below_drew1) | exact HB.out)) hb); have n1_ := Aside0.mk (hbox); have n2_ := Aside0.mk ((by rw [hg]; exact (below_size (by repeat (first | (with_reducible first | exact HB.out | apply below_alloc | apply pw_below_drewN | apply below_drew1) | exact HB.out))) : w.heap.size ≤ gb173)); have n3_ := Aside0.mk ((by rw [hg]; exact (below_size (by repeat (first | (with_reducible first | exact HB.out | apply below_alloc | apply pw_below_drewN | apply below_drew1) | exact HB.out))) : w.heap.size ≤ gb173)); clear HB; have HB := n0_; have BK173 := n1_; have GW173 := n2_; have GE173 := n3_; clear n0_ n1_ n2_ n3_; clear hb hbox hg) | ((with_reducible refine gate_dst (N := 3) rfl ?_); refine box_event ?hg (N := 3) ?hd (cs := #[.int .i64 a1_0, .int .i64 a1_1]) (t := 38) ?hr ?_; (case hd => rfl); (case hg => rfl); (case hr => first | (go_simp; done) | (go_simp; rfl)); intro gb174 hg w7 hbox hb; have n0_ := Aside0.mk (blk_below (g := gb173) (o := .cells #[.int .i64 a0_0, .int .i64 a0_1] 38 (0, 0)) (by (with_reducible repeat (first | refine blk_drewN ?_ _ | refine blk_drew ?_ | refine blk_alloc ?_ _)); exact BK173.out) hb); have n1_ := Aside0.mk (below_step (by repeat (first | (with_reducible first | exact HB.out | apply below_alloc | apply pw_below_drewN | apply below_drew1 | refine below_set ?_ GE173.out) | exact HB.out)) hb); have n2_ := Aside0.mk (hbox); have n3_ := Aside0.mk ((by rw [hg]; exact (below_size (by repeat (first | (with_reducible first | exact HB.out | apply below_alloc | apply pw_below_drewN | apply below_drew1 | refine below_set ?_ GE173.out) | exact HB.out))) : w.heap.size ≤ gb174)); have n4_ := Aside0.mk ((by rw [hg]; exact (below_size (by repeat (first | (with_reducible first | exact HB.out | apply below_alloc | apply pw_below_drewN | apply below_drew1 | refine below_set ?_ GE173.out) | exact HB.out))) : w.heap.size ≤ gb174)); have n5_ := Aside0.mk ((by rw [hg]; exact Nat.ne_of_lt (blk_lt (g := gb173) (o := .cells #[.int .i64 a0_0, .int .i64 a0_1] 38 (0, 0)) (by (with_reducible repeat (first | refine blk_drewN ?_ _ | refine blk_drew ?_ | refine blk_alloc ?_ _)); exact BK173.out)) : gb173 ≠ gb174)); have n6_ := Aside0.mk ((by rw [hg]; exact Nat.ne_of_gt (blk_lt (g := gb173) (o := .cells #[.int .i64 a0_0, .int .i64 a0_1] 38 (0, 0)) (by (with_reducible repeat (first | refine blk_drewN ?_ _ | refine blk_drew ?_ | refine blk_alloc ?_ _)); exact BK173.out)) : gb174 ≠ gb173)); clear BK173; clear HB; have BK173 := n0_; have HB := n1_; have BK174 := n2_; have GW174 := n3_; have GE174 := n4_; have NB173_174 := n5_; have NB174_173 := n6_; clear n0_ n1_ n2_ n3_ n4_ n5_ n6_; clear hb hbox hg; have hnb8 := NB173_174.out; have hnc8 := NB174_173.out; have hcz9_0 : w7.cell? ⟨gb173, 0, none⟩ = some (.int .i64 a0_0) := (blk_cell BK173.out 0).trans rfl; have hcz9_1 : w7.cell? ⟨gb173, 1, none⟩ = some (.int .i64 a0_1) := (blk_cell BK173.out 1).trans rfl; have hfz9_0 := blk_frozen BK173.out 0; have hfz9_1 := blk_frozen BK173.out 1) | ((with_reducible refine gate_callee (f := 63) rfl ?_); refine goesL_ (some 13) rfl rfl Try.func63 (by kernel_rfl) rfl #[.agg #[.int .i64 a0_0, .int .i64 a0_1]] rfl (by (try simp only [List.map_toArray, List.map_cons, List.map_nil]); first | done | rfl | (simp only [List.length_drop, List.length_take]; rfl)) ?_; (with_reducible refine (integer_SpanNeg.calls a0_0 a0_1 t175 t176 t177 _ A3.out).mono ?_); rintro e w10 ⟨rfl, hb⟩; refine ⟨_, rfl, ?_⟩; have n0_ := Aside0.mk (blk_below (g := gb173) (o := .cells #[.int .i64 a0_0, .int .i64 a0_1] 38 (0, 0)) (by (with_reducible repeat (first | refine blk_drewN ?_ _ | refine blk_drew ?_ | refine blk_alloc ?_ _)); exact BK173.out) hb); have n1_ := Aside0.mk (blk_below (g := gb174) (o := .cells #[.int .i64 a1_0, .int .i64 a1_1] 38 (0, 0)) (by (with_reducible repeat (first | refine blk_drewN ?_ _ | refine blk_drew ?_ | refine blk_alloc ?_ _)); exact BK174.out) hb); have n2_ := Aside0.mk (below_step (by repeat (first | (with_reducible first | exact HB.out | apply below_alloc | apply pw_below_drewN | apply below_drew1 | refine below_set ?_ GE173.out | refine below_set ?_ GE174.out) | exact HB.out)) hb); clear BK173; clear BK174; clear HB; have BK173 := n0_; have BK174 := n1_; have HB := n2_; clear n0_ n1_ n2_; (try clear hb); (try clear hb2); (try clear hk); (try clear hi)) | ((with_reducible refine gate_dst (N := 5) rfl ?_); refine box_event ?hg (N := 5) ?hd (cs := #[.int .i64 0, .int .i64 0]) (t := 38) ?hr ?_; (case hd => rfl); (case hg => rfl); (case hr => first | (go_simp; done) | (go_simp; rfl)); intro gb178 hg w11 hbox hb; have n0_ := Aside0.mk (blk_below (g := gb173) (o := .cells #[.int .i64 a0_0, .int .i64 a0_1] 38 (0, 0)) (by (with_reducible repeat (first | refine blk_drewN ?_ _ | refine blk_drew ?_ | refine blk_alloc ?_ _)); exact BK173.out) hb); have n1_ := Aside0.mk (blk_below (g := gb174) (o := .cells #[.int .i64 a1_0, .int .i64 a1_1] 38 (0, 0)) (by (with_reducible repeat (first | refine blk_drewN ?_ _ | refine blk_drew ?_ | refine blk_alloc ?_ _)); exact BK174.out) hb); have n2_ := Aside0.mk (below_step (by repeat (first | (with_reducible first | exact HB.out | apply below_alloc | apply pw_below_drewN | apply below_drew1 | refine below_set ?_ GE173.out | refine below_set ?_ GE174.out) | exact HB.out)) hb); have n3_ := Aside0.mk (hbox); have n4_ := Aside0.mk ((by rw [hg]; exact (below_size (by repeat (first | (with_reducible first | exact HB.out | apply below_alloc | apply pw_below_drewN | apply below_drew1 | refine below_set ?_ GE173.out | refine below_set ?_ GE174.out) | exact HB.out))) : w.heap.size ≤ gb178)); have n5_ := Aside0.mk ((by rw [hg]; exact (below_size (by repeat (first | (with_reducible first | exact HB.out | apply below_alloc | apply pw_below_drewN | apply below_drew1 | refine below_set ?_ GE173.out | refine below_set ?_ GE174.out) | exact HB.out))) : w.heap.size ≤ gb178)); have n6_ := Aside0.mk ((by rw [hg]; exact Nat.ne_of_lt (blk_lt (g := gb173) (o := .cells #[.int .i64 a0_0, .int .i64 a0_1] 38 (0, 0)) (by (with_reducible repeat (first | refine blk_drewN ?_ _ | refine blk_drew ?_ | refine blk_alloc ?_ _)); exact BK173.out)) : gb173 ≠ gb178)); have n7_ := Aside0.mk ((by rw [hg]; exact Nat.ne_of_gt (blk_lt (g := gb173) (o := .cells #[.int .i64 a0_0, .int .i64 a0_1] 38 (0, 0)) (by (with_reducible repeat (first | refine blk_drewN ?_ _ | refine blk_drew ?_ | refine blk_alloc ?_ _)); exact BK173.out)) : gb178 ≠ gb173)); have n8_ := Aside0.mk ((by rw [hg]; exact Nat.ne_of_lt (blk_lt (g := gb174) (o := .cells #[.int .i64 a1_0, .int .i64 a1_1] 38 (0, 0)) (by (with_reducible repeat (first | refine blk_drewN ?_ _ | refine blk_drew ?_ | refine blk_alloc ?_ _)); exact BK174.out)) : gb174 ≠ gb178)); have n9_ := Aside0.mk ((by rw [hg]; exact Nat.ne_of_gt (blk_lt (g := gb174) (o := .cells #[.int .i64 a1_0, .int .i64 a1_1] 38 (0, 0)) (by (with_reducible repeat (first | refine blk_drewN ?_ _ | refine blk_drew ?_ | refine blk_alloc ?_ _)); exact BK174.out)) : gb178 ≠ gb174)); clear BK173; clear BK174; clear HB; have BK173 := n0_; have BK174 := n1_; have HB := n2_; have BK178 := n3_; have GW178 := n4_; have GE178 := n5_; have NB173_178 := n6_; have NB178_173 := n7_; have NB174_178 := n8_; have NB178_174 := n9_; clear n0_ n1_ n2_ n3_ n4_ n5_ n6_ n7_ n8_ n9_; clear hb hbox hg; have hnb12 := NB178_173.out; have hnc12 := NB173_178.out; have hnb13 := NB178_174.out; have hnc13 := NB174_178.out; have hcz14_0 : w11.cell? ⟨gb178, 0, none⟩ = some (.int .i64 0) := (blk_cell BK178.out 0).trans rfl; have hcz14_1 : w11.cell? ⟨gb178, 1, none⟩ = some (.int .i64 0) := (blk_cell BK178.out 1).trans rfl; have hfz14_0 := blk_frozen BK178.out 0; have hfz14_1 := blk_frozen BK178.out 1; have hcz15_0 : w11.cell? ⟨gb173, 0, none⟩ = some (.int .i64 a0_0) := (blk_cell BK173.out 0).trans rfl; have hcz15_1 : w11.cell? ⟨gb173, 1, none⟩ = some (.int .i64 a0_1) := (blk_cell BK173.out 1).trans rfl; have hfz15_0 := blk_frozen BK173.out 0; have hfz15_1 := blk_frozen BK173.out 1) | ((with_reducible refine gate_callee (f := 64) rfl ?_); refine goesL_ (some 18) rfl rfl Try.func64 (by kernel_rfl) rfl #[.agg #[.int .i64 a0_0, .int .i64 a0_1]] rfl (by (try simp only [List.map_toArray, List.map_cons, List.map_nil]); first | done | rfl | (simp only [List.length_drop, List.length_take]; rfl)) ?_; (with_reducible refine (manorboyref01_SpanNeg.calls a0_0 a0_1 t179 t180 t181 _ A4.out).mono ?_); rintro e w16 ⟨rfl, hb⟩; refine ⟨_, rfl, ?_⟩; have n0_ := Aside0.mk (blk_below (g := gb173) (o := .cells #[.int .i64 a0_0, .int .i64 a0_1] 38 (0, 0)) (by (with_reducible repeat (first | refine blk_drewN ?_ _ | refine blk_drew ?_ | refine blk_alloc ?_ _)); refine blk_far ?_ NB173_178.out _; (with_reducible repeat (first | refine blk_drewN ?_ _ | refine blk_drew ?_ | refine blk_alloc ?_ _)); refine blk_far ?_ NB173_178.out _; (with_reducible repeat (first | refine blk_drewN ?_ _ | refine blk_drew ?_ | refine blk_alloc ?_ _)); exact BK173.out) hb); have n1_ := Aside0.mk (blk_below (g := gb174) (o := .cells #[.int .i64 a1_0, .int .i64 a1_1] 38 (0, 0)) (by (with_reducible repeat (first | refine blk_drewN ?_ _ | refine blk_drew ?_ | refine blk_alloc ?_ _)); refine blk_far ?_ NB174_178.out _; (with_reducible repeat (first | refine blk_drewN ?_ _ | refine blk_drew ?_ | refine blk_alloc ?_ _)); refine blk_far ?_ NB174_178.out _; (with_reducible repeat (first | refine blk_drewN ?_ _ | refine blk_drew ?_ | refine blk_alloc ?_ _)); exact BK174.out) hb); have n2_ := Aside0.mk (blk_below (g := gb178) (o := .cells #[.int .i64 t175, .int .i64 t176] 38 (0, 0)) (by (with_reducible repeat (first | refine blk_drewN ?_ _ | refine blk_drew ?_ | refine blk_alloc ?_ _)); refine blk_put (cs := #[.int .i64 t175, .int .i64 0]) ?_ 1 _ rfl; (with_reducible repeat (first | refine blk_drewN ?_ _ | refine blk_drew ?_ | refine blk_alloc ?_ _)); refine blk_put (cs := #[.int .i64 0, .int .i64 0]) ?_ 0 _ rfl; (with_reducible repeat (first | refine blk_drewN ?_ _ | refine blk_drew ?_ | refine blk_alloc ?_ _)); exact BK178.out) hb); have n3_ := Aside0.mk (below_step (by repeat (first | (with_reducible first | exact HB.out | apply below_alloc | apply pw_below_drewN | apply below_drew1 | refine below_set ?_ GE173.out | refine below_set ?_ GE174.out | refine below_set ?_ GE178.out) | exact HB.out)) hb); clear BK173; clear BK174; clear BK178; clear HB; have BK173 := n0_; have BK174 := n1_; have BK178 := n2_; have HB := n3_; clear n0_ n1_ n2_ n3_; (try clear hb); (try clear hb2); (try clear hk); (try clear hi)) | ((with_reducible refine gate_dst (N := 7) rfl ?_); refine box_event ?hg (N := 7) ?hd (cs := #[.int .i64 0, .int .i64 0]) (t := 38) ?hr ?_; (case hd => rfl); (case hg => rfl); (case hr => first | (go_simp; done) | (go_simp; rfl)); intro gb182 hg w17 hbox hb; have n0_ := Aside0.mk (blk_below (g := gb173) (o := .cells #[.int .i64 a0_0, .int .i64 a0_1] 38 (0, 0)) (by (with_reducible repeat (first | refine blk_drewN ?_ _ | refine blk_drew ?_ | refine blk_alloc ?_ _)); exact BK173.out) hb); have n1_ := Aside0.mk (blk_below (g := gb174) (o := .cells #[.int .i64 a1_0, .int .i64 a1_1] 38 (0, 0)) (by (with_reducible repeat (first | refine blk_drewN ?_ _ | refine blk_drew ?_ | refine blk_alloc ?_ _)); exact BK174.out) hb); have n2_ := Aside0.mk (blk_below (g := gb178) (o := .cells #[.int .i64 t175, .int .i64 t176] 38 (0, 0)) (by (with_reducible repeat (first | refine blk_drewN ?_ _ | refine blk_drew ?_ | refine blk_alloc ?_ _)); exact BK178.out) hb); have n3_ := Aside0.mk (below_step (by repeat (first | (with_reducible first | exact HB.out | apply below_alloc | apply pw_below_drewN | apply below_drew1 | refine below_set ?_ GE173.out | refine below_set ?_ GE174.out | refine below_set ?_ GE178.out) | exact HB.out)) hb); have n4_ := Aside0.mk (hbox); have n5_ := Aside0.mk ((by rw [hg]; exact (below_size (by repeat (first | (with_reducible first | exact HB.out | apply below_alloc | apply pw_below_drewN | apply below_drew1 | refine below_set ?_ GE173.out | refine below_set ?_ GE174.out | refine below_set ?_ GE178.out) | exact HB.out))) : w.heap.size ≤ gb182)); have n6_ := Aside0.mk ((by rw [hg]; exact (below_size (by repeat (first | (with_reducible first | exact HB.out | apply below_alloc | apply pw_below_drewN | apply below_drew1 | refine below_set ?_ GE173.out | refine below_set ?_ GE174.out | refine below_set ?_ GE178.out) | exact HB.out))) : w.heap.size ≤ gb182)); have n7_ := Aside0.mk ((by rw [hg]; exact Nat.ne_of_lt (blk_lt (g := gb173) (o := .cells #[.int .i64 a0_0, .int .i64 a0_1] 38 (0, 0)) (by (with_reducible repeat (first | refine blk_drewN ?_ _ | refine blk_drew ?_ | refine blk_alloc ?_ _)); exact BK173.out)) : gb173 ≠ gb182)); have n8_ := Aside0.mk ((by rw [hg]; exact Nat.ne_of_gt (blk_lt (g := gb173) (o := .cells #[.int .i64 a0_0, .int .i64 a0_1] 38 (0, 0)) (by (with_reducible repeat (first | refine blk_drewN ?_ _ | refine blk_drew ?_ | refine blk_alloc ?_ _)); exact BK173.out)) : gb182 ≠ gb173)); have n9_ := Aside0.mk ((by rw [hg]; exact Nat.ne_of_lt (blk_lt (g := gb174) (o := .cells #[.int .i64 a1_0, .int .i64 a1_1] 38 (0, 0)) (by (with_reducible repeat (first | refine blk_drewN ?_ _ | refine blk_drew ?_ | refine blk_alloc ?_ _)); exact BK174.out)) : gb174 ≠ gb182)); have n10_ := Aside0.mk ((by rw [hg]; exact Nat.ne_of_gt (blk_lt (g := gb174) (o := .cells #[.int .i64 a1_0, .int .i64 a1_1] 38 (0, 0)) (by (with_reducible repeat (first | refine blk_drewN ?_ _ | refine blk_drew ?_ | refine blk_alloc ?_ _)); exact BK174.out)) : gb182 ≠ gb174)); have n11_ := Aside0.mk ((by rw [hg]; exact Nat.ne_of_lt (blk_lt (g := gb178) (o := .cells #[.int .i64 t175, .int .i64 t176] 38 (0, 0)) (by (with_reducible repeat (first | refine blk_drewN ?_ _ | refine blk_drew ?_ | refine blk_alloc ?_ _)); exact BK178.out)) : gb178 ≠ gb182)); have n12_ := Aside0.mk ((by rw [hg]; exact Nat.ne_of_gt (blk_lt (g := gb178) (o := .cells #[.int .i64 t175, .int .i64 t176] 38 (0, 0)) (by (with_reducible repeat (first | refine blk_drewN ?_ _ | refine blk_drew ?_ | refine blk_alloc ?_ _)); exact BK178.out)) : gb182 ≠ gb178)); clear BK173; clear BK174; clear BK178; clear HB; have BK173 := n0_; have BK174 := n1_; have BK178 := n2_; have HB := n3_; have BK182 := n4_; have GW182 := n5_; have GE182 := n6_; have NB173_182 := n7_; have NB182_173 := n8_; have NB174_182 := n9_; have NB182_174 := n10_; have NB178_182 := n11_; have NB182_178 := n12_; clear n0_ n1_ n2_ n3_ n4_ n5_ n6_ n7_ n8_ n9_ n10_ n11_ n12_; clear hb hbox hg; have hnb18 := NB182_173.out; have hnc18 := NB173_182.out; have hnb19 := NB182_174.out; have hnc19 := NB174_182.out; have hnb20 := NB182_178.out; have hnc20 := NB178_182.out; have hcz21_0 : w17.cell? ⟨gb182, 0, none⟩ = some (.int .i64 0) := (blk_cell BK182.out 0).trans rfl; have hcz21_1 : w17.cell? ⟨gb182, 1, none⟩ = some (.int .i64 0) := (blk_cell BK182.out 1).trans rfl; have hfz21_0 := blk_frozen BK182.out 0; have hfz21_1 := blk_frozen BK182.out 1))
  (try simp only [Act.put, List.setIfInBounds_toArray, List.set_cons_zero, List.set_cons_succ])
  go_cut [35] (fun v35 wc => ∃ (kq : Nat) (x35_4 : Bool), v35 = .bool x35_4 ∧ Aside0 (manorboylaw01_IntegerSpans.j0 kq x35_4 a0_0 a0_1 a1_0 a1_1 = some r) ∧ Aside0 (kq ≤ k) ∧ Aside0 (wc.heap[gb173]? = some (.cells #[.int .i64 a0_0, .int .i64 a0_1] 38 (0, 0))) ∧ Aside0 (wc.heap[gb174]? = some (.cells #[.int .i64 a1_0, .int .i64 a1_1] 38 (0, 0))) ∧ Aside0 (wc.heap[gb178]? = some (.cells #[.int .i64 t175, .int .i64 t176] 38 (0, 0))) ∧ Aside0 (wc.heap[gb182]? = some (.cells #[.int .i64 t179, .int .i64 t180] 38 (0, 0))) ∧ Aside0 (Below w.heap.size w wc))
  case first => as_aux_lemma =>
    have H := HC5.out
    clear HC5
    replace H := Option.bind_eq_some_iff.mp H
    obtain ⟨t183, A220, H⟩ := H
    replace H : ((manorboyref01_ValidSpan.f a0_0 a0_1).bind fun t184 => (if (t183 != t184) = true then (manorboylaw01_IntegerSpans.j0 k true a0_0 a0_1 a1_0 a1_1) else (if (!(t175 == t179) || (!(t176 == t180))) = true then (manorboylaw01_IntegerSpans.j0 k true a0_0 a0_1 a1_0 a1_1) else (manorboylaw01_IntegerSpans.j0 k (t177 != t181) a0_0 a0_1 a1_0 a1_1)))) = some r := H
    have A22 := Aside0.mk A220
    clear A220
    replace H := Option.bind_eq_some_iff.mp H
    obtain ⟨t184, A230, H⟩ := H
    replace H : (if (t183 != t184) = true then (manorboylaw01_IntegerSpans.j0 k true a0_0 a0_1 a1_0 a1_1) else (if (!(t175 == t179) || (!(t176 == t180))) = true then (manorboylaw01_IntegerSpans.j0 k true a0_0 a0_1 a1_0 a1_1) else (manorboylaw01_IntegerSpans.j0 k (t177 != t181) a0_0 a0_1 a1_0 a1_1))) = some r := H
    have A23 := Aside0.mk A230
    clear A230
    by_cases c24 : (t183 != t184) = true
    · rw [if_pos c24] at H
      have c24b0 : (t183 != t184) = true := c24
      (try (have c24b1 : decide (t183 = t184) = false := by simpa using c24))
      (try (have c24b2 : (t183 == t184) = false := by simpa using c24))
      (try (have c24b3 : ¬ (t183 = t184) := by simpa using c24))
      clear c24
      (first | rw [c24b0] | (simp only [i64_w, i32_w]; rw [c24b0]) | skip)
      have H' := Aside0.mk H
      clear H
      try go_wp2
      have n0_ : Aside0 (((w17.setCell ⟨gb182, 0, none⟩ (.int .i64 t179)).setCell ⟨gb182, 1, none⟩ (.int .i64 t180)).heap[gb173]? = some (.cells #[.int .i64 a0_0, .int .i64 a0_1] 38 (0, 0))) := ⟨by (with_reducible repeat (first | refine blk_drewN ?_ _ | refine blk_drew ?_ | refine blk_alloc ?_ _)); refine blk_far ?_ NB173_182.out _; (with_reducible repeat (first | refine blk_drewN ?_ _ | refine blk_drew ?_ | refine blk_alloc ?_ _)); refine blk_far ?_ NB173_182.out _; (with_reducible repeat (first | refine blk_drewN ?_ _ | refine blk_drew ?_ | refine blk_alloc ?_ _)); exact BK173.out⟩
      have n1_ : Aside0 (((w17.setCell ⟨gb182, 0, none⟩ (.int .i64 t179)).setCell ⟨gb182, 1, none⟩ (.int .i64 t180)).heap[gb174]? = some (.cells #[.int .i64 a1_0, .int .i64 a1_1] 38 (0, 0))) := ⟨by (with_reducible repeat (first | refine blk_drewN ?_ _ | refine blk_drew ?_ | refine blk_alloc ?_ _)); refine blk_far ?_ NB174_182.out _; (with_reducible repeat (first | refine blk_drewN ?_ _ | refine blk_drew ?_ | refine blk_alloc ?_ _)); refine blk_far ?_ NB174_182.out _; (with_reducible repeat (first | refine blk_drewN ?_ _ | refine blk_drew ?_ | refine blk_alloc ?_ _)); exact BK174.out⟩
      have n2_ : Aside0 (((w17.setCell ⟨gb182, 0, none⟩ (.int .i64 t179)).setCell ⟨gb182, 1, none⟩ (.int .i64 t180)).heap[gb178]? = some (.cells #[.int .i64 t175, .int .i64 t176] 38 (0, 0))) := ⟨by (with_reducible repeat (first | refine blk_drewN ?_ _ | refine blk_drew ?_ | refine blk_alloc ?_ _)); refine blk_far ?_ NB178_182.out _; (with_reducible repeat (first | refine blk_drewN ?_ _ | refine blk_drew ?_ | refine blk_alloc ?_ _)); refine blk_far ?_ NB178_182.out _; (with_reducible repeat (first | refine blk_drewN ?_ _ | refine blk_drew ?_ | refine blk_alloc ?_ _)); exact BK178.out⟩
      have n3_ : Aside0 (((w17.setCell ⟨gb182, 0, none⟩ (.int .i64 t179)).setCell ⟨gb182, 1, none⟩ (.int .i64 t180)).heap[gb182]? = some (.cells #[.int .i64 t179, .int .i64 t180] 38 (0, 0))) := ⟨by (with_reducible repeat (first | refine blk_drewN ?_ _ | refine blk_drew ?_ | refine blk_alloc ?_ _)); refine blk_put (cs := #[.int .i64 t179, .int .i64 0]) ?_ 1 _ rfl; (with_reducible repeat (first | refine blk_drewN ?_ _ | refine blk_drew ?_ | refine blk_alloc ?_ _)); refine blk_put (cs := #[.int .i64 0, .int .i64 0]) ?_ 0 _ rfl; (with_reducible repeat (first | refine blk_drewN ?_ _ | refine blk_drew ?_ | refine blk_alloc ?_ _)); exact BK182.out⟩
      have n4_ : Aside0 (Below w.heap.size w ((w17.setCell ⟨gb182, 0, none⟩ (.int .i64 t179)).setCell ⟨gb182, 1, none⟩ (.int .i64 t180))) := ⟨by repeat (first | (with_reducible first | exact HB.out | apply below_alloc | apply pw_below_drewN | apply below_drew1 | refine below_set ?_ GE173.out | refine below_set ?_ GE174.out | refine below_set ?_ GE178.out | refine below_set ?_ GE182.out) | exact HB.out)⟩
      (try clear BK173)
      (try clear BK174)
      (try clear BK178)
      (try clear BK182)
      (try clear HB)
      generalize ((w17.setCell ⟨gb182, 0, none⟩ (.int .i64 t179)).setCell ⟨gb182, 1, none⟩ (.int .i64 t180)) = w25 at n0_ n1_ n2_ n3_ n4_ ⊢
      have BK173 := n0_
      have BK174 := n1_
      have BK178 := n2_
      have BK182 := n3_
      have HB := n4_
      clear n0_ n1_ n2_ n3_ n4_
      have n0_ := Aside0.mk (blk_drew BK173.out)
      have n1_ := Aside0.mk (blk_drew BK174.out)
      have n2_ := Aside0.mk (blk_drew BK178.out)
      have n3_ := Aside0.mk (blk_drew BK182.out)
      have n4_ := Aside0.mk (below_drew1 HB.out)
      clear BK173
      clear BK174
      clear BK178
      clear BK182
      clear HB
      have BK173 := n0_
      have BK174 := n1_
      have BK178 := n2_
      have BK182 := n3_
      have HB := n4_
      clear n0_ n1_ n2_ n3_ n4_
      refine start_ (n := 15) (S := fun w' => w'.cell? ⟨gb173, 0, none⟩ = some (.int .i64 a0_0) ∧ w'.cell? ⟨gb173, 1, none⟩ = some (.int .i64 a0_1)) (ds := []) #[false, false, false, false, false, false, false, false, false, false, false, false, false, false, false] (by kernel_rfl) rfl rfl ⟨(blk_cell BK173.out 0).trans rfl, (blk_cell BK173.out 1).trans rfl⟩ (fun hHeld => ?_); refine with_tabW manorboylaw01_IntegerSpans.tab3 manorboylaw01_IntegerSpans.bits3 (fun HT_ HW_ => ?_)
      generalize w25.drew = w26 at BK173 BK174 BK178 BK182 HB hHeld ⊢
      refine take_ (i := 0) (N := some 21) (v := ?_) (a' := ?_) #[true, false, false, false, false, false, false, false, false, false, false, false, false, false, false] rfl rfl (take_ofW HT_.out HW_.out (by kernel_rfl)) (fun _ _ _ h => h) (Or.inl ⟨by rfl, ?_⟩) hHeld ?_ ?_
      rotate_left
      · rintro w' ⟨s0, s1⟩
        go_simp
        with_reducible rfl
      rotate_left
      · simp only [Act.put, List.setIfInBounds_toArray, List.set_cons_zero, List.set_cons_succ, i64_w, i32_w]
        rfl
      refine take_ (i := 2) (N := some 23) (v := ?_) (a' := ?_) #[true, false, true, false, false, false, false, false, false, false, false, false, false, false, false] rfl rfl (take_ofW HT_.out HW_.out (by kernel_rfl)) (fun _ _ _ h => h) (Or.inl ⟨by rfl, ?_⟩) hHeld ?_ ?_
      rotate_left
      · rintro w' ⟨s0, s1⟩
        go_simp
        with_reducible rfl
      rotate_left
      · simp only [Act.put, List.setIfInBounds_toArray, List.set_cons_zero, List.set_cons_succ, i64_w, i32_w]
        rfl
      refine one_ (i := 1) (N := some 22) #[true, true, true, false, false, false, false, false, false, false, false, false, false, false, false] rfl rfl (one_of HT_.out (by kernel_rfl)) (by decide) (fun K hK => ?_)
      refine goes_ Try.func51 (by kernel_rfl) rfl #[.agg #[.int .i64 a0_0, .int .i64 a0_1]] (by rfl) rfl rfl (by (try simp only [List.map_toArray, List.map_cons, List.map_nil]); first | done | rfl | (simp only [List.length_drop, List.length_take]; rfl)) ?_
      with_reducible refine (integer_ValidSpan.calls a0_0 a0_1 t183 _ A22.out).mono ?_
      rintro e w27 ⟨rfl, hb⟩
      refine ⟨_, rfl, ?_⟩
      have n0_ := Aside0.mk (blk_below (g := gb173) (o := .cells #[.int .i64 a0_0, .int .i64 a0_1] 38 (0, 0)) (by (with_reducible repeat (first | refine blk_drewN ?_ _ | refine blk_drew ?_ | refine blk_alloc ?_ _)); exact BK173.out) hb)
      have n1_ := Aside0.mk (blk_below (g := gb174) (o := .cells #[.int .i64 a1_0, .int .i64 a1_1] 38 (0, 0)) (by (with_reducible repeat (first | refine blk_drewN ?_ _ | refine blk_drew ?_ | refine blk_alloc ?_ _)); exact BK174.out) hb)
      have n2_ := Aside0.mk (blk_below (g := gb178) (o := .cells #[.int .i64 t175, .int .i64 t176] 38 (0, 0)) (by (with_reducible repeat (first | refine blk_drewN ?_ _ | refine blk_drew ?_ | refine blk_alloc ?_ _)); exact BK178.out) hb)
      have n3_ := Aside0.mk (blk_below (g := gb182) (o := .cells #[.int .i64 t179, .int .i64 t180] 38 (0, 0)) (by (with_reducible repeat (first | refine blk_drewN ?_ _ | refine blk_drew ?_ | refine blk_alloc ?_ _)); exact BK182.out) hb)
      have n4_ := Aside0.mk (below_step (by repeat (first | (with_reducible first | exact HB.out | apply below_alloc | apply pw_below_drewN | apply below_drew1 | refine below_set ?_ GE173.out | refine below_set ?_ GE174.out | refine below_set ?_ GE178.out | refine below_set ?_ GE182.out) | exact HB.out)) hb)
      clear BK173
      clear BK174
      clear BK178
      clear BK182
      clear HB
      have BK173 := n0_
      have BK174 := n1_
      have BK178 := n2_
      have BK182 := n3_
      have HB := n4_
      clear n0_ n1_ n2_ n3_ n4_
      (try clear hb)
      (try clear hb2)
      (try clear hk)
      (try clear hi)
      refine hK.out _ _ ⟨(blk_cell BK173.out 0).trans rfl, (blk_cell BK173.out 1).trans rfl⟩ (fun hHeld => ?_)
      clear hK K
      refine norm_ (a' := ?_) ?_ ?_
      rotate_left
      · show Act.put _ (some 22) _ = _
        simp only [Act.put, List.setIfInBounds_toArray, List.set_cons_zero, List.set_cons_succ, i64_w, i32_w]
        rfl
      refine one_ (i := 3) (N := some 24) #[true, true, true, true, false, false, false, false, false, false, false, false, false, false, false] rfl rfl (one_of HT_.out (by kernel_rfl)) (by decide) (fun K hK => ?_)
      refine goes_ Try.func65 (by kernel_rfl) rfl #[.agg #[.int .i64 a0_0, .int .i64 a0_1]] (by rfl) rfl rfl (by (try simp only [List.map_toArray, List.map_cons, List.map_nil]); first | done | rfl | (simp only [List.length_drop, List.length_take]; rfl)) ?_
      with_reducible refine (manorboyref01_ValidSpan.calls a0_0 a0_1 t184 _ A23.out).mono ?_
      rintro e w28 ⟨rfl, hb⟩
      refine ⟨_, rfl, ?_⟩
      have n0_ := Aside0.mk (blk_below (g := gb173) (o := .cells #[.int .i64 a0_0, .int .i64 a0_1] 38 (0, 0)) (by (with_reducible repeat (first | refine blk_drewN ?_ _ | refine blk_drew ?_ | refine blk_alloc ?_ _)); exact BK173.out) hb)
      have n1_ := Aside0.mk (blk_below (g := gb174) (o := .cells #[.int .i64 a1_0, .int .i64 a1_1] 38 (0, 0)) (by (with_reducible repeat (first | refine blk_drewN ?_ _ | refine blk_drew ?_ | refine blk_alloc ?_ _)); exact BK174.out) hb)
      have n2_ := Aside0.mk (blk_below (g := gb178) (o := .cells #[.int .i64 t175, .int .i64 t176] 38 (0, 0)) (by (with_reducible repeat (first | refine blk_drewN ?_ _ | refine blk_drew ?_ | refine blk_alloc ?_ _)); exact BK178.out) hb)
      have n3_ := Aside0.mk (blk_below (g := gb182) (o := .cells #[.int .i64 t179, .int .i64 t180] 38 (0, 0)) (by (with_reducible repeat (first | refine blk_drewN ?_ _ | refine blk_drew ?_ | refine blk_alloc ?_ _)); exact BK182.out) hb)
      have n4_ := Aside0.mk (below_step (by repeat (first | (with_reducible first | exact HB.out | apply below_alloc | apply pw_below_drewN | apply below_drew1 | refine below_set ?_ GE173.out | refine below_set ?_ GE174.out | refine below_set ?_ GE178.out | refine below_set ?_ GE182.out) | exact HB.out)) hb)
      clear BK173
      clear BK174
      clear BK178
      clear BK182
      clear HB
      have BK173 := n0_
      have BK174 := n1_
      have BK178 := n2_
      have BK182 := n3_
      have HB := n4_
      clear n0_ n1_ n2_ n3_ n4_
      (try clear hb)
      (try clear hb2)
      (try clear hk)
      (try clear hi)
      refine hK.out _ _ ⟨(blk_cell BK173.out 0).trans rfl, (blk_cell BK173.out 1).trans rfl⟩ (fun hHeld => ?_)
      clear hK K
      refine norm_ (a' := ?_) ?_ ?_
      rotate_left
      · show Act.put _ (some 24) _ = _
        simp only [Act.put, List.setIfInBounds_toArray, List.set_cons_zero, List.set_cons_succ, i64_w, i32_w]
        rfl
      refine pure_ (i := 4) (N := some 25) (v := ?_) (a' := ?_) #[true, true, true, true, true, false, false, false, false, false, false, false, false, false, false] rfl rfl (any_of HT_.out (by kernel_rfl)) (fun _ _ _ h => h) (Or.inl ⟨by rfl, ?_⟩) ?_ ?_
      rotate_left
      · intro w'
        go_simp
        with_reducible rfl
      rotate_left
      · simp only [Act.put, List.setIfInBounds_toArray, List.set_cons_zero, List.set_cons_succ, i64_w, i32_w]
        rfl
      refine pure_ (i := 5) (N := some 26) (v := ?_) (a' := ?_) #[true, true, true, true, true, true, false, false, false, false, false, false, false, false, false] rfl rfl (any_of HT_.out (by kernel_rfl)) (fun _ _ _ h => h) (Or.inl ⟨by rfl, ?_⟩) ?_ ?_
      rotate_left
      · intro w'
        go_simp
        with_reducible rfl
      rotate_left
      · simp only [Act.put, List.setIfInBounds_toArray, List.set_cons_zero, List.set_cons_succ, i64_w, i32_w]
        rfl
      refine pure_ (i := 6) (N := some 27) (v := undef) (a' := ?_) #[true, true, true, true, true, true, true, false, false, false, false, false, false, false, false] rfl rfl (any_of HT_.out (by kernel_rfl)) (fun _ _ _ h => h) (Or.inr ⟨by rfl, rfl⟩) ?_ ?_
      rotate_left
      · simp only [Act.put, List.setIfInBounds_toArray, List.set_cons_zero, List.set_cons_succ, i64_w, i32_w]
        rfl
      refine pure_ (i := 7) (N := some 28) (v := undef) (a' := ?_) #[true, true, true, true, true, true, true, true, false, false, false, false, false, false, false] rfl rfl (any_of HT_.out (by kernel_rfl)) (fun _ _ _ h => h) (Or.inr ⟨by rfl, rfl⟩) ?_ ?_
      rotate_left
      · simp only [Act.put, List.setIfInBounds_toArray, List.set_cons_zero, List.set_cons_succ, i64_w, i32_w]
        rfl
      refine pure_ (i := 8) (N := some 29) (v := undef) (a' := ?_) #[true, true, true, true, true, true, true, true, true, false, false, false, false, false, false] rfl rfl (any_of HT_.out (by kernel_rfl)) (fun _ _ _ h => h) (Or.inr ⟨by rfl, rfl⟩) ?_ ?_
      rotate_left
      · simp only [Act.put, List.setIfInBounds_toArray, List.set_cons_zero, List.set_cons_succ, i64_w, i32_w]
        rfl
      refine pure_ (i := 9) (N := some 30) (v := ?_) (a' := ?_) #[true, true, true, true, true, true, true, true, true, true, false, false, false, false, false] rfl rfl (any_of HT_.out (by kernel_rfl)) (fun _ _ _ h => h) (Or.inl ⟨by rfl, ?_⟩) ?_ ?_
      rotate_left
      · intro w'
        go_simp
        with_reducible rfl
      rotate_left
      · simp only [Act.put, List.setIfInBounds_toArray, List.set_cons_zero, List.set_cons_succ, i64_w, i32_w]
        rfl
      refine pure_ (i := 10) (N := some 31) (v := ?_) (a' := ?_) #[true, true, true, true, true, true, true, true, true, true, true, false, false, false, false] rfl rfl (any_of HT_.out (by kernel_rfl)) (fun _ _ _ h => h) (Or.inl ⟨by rfl, ?_⟩) ?_ ?_
      rotate_left
      · intro w'
        go_simp
        with_reducible rfl
      rotate_left
      · simp only [Act.put, List.setIfInBounds_toArray, List.set_cons_zero, List.set_cons_succ, i64_w, i32_w]
        rfl
      refine pure_ (i := 11) (N := some 32) (v := undef) (a' := ?_) #[true, true, true, true, true, true, true, true, true, true, true, true, false, false, false] rfl rfl (any_of HT_.out (by kernel_rfl)) (fun _ _ _ h => h) (Or.inr ⟨by rfl, rfl⟩) ?_ ?_
      rotate_left
      · simp only [Act.put, List.setIfInBounds_toArray, List.set_cons_zero, List.set_cons_succ, i64_w, i32_w]
        rfl
      refine pure_ (i := 12) (N := some 33) (v := undef) (a' := ?_) #[true, true, true, true, true, true, true, true, true, true, true, true, true, false, false] rfl rfl (any_of HT_.out (by kernel_rfl)) (fun _ _ _ h => h) (Or.inr ⟨by rfl, rfl⟩) ?_ ?_
      rotate_left
      · simp only [Act.put, List.setIfInBounds_toArray, List.set_cons_zero, List.set_cons_succ, i64_w, i32_w]
        rfl
      refine pure_ (i := 13) (N := some 34) (v := undef) (a' := ?_) #[true, true, true, true, true, true, true, true, true, true, true, true, true, true, false] rfl rfl (any_of HT_.out (by kernel_rfl)) (fun _ _ _ h => h) (Or.inr ⟨by rfl, rfl⟩) ?_ ?_
      rotate_left
      · simp only [Act.put, List.setIfInBounds_toArray, List.set_cons_zero, List.set_cons_succ, i64_w, i32_w]
        rfl
      refine pure_ (i := 14) (N := some 35) (v := ?_) (a' := ?_) #[true, true, true, true, true, true, true, true, true, true, true, true, true, true, true] rfl rfl (any_of HT_.out (by kernel_rfl)) (fun _ _ _ h => h) (Or.inl ⟨by rfl, ?_⟩) ?_ ?_
      rotate_left
      · intro w'
        go_simp
        with_reducible rfl
      rotate_left
      · simp only [Act.put, List.setIfInBounds_toArray, List.set_cons_zero, List.set_cons_succ, i64_w, i32_w]
        rfl
      refine done_ (done_of HT_.out (by kernel_rfl)) ?_
      try go_wp2
      go_meet
      case rel => exact ⟨_, (true), (by first | rfl | (simp; done) | (simp [*]; done)), H', ⟨by first | omega | exact Nat.le_refl _⟩, ⟨by (with_reducible repeat (first | refine blk_drewN ?_ _ | refine blk_drew ?_ | refine blk_alloc ?_ _)); exact BK173.out⟩, ⟨by (with_reducible repeat (first | refine blk_drewN ?_ _ | refine blk_drew ?_ | refine blk_alloc ?_ _)); exact BK174.out⟩, ⟨by (with_reducible repeat (first | refine blk_drewN ?_ _ | refine blk_drew ?_ | refine blk_alloc ?_ _)); exact BK178.out⟩, ⟨by (with_reducible repeat (first | refine blk_drewN ?_ _ | refine blk_drew ?_ | refine blk_alloc ?_ _)); exact BK182.out⟩, ⟨by repeat (first | (with_reducible first | exact HB.out | apply below_alloc | apply pw_below_drewN | apply below_drew1 | refine below_set ?_ GE173.out | refine below_set ?_ GE174.out | refine below_set ?_ GE178.out | refine below_set ?_ GE182.out) | exact HB.out)⟩⟩
    · rw [if_neg c24] at H
      have c24b0 : (t183 != t184) = false := by simpa using c24
      (try (have c24b1 : decide (t183 = t184) = true := by simpa using c24))
      (try (have c24b2 : (t183 == t184) = true := by simpa using c24))
      clear c24
      (first | rw [c24b0] | (simp only [i64_w, i32_w]; rw [c24b0]) | skip)
      by_cases c29 : (!(t175 == t179) || (!(t176 == t180))) = true
      · rw [if_pos c29] at H
        have c29b0 : (!(t175 == t179) || (!(t176 == t180))) = true := c29
        clear c29
        have H' := Aside0.mk H
        clear H
        try go_wp2
        have n0_ : Aside0 (((w17.setCell ⟨gb182, 0, none⟩ (.int .i64 t179)).setCell ⟨gb182, 1, none⟩ (.int .i64 t180)).heap[gb173]? = some (.cells #[.int .i64 a0_0, .int .i64 a0_1] 38 (0, 0))) := ⟨by (with_reducible repeat (first | refine blk_drewN ?_ _ | refine blk_drew ?_ | refine blk_alloc ?_ _)); refine blk_far ?_ NB173_182.out _; (with_reducible repeat (first | refine blk_drewN ?_ _ | refine blk_drew ?_ | refine blk_alloc ?_ _)); refine blk_far ?_ NB173_182.out _; (with_reducible repeat (first | refine blk_drewN ?_ _ | refine blk_drew ?_ | refine blk_alloc ?_ _)); exact BK173.out⟩
        have n1_ : Aside0 (((w17.setCell ⟨gb182, 0, none⟩ (.int .i64 t179)).setCell ⟨gb182, 1, none⟩ (.int .i64 t180)).heap[gb174]? = some (.cells #[.int .i64 a1_0, .int .i64 a1_1] 38 (0, 0))) := ⟨by (with_reducible repeat (first | refine blk_drewN ?_ _ | refine blk_drew ?_ | refine blk_alloc ?_ _)); refine blk_far ?_ NB174_182.out _; (with_reducible repeat (first | refine blk_drewN ?_ _ | refine blk_drew ?_ | refine blk_alloc ?_ _)); refine blk_far ?_ NB174_182.out _; (with_reducible repeat (first | refine blk_drewN ?_ _ | refine blk_drew ?_ | refine blk_alloc ?_ _)); exact BK174.out⟩
        have n2_ : Aside0 (((w17.setCell ⟨gb182, 0, none⟩ (.int .i64 t179)).setCell ⟨gb182, 1, none⟩ (.int .i64 t180)).heap[gb178]? = some (.cells #[.int .i64 t175, .int .i64 t176] 38 (0, 0))) := ⟨by (with_reducible repeat (first | refine blk_drewN ?_ _ | refine blk_drew ?_ | refine blk_alloc ?_ _)); refine blk_far ?_ NB178_182.out _; (with_reducible repeat (first | refine blk_drewN ?_ _ | refine blk_drew ?_ | refine blk_alloc ?_ _)); refine blk_far ?_ NB178_182.out _; (with_reducible repeat (first | refine blk_drewN ?_ _ | refine blk_drew ?_ | refine blk_alloc ?_ _)); exact BK178.out⟩
        have n3_ : Aside0 (((w17.setCell ⟨gb182, 0, none⟩ (.int .i64 t179)).setCell ⟨gb182, 1, none⟩ (.int .i64 t180)).heap[gb182]? = some (.cells #[.int .i64 t179, .int .i64 t180] 38 (0, 0))) := ⟨by (with_reducible repeat (first | refine blk_drewN ?_ _ | refine blk_drew ?_ | refine blk_alloc ?_ _)); refine blk_put (cs := #[.int .i64 t179, .int .i64 0]) ?_ 1 _ rfl; (with_reducible repeat (first | refine blk_drewN ?_ _ | refine blk_drew ?_ | refine blk_alloc ?_ _)); refine blk_put (cs := #[.int .i64 0, .int .i64 0]) ?_ 0 _ rfl; (with_reducible repeat (first | refine blk_drewN ?_ _ | refine blk_drew ?_ | refine blk_alloc ?_ _)); exact BK182.out⟩
        have n4_ : Aside0 (Below w.heap.size w ((w17.setCell ⟨gb182, 0, none⟩ (.int .i64 t179)).setCell ⟨gb182, 1, none⟩ (.int .i64 t180))) := ⟨by repeat (first | (with_reducible first | exact HB.out | apply below_alloc | apply pw_below_drewN | apply below_drew1 | refine below_set ?_ GE173.out | refine below_set ?_ GE174.out | refine below_set ?_ GE178.out | refine below_set ?_ GE182.out) | exact HB.out)⟩
        (try clear BK173)
        (try clear BK174)
        (try clear BK178)
        (try clear BK182)
        (try clear HB)
        generalize ((w17.setCell ⟨gb182, 0, none⟩ (.int .i64 t179)).setCell ⟨gb182, 1, none⟩ (.int .i64 t180)) = w30 at n0_ n1_ n2_ n3_ n4_ ⊢
        have BK173 := n0_
        have BK174 := n1_
        have BK178 := n2_
        have BK182 := n3_
        have HB := n4_
        clear n0_ n1_ n2_ n3_ n4_
        have n0_ := Aside0.mk (blk_drew BK173.out)
        have n1_ := Aside0.mk (blk_drew BK174.out)
        have n2_ := Aside0.mk (blk_drew BK178.out)
        have n3_ := Aside0.mk (blk_drew BK182.out)
        have n4_ := Aside0.mk (below_drew1 HB.out)
        clear BK173
        clear BK174
        clear BK178
        clear BK182
        clear HB
        have BK173 := n0_
        have BK174 := n1_
        have BK178 := n2_
        have BK182 := n3_
        have HB := n4_
        clear n0_ n1_ n2_ n3_ n4_
        refine start_ (n := 15) (S := fun w' => w'.cell? ⟨gb173, 0, none⟩ = some (.int .i64 a0_0) ∧ w'.cell? ⟨gb173, 1, none⟩ = some (.int .i64 a0_1) ∧ w'.cell? ⟨gb178, 0, none⟩ = some (.int .i64 t175) ∧ w'.cell? ⟨gb178, 1, none⟩ = some (.int .i64 t176) ∧ w'.cell? ⟨gb182, 0, none⟩ = some (.int .i64 t179) ∧ w'.cell? ⟨gb182, 1, none⟩ = some (.int .i64 t180)) (ds := []) #[false, false, false, false, false, false, false, false, false, false, false, false, false, false, false] (by kernel_rfl) rfl rfl ⟨(blk_cell BK173.out 0).trans rfl, (blk_cell BK173.out 1).trans rfl, (blk_cell BK178.out 0).trans rfl, (blk_cell BK178.out 1).trans rfl, (blk_cell BK182.out 0).trans rfl, (blk_cell BK182.out 1).trans rfl⟩ (fun hHeld => ?_); refine with_tabW manorboylaw01_IntegerSpans.tab3 manorboylaw01_IntegerSpans.bits3 (fun HT_ HW_ => ?_)
        generalize w30.drew = w31 at BK173 BK174 BK178 BK182 HB hHeld ⊢
        refine take_ (i := 0) (N := some 21) (v := ?_) (a' := ?_) #[true, false, false, false, false, false, false, false, false, false, false, false, false, false, false] rfl rfl (take_ofW HT_.out HW_.out (by kernel_rfl)) (fun _ _ _ h => h) (Or.inl ⟨by rfl, ?_⟩) hHeld ?_ ?_
        rotate_left
        · rintro w' ⟨s0, s1, s2, s3, s4, s5⟩
          go_simp
          with_reducible rfl
        rotate_left
        · simp only [Act.put, List.setIfInBounds_toArray, List.set_cons_zero, List.set_cons_succ, i64_w, i32_w]
          rfl
        refine take_ (i := 2) (N := some 23) (v := ?_) (a' := ?_) #[true, false, true, false, false, false, false, false, false, false, false, false, false, false, false] rfl rfl (take_ofW HT_.out HW_.out (by kernel_rfl)) (fun _ _ _ h => h) (Or.inl ⟨by rfl, ?_⟩) hHeld ?_ ?_
        rotate_left
        · rintro w' ⟨s0, s1, s2, s3, s4, s5⟩
          go_simp
          with_reducible rfl
        rotate_left
        · simp only [Act.put, List.setIfInBounds_toArray, List.set_cons_zero, List.set_cons_succ, i64_w, i32_w]
          rfl
        refine one_ (i := 1) (N := some 22) #[true, true, true, false, false, false, false, false, false, false, false, false, false, false, false] rfl rfl (one_of HT_.out (by kernel_rfl)) (by decide) (fun K hK => ?_)
        refine goes_ Try.func51 (by kernel_rfl) rfl #[.agg #[.int .i64 a0_0, .int .i64 a0_1]] (by rfl) rfl rfl (by (try simp only [List.map_toArray, List.map_cons, List.map_nil]); first | done | rfl | (simp only [List.length_drop, List.length_take]; rfl)) ?_
        with_reducible refine (integer_ValidSpan.calls a0_0 a0_1 t183 _ A22.out).mono ?_
        rintro e w32 ⟨rfl, hb⟩
        refine ⟨_, rfl, ?_⟩
        have n0_ := Aside0.mk (blk_below (g := gb173) (o := .cells #[.int .i64 a0_0, .int .i64 a0_1] 38 (0, 0)) (by (with_reducible repeat (first | refine blk_drewN ?_ _ | refine blk_drew ?_ | refine blk_alloc ?_ _)); exact BK173.out) hb)
        have n1_ := Aside0.mk (blk_below (g := gb174) (o := .cells #[.int .i64 a1_0, .int .i64 a1_1] 38 (0, 0)) (by (with_reducible repeat (first | refine blk_drewN ?_ _ | refine blk_drew ?_ | refine blk_alloc ?_ _)); exact BK174.out) hb)
        have n2_ := Aside0.mk (blk_below (g := gb178) (o := .cells #[.int .i64 t175, .int .i64 t176] 38 (0, 0)) (by (with_reducible repeat (first | refine blk_drewN ?_ _ | refine blk_drew ?_ | refine blk_alloc ?_ _)); exact BK178.out) hb)
        have n3_ := Aside0.mk (blk_below (g := gb182) (o := .cells #[.int .i64 t179, .int .i64 t180] 38 (0, 0)) (by (with_reducible repeat (first | refine blk_drewN ?_ _ | refine blk_drew ?_ | refine blk_alloc ?_ _)); exact BK182.out) hb)
        have n4_ := Aside0.mk (below_step (by repeat (first | (with_reducible first | exact HB.out | apply below_alloc | apply pw_below_drewN | apply below_drew1 | refine below_set ?_ GE173.out | refine below_set ?_ GE174.out | refine below_set ?_ GE178.out | refine below_set ?_ GE182.out) | exact HB.out)) hb)
        clear BK173
        clear BK174
        clear BK178
        clear BK182
        clear HB
        have BK173 := n0_
        have BK174 := n1_
        have BK178 := n2_
        have BK182 := n3_
        have HB := n4_
        clear n0_ n1_ n2_ n3_ n4_
        (try clear hb)
        (try clear hb2)
        (try clear hk)
        (try clear hi)
        refine hK.out _ _ ⟨(blk_cell BK173.out 0).trans rfl, (blk_cell BK173.out 1).trans rfl, (blk_cell BK178.out 0).trans rfl, (blk_cell BK178.out 1).trans rfl, (blk_cell BK182.out 0).trans rfl, (blk_cell BK182.out 1).trans rfl⟩ (fun hHeld => ?_)
        clear hK K
        refine norm_ (a' := ?_) ?_ ?_
        rotate_left
        · show Act.put _ (some 22) _ = _
          simp only [Act.put, List.setIfInBounds_toArray, List.set_cons_zero, List.set_cons_succ, i64_w, i32_w]
          rfl
        refine one_ (i := 3) (N := some 24) #[true, true, true, true, false, false, false, false, false, false, false, false, false, false, false] rfl rfl (one_of HT_.out (by kernel_rfl)) (by decide) (fun K hK => ?_)
        refine goes_ Try.func65 (by kernel_rfl) rfl #[.agg #[.int .i64 a0_0, .int .i64 a0_1]] (by rfl) rfl rfl (by (try simp only [List.map_toArray, List.map_cons, List.map_nil]); first | done | rfl | (simp only [List.length_drop, List.length_take]; rfl)) ?_
        with_reducible refine (manorboyref01_ValidSpan.calls a0_0 a0_1 t184 _ A23.out).mono ?_
        rintro e w33 ⟨rfl, hb⟩
        refine ⟨_, rfl, ?_⟩
        have n0_ := Aside0.mk (blk_below (g := gb173) (o := .cells #[.int .i64 a0_0, .int .i64 a0_1] 38 (0, 0)) (by (with_reducible repeat (first | refine blk_drewN ?_ _ | refine blk_drew ?_ | refine blk_alloc ?_ _)); exact BK173.out) hb)
        have n1_ := Aside0.mk (blk_below (g := gb174) (o := .cells #[.int .i64 a1_0, .int .i64 a1_1] 38 (0, 0)) (by (with_reducible repeat (first | refine blk_drewN ?_ _ | refine blk_drew ?_ | refine blk_alloc ?_ _)); exact BK174.out) hb)
        have n2_ := Aside0.mk (blk_below (g := gb178) (o := .cells #[.int .i64 t175, .int .i64 t176] 38 (0, 0)) (by (with_reducible repeat (first | refine blk_drewN ?_ _ | refine blk_drew ?_ | refine blk_alloc ?_ _)); exact BK178.out) hb)
        have n3_ := Aside0.mk (blk_below (g := gb182) (o := .cells #[.int .i64 t179, .int .i64 t180] 38 (0, 0)) (by (with_reducible repeat (first | refine blk_drewN ?_ _ | refine blk_drew ?_ | refine blk_alloc ?_ _)); exact BK182.out) hb)
        have n4_ := Aside0.mk (below_step (by repeat (first | (with_reducible first | exact HB.out | apply below_alloc | apply pw_below_drewN | apply below_drew1 | refine below_set ?_ GE173.out | refine below_set ?_ GE174.out | refine below_set ?_ GE178.out | refine below_set ?_ GE182.out) | exact HB.out)) hb)
        clear BK173
        clear BK174
        clear BK178
        clear BK182
        clear HB
        have BK173 := n0_
        have BK174 := n1_
        have BK178 := n2_
        have BK182 := n3_
        have HB := n4_
        clear n0_ n1_ n2_ n3_ n4_
        (try clear hb)
        (try clear hb2)
        (try clear hk)
        (try clear hi)
        refine hK.out _ _ ⟨(blk_cell BK173.out 0).trans rfl, (blk_cell BK173.out 1).trans rfl, (blk_cell BK178.out 0).trans rfl, (blk_cell BK178.out 1).trans rfl, (blk_cell BK182.out 0).trans rfl, (blk_cell BK182.out 1).trans rfl⟩ (fun hHeld => ?_)
        clear hK K
        refine norm_ (a' := ?_) ?_ ?_
        rotate_left
        · show Act.put _ (some 24) _ = _
          simp only [Act.put, List.setIfInBounds_toArray, List.set_cons_zero, List.set_cons_succ, i64_w, i32_w]
          rfl
        refine pure_ (i := 4) (N := some 25) (v := ?_) (a' := ?_) #[true, true, true, true, true, false, false, false, false, false, false, false, false, false, false] rfl rfl (any_of HT_.out (by kernel_rfl)) (fun _ _ _ h => h) (Or.inl ⟨by rfl, ?_⟩) ?_ ?_
        rotate_left
        · intro w'
          go_simp
          with_reducible rfl
        rotate_left
        · simp only [Act.put, List.setIfInBounds_toArray, List.set_cons_zero, List.set_cons_succ, i64_w, i32_w]
          rfl
        refine pure_ (i := 5) (N := some 26) (v := ?_) (a' := ?_) #[true, true, true, true, true, true, false, false, false, false, false, false, false, false, false] rfl rfl (any_of HT_.out (by kernel_rfl)) (fun _ _ _ h => h) (Or.inl ⟨by rfl, ?_⟩) ?_ ?_
        rotate_left
        · intro w'
          go_simp
          with_reducible rfl
        rotate_left
        · simp only [Act.put, List.setIfInBounds_toArray, List.set_cons_zero, List.set_cons_succ, i64_w, i32_w]
          rfl
        refine take_ (i := 6) (N := some 27) (v := ?_) (a' := ?_) #[true, true, true, true, true, true, true, false, false, false, false, false, false, false, false] rfl rfl (take_ofW HT_.out HW_.out (by kernel_rfl)) (fun _ _ _ h => h) (Or.inl ⟨by rfl, ?_⟩) hHeld ?_ ?_
        rotate_left
        · rintro w' ⟨s0, s1, s2, s3, s4, s5⟩
          go_simp
          with_reducible rfl
        rotate_left
        · simp only [Act.put, List.setIfInBounds_toArray, List.set_cons_zero, List.set_cons_succ, i64_w, i32_w]
          rfl
        refine take_ (i := 7) (N := some 28) (v := ?_) (a' := ?_) #[true, true, true, true, true, true, true, true, false, false, false, false, false, false, false] rfl rfl (take_ofW HT_.out HW_.out (by kernel_rfl)) (fun _ _ _ h => h) (Or.inl ⟨by rfl, ?_⟩) hHeld ?_ ?_
        rotate_left
        · rintro w' ⟨s0, s1, s2, s3, s4, s5⟩
          go_simp
          with_reducible rfl
        rotate_left
        · simp only [Act.put, List.setIfInBounds_toArray, List.set_cons_zero, List.set_cons_succ, i64_w, i32_w]
          rfl
        refine pure_ (i := 8) (N := some 29) (v := ?_) (a' := ?_) #[true, true, true, true, true, true, true, true, true, false, false, false, false, false, false] rfl rfl (any_of HT_.out (by kernel_rfl)) (fun _ _ _ h => h) (Or.inl ⟨by rfl, ?_⟩) ?_ ?_
        rotate_left
        · intro w'
          go_simp
          with_reducible rfl
        rotate_left
        · simp only [Act.put, List.setIfInBounds_toArray, List.set_cons_zero, List.set_cons_succ, i64_w, i32_w]
          rfl
        refine pure_ (i := 9) (N := some 30) (v := ?_) (a' := ?_) #[true, true, true, true, true, true, true, true, true, true, false, false, false, false, false] rfl rfl (any_of HT_.out (by kernel_rfl)) (fun _ _ _ h => h) (Or.inl ⟨by rfl, ?_⟩) ?_ ?_
        rotate_left
        · intro w'
          go_simp
          with_reducible rfl
        rotate_left
        · simp only [Act.put, List.setIfInBounds_toArray, List.set_cons_zero, List.set_cons_succ, i64_w, i32_w]
          rfl
        refine pure_ (i := 10) (N := some 31) (v := ?_) (a' := ?_) #[true, true, true, true, true, true, true, true, true, true, true, false, false, false, false] rfl rfl (any_of HT_.out (by kernel_rfl)) (fun _ _ _ h => h) (Or.inl ⟨by rfl, ?_⟩) ?_ ?_
        rotate_left
        · intro w'
          go_simp
          with_reducible rfl
        rotate_left
        · simp only [Act.put, List.setIfInBounds_toArray, List.set_cons_zero, List.set_cons_succ, i64_w, i32_w]
          rfl
        refine pure_ (i := 11) (N := some 32) (v := undef) (a' := ?_) #[true, true, true, true, true, true, true, true, true, true, true, true, false, false, false] rfl rfl (any_of HT_.out (by kernel_rfl)) (fun _ _ _ h => h) (Or.inr ⟨by rfl, rfl⟩) ?_ ?_
        rotate_left
        · simp only [Act.put, List.setIfInBounds_toArray, List.set_cons_zero, List.set_cons_succ, i64_w, i32_w]
          rfl
        refine pure_ (i := 12) (N := some 33) (v := undef) (a' := ?_) #[true, true, true, true, true, true, true, true, true, true, true, true, true, false, false] rfl rfl (any_of HT_.out (by kernel_rfl)) (fun _ _ _ h => h) (Or.inr ⟨by rfl, rfl⟩) ?_ ?_
        rotate_left
        · simp only [Act.put, List.setIfInBounds_toArray, List.set_cons_zero, List.set_cons_succ, i64_w, i32_w]
          rfl
        refine pure_ (i := 13) (N := some 34) (v := undef) (a' := ?_) #[true, true, true, true, true, true, true, true, true, true, true, true, true, true, false] rfl rfl (any_of HT_.out (by kernel_rfl)) (fun _ _ _ h => h) (Or.inr ⟨by rfl, rfl⟩) ?_ ?_
        rotate_left
        · simp only [Act.put, List.setIfInBounds_toArray, List.set_cons_zero, List.set_cons_succ, i64_w, i32_w]
          rfl
        refine pure_ (i := 14) (N := some 35) (v := ?_) (a' := ?_) #[true, true, true, true, true, true, true, true, true, true, true, true, true, true, true] rfl rfl (any_of HT_.out (by kernel_rfl)) (fun _ _ _ h => h) (Or.inl ⟨by rfl, ?_⟩) ?_ ?_
        rotate_left
        · intro w'
          go_simp
          with_reducible rfl
        rotate_left
        · simp only [Act.put, List.setIfInBounds_toArray, List.set_cons_zero, List.set_cons_succ, i64_w, i32_w]
          rfl
        refine done_ (done_of HT_.out (by kernel_rfl)) ?_
        try go_wp2
        go_meet
        case rel => exact ⟨_, (true), (by first | rfl | (simp; done) | (simp [*]; done)), H', ⟨by first | omega | exact Nat.le_refl _⟩, ⟨by (with_reducible repeat (first | refine blk_drewN ?_ _ | refine blk_drew ?_ | refine blk_alloc ?_ _)); exact BK173.out⟩, ⟨by (with_reducible repeat (first | refine blk_drewN ?_ _ | refine blk_drew ?_ | refine blk_alloc ?_ _)); exact BK174.out⟩, ⟨by (with_reducible repeat (first | refine blk_drewN ?_ _ | refine blk_drew ?_ | refine blk_alloc ?_ _)); exact BK178.out⟩, ⟨by (with_reducible repeat (first | refine blk_drewN ?_ _ | refine blk_drew ?_ | refine blk_alloc ?_ _)); exact BK182.out⟩, ⟨by repeat (first | (with_reducible first | exact HB.out | apply below_alloc | apply pw_below_drewN | apply below_drew1 | refine below_set ?_ GE173.out | refine below_set ?_ GE174.out | refine below_set ?_ GE178.out | refine below_set ?_ GE182.out) | exact HB.out)⟩⟩
      · rw [if_neg c29] at H
        have c29b0 : (!(t175 == t179) || (!(t176 == t180))) = false := by simpa using c29
        clear c29
        have H' := Aside0.mk H
        clear H
        try go_wp2
        have n0_ : Aside0 (((w17.setCell ⟨gb182, 0, none⟩ (.int .i64 t179)).setCell ⟨gb182, 1, none⟩ (.int .i64 t180)).heap[gb173]? = some (.cells #[.int .i64 a0_0, .int .i64 a0_1] 38 (0, 0))) := ⟨by (with_reducible repeat (first | refine blk_drewN ?_ _ | refine blk_drew ?_ | refine blk_alloc ?_ _)); refine blk_far ?_ NB173_182.out _; (with_reducible repeat (first | refine blk_drewN ?_ _ | refine blk_drew ?_ | refine blk_alloc ?_ _)); refine blk_far ?_ NB173_182.out _; (with_reducible repeat (first | refine blk_drewN ?_ _ | refine blk_drew ?_ | refine blk_alloc ?_ _)); exact BK173.out⟩
        have n1_ : Aside0 (((w17.setCell ⟨gb182, 0, none⟩ (.int .i64 t179)).setCell ⟨gb182, 1, none⟩ (.int .i64 t180)).heap[gb174]? = some (.cells #[.int .i64 a1_0, .int .i64 a1_1] 38 (0, 0))) := ⟨by (with_reducible repeat (first | refine blk_drewN ?_ _ | refine blk_drew ?_ | refine blk_alloc ?_ _)); refine blk_far ?_ NB174_182.out _; (with_reducible repeat (first | refine blk_drewN ?_ _ | refine blk_drew ?_ | refine blk_alloc ?_ _)); refine blk_far ?_ NB174_182.out _; (with_reducible repeat (first | refine blk_drewN ?_ _ | refine blk_drew ?_ | refine blk_alloc ?_ _)); exact BK174.out⟩
        have n2_ : Aside0 (((w17.setCell ⟨gb182, 0, none⟩ (.int .i64 t179)).setCell ⟨gb182, 1, none⟩ (.int .i64 t180)).heap[gb178]? = some (.cells #[.int .i64 t175, .int .i64 t176] 38 (0, 0))) := ⟨by (with_reducible repeat (first | refine blk_drewN ?_ _ | refine blk_drew ?_ | refine blk_alloc ?_ _)); refine blk_far ?_ NB178_182.out _; (with_reducible repeat (first | refine blk_drewN ?_ _ | refine blk_drew ?_ | refine blk_alloc ?_ _)); refine blk_far ?_ NB178_182.out _; (with_reducible repeat (first | refine blk_drewN ?_ _ | refine blk_drew ?_ | refine blk_alloc ?_ _)); exact BK178.out⟩
        have n3_ : Aside0 (((w17.setCell ⟨gb182, 0, none⟩ (.int .i64 t179)).setCell ⟨gb182, 1, none⟩ (.int .i64 t180)).heap[gb182]? = some (.cells #[.int .i64 t179, .int .i64 t180] 38 (0, 0))) := ⟨by (with_reducible repeat (first | refine blk_drewN ?_ _ | refine blk_drew ?_ | refine blk_alloc ?_ _)); refine blk_put (cs := #[.int .i64 t179, .int .i64 0]) ?_ 1 _ rfl; (with_reducible repeat (first | refine blk_drewN ?_ _ | refine blk_drew ?_ | refine blk_alloc ?_ _)); refine blk_put (cs := #[.int .i64 0, .int .i64 0]) ?_ 0 _ rfl; (with_reducible repeat (first | refine blk_drewN ?_ _ | refine blk_drew ?_ | refine blk_alloc ?_ _)); exact BK182.out⟩
        have n4_ : Aside0 (Below w.heap.size w ((w17.setCell ⟨gb182, 0, none⟩ (.int .i64 t179)).setCell ⟨gb182, 1, none⟩ (.int .i64 t180))) := ⟨by repeat (first | (with_reducible first | exact HB.out | apply below_alloc | apply pw_below_drewN | apply below_drew1 | refine below_set ?_ GE173.out | refine below_set ?_ GE174.out | refine below_set ?_ GE178.out | refine below_set ?_ GE182.out) | exact HB.out)⟩
        (try clear BK173)
        (try clear BK174)
        (try clear BK178)
        (try clear BK182)
        (try clear HB)
        generalize ((w17.setCell ⟨gb182, 0, none⟩ (.int .i64 t179)).setCell ⟨gb182, 1, none⟩ (.int .i64 t180)) = w34 at n0_ n1_ n2_ n3_ n4_ ⊢
        have BK173 := n0_
        have BK174 := n1_
        have BK178 := n2_
        have BK182 := n3_
        have HB := n4_
        clear n0_ n1_ n2_ n3_ n4_
        have n0_ := Aside0.mk (blk_drew BK173.out)
        have n1_ := Aside0.mk (blk_drew BK174.out)
        have n2_ := Aside0.mk (blk_drew BK178.out)
        have n3_ := Aside0.mk (blk_drew BK182.out)
        have n4_ := Aside0.mk (below_drew1 HB.out)
        clear BK173
        clear BK174
        clear BK178
        clear BK182
        clear HB
        have BK173 := n0_
        have BK174 := n1_
        have BK178 := n2_
        have BK182 := n3_
        have HB := n4_
        clear n0_ n1_ n2_ n3_ n4_
        refine start_ (n := 15) (S := fun w' => w'.cell? ⟨gb173, 0, none⟩ = some (.int .i64 a0_0) ∧ w'.cell? ⟨gb173, 1, none⟩ = some (.int .i64 a0_1) ∧ w'.cell? ⟨gb178, 0, none⟩ = some (.int .i64 t175) ∧ w'.cell? ⟨gb178, 1, none⟩ = some (.int .i64 t176) ∧ w'.cell? ⟨gb182, 0, none⟩ = some (.int .i64 t179) ∧ w'.cell? ⟨gb182, 1, none⟩ = some (.int .i64 t180)) (ds := []) #[false, false, false, false, false, false, false, false, false, false, false, false, false, false, false] (by kernel_rfl) rfl rfl ⟨(blk_cell BK173.out 0).trans rfl, (blk_cell BK173.out 1).trans rfl, (blk_cell BK178.out 0).trans rfl, (blk_cell BK178.out 1).trans rfl, (blk_cell BK182.out 0).trans rfl, (blk_cell BK182.out 1).trans rfl⟩ (fun hHeld => ?_); refine with_tabW manorboylaw01_IntegerSpans.tab3 manorboylaw01_IntegerSpans.bits3 (fun HT_ HW_ => ?_)
        generalize w34.drew = w35 at BK173 BK174 BK178 BK182 HB hHeld ⊢
        refine take_ (i := 0) (N := some 21) (v := ?_) (a' := ?_) #[true, false, false, false, false, false, false, false, false, false, false, false, false, false, false] rfl rfl (take_ofW HT_.out HW_.out (by kernel_rfl)) (fun _ _ _ h => h) (Or.inl ⟨by rfl, ?_⟩) hHeld ?_ ?_
        rotate_left
        · rintro w' ⟨s0, s1, s2, s3, s4, s5⟩
          go_simp
          with_reducible rfl
        rotate_left
        · simp only [Act.put, List.setIfInBounds_toArray, List.set_cons_zero, List.set_cons_succ, i64_w, i32_w]
          rfl
        refine take_ (i := 2) (N := some 23) (v := ?_) (a' := ?_) #[true, false, true, false, false, false, false, false, false, false, false, false, false, false, false] rfl rfl (take_ofW HT_.out HW_.out (by kernel_rfl)) (fun _ _ _ h => h) (Or.inl ⟨by rfl, ?_⟩) hHeld ?_ ?_
        rotate_left
        · rintro w' ⟨s0, s1, s2, s3, s4, s5⟩
          go_simp
          with_reducible rfl
        rotate_left
        · simp only [Act.put, List.setIfInBounds_toArray, List.set_cons_zero, List.set_cons_succ, i64_w, i32_w]
          rfl
        refine one_ (i := 1) (N := some 22) #[true, true, true, false, false, false, false, false, false, false, false, false, false, false, false] rfl rfl (one_of HT_.out (by kernel_rfl)) (by decide) (fun K hK => ?_)
        refine goes_ Try.func51 (by kernel_rfl) rfl #[.agg #[.int .i64 a0_0, .int .i64 a0_1]] (by rfl) rfl rfl (by (try simp only [List.map_toArray, List.map_cons, List.map_nil]); first | done | rfl | (simp only [List.length_drop, List.length_take]; rfl)) ?_
        with_reducible refine (integer_ValidSpan.calls a0_0 a0_1 t183 _ A22.out).mono ?_
        rintro e w36 ⟨rfl, hb⟩
        refine ⟨_, rfl, ?_⟩
        have n0_ := Aside0.mk (blk_below (g := gb173) (o := .cells #[.int .i64 a0_0, .int .i64 a0_1] 38 (0, 0)) (by (with_reducible repeat (first | refine blk_drewN ?_ _ | refine blk_drew ?_ | refine blk_alloc ?_ _)); exact BK173.out) hb)
        have n1_ := Aside0.mk (blk_below (g := gb174) (o := .cells #[.int .i64 a1_0, .int .i64 a1_1] 38 (0, 0)) (by (with_reducible repeat (first | refine blk_drewN ?_ _ | refine blk_drew ?_ | refine blk_alloc ?_ _)); exact BK174.out) hb)
        have n2_ := Aside0.mk (blk_below (g := gb178) (o := .cells #[.int .i64 t175, .int .i64 t176] 38 (0, 0)) (by (with_reducible repeat (first | refine blk_drewN ?_ _ | refine blk_drew ?_ | refine blk_alloc ?_ _)); exact BK178.out) hb)
        have n3_ := Aside0.mk (blk_below (g := gb182) (o := .cells #[.int .i64 t179, .int .i64 t180] 38 (0, 0)) (by (with_reducible repeat (first | refine blk_drewN ?_ _ | refine blk_drew ?_ | refine blk_alloc ?_ _)); exact BK182.out) hb)
        have n4_ := Aside0.mk (below_step (by repeat (first | (with_reducible first | exact HB.out | apply below_alloc | apply pw_below_drewN | apply below_drew1 | refine below_set ?_ GE173.out | refine below_set ?_ GE174.out | refine below_set ?_ GE178.out | refine below_set ?_ GE182.out) | exact HB.out)) hb)
        clear BK173
        clear BK174
        clear BK178
        clear BK182
        clear HB
        have BK173 := n0_
        have BK174 := n1_
        have BK178 := n2_
        have BK182 := n3_
        have HB := n4_
        clear n0_ n1_ n2_ n3_ n4_
        (try clear hb)
        (try clear hb2)
        (try clear hk)
        (try clear hi)
        refine hK.out _ _ ⟨(blk_cell BK173.out 0).trans rfl, (blk_cell BK173.out 1).trans rfl, (blk_cell BK178.out 0).trans rfl, (blk_cell BK178.out 1).trans rfl, (blk_cell BK182.out 0).trans rfl, (blk_cell BK182.out 1).trans rfl⟩ (fun hHeld => ?_)
        clear hK K
        refine norm_ (a' := ?_) ?_ ?_
        rotate_left
        · show Act.put _ (some 22) _ = _
          simp only [Act.put, List.setIfInBounds_toArray, List.set_cons_zero, List.set_cons_succ, i64_w, i32_w]
          rfl
        refine one_ (i := 3) (N := some 24) #[true, true, true, true, false, false, false, false, false, false, false, false, false, false, false] rfl rfl (one_of HT_.out (by kernel_rfl)) (by decide) (fun K hK => ?_)
        refine goes_ Try.func65 (by kernel_rfl) rfl #[.agg #[.int .i64 a0_0, .int .i64 a0_1]] (by rfl) rfl rfl (by (try simp only [List.map_toArray, List.map_cons, List.map_nil]); first | done | rfl | (simp only [List.length_drop, List.length_take]; rfl)) ?_
        with_reducible refine (manorboyref01_ValidSpan.calls a0_0 a0_1 t184 _ A23.out).mono ?_
        rintro e w37 ⟨rfl, hb⟩
        refine ⟨_, rfl, ?_⟩
        have n0_ := Aside0.mk (blk_below (g := gb173) (o := .cells #[.int .i64 a0_0, .int .i64 a0_1] 38 (0, 0)) (by (with_reducible repeat (first | refine blk_drewN ?_ _ | refine blk_drew ?_ | refine blk_alloc ?_ _)); exact BK173.out) hb)
        have n1_ := Aside0.mk (blk_below (g := gb174) (o := .cells #[.int .i64 a1_0, .int .i64 a1_1] 38 (0, 0)) (by (with_reducible repeat (first | refine blk_drewN ?_ _ | refine blk_drew ?_ | refine blk_alloc ?_ _)); exact BK174.out) hb)
        have n2_ := Aside0.mk (blk_below (g := gb178) (o := .cells #[.int .i64 t175, .int .i64 t176] 38 (0, 0)) (by (with_reducible repeat (first | refine blk_drewN ?_ _ | refine blk_drew ?_ | refine blk_alloc ?_ _)); exact BK178.out) hb)
        have n3_ := Aside0.mk (blk_below (g := gb182) (o := .cells #[.int .i64 t179, .int .i64 t180] 38 (0, 0)) (by (with_reducible repeat (first | refine blk_drewN ?_ _ | refine blk_drew ?_ | refine blk_alloc ?_ _)); exact BK182.out) hb)
        have n4_ := Aside0.mk (below_step (by repeat (first | (with_reducible first | exact HB.out | apply below_alloc | apply pw_below_drewN | apply below_drew1 | refine below_set ?_ GE173.out | refine below_set ?_ GE174.out | refine below_set ?_ GE178.out | refine below_set ?_ GE182.out) | exact HB.out)) hb)
        clear BK173
        clear BK174
        clear BK178
        clear BK182
        clear HB
        have BK173 := n0_
        have BK174 := n1_
        have BK178 := n2_
        have BK182 := n3_
        have HB := n4_
        clear n0_ n1_ n2_ n3_ n4_
        (try clear hb)
        (try clear hb2)
        (try clear hk)
        (try clear hi)
        refine hK.out _ _ ⟨(blk_cell BK173.out 0).trans rfl, (blk_cell BK173.out 1).trans rfl, (blk_cell BK178.out 0).trans rfl, (blk_cell BK178.out 1).trans rfl, (blk_cell BK182.out 0).trans rfl, (blk_cell BK182.out 1).trans rfl⟩ (fun hHeld => ?_)
        clear hK K
        refine norm_ (a' := ?_) ?_ ?_
        rotate_left
        · show Act.put _ (some 24) _ = _
          simp only [Act.put, List.setIfInBounds_toArray, List.set_cons_zero, List.set_cons_succ, i64_w, i32_w]
          rfl
        refine pure_ (i := 4) (N := some 25) (v := ?_) (a' := ?_) #[true, true, true, true, true, false, false, false, false, false, false, false, false, false, false] rfl rfl (any_of HT_.out (by kernel_rfl)) (fun _ _ _ h => h) (Or.inl ⟨by rfl, ?_⟩) ?_ ?_
        rotate_left
        · intro w'
          go_simp
          with_reducible rfl
        rotate_left
        · simp only [Act.put, List.setIfInBounds_toArray, List.set_cons_zero, List.set_cons_succ, i64_w, i32_w]
          rfl
        refine pure_ (i := 5) (N := some 26) (v := ?_) (a' := ?_) #[true, true, true, true, true, true, false, false, false, false, false, false, false, false, false] rfl rfl (any_of HT_.out (by kernel_rfl)) (fun _ _ _ h => h) (Or.inl ⟨by rfl, ?_⟩) ?_ ?_
        rotate_left
        · intro w'
          go_simp
          with_reducible rfl
        rotate_left
        · simp only [Act.put, List.setIfInBounds_toArray, List.set_cons_zero, List.set_cons_succ, i64_w, i32_w]
          rfl
        refine take_ (i := 6) (N := some 27) (v := ?_) (a' := ?_) #[true, true, true, true, true, true, true, false, false, false, false, false, false, false, false] rfl rfl (take_ofW HT_.out HW_.out (by kernel_rfl)) (fun _ _ _ h => h) (Or.inl ⟨by rfl, ?_⟩) hHeld ?_ ?_
        rotate_left
        · rintro w' ⟨s0, s1, s2, s3, s4, s5⟩
          go_simp
          with_reducible rfl
        rotate_left
        · simp only [Act.put, List.setIfInBounds_toArray, List.set_cons_zero, List.set_cons_succ, i64_w, i32_w]
          rfl
        refine take_ (i := 7) (N := some 28) (v := ?_) (a' := ?_) #[true, true, true, true, true, true, true, true, false, false, false, false, false, false, false] rfl rfl (take_ofW HT_.out HW_.out (by kernel_rfl)) (fun _ _ _ h => h) (Or.inl ⟨by rfl, ?_⟩) hHeld ?_ ?_
        rotate_left
        · rintro w' ⟨s0, s1, s2, s3, s4, s5⟩
          go_simp
          with_reducible rfl
        rotate_left
        · simp only [Act.put, List.setIfInBounds_toArray, List.set_cons_zero, List.set_cons_succ, i64_w, i32_w]
          rfl
        refine pure_ (i := 8) (N := some 29) (v := ?_) (a' := ?_) #[true, true, true, true, true, true, true, true, true, false, false, false, false, false, false] rfl rfl (any_of HT_.out (by kernel_rfl)) (fun _ _ _ h => h) (Or.inl ⟨by rfl, ?_⟩) ?_ ?_
        rotate_left
        · intro w'
          go_simp
          with_reducible rfl
        rotate_left
        · simp only [Act.put, List.setIfInBounds_toArray, List.set_cons_zero, List.set_cons_succ, i64_w, i32_w]
          rfl
        refine pure_ (i := 9) (N := some 30) (v := ?_) (a' := ?_) #[true, true, true, true, true, true, true, true, true, true, false, false, false, false, false] rfl rfl (any_of HT_.out (by kernel_rfl)) (fun _ _ _ h => h) (Or.inl ⟨by rfl, ?_⟩) ?_ ?_
        rotate_left
        · intro w'
          go_simp
          with_reducible rfl
        rotate_left
        · simp only [Act.put, List.setIfInBounds_toArray, List.set_cons_zero, List.set_cons_succ, i64_w, i32_w]
          rfl
        refine pure_ (i := 10) (N := some 31) (v := ?_) (a' := ?_) #[true, true, true, true, true, true, true, true, true, true, true, false, false, false, false] rfl rfl (any_of HT_.out (by kernel_rfl)) (fun _ _ _ h => h) (Or.inl ⟨by rfl, ?_⟩) ?_ ?_
        rotate_left
        · intro w'
          go_simp
          with_reducible rfl
        rotate_left
        · simp only [Act.put, List.setIfInBounds_toArray, List.set_cons_zero, List.set_cons_succ, i64_w, i32_w]
          rfl
        refine pure_ (i := 11) (N := some 32) (v := ?_) (a' := ?_) #[true, true, true, true, true, true, true, true, true, true, true, true, false, false, false] rfl rfl (any_of HT_.out (by kernel_rfl)) (fun _ _ _ h => h) (Or.inl ⟨by rfl, ?_⟩) ?_ ?_
        rotate_left
        · intro w'
          go_simp
          with_reducible rfl
        rotate_left
        · simp only [Act.put, List.setIfInBounds_toArray, List.set_cons_zero, List.set_cons_succ, i64_w, i32_w]
          rfl
        refine pure_ (i := 12) (N := some 33) (v := ?_) (a' := ?_) #[true, true, true, true, true, true, true, true, true, true, true, true, true, false, false] rfl rfl (any_of HT_.out (by kernel_rfl)) (fun _ _ _ h => h) (Or.inl ⟨by rfl, ?_⟩) ?_ ?_
        rotate_left
        · intro w'
          go_simp
          with_reducible rfl
        rotate_left
        · simp only [Act.put, List.setIfInBounds_toArray, List.set_cons_zero, List.set_cons_succ, i64_w, i32_w]
          rfl
        refine pure_ (i := 13) (N := some 34) (v := ?_) (a' := ?_) #[true, true, true, true, true, true, true, true, true, true, true, true, true, true, false] rfl rfl (any_of HT_.out (by kernel_rfl)) (fun _ _ _ h => h) (Or.inl ⟨by rfl, ?_⟩) ?_ ?_
        rotate_left
        · intro w'
          go_simp
          with_reducible rfl
        rotate_left
        · simp only [Act.put, List.setIfInBounds_toArray, List.set_cons_zero, List.set_cons_succ, i64_w, i32_w]
          rfl
        refine pure_ (i := 14) (N := some 35) (v := ?_) (a' := ?_) #[true, true, true, true, true, true, true, true, true, true, true, true, true, true, true] rfl rfl (any_of HT_.out (by kernel_rfl)) (fun _ _ _ h => h) (Or.inl ⟨by rfl, ?_⟩) ?_ ?_
        rotate_left
        · intro w'
          go_simp
          with_reducible rfl
        rotate_left
        · simp only [Act.put, List.setIfInBounds_toArray, List.set_cons_zero, List.set_cons_succ, i64_w, i32_w]
          rfl
        refine done_ (done_of HT_.out (by kernel_rfl)) ?_
        try go_wp2
        go_meet
        case rel => exact ⟨_, ((t177 != t181)), (by first | rfl | (simp; done) | (simp [*]; done)), H', ⟨by first | omega | exact Nat.le_refl _⟩, ⟨by (with_reducible repeat (first | refine blk_drewN ?_ _ | refine blk_drew ?_ | refine blk_alloc ?_ _)); exact BK173.out⟩, ⟨by (with_reducible repeat (first | refine blk_drewN ?_ _ | refine blk_drew ?_ | refine blk_alloc ?_ _)); exact BK174.out⟩, ⟨by (with_reducible repeat (first | refine blk_drewN ?_ _ | refine blk_drew ?_ | refine blk_alloc ?_ _)); exact BK178.out⟩, ⟨by (with_reducible repeat (first | refine blk_drewN ?_ _ | refine blk_drew ?_ | refine blk_alloc ?_ _)); exact BK182.out⟩, ⟨by repeat (first | (with_reducible first | exact HB.out | apply below_alloc | apply pw_below_drewN | apply below_drew1 | refine below_set ?_ GE173.out | refine below_set ?_ GE174.out | refine below_set ?_ GE178.out | refine below_set ?_ GE182.out) | exact HB.out)⟩⟩
  case rest => as_aux_lemma =>
    clear HC5
    try clear c2
    try clear p2
    try clear c5
    try clear c6
    try clear c24
    try clear c24b0
    try clear c24b1
    try clear c24b2
    try clear c29
    try clear c29b0
    obtain ⟨kq, x35_4, rfl, HA, HJ4, BK173, BK174, BK178, BK182, HB⟩ := hcut
    cases kq with
    | zero => exact absurd HA.out (by simp [manorboylaw01_IntegerSpans.j0])
    | succ kj4 =>
      have H := HA.out
      clear HA
      simp only [manorboylaw01_IntegerSpans.j0] at H
      by_cases c38 : x35_4 = true
      · subst c38
        have H1 : (some false) = some r := by rw [if_pos rfl] at H; exact H
        clear H
        have H := H1
        clear H1
        obtain rfl := Option.some.inj H
        go_wp2
        go_ret
        exact ⟨by first | rfl | (simp [errW_none, errW_some] <;> rfl) | (simp [*, errW_none, errW_some] <;> rfl), by repeat (first | (with_reducible first | exact HB.out | apply below_alloc | apply pw_below_drewN | apply below_drew1 | refine below_set ?_ GE173.out | refine below_set ?_ GE174.out | refine below_set ?_ GE178.out | refine below_set ?_ GE182.out) | exact HB.out)⟩
      · replace c38 := Bool.eq_false_iff.mpr c38
        subst c38
        have H1 : ((integer_SpanAdd.f a0_0 a0_1 a1_0 a1_1).bind fun bt185 => ((manorboyref01_SpanAdd.f a0_0 a0_1 a1_0 a1_1).bind fun bt189 => (if (!(bt185.1 == bt189.1) || (!(bt185.2.1 == bt189.2.1))) = true then (manorboylaw01_IntegerSpans.j1 kj4 true a0_0 a0_1 a1_0 a1_1) else (if (bt185.2.2.1 != bt189.2.2.1) = true then (manorboylaw01_IntegerSpans.j1 kj4 true a0_0 a0_1 a1_0 a1_1) else (manorboylaw01_IntegerSpans.j1 kj4 (bt185.2.2.2 != bt189.2.2.2) a0_0 a0_1 a1_0 a1_1))))) = some r := by rw [if_neg (show ¬ (false = true) by decide)] at H; exact H
        clear H
        have H := H1
        clear H1
        replace H := Option.bind_eq_some_iff.mp H
        obtain ⟨⟨t185, t186, t187, t188⟩, A390, H⟩ := H
        replace H : ((manorboyref01_SpanAdd.f a0_0 a0_1 a1_0 a1_1).bind fun bt189 => (if (!(t185 == bt189.1) || (!(t186 == bt189.2.1))) = true then (manorboylaw01_IntegerSpans.j1 kj4 true a0_0 a0_1 a1_0 a1_1) else (if (t187 != bt189.2.2.1) = true then (manorboylaw01_IntegerSpans.j1 kj4 true a0_0 a0_1 a1_0 a1_1) else (manorboylaw01_IntegerSpans.j1 kj4 (t188 != bt189.2.2.2) a0_0 a0_1 a1_0 a1_1)))) = some r := H
        have A39 := Aside0.mk A390
        clear A390
        replace H := Option.bind_eq_some_iff.mp H
        obtain ⟨⟨t189, t190, t191, t192⟩, A400, H⟩ := H
        replace H : (if (!(t185 == t189) || (!(t186 == t190))) = true then (manorboylaw01_IntegerSpans.j1 kj4 true a0_0 a0_1 a1_0 a1_1) else (if (t187 != t191) = true then (manorboylaw01_IntegerSpans.j1 kj4 true a0_0 a0_1 a1_0 a1_1) else (manorboylaw01_IntegerSpans.j1 kj4 (t188 != t192) a0_0 a0_1 a1_0 a1_1))) = some r := H
        have A40 := Aside0.mk A400
        clear A400
        have HC41 := Aside0.mk H
        clear H
        have hnb42 := NB173_174.out
        have hnc42 := NB174_173.out
        have hnb43 := NB173_178.out
        have hnc43 := NB178_173.out
        have hnb44 := NB173_182.out
        have hnc44 := NB182_173.out
        have hcz45_0 : wc.cell? ⟨gb173, 0, none⟩ = some (.int .i64 a0_0) := (blk_cell BK173.out 0).trans rfl
        have hcz45_1 : wc.cell? ⟨gb173, 1, none⟩ = some (.int .i64 a0_1) := (blk_cell BK173.out 1).trans rfl
        have hfz45_0 := blk_frozen BK173.out 0
        have hfz45_1 := blk_frozen BK173.out 1
        have hnb46 := NB174_178.out
        have hnc46 := NB178_174.out
        have hnb47 := NB174_182.out
        have hnc47 := NB182_174.out
        have hcz48_0 : wc.cell? ⟨gb174, 0, none⟩ = some (.int .i64 a1_0) := (blk_cell BK174.out 0).trans rfl
        have hcz48_1 : wc.cell? ⟨gb174, 1, none⟩ = some (.int .i64 a1_1) := (blk_cell BK174.out 1).trans rfl
        have hfz48_0 := blk_frozen BK174.out 0
        have hfz48_1 := blk_frozen BK174.out 1
        go_upto_region 7 with (first | ((with_reducible refine gate_callee (f := 66) rfl ?_); refine goesL_ (some 39) rfl rfl Try.func66 (by kernel_rfl) rfl #[.agg #[.int .i64 a0_0, .int .i64 a0_1], .agg #[.int .i64 a1_0, .int .i64 a1_1]] rfl (by (try simp only [List.map_toArray, List.map_cons, List.map_nil]); first | done | rfl | (simp only [List.length_drop, List.length_take]; rfl)) ?_; (with_reducible refine (integer_SpanAdd.calls a0_0 a0_1 a1_0 a1_1 t185 t186 t187 t188 _ A39.out).mono ?_); rintro e w49 ⟨rfl, hb⟩; refine ⟨_, rfl, ?_⟩; have n0_ := Aside0.mk (blk_below (g := gb173) (o := .cells #[.int .i64 a0_0, .int .i64 a0_1] 38 (0, 0)) (by (with_reducible repeat (first | refine blk_drewN ?_ _ | refine blk_drew ?_ | refine blk_alloc ?_ _)); exact BK173.out) hb); have n1_ := Aside0.mk (blk_below (g := gb174) (o := .cells #[.int .i64 a1_0, .int .i64 a1_1] 38 (0, 0)) (by (with_reducible repeat (first | refine blk_drewN ?_ _ | refine blk_drew ?_ | refine blk_alloc ?_ _)); exact BK174.out) hb); have n2_ := Aside0.mk (blk_below (g := gb178) (o := .cells #[.int .i64 t175, .int .i64 t176] 38 (0, 0)) (by (with_reducible repeat (first | refine blk_drewN ?_ _ | refine blk_drew ?_ | refine blk_alloc ?_ _)); exact BK178.out) hb); have n3_ := Aside0.mk (blk_below (g := gb182) (o := .cells #[.int .i64 t179, .int .i64 t180] 38 (0, 0)) (by (with_reducible repeat (first | refine blk_drewN ?_ _ | refine blk_drew ?_ | refine blk_alloc ?_ _)); exact BK182.out) hb); have n4_ := Aside0.mk (below_step (by repeat (first | (with_reducible first | exact HB.out | apply below_alloc | apply pw_below_drewN | apply below_drew1 | refine below_set ?_ GE173.out | refine below_set ?_ GE174.out | refine below_set ?_ GE178.out | refine below_set ?_ GE182.out) | exact HB.out)) hb); clear BK173; clear BK174; clear BK178; clear BK182; clear HB; have BK173 := n0_; have BK174 := n1_; have BK178 := n2_; have BK182 := n3_; have HB := n4_; clear n0_ n1_ n2_ n3_ n4_; (try clear hb); (try clear hb2); (try clear hk); (try clear hi); have hnb50 := NB178_182.out; have hnc50 := NB182_178.out; have hcz51_0 : w49.cell? ⟨gb178, 0, none⟩ = some (.int .i64 t175) := (blk_cell BK178.out 0).trans rfl; have hcz51_1 : w49.cell? ⟨gb178, 1, none⟩ = some (.int .i64 t176) := (blk_cell BK178.out 1).trans rfl; have hfz51_0 := blk_frozen BK178.out 0; have hfz51_1 := blk_frozen BK178.out 1; have hcz52_0 : w49.cell? ⟨gb173, 0, none⟩ = some (.int .i64 a0_0) := (blk_cell BK173.out 0).trans rfl; have hcz52_1 : w49.cell? ⟨gb173, 1, none⟩ = some (.int .i64 a0_1) := (blk_cell BK173.out 1).trans rfl; have hfz52_0 := blk_frozen BK173.out 0; have hfz52_1 := blk_frozen BK173.out 1; have hcz53_0 : w49.cell? ⟨gb174, 0, none⟩ = some (.int .i64 a1_0) := (blk_cell BK174.out 0).trans rfl; have hcz53_1 : w49.cell? ⟨gb174, 1, none⟩ = some (.int .i64 a1_1) := (blk_cell BK174.out 1).trans rfl; have hfz53_0 := blk_frozen BK174.out 0; have hfz53_1 := blk_frozen BK174.out 1) | ((with_reducible refine gate_callee (f := 67) rfl ?_); refine goesL_ (some 46) rfl rfl Try.func67 (by kernel_rfl) rfl #[.agg #[.int .i64 a0_0, .int .i64 a0_1], .agg #[.int .i64 a1_0, .int .i64 a1_1]] rfl (by (try simp only [List.map_toArray, List.map_cons, List.map_nil]); first | done | rfl | (simp only [List.length_drop, List.length_take]; rfl)) ?_; (with_reducible refine (manorboyref01_SpanAdd.calls a0_0 a0_1 a1_0 a1_1 t189 t190 t191 t192 _ A40.out).mono ?_); rintro e w54 ⟨rfl, hb⟩; refine ⟨_, rfl, ?_⟩; have n0_ := Aside0.mk (blk_below (g := gb173) (o := .cells #[.int .i64 a0_0, .int .i64 a0_1] 38 (0, 0)) (by (with_reducible repeat (first | refine blk_drewN ?_ _ | refine blk_drew ?_ | refine blk_alloc ?_ _)); refine blk_far ?_ NB173_178.out _; (with_reducible repeat (first | refine blk_drewN ?_ _ | refine blk_drew ?_ | refine blk_alloc ?_ _)); refine blk_far ?_ NB173_178.out _; (with_reducible repeat (first | refine blk_drewN ?_ _ | refine blk_drew ?_ | refine blk_alloc ?_ _)); exact BK173.out) hb); have n1_ := Aside0.mk (blk_below (g := gb174) (o := .cells #[.int .i64 a1_0, .int .i64 a1_1] 38 (0, 0)) (by (with_reducible repeat (first | refine blk_drewN ?_ _ | refine blk_drew ?_ | refine blk_alloc ?_ _)); refine blk_far ?_ NB174_178.out _; (with_reducible repeat (first | refine blk_drewN ?_ _ | refine blk_drew ?_ | refine blk_alloc ?_ _)); refine blk_far ?_ NB174_178.out _; (with_reducible repeat (first | refine blk_drewN ?_ _ | refine blk_drew ?_ | refine blk_alloc ?_ _)); exact BK174.out) hb); have n2_ := Aside0.mk (blk_below (g := gb178) (o := .cells #[.int .i64 t185, .int .i64 t186] 38 (0, 0)) (by (with_reducible repeat (first | refine blk_drewN ?_ _ | refine blk_drew ?_ | refine blk_alloc ?_ _)); refine blk_put (cs := #[.int .i64 t185, .int .i64 t176]) ?_ 1 _ rfl; (with_reducible repeat (first | refine blk_drewN ?_ _ | refine blk_drew ?_ | refine blk_alloc ?_ _)); refine blk_put (cs := #[.int .i64 t175, .int .i64 t176]) ?_ 0 _ rfl; (with_reducible repeat (first | refine blk_drewN ?_ _ | refine blk_drew ?_ | refine blk_alloc ?_ _)); exact BK178.out) hb); have n3_ := Aside0.mk (blk_below (g := gb182) (o := .cells #[.int .i64 t179, .int .i64 t180] 38 (0, 0)) (by (with_reducible repeat (first | refine blk_drewN ?_ _ | refine blk_drew ?_ | refine blk_alloc ?_ _)); refine blk_far ?_ NB182_178.out _; (with_reducible repeat (first | refine blk_drewN ?_ _ | refine blk_drew ?_ | refine blk_alloc ?_ _)); refine blk_far ?_ NB182_178.out _; (with_reducible repeat (first | refine blk_drewN ?_ _ | refine blk_drew ?_ | refine blk_alloc ?_ _)); exact BK182.out) hb); have n4_ := Aside0.mk (below_step (by repeat (first | (with_reducible first | exact HB.out | apply below_alloc | apply pw_below_drewN | apply below_drew1 | refine below_set ?_ GE173.out | refine below_set ?_ GE174.out | refine below_set ?_ GE178.out | refine below_set ?_ GE182.out) | exact HB.out)) hb); clear BK173; clear BK174; clear BK178; clear BK182; clear HB; have BK173 := n0_; have BK174 := n1_; have BK178 := n2_; have BK182 := n3_; have HB := n4_; clear n0_ n1_ n2_ n3_ n4_; (try clear hb); (try clear hb2); (try clear hk); (try clear hi); have hcz55_0 : w54.cell? ⟨gb182, 0, none⟩ = some (.int .i64 t179) := (blk_cell BK182.out 0).trans rfl; have hcz55_1 : w54.cell? ⟨gb182, 1, none⟩ = some (.int .i64 t180) := (blk_cell BK182.out 1).trans rfl; have hfz55_0 := blk_frozen BK182.out 0; have hfz55_1 := blk_frozen BK182.out 1))
        (try simp only [Act.put, List.setIfInBounds_toArray, List.set_cons_zero, List.set_cons_succ])
        go_cut [62] (fun v62 wc => ∃ (kq : Nat) (x62_40 : Bool), v62 = .bool x62_40 ∧ Aside0 (manorboylaw01_IntegerSpans.j1 kq x62_40 a0_0 a0_1 a1_0 a1_1 = some r) ∧ Aside0 (kq ≤ kj4) ∧ Aside0 (wc.heap[gb173]? = some (.cells #[.int .i64 a0_0, .int .i64 a0_1] 38 (0, 0))) ∧ Aside0 (wc.heap[gb174]? = some (.cells #[.int .i64 a1_0, .int .i64 a1_1] 38 (0, 0))) ∧ Aside0 (wc.heap[gb178]? = some (.cells #[.int .i64 t185, .int .i64 t186] 38 (0, 0))) ∧ Aside0 (wc.heap[gb182]? = some (.cells #[.int .i64 t189, .int .i64 t190] 38 (0, 0))) ∧ Aside0 (Below w.heap.size w wc))
        case first => as_aux_lemma =>
          have H := HC41.out
          clear HC41
          by_cases c56 : (!(t185 == t189) || (!(t186 == t190))) = true
          · rw [if_pos c56] at H
            have c56b0 : (!(t185 == t189) || (!(t186 == t190))) = true := c56
            clear c56
            (first | rw [c56b0] | (simp only [i64_w, i32_w]; rw [c56b0]) | skip)
            have H' := Aside0.mk H
            clear H
            have hnb57 := NB178_173.out
            have hnc57 := NB173_178.out
            have hnb58 := NB178_174.out
            have hnc58 := NB174_178.out
            have hnb59 := NB178_182.out
            have hnc59 := NB182_178.out
            have hcz60_0 : w54.cell? ⟨gb178, 0, none⟩ = some (.int .i64 t185) := (blk_cell BK178.out 0).trans rfl
            have hcz60_1 : w54.cell? ⟨gb178, 1, none⟩ = some (.int .i64 t186) := (blk_cell BK178.out 1).trans rfl
            have hfz60_0 := blk_frozen BK178.out 0
            have hfz60_1 := blk_frozen BK178.out 1
            have hnb61 := NB182_173.out
            have hnc61 := NB173_182.out
            have hnb62 := NB182_174.out
            have hnc62 := NB174_182.out
            have hcz63_0 : w54.cell? ⟨gb182, 0, none⟩ = some (.int .i64 t179) := (blk_cell BK182.out 0).trans rfl
            have hcz63_1 : w54.cell? ⟨gb182, 1, none⟩ = some (.int .i64 t180) := (blk_cell BK182.out 1).trans rfl
            have hfz63_0 := blk_frozen BK182.out 0
            have hfz63_1 := blk_frozen BK182.out 1
            go_wp2
            go_meet
            case rel => exact ⟨_, (true), (by first | rfl | (simp; done) | (simp [*]; done)), H', ⟨by have := HJ4.out; first | omega | exact Nat.le_refl _⟩, ⟨by (with_reducible repeat (first | refine blk_drewN ?_ _ | refine blk_drew ?_ | refine blk_alloc ?_ _)); refine blk_far ?_ NB173_182.out _; (with_reducible repeat (first | refine blk_drewN ?_ _ | refine blk_drew ?_ | refine blk_alloc ?_ _)); refine blk_far ?_ NB173_182.out _; (with_reducible repeat (first | refine blk_drewN ?_ _ | refine blk_drew ?_ | refine blk_alloc ?_ _)); exact BK173.out⟩, ⟨by (with_reducible repeat (first | refine blk_drewN ?_ _ | refine blk_drew ?_ | refine blk_alloc ?_ _)); refine blk_far ?_ NB174_182.out _; (with_reducible repeat (first | refine blk_drewN ?_ _ | refine blk_drew ?_ | refine blk_alloc ?_ _)); refine blk_far ?_ NB174_182.out _; (with_reducible repeat (first | refine blk_drewN ?_ _ | refine blk_drew ?_ | refine blk_alloc ?_ _)); exact BK174.out⟩, ⟨by (with_reducible repeat (first | refine blk_drewN ?_ _ | refine blk_drew ?_ | refine blk_alloc ?_ _)); refine blk_far ?_ NB178_182.out _; (with_reducible repeat (first | refine blk_drewN ?_ _ | refine blk_drew ?_ | refine blk_alloc ?_ _)); refine blk_far ?_ NB178_182.out _; (with_reducible repeat (first | refine blk_drewN ?_ _ | refine blk_drew ?_ | refine blk_alloc ?_ _)); exact BK178.out⟩, ⟨by (with_reducible repeat (first | refine blk_drewN ?_ _ | refine blk_drew ?_ | refine blk_alloc ?_ _)); refine blk_put (cs := #[.int .i64 t189, .int .i64 t180]) ?_ 1 _ rfl; (with_reducible repeat (first | refine blk_drewN ?_ _ | refine blk_drew ?_ | refine blk_alloc ?_ _)); refine blk_put (cs := #[.int .i64 t179, .int .i64 t180]) ?_ 0 _ rfl; (with_reducible repeat (first | refine blk_drewN ?_ _ | refine blk_drew ?_ | refine blk_alloc ?_ _)); exact BK182.out⟩, ⟨by repeat (first | (with_reducible first | exact HB.out | apply below_alloc | apply pw_below_drewN | apply below_drew1 | refine below_set ?_ GE173.out | refine below_set ?_ GE174.out | refine below_set ?_ GE178.out | refine below_set ?_ GE182.out) | exact HB.out)⟩⟩
          · rw [if_neg c56] at H
            have c56b0 : (!(t185 == t189) || (!(t186 == t190))) = false := by simpa using c56
            clear c56
            (first | rw [c56b0] | (simp only [i64_w, i32_w]; rw [c56b0]) | skip)
            by_cases c64 : (t187 != t191) = true
            · rw [if_pos c64] at H
              have c64b0 : (t187 != t191) = true := c64
              (try (have c64b1 : decide (t187 = t191) = false := by simpa using c64))
              (try (have c64b2 : (t187 == t191) = false := by simpa using c64))
              (try (have c64b3 : ¬ (t187 = t191) := by simpa using c64))
              clear c64
              have H' := Aside0.mk H
              clear H
              have hnb65 := NB178_173.out
              have hnc65 := NB173_178.out
              have hnb66 := NB178_174.out
              have hnc66 := NB174_178.out
              have hnb67 := NB178_182.out
              have hnc67 := NB182_178.out
              have hcz68_0 : w54.cell? ⟨gb178, 0, none⟩ = some (.int .i64 t185) := (blk_cell BK178.out 0).trans rfl
              have hcz68_1 : w54.cell? ⟨gb178, 1, none⟩ = some (.int .i64 t186) := (blk_cell BK178.out 1).trans rfl
              have hfz68_0 := blk_frozen BK178.out 0
              have hfz68_1 := blk_frozen BK178.out 1
              have hnb69 := NB182_173.out
              have hnc69 := NB173_182.out
              have hnb70 := NB182_174.out
              have hnc70 := NB174_182.out
              have hcz71_0 : w54.cell? ⟨gb182, 0, none⟩ = some (.int .i64 t179) := (blk_cell BK182.out 0).trans rfl
              have hcz71_1 : w54.cell? ⟨gb182, 1, none⟩ = some (.int .i64 t180) := (blk_cell BK182.out 1).trans rfl
              have hfz71_0 := blk_frozen BK182.out 0
              have hfz71_1 := blk_frozen BK182.out 1
              go_wp2
              go_meet
              case rel => exact ⟨_, (true), (by first | rfl | (simp; done) | (simp [*]; done)), H', ⟨by have := HJ4.out; first | omega | exact Nat.le_refl _⟩, ⟨by (with_reducible repeat (first | refine blk_drewN ?_ _ | refine blk_drew ?_ | refine blk_alloc ?_ _)); refine blk_far ?_ NB173_182.out _; (with_reducible repeat (first | refine blk_drewN ?_ _ | refine blk_drew ?_ | refine blk_alloc ?_ _)); refine blk_far ?_ NB173_182.out _; (with_reducible repeat (first | refine blk_drewN ?_ _ | refine blk_drew ?_ | refine blk_alloc ?_ _)); exact BK173.out⟩, ⟨by (with_reducible repeat (first | refine blk_drewN ?_ _ | refine blk_drew ?_ | refine blk_alloc ?_ _)); refine blk_far ?_ NB174_182.out _; (with_reducible repeat (first | refine blk_drewN ?_ _ | refine blk_drew ?_ | refine blk_alloc ?_ _)); refine blk_far ?_ NB174_182.out _; (with_reducible repeat (first | refine blk_drewN ?_ _ | refine blk_drew ?_ | refine blk_alloc ?_ _)); exact BK174.out⟩, ⟨by (with_reducible repeat (first | refine blk_drewN ?_ _ | refine blk_drew ?_ | refine blk_alloc ?_ _)); refine blk_far ?_ NB178_182.out _; (with_reducible repeat (first | refine blk_drewN ?_ _ | refine blk_drew ?_ | refine blk_alloc ?_ _)); refine blk_far ?_ NB178_182.out _; (with_reducible repeat (first | refine blk_drewN ?_ _ | refine blk_drew ?_ | refine blk_alloc ?_ _)); exact BK178.out⟩, ⟨by (with_reducible repeat (first | refine blk_drewN ?_ _ | refine blk_drew ?_ | refine blk_alloc ?_ _)); refine blk_put (cs := #[.int .i64 t189, .int .i64 t180]) ?_ 1 _ rfl; (with_reducible repeat (first | refine blk_drewN ?_ _ | refine blk_drew ?_ | refine blk_alloc ?_ _)); refine blk_put (cs := #[.int .i64 t179, .int .i64 t180]) ?_ 0 _ rfl; (with_reducible repeat (first | refine blk_drewN ?_ _ | refine blk_drew ?_ | refine blk_alloc ?_ _)); exact BK182.out⟩, ⟨by repeat (first | (with_reducible first | exact HB.out | apply below_alloc | apply pw_below_drewN | apply below_drew1 | refine below_set ?_ GE173.out | refine below_set ?_ GE174.out | refine below_set ?_ GE178.out | refine below_set ?_ GE182.out) | exact HB.out)⟩⟩
            · rw [if_neg c64] at H
              have c64b0 : (t187 != t191) = false := by simpa using c64
              (try (have c64b1 : decide (t187 = t191) = true := by simpa using c64))
              (try (have c64b2 : (t187 == t191) = true := by simpa using c64))
              clear c64
              have H' := Aside0.mk H
              clear H
              have hnb72 := NB178_173.out
              have hnc72 := NB173_178.out
              have hnb73 := NB178_174.out
              have hnc73 := NB174_178.out
              have hnb74 := NB178_182.out
              have hnc74 := NB182_178.out
              have hcz75_0 : w54.cell? ⟨gb178, 0, none⟩ = some (.int .i64 t185) := (blk_cell BK178.out 0).trans rfl
              have hcz75_1 : w54.cell? ⟨gb178, 1, none⟩ = some (.int .i64 t186) := (blk_cell BK178.out 1).trans rfl
              have hfz75_0 := blk_frozen BK178.out 0
              have hfz75_1 := blk_frozen BK178.out 1
              have hnb76 := NB182_173.out
              have hnc76 := NB173_182.out
              have hnb77 := NB182_174.out
              have hnc77 := NB174_182.out
              have hcz78_0 : w54.cell? ⟨gb182, 0, none⟩ = some (.int .i64 t179) := (blk_cell BK182.out 0).trans rfl
              have hcz78_1 : w54.cell? ⟨gb182, 1, none⟩ = some (.int .i64 t180) := (blk_cell BK182.out 1).trans rfl
              have hfz78_0 := blk_frozen BK182.out 0
              have hfz78_1 := blk_frozen BK182.out 1
              go_wp2
              go_meet
              case rel => exact ⟨_, ((t188 != t192)), (by first | rfl | (simp; done) | (simp [*]; done)), H', ⟨by have := HJ4.out; first | omega | exact Nat.le_refl _⟩, ⟨by (with_reducible repeat (first | refine blk_drewN ?_ _ | refine blk_drew ?_ | refine blk_alloc ?_ _)); refine blk_far ?_ NB173_182.out _; (with_reducible repeat (first | refine blk_drewN ?_ _ | refine blk_drew ?_ | refine blk_alloc ?_ _)); refine blk_far ?_ NB173_182.out _; (with_reducible repeat (first | refine blk_drewN ?_ _ | refine blk_drew ?_ | refine blk_alloc ?_ _)); exact BK173.out⟩, ⟨by (with_reducible repeat (first | refine blk_drewN ?_ _ | refine blk_drew ?_ | refine blk_alloc ?_ _)); refine blk_far ?_ NB174_182.out _; (with_reducible repeat (first | refine blk_drewN ?_ _ | refine blk_drew ?_ | refine blk_alloc ?_ _)); refine blk_far ?_ NB174_182.out _; (with_reducible repeat (first | refine blk_drewN ?_ _ | refine blk_drew ?_ | refine blk_alloc ?_ _)); exact BK174.out⟩, ⟨by (with_reducible repeat (first | refine blk_drewN ?_ _ | refine blk_drew ?_ | refine blk_alloc ?_ _)); refine blk_far ?_ NB178_182.out _; (with_reducible repeat (first | refine blk_drewN ?_ _ | refine blk_drew ?_ | refine blk_alloc ?_ _)); refine blk_far ?_ NB178_182.out _; (with_reducible repeat (first | refine blk_drewN ?_ _ | refine blk_drew ?_ | refine blk_alloc ?_ _)); exact BK178.out⟩, ⟨by (with_reducible repeat (first | refine blk_drewN ?_ _ | refine blk_drew ?_ | refine blk_alloc ?_ _)); refine blk_put (cs := #[.int .i64 t189, .int .i64 t180]) ?_ 1 _ rfl; (with_reducible repeat (first | refine blk_drewN ?_ _ | refine blk_drew ?_ | refine blk_alloc ?_ _)); refine blk_put (cs := #[.int .i64 t179, .int .i64 t180]) ?_ 0 _ rfl; (with_reducible repeat (first | refine blk_drewN ?_ _ | refine blk_drew ?_ | refine blk_alloc ?_ _)); exact BK182.out⟩, ⟨by repeat (first | (with_reducible first | exact HB.out | apply below_alloc | apply pw_below_drewN | apply below_drew1 | refine below_set ?_ GE173.out | refine below_set ?_ GE174.out | refine below_set ?_ GE178.out | refine below_set ?_ GE182.out) | exact HB.out)⟩⟩
        case rest => as_aux_lemma =>
          clear HC41
          try clear c2
          try clear p2
          try clear c3
          try clear c4
          try clear c5
          try clear c6
          try clear c7
          try clear c24
          try clear c24b0
          try clear c24b1
          try clear c24b2
          try clear c29
          try clear c29b0
          try clear c38
          try clear c42
          try clear c43
          try clear c44
          try clear c46
          try clear c47
          try clear c50
          try clear c51
          try clear c56
          try clear c56b0
          try clear c57
          try clear c58
          try clear c59
          try clear c61
          try clear c62
          try clear c64
          try clear c64b0
          try clear c64b1
          try clear c64b2
          try clear c65
          try clear c66
          try clear c67
          try clear c69
          try clear c70
          try clear c72
          try clear c73
          try clear c74
          try clear c76
          try clear c77
          try clear hcz45_0
          try clear hcz45_1
          try clear hcz48_0
          try clear hcz48_1
          try clear hcz51_0
          try clear hcz51_1
          try clear hcz52_0
          try clear hcz52_1
          try clear hcz53_0
          try clear hcz53_1
          try clear hcz55_0
          try clear hcz55_1
          try clear hcz60_0
          try clear hcz60_1
          try clear hcz63_0
          try clear hcz63_1
          try clear hcz68_0
          try clear hcz68_1
          try clear hcz71_0
          try clear hcz71_1
          try clear hcz75_0
          try clear hcz75_1
          try clear hcz78_0
          try clear hcz78_1
          try clear hfz45_0
          try clear hfz45_1
          try clear hfz48_0
          try clear hfz48_1
          try clear hfz51_0
          try clear hfz51_1
          try clear hfz52_0
          try clear hfz52_1
          try clear hfz53_0
          try clear hfz53_1
          try clear hfz55_0
          try clear hfz55_1
          try clear hfz60_0
          try clear hfz60_1
          try clear hfz63_0
          try clear hfz63_1
          try clear hfz68_0
          try clear hfz68_1
          try clear hfz71_0
          try clear hfz71_1
          try clear hfz75_0
          try clear hfz75_1
          try clear hfz78_0
          try clear hfz78_1
          try clear p2
          obtain ⟨kq, x62_40, rfl, HA, HJ40, BK173, BK174, BK178, BK182, HB⟩ := hcut
          cases kq with
          | zero => exact absurd HA.out (by simp [manorboylaw01_IntegerSpans.j1])
          | succ kj40 =>
            have H := HA.out
            clear HA
            simp only [manorboylaw01_IntegerSpans.j1] at H
            by_cases c79 : x62_40 = true
            · subst c79
              have H1 : (some false) = some r := by rw [if_pos rfl] at H; exact H
              clear H
              have H := H1
              clear H1
              obtain rfl := Option.some.inj H
              go_wp2
              go_ret
              exact ⟨by first | rfl | (simp [errW_none, errW_some] <;> rfl) | (simp [*, errW_none, errW_some] <;> rfl), by repeat (first | (with_reducible first | exact HB.out | apply below_alloc | apply pw_below_drewN | apply below_drew1 | refine below_set ?_ GE173.out | refine below_set ?_ GE174.out | refine below_set ?_ GE178.out | refine below_set ?_ GE182.out) | exact HB.out)⟩
            · replace c79 := Bool.eq_false_iff.mpr c79
              subst c79
              have H1 : ((integer_SpanSub.f a0_0 a0_1 a1_0 a1_1).bind fun bt193 => ((manorboyref01_SpanSub.f a0_0 a0_1 a1_0 a1_1).bind fun bt197 => (if (!(bt193.1 == bt197.1) || (!(bt193.2.1 == bt197.2.1))) = true then (manorboylaw01_IntegerSpans.j2 kj40 true a0_0 a0_1 a1_0 a1_1) else (if (bt193.2.2.1 != bt197.2.2.1) = true then (manorboylaw01_IntegerSpans.j2 kj40 true a0_0 a0_1 a1_0 a1_1) else (manorboylaw01_IntegerSpans.j2 kj40 (bt193.2.2.2 != bt197.2.2.2) a0_0 a0_1 a1_0 a1_1))))) = some r := by rw [if_neg (show ¬ (false = true) by decide)] at H; exact H
              clear H
              have H := H1
              clear H1
              replace H := Option.bind_eq_some_iff.mp H
              obtain ⟨⟨t193, t194, t195, t196⟩, A800, H⟩ := H
              replace H : ((manorboyref01_SpanSub.f a0_0 a0_1 a1_0 a1_1).bind fun bt197 => (if (!(t193 == bt197.1) || (!(t194 == bt197.2.1))) = true then (manorboylaw01_IntegerSpans.j2 kj40 true a0_0 a0_1 a1_0 a1_1) else (if (t195 != bt197.2.2.1) = true then (manorboylaw01_IntegerSpans.j2 kj40 true a0_0 a0_1 a1_0 a1_1) else (manorboylaw01_IntegerSpans.j2 kj40 (t196 != bt197.2.2.2) a0_0 a0_1 a1_0 a1_1)))) = some r := H
              have A80 := Aside0.mk A800
              clear A800
              replace H := Option.bind_eq_some_iff.mp H
              obtain ⟨⟨t197, t198, t199, t200⟩, A810, H⟩ := H
              replace H : (if (!(t193 == t197) || (!(t194 == t198))) = true then (manorboylaw01_IntegerSpans.j2 kj40 true a0_0 a0_1 a1_0 a1_1) else (if (t195 != t199) = true then (manorboylaw01_IntegerSpans.j2 kj40 true a0_0 a0_1 a1_0 a1_1) else (manorboylaw01_IntegerSpans.j2 kj40 (t196 != t200) a0_0 a0_1 a1_0 a1_1))) = some r := H
              have A81 := Aside0.mk A810
              clear A810
              have HC82 := Aside0.mk H
              clear H
              have hnb83 := NB173_174.out
              have hnc83 := NB174_173.out
              have hnb84 := NB173_178.out
              have hnc84 := NB178_173.out
              have hnb85 := NB173_182.out
              have hnc85 := NB182_173.out
              have hcz86_0 : wc.cell? ⟨gb173, 0, none⟩ = some (.int .i64 a0_0) := (blk_cell BK173.out 0).trans rfl
              have hcz86_1 : wc.cell? ⟨gb173, 1, none⟩ = some (.int .i64 a0_1) := (blk_cell BK173.out 1).trans rfl
              have hfz86_0 := blk_frozen BK173.out 0
              have hfz86_1 := blk_frozen BK173.out 1
              have hnb87 := NB174_178.out
              have hnc87 := NB178_174.out
              have hnb88 := NB174_182.out
              have hnc88 := NB182_174.out
              have hcz89_0 : wc.cell? ⟨gb174, 0, none⟩ = some (.int .i64 a1_0) := (blk_cell BK174.out 0).trans rfl
              have hcz89_1 : wc.cell? ⟨gb174, 1, none⟩ = some (.int .i64 a1_1) := (blk_cell BK174.out 1).trans rfl
              have hfz89_0 := blk_frozen BK174.out 0
              have hfz89_1 := blk_frozen BK174.out 1
              go_upto_region 11 with (first | ((with_reducible refine gate_callee (f := 68) rfl ?_); refine goesL_ (some 66) rfl rfl Try.func68 (by kernel_rfl) rfl #[.agg #[.int .i64 a0_0, .int .i64 a0_1], .agg #[.int .i64 a1_0, .int .i64 a1_1]] rfl (by (try simp only [List.map_toArray, List.map_cons, List.map_nil]); first | done | rfl | (simp only [List.length_drop, List.length_take]; rfl)) ?_; (with_reducible refine (integer_SpanSub.calls a0_0 a0_1 a1_0 a1_1 t193 t194 t195 t196 _ A80.out).mono ?_); rintro e w90 ⟨rfl, hb⟩; refine ⟨_, rfl, ?_⟩; have n0_ := Aside0.mk (blk_below (g := gb173) (o := .cells #[.int .i64 a0_0, .int .i64 a0_1] 38 (0, 0)) (by (with_reducible repeat (first | refine blk_drewN ?_ _ | refine blk_drew ?_ | refine blk_alloc ?_ _)); exact BK173.out) hb); have n1_ := Aside0.mk (blk_below (g := gb174) (o := .cells #[.int .i64 a1_0, .int .i64 a1_1] 38 (0, 0)) (by (with_reducible repeat (first | refine blk_drewN ?_ _ | refine blk_drew ?_ | refine blk_alloc ?_ _)); exact BK174.out) hb); have n2_ := Aside0.mk (blk_below (g := gb178) (o := .cells #[.int .i64 t185, .int .i64 t186] 38 (0, 0)) (by (with_reducible repeat (first | refine blk_drewN ?_ _ | refine blk_drew ?_ | refine blk_alloc ?_ _)); exact BK178.out) hb); have n3_ := Aside0.mk (blk_below (g := gb182) (o := .cells #[.int .i64 t189, .int .i64 t190] 38 (0, 0)) (by (with_reducible repeat (first | refine blk_drewN ?_ _ | refine blk_drew ?_ | refine blk_alloc ?_ _)); exact BK182.out) hb); have n4_ := Aside0.mk (below_step (by repeat (first | (with_reducible first | exact HB.out | apply below_alloc | apply pw_below_drewN | apply below_drew1 | refine below_set ?_ GE173.out | refine below_set ?_ GE174.out | refine below_set ?_ GE178.out | refine below_set ?_ GE182.out) | exact HB.out)) hb); clear BK173; clear BK174; clear BK178; clear BK182; clear HB; have BK173 := n0_; have BK174 := n1_; have BK178 := n2_; have BK182 := n3_; have HB := n4_; clear n0_ n1_ n2_ n3_ n4_; (try clear hb); (try clear hb2); (try clear hk); (try clear hi); have hnb91 := NB178_182.out; have hnc91 := NB182_178.out; have hcz92_0 : w90.cell? ⟨gb178, 0, none⟩ = some (.int .i64 t185) := (blk_cell BK178.out 0).trans rfl; have hcz92_1 : w90.cell? ⟨gb178, 1, none⟩ = some (.int .i64 t186) := (blk_cell BK178.out 1).trans rfl; have hfz92_0 := blk_frozen BK178.out 0; have hfz92_1 := blk_frozen BK178.out 1; have hcz93_0 : w90.cell? ⟨gb173, 0, none⟩ = some (.int .i64 a0_0) := (blk_cell BK173.out 0).trans rfl; have hcz93_1 : w90.cell? ⟨gb173, 1, none⟩ = some (.int .i64 a0_1) := (blk_cell BK173.out 1).trans rfl; have hfz93_0 := blk_frozen BK173.out 0; have hfz93_1 := blk_frozen BK173.out 1; have hcz94_0 : w90.cell? ⟨gb174, 0, none⟩ = some (.int .i64 a1_0) := (blk_cell BK174.out 0).trans rfl; have hcz94_1 : w90.cell? ⟨gb174, 1, none⟩ = some (.int .i64 a1_1) := (blk_cell BK174.out 1).trans rfl; have hfz94_0 := blk_frozen BK174.out 0; have hfz94_1 := blk_frozen BK174.out 1) | ((with_reducible refine gate_callee (f := 69) rfl ?_); refine goesL_ (some 73) rfl rfl Try.func69 (by kernel_rfl) rfl #[.agg #[.int .i64 a0_0, .int .i64 a0_1], .agg #[.int .i64 a1_0, .int .i64 a1_1]] rfl (by (try simp only [List.map_toArray, List.map_cons, List.map_nil]); first | done | rfl | (simp only [List.length_drop, List.length_take]; rfl)) ?_; (with_reducible refine (manorboyref01_SpanSub.calls a0_0 a0_1 a1_0 a1_1 t197 t198 t199 t200 _ A81.out).mono ?_); rintro e w95 ⟨rfl, hb⟩; refine ⟨_, rfl, ?_⟩; have n0_ := Aside0.mk (blk_below (g := gb173) (o := .cells #[.int .i64 a0_0, .int .i64 a0_1] 38 (0, 0)) (by (with_reducible repeat (first | refine blk_drewN ?_ _ | refine blk_drew ?_ | refine blk_alloc ?_ _)); refine blk_far ?_ NB173_178.out _; (with_reducible repeat (first | refine blk_drewN ?_ _ | refine blk_drew ?_ | refine blk_alloc ?_ _)); refine blk_far ?_ NB173_178.out _; (with_reducible repeat (first | refine blk_drewN ?_ _ | refine blk_drew ?_ | refine blk_alloc ?_ _)); exact BK173.out) hb); have n1_ := Aside0.mk (blk_below (g := gb174) (o := .cells #[.int .i64 a1_0, .int .i64 a1_1] 38 (0, 0)) (by (with_reducible repeat (first | refine blk_drewN ?_ _ | refine blk_drew ?_ | refine blk_alloc ?_ _)); refine blk_far ?_ NB174_178.out _; (with_reducible repeat (first | refine blk_drewN ?_ _ | refine blk_drew ?_ | refine blk_alloc ?_ _)); refine blk_far ?_ NB174_178.out _; (with_reducible repeat (first | refine blk_drewN ?_ _ | refine blk_drew ?_ | refine blk_alloc ?_ _)); exact BK174.out) hb); have n2_ := Aside0.mk (blk_below (g := gb178) (o := .cells #[.int .i64 t193, .int .i64 t194] 38 (0, 0)) (by (with_reducible repeat (first | refine blk_drewN ?_ _ | refine blk_drew ?_ | refine blk_alloc ?_ _)); refine blk_put (cs := #[.int .i64 t193, .int .i64 t186]) ?_ 1 _ rfl; (with_reducible repeat (first | refine blk_drewN ?_ _ | refine blk_drew ?_ | refine blk_alloc ?_ _)); refine blk_put (cs := #[.int .i64 t185, .int .i64 t186]) ?_ 0 _ rfl; (with_reducible repeat (first | refine blk_drewN ?_ _ | refine blk_drew ?_ | refine blk_alloc ?_ _)); exact BK178.out) hb); have n3_ := Aside0.mk (blk_below (g := gb182) (o := .cells #[.int .i64 t189, .int .i64 t190] 38 (0, 0)) (by (with_reducible repeat (first | refine blk_drewN ?_ _ | refine blk_drew ?_ | refine blk_alloc ?_ _)); refine blk_far ?_ NB182_178.out _; (with_reducible repeat (first | refine blk_drewN ?_ _ | refine blk_drew ?_ | refine blk_alloc ?_ _)); refine blk_far ?_ NB182_178.out _; (with_reducible repeat (first | refine blk_drewN ?_ _ | refine blk_drew ?_ | refine blk_alloc ?_ _)); exact BK182.out) hb); have n4_ := Aside0.mk (below_step (by repeat (first | (with_reducible first | exact HB.out | apply below_alloc | apply pw_below_drewN | apply below_drew1 | refine below_set ?_ GE173.out | refine below_set ?_ GE174.out | refine below_set ?_ GE178.out | refine below_set ?_ GE182.out) | exact HB.out)) hb); clear BK173; clear BK174; clear BK178; clear BK182; clear HB; have BK173 := n0_; have BK174 := n1_; have BK178 := n2_; have BK182 := n3_; have HB := n4_; clear n0_ n1_ n2_ n3_ n4_; (try clear hb); (try clear hb2); (try clear hk); (try clear hi); have hcz96_0 : w95.cell? ⟨gb182, 0, none⟩ = some (.int .i64 t189) := (blk_cell BK182.out 0).trans rfl; have hcz96_1 : w95.cell? ⟨gb182, 1, none⟩ = some (.int .i64 t190) := (blk_cell BK182.out 1).trans rfl; have hfz96_0 := blk_frozen BK182.out 0; have hfz96_1 := blk_frozen BK182.out 1))
              (try simp only [Act.put, List.setIfInBounds_toArray, List.set_cons_zero, List.set_cons_succ])
              go_cut [89] (fun v89 wc => ∃ (kq : Nat) (x89_81 : Bool), v89 = .bool x89_81 ∧ Aside0 (manorboylaw01_IntegerSpans.j2 kq x89_81 a0_0 a0_1 a1_0 a1_1 = some r) ∧ Aside0 (kq ≤ kj40) ∧ Aside0 (wc.heap[gb173]? = some (.cells #[.int .i64 a0_0, .int .i64 a0_1] 38 (0, 0))) ∧ Aside0 (wc.heap[gb174]? = some (.cells #[.int .i64 a1_0, .int .i64 a1_1] 38 (0, 0))) ∧ Aside0 (wc.heap[gb178]? = some (.cells #[.int .i64 t193, .int .i64 t194] 38 (0, 0))) ∧ Aside0 (wc.heap[gb182]? = some (.cells #[.int .i64 t197, .int .i64 t198] 38 (0, 0))) ∧ Aside0 (Below w.heap.size w wc))
              case first => as_aux_lemma =>
                have H := HC82.out
                clear HC82
                by_cases c97 : (!(t193 == t197) || (!(t194 == t198))) = true
                · rw [if_pos c97] at H
                  have c97b0 : (!(t193 == t197) || (!(t194 == t198))) = true := c97
                  clear c97
                  (first | rw [c97b0] | (simp only [i64_w, i32_w]; rw [c97b0]) | skip)
                  have H' := Aside0.mk H
                  clear H
                  have hnb98 := NB178_173.out
                  have hnc98 := NB173_178.out
                  have hnb99 := NB178_174.out
                  have hnc99 := NB174_178.out
                  have hnb100 := NB178_182.out
                  have hnc100 := NB182_178.out
                  have hcz101_0 : w95.cell? ⟨gb178, 0, none⟩ = some (.int .i64 t193) := (blk_cell BK178.out 0).trans rfl
                  have hcz101_1 : w95.cell? ⟨gb178, 1, none⟩ = some (.int .i64 t194) := (blk_cell BK178.out 1).trans rfl
                  have hfz101_0 := blk_frozen BK178.out 0
                  have hfz101_1 := blk_frozen BK178.out 1
                  have hnb102 := NB182_173.out
                  have hnc102 := NB173_182.out
                  have hnb103 := NB182_174.out
                  have hnc103 := NB174_182.out
                  have hcz104_0 : w95.cell? ⟨gb182, 0, none⟩ = some (.int .i64 t189) := (blk_cell BK182.out 0).trans rfl
                  have hcz104_1 : w95.cell? ⟨gb182, 1, none⟩ = some (.int .i64 t190) := (blk_cell BK182.out 1).trans rfl
                  have hfz104_0 := blk_frozen BK182.out 0
                  have hfz104_1 := blk_frozen BK182.out 1
                  go_wp2
                  go_meet
                  case rel => exact ⟨_, (true), (by first | rfl | (simp; done) | (simp [*]; done)), H', ⟨by have := HJ4.out; have := HJ40.out; first | omega | exact Nat.le_refl _⟩, ⟨by (with_reducible repeat (first | refine blk_drewN ?_ _ | refine blk_drew ?_ | refine blk_alloc ?_ _)); refine blk_far ?_ NB173_182.out _; (with_reducible repeat (first | refine blk_drewN ?_ _ | refine blk_drew ?_ | refine blk_alloc ?_ _)); refine blk_far ?_ NB173_182.out _; (with_reducible repeat (first | refine blk_drewN ?_ _ | refine blk_drew ?_ | refine blk_alloc ?_ _)); exact BK173.out⟩, ⟨by (with_reducible repeat (first | refine blk_drewN ?_ _ | refine blk_drew ?_ | refine blk_alloc ?_ _)); refine blk_far ?_ NB174_182.out _; (with_reducible repeat (first | refine blk_drewN ?_ _ | refine blk_drew ?_ | refine blk_alloc ?_ _)); refine blk_far ?_ NB174_182.out _; (with_reducible repeat (first | refine blk_drewN ?_ _ | refine blk_drew ?_ | refine blk_alloc ?_ _)); exact BK174.out⟩, ⟨by (with_reducible repeat (first | refine blk_drewN ?_ _ | refine blk_drew ?_ | refine blk_alloc ?_ _)); refine blk_far ?_ NB178_182.out _; (with_reducible repeat (first | refine blk_drewN ?_ _ | refine blk_drew ?_ | refine blk_alloc ?_ _)); refine blk_far ?_ NB178_182.out _; (with_reducible repeat (first | refine blk_drewN ?_ _ | refine blk_drew ?_ | refine blk_alloc ?_ _)); exact BK178.out⟩, ⟨by (with_reducible repeat (first | refine blk_drewN ?_ _ | refine blk_drew ?_ | refine blk_alloc ?_ _)); refine blk_put (cs := #[.int .i64 t197, .int .i64 t190]) ?_ 1 _ rfl; (with_reducible repeat (first | refine blk_drewN ?_ _ | refine blk_drew ?_ | refine blk_alloc ?_ _)); refine blk_put (cs := #[.int .i64 t189, .int .i64 t190]) ?_ 0 _ rfl; (with_reducible repeat (first | refine blk_drewN ?_ _ | refine blk_drew ?_ | refine blk_alloc ?_ _)); exact BK182.out⟩, ⟨by repeat (first | (with_reducible first | exact HB.out | apply below_alloc | apply pw_below_drewN | apply below_drew1 | refine below_set ?_ GE173.out | refine below_set ?_ GE174.out | refine below_set ?_ GE178.out | refine below_set ?_ GE182.out) | exact HB.out)⟩⟩
                · rw [if_neg c97] at H
                  have c97b0 : (!(t193 == t197) || (!(t194 == t198))) = false := by simpa using c97
                  clear c97
                  (first | rw [c97b0] | (simp only [i64_w, i32_w]; rw [c97b0]) | skip)
                  by_cases c105 : (t195 != t199) = true
                  · rw [if_pos c105] at H
                    have c105b0 : (t195 != t199) = true := c105
                    (try (have c105b1 : decide (t195 = t199) = false := by simpa using c105))
                    (try (have c105b2 : (t195 == t199) = false := by simpa using c105))
                    (try (have c105b3 : ¬ (t195 = t199) := by simpa using c105))
                    clear c105
                    have H' := Aside0.mk H
                    clear H
                    have hnb106 := NB178_173.out
                    have hnc106 := NB173_178.out
                    have hnb107 := NB178_174.out
                    have hnc107 := NB174_178.out
                    have hnb108 := NB178_182.out
                    have hnc108 := NB182_178.out
                    have hcz109_0 : w95.cell? ⟨gb178, 0, none⟩ = some (.int .i64 t193) := (blk_cell BK178.out 0).trans rfl
                    have hcz109_1 : w95.cell? ⟨gb178, 1, none⟩ = some (.int .i64 t194) := (blk_cell BK178.out 1).trans rfl
                    have hfz109_0 := blk_frozen BK178.out 0
                    have hfz109_1 := blk_frozen BK178.out 1
                    have hnb110 := NB182_173.out
                    have hnc110 := NB173_182.out
                    have hnb111 := NB182_174.out
                    have hnc111 := NB174_182.out
                    have hcz112_0 : w95.cell? ⟨gb182, 0, none⟩ = some (.int .i64 t189) := (blk_cell BK182.out 0).trans rfl
                    have hcz112_1 : w95.cell? ⟨gb182, 1, none⟩ = some (.int .i64 t190) := (blk_cell BK182.out 1).trans rfl
                    have hfz112_0 := blk_frozen BK182.out 0
                    have hfz112_1 := blk_frozen BK182.out 1
                    go_wp2
                    go_meet
                    case rel => exact ⟨_, (true), (by first | rfl | (simp; done) | (simp [*]; done)), H', ⟨by have := HJ4.out; have := HJ40.out; first | omega | exact Nat.le_refl _⟩, ⟨by (with_reducible repeat (first | refine blk_drewN ?_ _ | refine blk_drew ?_ | refine blk_alloc ?_ _)); refine blk_far ?_ NB173_182.out _; (with_reducible repeat (first | refine blk_drewN ?_ _ | refine blk_drew ?_ | refine blk_alloc ?_ _)); refine blk_far ?_ NB173_182.out _; (with_reducible repeat (first | refine blk_drewN ?_ _ | refine blk_drew ?_ | refine blk_alloc ?_ _)); exact BK173.out⟩, ⟨by (with_reducible repeat (first | refine blk_drewN ?_ _ | refine blk_drew ?_ | refine blk_alloc ?_ _)); refine blk_far ?_ NB174_182.out _; (with_reducible repeat (first | refine blk_drewN ?_ _ | refine blk_drew ?_ | refine blk_alloc ?_ _)); refine blk_far ?_ NB174_182.out _; (with_reducible repeat (first | refine blk_drewN ?_ _ | refine blk_drew ?_ | refine blk_alloc ?_ _)); exact BK174.out⟩, ⟨by (with_reducible repeat (first | refine blk_drewN ?_ _ | refine blk_drew ?_ | refine blk_alloc ?_ _)); refine blk_far ?_ NB178_182.out _; (with_reducible repeat (first | refine blk_drewN ?_ _ | refine blk_drew ?_ | refine blk_alloc ?_ _)); refine blk_far ?_ NB178_182.out _; (with_reducible repeat (first | refine blk_drewN ?_ _ | refine blk_drew ?_ | refine blk_alloc ?_ _)); exact BK178.out⟩, ⟨by (with_reducible repeat (first | refine blk_drewN ?_ _ | refine blk_drew ?_ | refine blk_alloc ?_ _)); refine blk_put (cs := #[.int .i64 t197, .int .i64 t190]) ?_ 1 _ rfl; (with_reducible repeat (first | refine blk_drewN ?_ _ | refine blk_drew ?_ | refine blk_alloc ?_ _)); refine blk_put (cs := #[.int .i64 t189, .int .i64 t190]) ?_ 0 _ rfl; (with_reducible repeat (first | refine blk_drewN ?_ _ | refine blk_drew ?_ | refine blk_alloc ?_ _)); exact BK182.out⟩, ⟨by repeat (first | (with_reducible first | exact HB.out | apply below_alloc | apply pw_below_drewN | apply below_drew1 | refine below_set ?_ GE173.out | refine below_set ?_ GE174.out | refine below_set ?_ GE178.out | refine below_set ?_ GE182.out) | exact HB.out)⟩⟩
                  · rw [if_neg c105] at H
                    have c105b0 : (t195 != t199) = false := by simpa using c105
                    (try (have c105b1 : decide (t195 = t199) = true := by simpa using c105))
                    (try (have c105b2 : (t195 == t199) = true := by simpa using c105))
                    clear c105
                    have H' := Aside0.mk H
                    clear H
                    have hnb113 := NB178_173.out
                    have hnc113 := NB173_178.out
                    have hnb114 := NB178_174.out
                    have hnc114 := NB174_178.out
                    have hnb115 := NB178_182.out
                    have hnc115 := NB182_178.out
                    have hcz116_0 : w95.cell? ⟨gb178, 0, none⟩ = some (.int .i64 t193) := (blk_cell BK178.out 0).trans rfl
                    have hcz116_1 : w95.cell? ⟨gb178, 1, none⟩ = some (.int .i64 t194) := (blk_cell BK178.out 1).trans rfl
                    have hfz116_0 := blk_frozen BK178.out 0
                    have hfz116_1 := blk_frozen BK178.out 1
                    have hnb117 := NB182_173.out
                    have hnc117 := NB173_182.out
                    have hnb118 := NB182_174.out
                    have hnc118 := NB174_182.out
                    have hcz119_0 : w95.cell? ⟨gb182, 0, none⟩ = some (.int .i64 t189) := (blk_cell BK182.out 0).trans rfl
                    have hcz119_1 : w95.cell? ⟨gb182, 1, none⟩ = some (.int .i64 t190) := (blk_cell BK182.out 1).trans rfl
                    have hfz119_0 := blk_frozen BK182.out 0
                    have hfz119_1 := blk_frozen BK182.out 1
                    go_wp2
                    go_meet
                    case rel => exact ⟨_, ((t196 != t200)), (by first | rfl | (simp; done) | (simp [*]; done)), H', ⟨by have := HJ4.out; have := HJ40.out; first | omega | exact Nat.le_refl _⟩, ⟨by (with_reducible repeat (first | refine blk_drewN ?_ _ | refine blk_drew ?_ | refine blk_alloc ?_ _)); refine blk_far ?_ NB173_182.out _; (with_reducible repeat (first | refine blk_drewN ?_ _ | refine blk_drew ?_ | refine blk_alloc ?_ _)); refine blk_far ?_ NB173_182.out _; (with_reducible repeat (first | refine blk_drewN ?_ _ | refine blk_drew ?_ | refine blk_alloc ?_ _)); exact BK173.out⟩, ⟨by (with_reducible repeat (first | refine blk_drewN ?_ _ | refine blk_drew ?_ | refine blk_alloc ?_ _)); refine blk_far ?_ NB174_182.out _; (with_reducible repeat (first | refine blk_drewN ?_ _ | refine blk_drew ?_ | refine blk_alloc ?_ _)); refine blk_far ?_ NB174_182.out _; (with_reducible repeat (first | refine blk_drewN ?_ _ | refine blk_drew ?_ | refine blk_alloc ?_ _)); exact BK174.out⟩, ⟨by (with_reducible repeat (first | refine blk_drewN ?_ _ | refine blk_drew ?_ | refine blk_alloc ?_ _)); refine blk_far ?_ NB178_182.out _; (with_reducible repeat (first | refine blk_drewN ?_ _ | refine blk_drew ?_ | refine blk_alloc ?_ _)); refine blk_far ?_ NB178_182.out _; (with_reducible repeat (first | refine blk_drewN ?_ _ | refine blk_drew ?_ | refine blk_alloc ?_ _)); exact BK178.out⟩, ⟨by (with_reducible repeat (first | refine blk_drewN ?_ _ | refine blk_drew ?_ | refine blk_alloc ?_ _)); refine blk_put (cs := #[.int .i64 t197, .int .i64 t190]) ?_ 1 _ rfl; (with_reducible repeat (first | refine blk_drewN ?_ _ | refine blk_drew ?_ | refine blk_alloc ?_ _)); refine blk_put (cs := #[.int .i64 t189, .int .i64 t190]) ?_ 0 _ rfl; (with_reducible repeat (first | refine blk_drewN ?_ _ | refine blk_drew ?_ | refine blk_alloc ?_ _)); exact BK182.out⟩, ⟨by repeat (first | (with_reducible first | exact HB.out | apply below_alloc | apply pw_below_drewN | apply below_drew1 | refine below_set ?_ GE173.out | refine below_set ?_ GE174.out | refine below_set ?_ GE178.out | refine below_set ?_ GE182.out) | exact HB.out)⟩⟩
              case rest => as_aux_lemma =>
                clear HC82
                try clear c1
                try clear c2
                try clear p2
                try clear c3
                try clear c4
                try clear c5
                try clear c6
                try clear c7
                try clear c8
                try clear c9
                try clear c10
                try clear c11
                try clear c24
                try clear c24b0
                try clear c24b1
                try clear c24b2
                try clear c29
                try clear c29b0
                try clear c38
                try clear c42
                try clear c43
                try clear c44
                try clear c46
                try clear c47
                try clear c50
                try clear c51
                try clear c56
                try clear c56b0
                try clear c57
                try clear c58
                try clear c59
                try clear c61
                try clear c62
                try clear c64
                try clear c64b0
                try clear c64b1
                try clear c64b2
                try clear c65
                try clear c66
                try clear c67
                try clear c68
                try clear c69
                try clear c70
                try clear c72
                try clear c73
                try clear c74
                try clear c76
                try clear c77
                try clear c79
                try clear c83
                try clear c84
                try clear c85
                try clear c87
                try clear c88
                try clear c91
                try clear c97
                try clear c97b0
                try clear c98
                try clear c99
                try clear c100
                try clear c102
                try clear c103
                try clear c105
                try clear c105b0
                try clear c105b1
                try clear c105b2
                try clear c106
                try clear c107
                try clear c108
                try clear c110
                try clear c111
                try clear c113
                try clear c114
                try clear c115
                try clear c117
                try clear c118
                try clear hcz101_0
                try clear hcz101_1
                try clear hcz104_0
                try clear hcz104_1
                try clear hcz109_0
                try clear hcz109_1
                try clear hcz112_0
                try clear hcz112_1
                try clear hcz116_0
                try clear hcz116_1
                try clear hcz119_0
                try clear hcz119_1
                try clear hcz45_0
                try clear hcz45_1
                try clear hcz48_0
                try clear hcz48_1
                try clear hcz51_0
                try clear hcz51_1
                try clear hcz52_0
                try clear hcz52_1
                try clear hcz53_0
                try clear hcz53_1
                try clear hcz55_0
                try clear hcz55_1
                try clear hcz60_0
                try clear hcz60_1
                try clear hcz63_0
                try clear hcz63_1
                try clear hcz68_0
                try clear hcz68_1
                try clear hcz71_0
                try clear hcz71_1
                try clear hcz75_0
                try clear hcz75_1
                try clear hcz78_0
                try clear hcz78_1
                try clear hcz86_0
                try clear hcz86_1
                try clear hcz89_0
                try clear hcz89_1
                try clear hcz92_0
                try clear hcz92_1
                try clear hcz93_0
                try clear hcz93_1
                try clear hcz94_0
                try clear hcz94_1
                try clear hcz96_0
                try clear hcz96_1
                try clear hfz101_0
                try clear hfz101_1
                try clear hfz104_0
                try clear hfz104_1
                try clear hfz109_0
                try clear hfz109_1
                try clear hfz112_0
                try clear hfz112_1
                try clear hfz116_0
                try clear hfz116_1
                try clear hfz119_0
                try clear hfz119_1
                try clear hfz45_0
                try clear hfz45_1
                try clear hfz48_0
                try clear hfz48_1
                try clear hfz51_0
                try clear hfz51_1
                try clear hfz52_0
                try clear hfz52_1
                try clear hfz53_0
                try clear hfz53_1
                try clear hfz55_0
                try clear hfz55_1
                try clear hfz60_0
                try clear hfz60_1
                try clear hfz63_0
                try clear hfz63_1
                try clear hfz68_0
                try clear hfz68_1
                try clear hfz71_0
                try clear hfz71_1
                try clear hfz75_0
                try clear hfz75_1
                try clear hfz78_0
                try clear hfz78_1
                try clear hfz86_0
                try clear hfz86_1
                try clear hfz89_0
                try clear hfz89_1
                try clear hfz92_0
                try clear hfz92_1
                try clear hfz93_0
                try clear hfz93_1
                try clear hfz94_0
                try clear hfz94_1
                try clear hfz96_0
                try clear hfz96_1
                try clear p2
                obtain ⟨kq, x89_81, rfl, HA, HJ81, BK173, BK174, BK178, BK182, HB⟩ := hcut
                cases kq with
                | zero => exact absurd HA.out (by simp [manorboylaw01_IntegerSpans.j2])
                | succ kj81 =>
                  have H := HA.out
                  clear HA
                  simp only [manorboylaw01_IntegerSpans.j2] at H
                  by_cases c120 : x89_81 = true
                  · subst c120
                    have H1 : (some false) = some r := by rw [if_pos rfl] at H; exact H
                    clear H
                    have H := H1
                    clear H1
                    obtain rfl := Option.some.inj H
                    go_wp2
                    go_ret
                    exact ⟨by first | rfl | (simp [errW_none, errW_some] <;> rfl) | (simp [*, errW_none, errW_some] <;> rfl), by repeat (first | (with_reducible first | exact HB.out | apply below_alloc | apply pw_below_drewN | apply below_drew1 | refine below_set ?_ GE173.out | refine below_set ?_ GE174.out | refine below_set ?_ GE178.out | refine below_set ?_ GE182.out) | exact HB.out)⟩
                  · replace c120 := Bool.eq_false_iff.mpr c120
                    subst c120
                    have H1 : ((integer_SpanMul.f a0_0 a0_1 a1_0 a1_1).bind fun bt201 => ((manorboyref01_SpanMul.f a0_0 a0_1 a1_0 a1_1).bind fun bt205 => (if (!(bt201.1 == bt205.1) || (!(bt201.2.1 == bt205.2.1))) = true then (manorboylaw01_IntegerSpans.j3 kj81 true a0_0 a0_1 a1_0 a1_1) else (if (bt201.2.2.1 != bt205.2.2.1) = true then (manorboylaw01_IntegerSpans.j3 kj81 true a0_0 a0_1 a1_0 a1_1) else (manorboylaw01_IntegerSpans.j3 kj81 (bt201.2.2.2 != bt205.2.2.2) a0_0 a0_1 a1_0 a1_1))))) = some r := by rw [if_neg (show ¬ (false = true) by decide)] at H; exact H
                    clear H
                    have H := H1
                    clear H1
                    replace H := Option.bind_eq_some_iff.mp H
                    obtain ⟨⟨t201, t202, t203, t204⟩, A1210, H⟩ := H
                    replace H : ((manorboyref01_SpanMul.f a0_0 a0_1 a1_0 a1_1).bind fun bt205 => (if (!(t201 == bt205.1) || (!(t202 == bt205.2.1))) = true then (manorboylaw01_IntegerSpans.j3 kj81 true a0_0 a0_1 a1_0 a1_1) else (if (t203 != bt205.2.2.1) = true then (manorboylaw01_IntegerSpans.j3 kj81 true a0_0 a0_1 a1_0 a1_1) else (manorboylaw01_IntegerSpans.j3 kj81 (t204 != bt205.2.2.2) a0_0 a0_1 a1_0 a1_1)))) = some r := H
                    have A121 := Aside0.mk A1210
                    clear A1210
                    replace H := Option.bind_eq_some_iff.mp H
                    obtain ⟨⟨t205, t206, t207, t208⟩, A1220, H⟩ := H
                    replace H : (if (!(t201 == t205) || (!(t202 == t206))) = true then (manorboylaw01_IntegerSpans.j3 kj81 true a0_0 a0_1 a1_0 a1_1) else (if (t203 != t207) = true then (manorboylaw01_IntegerSpans.j3 kj81 true a0_0 a0_1 a1_0 a1_1) else (manorboylaw01_IntegerSpans.j3 kj81 (t204 != t208) a0_0 a0_1 a1_0 a1_1))) = some r := H
                    have A122 := Aside0.mk A1220
                    clear A1220
                    have HC123 := Aside0.mk H
                    clear H
                    have hnb124 := NB173_174.out
                    have hnc124 := NB174_173.out
                    have hnb125 := NB173_178.out
                    have hnc125 := NB178_173.out
                    have hnb126 := NB173_182.out
                    have hnc126 := NB182_173.out
                    have hcz127_0 : wc.cell? ⟨gb173, 0, none⟩ = some (.int .i64 a0_0) := (blk_cell BK173.out 0).trans rfl
                    have hcz127_1 : wc.cell? ⟨gb173, 1, none⟩ = some (.int .i64 a0_1) := (blk_cell BK173.out 1).trans rfl
                    have hfz127_0 := blk_frozen BK173.out 0
                    have hfz127_1 := blk_frozen BK173.out 1
                    have hnb128 := NB174_178.out
                    have hnc128 := NB178_174.out
                    have hnb129 := NB174_182.out
                    have hnc129 := NB182_174.out
                    have hcz130_0 : wc.cell? ⟨gb174, 0, none⟩ = some (.int .i64 a1_0) := (blk_cell BK174.out 0).trans rfl
                    have hcz130_1 : wc.cell? ⟨gb174, 1, none⟩ = some (.int .i64 a1_1) := (blk_cell BK174.out 1).trans rfl
                    have hfz130_0 := blk_frozen BK174.out 0
                    have hfz130_1 := blk_frozen BK174.out 1
                    go_upto_region 15 with (first | ((with_reducible refine gate_callee (f := 70) rfl ?_); refine goesL_ (some 93) rfl rfl Try.func70 (by kernel_rfl) rfl #[.agg #[.int .i64 a0_0, .int .i64 a0_1], .agg #[.int .i64 a1_0, .int .i64 a1_1]] rfl (by (try simp only [List.map_toArray, List.map_cons, List.map_nil]); first | done | rfl | (simp only [List.length_drop, List.length_take]; rfl)) ?_; (with_reducible refine (integer_SpanMul.calls a0_0 a0_1 a1_0 a1_1 t201 t202 t203 t204 _ A121.out).mono ?_); rintro e w131 ⟨rfl, hb⟩; refine ⟨_, rfl, ?_⟩; have n0_ := Aside0.mk (blk_below (g := gb173) (o := .cells #[.int .i64 a0_0, .int .i64 a0_1] 38 (0, 0)) (by (with_reducible repeat (first | refine blk_drewN ?_ _ | refine blk_drew ?_ | refine blk_alloc ?_ _)); exact BK173.out) hb); have n1_ := Aside0.mk (blk_below (g := gb174) (o := .cells #[.int .i64 a1_0, .int .i64 a1_1] 38 (0, 0)) (by (with_reducible repeat (first | refine blk_drewN ?_ _ | refine blk_drew ?_ | refine blk_alloc ?_ _)); exact BK174.out) hb); have n2_ := Aside0.mk (blk_below (g := gb178) (o := .cells #[.int .i64 t193, .int .i64 t194] 38 (0, 0)) (by (with_reducible repeat (first | refine blk_drewN ?_ _ | refine blk_drew ?_ | refine blk_alloc ?_ _)); exact BK178.out) hb); have n3_ := Aside0.mk (blk_below (g := gb182) (o := .cells #[.int .i64 t197, .int .i64 t198] 38 (0, 0)) (by (with_reducible repeat (first | refine blk_drewN ?_ _ | refine blk_drew ?_ | refine blk_alloc ?_ _)); exact BK182.out) hb); have n4_ := Aside0.mk (below_step (by repeat (first | (with_reducible first | exact HB.out | apply below_alloc | apply pw_below_drewN | apply below_drew1 | refine below_set ?_ GE173.out | refine below_set ?_ GE174.out | refine below_set ?_ GE178.out | refine below_set ?_ GE182.out) | exact HB.out)) hb); clear BK173; clear BK174; clear BK178; clear BK182; clear HB; have BK173 := n0_; have BK174 := n1_; have BK178 := n2_; have BK182 := n3_; have HB := n4_; clear n0_ n1_ n2_ n3_ n4_; (try clear hb); (try clear hb2); (try clear hk); (try clear hi); have hnb132 := NB178_182.out; have hnc132 := NB182_178.out; have hcz133_0 : w131.cell? ⟨gb178, 0, none⟩ = some (.int .i64 t193) := (blk_cell BK178.out 0).trans rfl; have hcz133_1 : w131.cell? ⟨gb178, 1, none⟩ = some (.int .i64 t194) := (blk_cell BK178.out 1).trans rfl; have hfz133_0 := blk_frozen BK178.out 0; have hfz133_1 := blk_frozen BK178.out 1; have hcz134_0 : w131.cell? ⟨gb173, 0, none⟩ = some (.int .i64 a0_0) := (blk_cell BK173.out 0).trans rfl; have hcz134_1 : w131.cell? ⟨gb173, 1, none⟩ = some (.int .i64 a0_1) := (blk_cell BK173.out 1).trans rfl; have hfz134_0 := blk_frozen BK173.out 0; have hfz134_1 := blk_frozen BK173.out 1; have hcz135_0 : w131.cell? ⟨gb174, 0, none⟩ = some (.int .i64 a1_0) := (blk_cell BK174.out 0).trans rfl; have hcz135_1 : w131.cell? ⟨gb174, 1, none⟩ = some (.int .i64 a1_1) := (blk_cell BK174.out 1).trans rfl; have hfz135_0 := blk_frozen BK174.out 0; have hfz135_1 := blk_frozen BK174.out 1) | ((with_reducible refine gate_callee (f := 71) rfl ?_); refine goesL_ (some 100) rfl rfl Try.func71 (by kernel_rfl) rfl #[.agg #[.int .i64 a0_0, .int .i64 a0_1], .agg #[.int .i64 a1_0, .int .i64 a1_1]] rfl (by (try simp only [List.map_toArray, List.map_cons, List.map_nil]); first | done | rfl | (simp only [List.length_drop, List.length_take]; rfl)) ?_; (with_reducible refine (manorboyref01_SpanMul.calls a0_0 a0_1 a1_0 a1_1 t205 t206 t207 t208 _ A122.out).mono ?_); rintro e w136 ⟨rfl, hb⟩; refine ⟨_, rfl, ?_⟩; have n0_ := Aside0.mk (blk_below (g := gb173) (o := .cells #[.int .i64 a0_0, .int .i64 a0_1] 38 (0, 0)) (by (with_reducible repeat (first | refine blk_drewN ?_ _ | refine blk_drew ?_ | refine blk_alloc ?_ _)); refine blk_far ?_ NB173_178.out _; (with_reducible repeat (first | refine blk_drewN ?_ _ | refine blk_drew ?_ | refine blk_alloc ?_ _)); refine blk_far ?_ NB173_178.out _; (with_reducible repeat (first | refine blk_drewN ?_ _ | refine blk_drew ?_ | refine blk_alloc ?_ _)); exact BK173.out) hb); have n1_ := Aside0.mk (blk_below (g := gb174) (o := .cells #[.int .i64 a1_0, .int .i64 a1_1] 38 (0, 0)) (by (with_reducible repeat (first | refine blk_drewN ?_ _ | refine blk_drew ?_ | refine blk_alloc ?_ _)); refine blk_far ?_ NB174_178.out _; (with_reducible repeat (first | refine blk_drewN ?_ _ | refine blk_drew ?_ | refine blk_alloc ?_ _)); refine blk_far ?_ NB174_178.out _; (with_reducible repeat (first | refine blk_drewN ?_ _ | refine blk_drew ?_ | refine blk_alloc ?_ _)); exact BK174.out) hb); have n2_ := Aside0.mk (blk_below (g := gb178) (o := .cells #[.int .i64 t201, .int .i64 t202] 38 (0, 0)) (by (with_reducible repeat (first | refine blk_drewN ?_ _ | refine blk_drew ?_ | refine blk_alloc ?_ _)); refine blk_put (cs := #[.int .i64 t201, .int .i64 t194]) ?_ 1 _ rfl; (with_reducible repeat (first | refine blk_drewN ?_ _ | refine blk_drew ?_ | refine blk_alloc ?_ _)); refine blk_put (cs := #[.int .i64 t193, .int .i64 t194]) ?_ 0 _ rfl; (with_reducible repeat (first | refine blk_drewN ?_ _ | refine blk_drew ?_ | refine blk_alloc ?_ _)); exact BK178.out) hb); have n3_ := Aside0.mk (blk_below (g := gb182) (o := .cells #[.int .i64 t197, .int .i64 t198] 38 (0, 0)) (by (with_reducible repeat (first | refine blk_drewN ?_ _ | refine blk_drew ?_ | refine blk_alloc ?_ _)); refine blk_far ?_ NB182_178.out _; (with_reducible repeat (first | refine blk_drewN ?_ _ | refine blk_drew ?_ | refine blk_alloc ?_ _)); refine blk_far ?_ NB182_178.out _; (with_reducible repeat (first | refine blk_drewN ?_ _ | refine blk_drew ?_ | refine blk_alloc ?_ _)); exact BK182.out) hb); have n4_ := Aside0.mk (below_step (by repeat (first | (with_reducible first | exact HB.out | apply below_alloc | apply pw_below_drewN | apply below_drew1 | refine below_set ?_ GE173.out | refine below_set ?_ GE174.out | refine below_set ?_ GE178.out | refine below_set ?_ GE182.out) | exact HB.out)) hb); clear BK173; clear BK174; clear BK178; clear BK182; clear HB; have BK173 := n0_; have BK174 := n1_; have BK178 := n2_; have BK182 := n3_; have HB := n4_; clear n0_ n1_ n2_ n3_ n4_; (try clear hb); (try clear hb2); (try clear hk); (try clear hi); have hcz137_0 : w136.cell? ⟨gb182, 0, none⟩ = some (.int .i64 t197) := (blk_cell BK182.out 0).trans rfl; have hcz137_1 : w136.cell? ⟨gb182, 1, none⟩ = some (.int .i64 t198) := (blk_cell BK182.out 1).trans rfl; have hfz137_0 := blk_frozen BK182.out 0; have hfz137_1 := blk_frozen BK182.out 1))
                    (try simp only [Act.put, List.setIfInBounds_toArray, List.set_cons_zero, List.set_cons_succ])
                    go_cut [116] (fun v116 wc => ∃ (kq : Nat) (x116_122 : Bool), v116 = .bool x116_122 ∧ Aside0 (manorboylaw01_IntegerSpans.j3 kq x116_122 a0_0 a0_1 a1_0 a1_1 = some r) ∧ Aside0 (kq ≤ kj81) ∧ Aside0 (wc.heap[gb173]? = some (.cells #[.int .i64 a0_0, .int .i64 a0_1] 38 (0, 0))) ∧ Aside0 (wc.heap[gb174]? = some (.cells #[.int .i64 a1_0, .int .i64 a1_1] 38 (0, 0))) ∧ Aside0 (wc.heap[gb178]? = some (.cells #[.int .i64 t201, .int .i64 t202] 38 (0, 0))) ∧ Aside0 (wc.heap[gb182]? = some (.cells #[.int .i64 t205, .int .i64 t206] 38 (0, 0))) ∧ Aside0 (Below w.heap.size w wc))
                    case first => as_aux_lemma =>
                      have H := HC123.out
                      clear HC123
                      by_cases c138 : (!(t201 == t205) || (!(t202 == t206))) = true
                      · rw [if_pos c138] at H
                        have c138b0 : (!(t201 == t205) || (!(t202 == t206))) = true := c138
                        clear c138
                        (first | rw [c138b0] | (simp only [i64_w, i32_w]; rw [c138b0]) | skip)
                        have H' := Aside0.mk H
                        clear H
                        have hnb139 := NB178_173.out
                        have hnc139 := NB173_178.out
                        have hnb140 := NB178_174.out
                        have hnc140 := NB174_178.out
                        have hnb141 := NB178_182.out
                        have hnc141 := NB182_178.out
                        have hcz142_0 : w136.cell? ⟨gb178, 0, none⟩ = some (.int .i64 t201) := (blk_cell BK178.out 0).trans rfl
                        have hcz142_1 : w136.cell? ⟨gb178, 1, none⟩ = some (.int .i64 t202) := (blk_cell BK178.out 1).trans rfl
                        have hfz142_0 := blk_frozen BK178.out 0
                        have hfz142_1 := blk_frozen BK178.out 1
                        have hnb143 := NB182_173.out
                        have hnc143 := NB173_182.out
                        have hnb144 := NB182_174.out
                        have hnc144 := NB174_182.out
                        have hcz145_0 : w136.cell? ⟨gb182, 0, none⟩ = some (.int .i64 t197) := (blk_cell BK182.out 0).trans rfl
                        have hcz145_1 : w136.cell? ⟨gb182, 1, none⟩ = some (.int .i64 t198) := (blk_cell BK182.out 1).trans rfl
                        have hfz145_0 := blk_frozen BK182.out 0
                        have hfz145_1 := blk_frozen BK182.out 1
                        go_wp2
                        go_meet
                        case rel => exact ⟨_, (true), (by first | rfl | (simp; done) | (simp [*]; done)), H', ⟨by have := HJ4.out; have := HJ40.out; have := HJ81.out; first | omega | exact Nat.le_refl _⟩, ⟨by (with_reducible repeat (first | refine blk_drewN ?_ _ | refine blk_drew ?_ | refine blk_alloc ?_ _)); refine blk_far ?_ NB173_182.out _; (with_reducible repeat (first | refine blk_drewN ?_ _ | refine blk_drew ?_ | refine blk_alloc ?_ _)); refine blk_far ?_ NB173_182.out _; (with_reducible repeat (first | refine blk_drewN ?_ _ | refine blk_drew ?_ | refine blk_alloc ?_ _)); exact BK173.out⟩, ⟨by (with_reducible repeat (first | refine blk_drewN ?_ _ | refine blk_drew ?_ | refine blk_alloc ?_ _)); refine blk_far ?_ NB174_182.out _; (with_reducible repeat (first | refine blk_drewN ?_ _ | refine blk_drew ?_ | refine blk_alloc ?_ _)); refine blk_far ?_ NB174_182.out _; (with_reducible repeat (first | refine blk_drewN ?_ _ | refine blk_drew ?_ | refine blk_alloc ?_ _)); exact BK174.out⟩, ⟨by (with_reducible repeat (first | refine blk_drewN ?_ _ | refine blk_drew ?_ | refine blk_alloc ?_ _)); refine blk_far ?_ NB178_182.out _; (with_reducible repeat (first | refine blk_drewN ?_ _ | refine blk_drew ?_ | refine blk_alloc ?_ _)); refine blk_far ?_ NB178_182.out _; (with_reducible repeat (first | refine blk_drewN ?_ _ | refine blk_drew ?_ | refine blk_alloc ?_ _)); exact BK178.out⟩, ⟨by (with_reducible repeat (first | refine blk_drewN ?_ _ | refine blk_drew ?_ | refine blk_alloc ?_ _)); refine blk_put (cs := #[.int .i64 t205, .int .i64 t198]) ?_ 1 _ rfl; (with_reducible repeat (first | refine blk_drewN ?_ _ | refine blk_drew ?_ | refine blk_alloc ?_ _)); refine blk_put (cs := #[.int .i64 t197, .int .i64 t198]) ?_ 0 _ rfl; (with_reducible repeat (first | refine blk_drewN ?_ _ | refine blk_drew ?_ | refine blk_alloc ?_ _)); exact BK182.out⟩, ⟨by repeat (first | (with_reducible first | exact HB.out | apply below_alloc | apply pw_below_drewN | apply below_drew1 | refine below_set ?_ GE173.out | refine below_set ?_ GE174.out | refine below_set ?_ GE178.out | refine below_set ?_ GE182.out) | exact HB.out)⟩⟩
                      · rw [if_neg c138] at H
                        have c138b0 : (!(t201 == t205) || (!(t202 == t206))) = false := by simpa using c138
                        clear c138
                        (first | rw [c138b0] | (simp only [i64_w, i32_w]; rw [c138b0]) | skip)
                        by_cases c146 : (t203 != t207) = true
                        · rw [if_pos c146] at H
                          have c146b0 : (t203 != t207) = true := c146
                          (try (have c146b1 : decide (t203 = t207) = false := by simpa using c146))
                          (try (have c146b2 : (t203 == t207) = false := by simpa using c146))
                          (try (have c146b3 : ¬ (t203 = t207) := by simpa using c146))
                          clear c146
                          have H' := Aside0.mk H
                          clear H
                          have hnb147 := NB178_173.out
                          have hnc147 := NB173_178.out
                          have hnb148 := NB178_174.out
                          have hnc148 := NB174_178.out
                          have hnb149 := NB178_182.out
                          have hnc149 := NB182_178.out
                          have hcz150_0 : w136.cell? ⟨gb178, 0, none⟩ = some (.int .i64 t201) := (blk_cell BK178.out 0).trans rfl
                          have hcz150_1 : w136.cell? ⟨gb178, 1, none⟩ = some (.int .i64 t202) := (blk_cell BK178.out 1).trans rfl
                          have hfz150_0 := blk_frozen BK178.out 0
                          have hfz150_1 := blk_frozen BK178.out 1
                          have hnb151 := NB182_173.out
                          have hnc151 := NB173_182.out
                          have hnb152 := NB182_174.out
                          have hnc152 := NB174_182.out
                          have hcz153_0 : w136.cell? ⟨gb182, 0, none⟩ = some (.int .i64 t197) := (blk_cell BK182.out 0).trans rfl
                          have hcz153_1 : w136.cell? ⟨gb182, 1, none⟩ = some (.int .i64 t198) := (blk_cell BK182.out 1).trans rfl
                          have hfz153_0 := blk_frozen BK182.out 0
                          have hfz153_1 := blk_frozen BK182.out 1
                          go_wp2
                          go_meet
                          case rel => exact ⟨_, (true), (by first | rfl | (simp; done) | (simp [*]; done)), H', ⟨by have := HJ4.out; have := HJ40.out; have := HJ81.out; first | omega | exact Nat.le_refl _⟩, ⟨by (with_reducible repeat (first | refine blk_drewN ?_ _ | refine blk_drew ?_ | refine blk_alloc ?_ _)); refine blk_far ?_ NB173_182.out _; (with_reducible repeat (first | refine blk_drewN ?_ _ | refine blk_drew ?_ | refine blk_alloc ?_ _)); refine blk_far ?_ NB173_182.out _; (with_reducible repeat (first | refine blk_drewN ?_ _ | refine blk_drew ?_ | refine blk_alloc ?_ _)); exact BK173.out⟩, ⟨by (with_reducible repeat (first | refine blk_drewN ?_ _ | refine blk_drew ?_ | refine blk_alloc ?_ _)); refine blk_far ?_ NB174_182.out _; (with_reducible repeat (first | refine blk_drewN ?_ _ | refine blk_drew ?_ | refine blk_alloc ?_ _)); refine blk_far ?_ NB174_182.out _; (with_reducible repeat (first | refine blk_drewN ?_ _ | refine blk_drew ?_ | refine blk_alloc ?_ _)); exact BK174.out⟩, ⟨by (with_reducible repeat (first | refine blk_drewN ?_ _ | refine blk_drew ?_ | refine blk_alloc ?_ _)); refine blk_far ?_ NB178_182.out _; (with_reducible repeat (first | refine blk_drewN ?_ _ | refine blk_drew ?_ | refine blk_alloc ?_ _)); refine blk_far ?_ NB178_182.out _; (with_reducible repeat (first | refine blk_drewN ?_ _ | refine blk_drew ?_ | refine blk_alloc ?_ _)); exact BK178.out⟩, ⟨by (with_reducible repeat (first | refine blk_drewN ?_ _ | refine blk_drew ?_ | refine blk_alloc ?_ _)); refine blk_put (cs := #[.int .i64 t205, .int .i64 t198]) ?_ 1 _ rfl; (with_reducible repeat (first | refine blk_drewN ?_ _ | refine blk_drew ?_ | refine blk_alloc ?_ _)); refine blk_put (cs := #[.int .i64 t197, .int .i64 t198]) ?_ 0 _ rfl; (with_reducible repeat (first | refine blk_drewN ?_ _ | refine blk_drew ?_ | refine blk_alloc ?_ _)); exact BK182.out⟩, ⟨by repeat (first | (with_reducible first | exact HB.out | apply below_alloc | apply pw_below_drewN | apply below_drew1 | refine below_set ?_ GE173.out | refine below_set ?_ GE174.out | refine below_set ?_ GE178.out | refine below_set ?_ GE182.out) | exact HB.out)⟩⟩
                        · rw [if_neg c146] at H
                          have c146b0 : (t203 != t207) = false := by simpa using c146
                          (try (have c146b1 : decide (t203 = t207) = true := by simpa using c146))
                          (try (have c146b2 : (t203 == t207) = true := by simpa using c146))
                          clear c146
                          have H' := Aside0.mk H
                          clear H
                          have hnb154 := NB178_173.out
                          have hnc154 := NB173_178.out
                          have hnb155 := NB178_174.out
                          have hnc155 := NB174_178.out
                          have hnb156 := NB178_182.out
                          have hnc156 := NB182_178.out
                          have hcz157_0 : w136.cell? ⟨gb178, 0, none⟩ = some (.int .i64 t201) := (blk_cell BK178.out 0).trans rfl
                          have hcz157_1 : w136.cell? ⟨gb178, 1, none⟩ = some (.int .i64 t202) := (blk_cell BK178.out 1).trans rfl
                          have hfz157_0 := blk_frozen BK178.out 0
                          have hfz157_1 := blk_frozen BK178.out 1
                          have hnb158 := NB182_173.out
                          have hnc158 := NB173_182.out
                          have hnb159 := NB182_174.out
                          have hnc159 := NB174_182.out
                          have hcz160_0 : w136.cell? ⟨gb182, 0, none⟩ = some (.int .i64 t197) := (blk_cell BK182.out 0).trans rfl
                          have hcz160_1 : w136.cell? ⟨gb182, 1, none⟩ = some (.int .i64 t198) := (blk_cell BK182.out 1).trans rfl
                          have hfz160_0 := blk_frozen BK182.out 0
                          have hfz160_1 := blk_frozen BK182.out 1
                          go_wp2
                          go_meet
                          case rel => exact ⟨_, ((t204 != t208)), (by first | rfl | (simp; done) | (simp [*]; done)), H', ⟨by have := HJ4.out; have := HJ40.out; have := HJ81.out; first | omega | exact Nat.le_refl _⟩, ⟨by (with_reducible repeat (first | refine blk_drewN ?_ _ | refine blk_drew ?_ | refine blk_alloc ?_ _)); refine blk_far ?_ NB173_182.out _; (with_reducible repeat (first | refine blk_drewN ?_ _ | refine blk_drew ?_ | refine blk_alloc ?_ _)); refine blk_far ?_ NB173_182.out _; (with_reducible repeat (first | refine blk_drewN ?_ _ | refine blk_drew ?_ | refine blk_alloc ?_ _)); exact BK173.out⟩, ⟨by (with_reducible repeat (first | refine blk_drewN ?_ _ | refine blk_drew ?_ | refine blk_alloc ?_ _)); refine blk_far ?_ NB174_182.out _; (with_reducible repeat (first | refine blk_drewN ?_ _ | refine blk_drew ?_ | refine blk_alloc ?_ _)); refine blk_far ?_ NB174_182.out _; (with_reducible repeat (first | refine blk_drewN ?_ _ | refine blk_drew ?_ | refine blk_alloc ?_ _)); exact BK174.out⟩, ⟨by (with_reducible repeat (first | refine blk_drewN ?_ _ | refine blk_drew ?_ | refine blk_alloc ?_ _)); refine blk_far ?_ NB178_182.out _; (with_reducible repeat (first | refine blk_drewN ?_ _ | refine blk_drew ?_ | refine blk_alloc ?_ _)); refine blk_far ?_ NB178_182.out _; (with_reducible repeat (first | refine blk_drewN ?_ _ | refine blk_drew ?_ | refine blk_alloc ?_ _)); exact BK178.out⟩, ⟨by (with_reducible repeat (first | refine blk_drewN ?_ _ | refine blk_drew ?_ | refine blk_alloc ?_ _)); refine blk_put (cs := #[.int .i64 t205, .int .i64 t198]) ?_ 1 _ rfl; (with_reducible repeat (first | refine blk_drewN ?_ _ | refine blk_drew ?_ | refine blk_alloc ?_ _)); refine blk_put (cs := #[.int .i64 t197, .int .i64 t198]) ?_ 0 _ rfl; (with_reducible repeat (first | refine blk_drewN ?_ _ | refine blk_drew ?_ | refine blk_alloc ?_ _)); exact BK182.out⟩, ⟨by repeat (first | (with_reducible first | exact HB.out | apply below_alloc | apply pw_below_drewN | apply below_drew1 | refine below_set ?_ GE173.out | refine below_set ?_ GE174.out | refine below_set ?_ GE178.out | refine below_set ?_ GE182.out) | exact HB.out)⟩⟩
                    case rest => as_aux_lemma =>
                      clear HC123
                      try clear c1
                      try clear c2
                      try clear p2
                      try clear c3
                      try clear c4
                      try clear c5
                      try clear c6
                      try clear c7
                      try clear c8
                      try clear c9
                      try clear c10
                      try clear c11
                      try clear c12
                      try clear c13
                      try clear c14
                      try clear c15
                      try clear c24
                      try clear c24b0
                      try clear c24b1
                      try clear c24b2
                      try clear c29
                      try clear c29b0
                      try clear c38
                      try clear c42
                      try clear c43
                      try clear c44
                      try clear c46
                      try clear c47
                      try clear c50
                      try clear c51
                      try clear c56
                      try clear c56b0
                      try clear c57
                      try clear c58
                      try clear c59
                      try clear c61
                      try clear c62
                      try clear c64
                      try clear c64b0
                      try clear c64b1
                      try clear c64b2
                      try clear c65
                      try clear c66
                      try clear c67
                      try clear c68
                      try clear c69
                      try clear c70
                      try clear c71
                      try clear c72
                      try clear c73
                      try clear c74
                      try clear c76
                      try clear c77
                      try clear c79
                      try clear c83
                      try clear c84
                      try clear c85
                      try clear c87
                      try clear c88
                      try clear c91
                      try clear c97
                      try clear c97b0
                      try clear c98
                      try clear c99
                      try clear c100
                      try clear c102
                      try clear c103
                      try clear c105
                      try clear c105b0
                      try clear c105b1
                      try clear c105b2
                      try clear c106
                      try clear c107
                      try clear c108
                      try clear c110
                      try clear c111
                      try clear c113
                      try clear c114
                      try clear c115
                      try clear c117
                      try clear c118
                      try clear c120
                      try clear c124
                      try clear c125
                      try clear c126
                      try clear c128
                      try clear c129
                      try clear c132
                      try clear c138
                      try clear c138b0
                      try clear c139
                      try clear c140
                      try clear c141
                      try clear c143
                      try clear c144
                      try clear c146
                      try clear c146b0
                      try clear c146b1
                      try clear c146b2
                      try clear c147
                      try clear c148
                      try clear c149
                      try clear c151
                      try clear c152
                      try clear c154
                      try clear c155
                      try clear c156
                      try clear c158
                      try clear c159
                      try clear hcz101_0
                      try clear hcz101_1
                      try clear hcz104_0
                      try clear hcz104_1
                      try clear hcz109_0
                      try clear hcz109_1
                      try clear hcz112_0
                      try clear hcz112_1
                      try clear hcz116_0
                      try clear hcz116_1
                      try clear hcz119_0
                      try clear hcz119_1
                      try clear hcz127_0
                      try clear hcz127_1
                      try clear hcz130_0
                      try clear hcz130_1
                      try clear hcz133_0
                      try clear hcz133_1
                      try clear hcz134_0
                      try clear hcz134_1
                      try clear hcz135_0
                      try clear hcz135_1
                      try clear hcz137_0
                      try clear hcz137_1
                      try clear hcz142_0
                      try clear hcz142_1
                      try clear hcz145_0
                      try clear hcz145_1
                      try clear hcz150_0
                      try clear hcz150_1
                      try clear hcz153_0
                      try clear hcz153_1
                      try clear hcz157_0
                      try clear hcz157_1
                      try clear hcz160_0
                      try clear hcz160_1
                      try clear hcz45_0
                      try clear hcz45_1
                      try clear hcz48_0
                      try clear hcz48_1
                      try clear hcz51_0
                      try clear hcz51_1
                      try clear hcz52_0
                      try clear hcz52_1
                      try clear hcz53_0
                      try clear hcz53_1
                      try clear hcz55_0
                      try clear hcz55_1
                      try clear hcz60_0
                      try clear hcz60_1
                      try clear hcz63_0
                      try clear hcz63_1
                      try clear hcz68_0
                      try clear hcz68_1
                      try clear hcz71_0
                      try clear hcz71_1
                      try clear hcz75_0
                      try clear hcz75_1
                      try clear hcz78_0
                      try clear hcz78_1
                      try clear hcz86_0
                      try clear hcz86_1
                      try clear hcz89_0
                      try clear hcz89_1
                      try clear hcz92_0
                      try clear hcz92_1
                      try clear hcz93_0
                      try clear hcz93_1
                      try clear hcz94_0
                      try clear hcz94_1
                      try clear hcz96_0
                      try clear hcz96_1
                      try clear hfz101_0
                      try clear hfz101_1
                      try clear hfz104_0
                      try clear hfz104_1
                      try clear hfz109_0
                      try clear hfz109_1
                      try clear hfz112_0
                      try clear hfz112_1
                      try clear hfz116_0
                      try clear hfz116_1
                      try clear hfz119_0
                      try clear hfz119_1
                      try clear hfz127_0
                      try clear hfz127_1
                      try clear hfz130_0
                      try clear hfz130_1
                      try clear hfz133_0
                      try clear hfz133_1
                      try clear hfz134_0
                      try clear hfz134_1
                      try clear hfz135_0
                      try clear hfz135_1
                      try clear hfz137_0
                      try clear hfz137_1
                      try clear hfz142_0
                      try clear hfz142_1
                      try clear hfz145_0
                      try clear hfz145_1
                      try clear hfz150_0
                      try clear hfz150_1
                      try clear hfz153_0
                      try clear hfz153_1
                      try clear hfz157_0
                      try clear hfz157_1
                      try clear hfz160_0
                      try clear hfz160_1
                      try clear hfz45_0
                      try clear hfz45_1
                      try clear hfz48_0
                      try clear hfz48_1
                      try clear hfz51_0
                      try clear hfz51_1
                      try clear hfz52_0
                      try clear hfz52_1
                      try clear hfz53_0
                      try clear hfz53_1
                      try clear hfz55_0
                      try clear hfz55_1
                      try clear hfz60_0
                      try clear hfz60_1
                      try clear hfz63_0
                      try clear hfz63_1
                      try clear hfz68_0
                      try clear hfz68_1
                      try clear hfz71_0
                      try clear hfz71_1
                      try clear hfz75_0
                      try clear hfz75_1
                      try clear hfz78_0
                      try clear hfz78_1
                      try clear hfz86_0
                      try clear hfz86_1
                      try clear hfz89_0
                      try clear hfz89_1
                      try clear hfz92_0
                      try clear hfz92_1
                      try clear hfz93_0
                      try clear hfz93_1
                      try clear hfz94_0
                      try clear hfz94_1
                      try clear hfz96_0
                      try clear hfz96_1
                      try clear p2
                      obtain ⟨kq, x116_122, rfl, HA, HJ122, BK173, BK174, BK178, BK182, HB⟩ := hcut
                      cases kq with
                      | zero => exact absurd HA.out (by simp [manorboylaw01_IntegerSpans.j3])
                      | succ kj122 =>
                        have H := HA.out
                        clear HA
                        simp only [manorboylaw01_IntegerSpans.j3] at H
                        by_cases c161 : x116_122 = true
                        · subst c161
                          have H1 : (some false) = some r := by rw [if_pos rfl] at H; exact H
                          clear H
                          have H := H1
                          clear H1
                          obtain rfl := Option.some.inj H
                          go_wp2
                          go_ret
                          exact ⟨by first | rfl | (simp [errW_none, errW_some] <;> rfl) | (simp [*, errW_none, errW_some] <;> rfl), by repeat (first | (with_reducible first | exact HB.out | apply below_alloc | apply pw_below_drewN | apply below_drew1 | refine below_set ?_ GE173.out | refine below_set ?_ GE174.out | refine below_set ?_ GE178.out | refine below_set ?_ GE182.out) | exact HB.out)⟩
                        · replace c161 := Bool.eq_false_iff.mpr c161
                          subst c161
                          have H1 : ((integer_SpanQuo.f a0_0 a0_1 a1_0 a1_1).bind fun bt209 => ((manorboyref01_SpanQuo.f kj122 a0_0 a0_1 a1_0 a1_1).bind fun bt213 => ((manorboylaw01_wide.f kj122).bind fun t217 => (if t217 = true then (if (bt209.1 == bt213.1 && (bt209.2.1 == bt213.2.1)) = true then (if (bt209.2.2.1 == bt213.2.2.1) = true then (some (bt209.2.2.2 == bt213.2.2.2)) else (some false)) else (some false)) else (some false))))) = some r := by rw [if_neg (show ¬ (false = true) by decide)] at H; exact H
                          clear H
                          have H := H1
                          clear H1
                          replace H := Option.bind_eq_some_iff.mp H
                          obtain ⟨⟨t209, t210, t211, t212⟩, A1620, H⟩ := H
                          replace H : ((manorboyref01_SpanQuo.f kj122 a0_0 a0_1 a1_0 a1_1).bind fun bt213 => ((manorboylaw01_wide.f kj122).bind fun t217 => (if t217 = true then (if (t209 == bt213.1 && (t210 == bt213.2.1)) = true then (if (t211 == bt213.2.2.1) = true then (some (t212 == bt213.2.2.2)) else (some false)) else (some false)) else (some false)))) = some r := H
                          have A162 := Aside0.mk A1620
                          clear A1620
                          replace H := Option.bind_eq_some_iff.mp H
                          obtain ⟨⟨t213, t214, t215, t216⟩, A1630, H⟩ := H
                          replace H : ((manorboylaw01_wide.f kj122).bind fun t217 => (if t217 = true then (if (t209 == t213 && (t210 == t214)) = true then (if (t211 == t215) = true then (some (t212 == t216)) else (some false)) else (some false)) else (some false))) = some r := H
                          have A163 := Aside0.mk A1630
                          clear A1630
                          replace H := Option.bind_eq_some_iff.mp H
                          obtain ⟨t217, A1640, H⟩ := H
                          replace H : (if t217 = true then (if (t209 == t213 && (t210 == t214)) = true then (if (t211 == t215) = true then (some (t212 == t216)) else (some false)) else (some false)) else (some false)) = some r := H
                          have A164 := Aside0.mk A1640
                          clear A1640
                          by_cases c165 : t217 = true
                          · subst c165
                            have H1 : (if (t209 == t213 && (t210 == t214)) = true then (if (t211 == t215) = true then (some (t212 == t216)) else (some false)) else (some false)) = some r := by rw [if_pos rfl] at H; exact H
                            clear H
                            have H := H1
                            clear H1
                            by_cases c166 : (t209 == t213 && (t210 == t214)) = true
                            · rw [if_pos c166] at H
                              have c166b0 : (t209 == t213 && (t210 == t214)) = true := c166
                              (try (have c166b1 : decide (t209 = t213 && (t210 == t214)) = true := by simpa using c166))
                              (try (have c166b2 : (t209 == t213 && (t210 == t214)) = true := by simpa using c166))
                              clear c166
                              by_cases c167 : (t211 == t215) = true
                              · rw [if_pos c167] at H
                                have c167b0 : (t211 == t215) = true := c167
                                (try (have c167b1 : decide (t211 = t215) = true := by simpa using c167))
                                (try (have c167b2 : (t211 == t215) = true := by simpa using c167))
                                clear c167
                                obtain rfl := Option.some.inj H
                                have hnb168 := NB173_174.out
                                have hnc168 := NB174_173.out
                                have hnb169 := NB173_178.out
                                have hnc169 := NB178_173.out
                                have hnb170 := NB173_182.out
                                have hnc170 := NB182_173.out
                                have hcz171_0 : wc.cell? ⟨gb173, 0, none⟩ = some (.int .i64 a0_0) := (blk_cell BK173.out 0).trans rfl
                                have hcz171_1 : wc.cell? ⟨gb173, 1, none⟩ = some (.int .i64 a0_1) := (blk_cell BK173.out 1).trans rfl
                                have hfz171_0 := blk_frozen BK173.out 0
                                have hfz171_1 := blk_frozen BK173.out 1
                                have hnb172 := NB174_178.out
                                have hnc172 := NB178_174.out
                                have hnb173 := NB174_182.out
                                have hnc173 := NB182_174.out
                                have hcz174_0 : wc.cell? ⟨gb174, 0, none⟩ = some (.int .i64 a1_0) := (blk_cell BK174.out 0).trans rfl
                                have hcz174_1 : wc.cell? ⟨gb174, 1, none⟩ = some (.int .i64 a1_1) := (blk_cell BK174.out 1).trans rfl
                                have hfz174_0 := blk_frozen BK174.out 0
                                have hfz174_1 := blk_frozen BK174.out 1
                                go_wp2_with (first | ((with_reducible refine gate_callee (f := 72) rfl ?_); refine goesL_ (some 120) rfl rfl Try.func72 (by kernel_rfl) rfl #[.agg #[.int .i64 a0_0, .int .i64 a0_1], .agg #[.int .i64 a1_0, .int .i64 a1_1]] rfl (by (try simp only [List.map_toArray, List.map_cons, List.map_nil]); first | done | rfl | (simp only [List.length_drop, List.length_take]; rfl)) ?_; (with_reducible refine (integer_SpanQuo.calls a0_0 a0_1 a1_0 a1_1 t209 t210 t211 t212 _ A162.out).mono ?_); rintro e w175 ⟨rfl, hb⟩; refine ⟨_, rfl, ?_⟩; have n0_ := Aside0.mk (blk_below (g := gb173) (o := .cells #[.int .i64 a0_0, .int .i64 a0_1] 38 (0, 0)) (by (with_reducible repeat (first | refine blk_drewN ?_ _ | refine blk_drew ?_ | refine blk_alloc ?_ _)); exact BK173.out) hb); have n1_ := Aside0.mk (blk_below (g := gb174) (o := .cells #[.int .i64 a1_0, .int .i64 a1_1] 38 (0, 0)) (by (with_reducible repeat (first | refine blk_drewN ?_ _ | refine blk_drew ?_ | refine blk_alloc ?_ _)); exact BK174.out) hb); have n2_ := Aside0.mk (blk_below (g := gb178) (o := .cells #[.int .i64 t201, .int .i64 t202] 38 (0, 0)) (by (with_reducible repeat (first | refine blk_drewN ?_ _ | refine blk_drew ?_ | refine blk_alloc ?_ _)); exact BK178.out) hb); have n3_ := Aside0.mk (blk_below (g := gb182) (o := .cells #[.int .i64 t205, .int .i64 t206] 38 (0, 0)) (by (with_reducible repeat (first | refine blk_drewN ?_ _ | refine blk_drew ?_ | refine blk_alloc ?_ _)); exact BK182.out) hb); have n4_ := Aside0.mk (below_step (by repeat (first | (with_reducible first | exact HB.out | apply below_alloc | apply pw_below_drewN | apply below_drew1 | refine below_set ?_ GE173.out | refine below_set ?_ GE174.out | refine below_set ?_ GE178.out | refine below_set ?_ GE182.out) | exact HB.out)) hb); clear BK173; clear BK174; clear BK178; clear BK182; clear HB; have BK173 := n0_; have BK174 := n1_; have BK178 := n2_; have BK182 := n3_; have HB := n4_; clear n0_ n1_ n2_ n3_ n4_; (try clear hb); (try clear hb2); (try clear hk); (try clear hi); have hnb176 := NB178_182.out; have hnc176 := NB182_178.out; have hcz177_0 : w175.cell? ⟨gb178, 0, none⟩ = some (.int .i64 t201) := (blk_cell BK178.out 0).trans rfl; have hcz177_1 : w175.cell? ⟨gb178, 1, none⟩ = some (.int .i64 t202) := (blk_cell BK178.out 1).trans rfl; have hfz177_0 := blk_frozen BK178.out 0; have hfz177_1 := blk_frozen BK178.out 1; have hcz178_0 : w175.cell? ⟨gb173, 0, none⟩ = some (.int .i64 a0_0) := (blk_cell BK173.out 0).trans rfl; have hcz178_1 : w175.cell? ⟨gb173, 1, none⟩ = some (.int .i64 a0_1) := (blk_cell BK173.out 1).trans rfl; have hfz178_0 := blk_frozen BK173.out 0; have hfz178_1 := blk_frozen BK173.out 1; have hcz179_0 : w175.cell? ⟨gb174, 0, none⟩ = some (.int .i64 a1_0) := (blk_cell BK174.out 0).trans rfl; have hcz179_1 : w175.cell? ⟨gb174, 1, none⟩ = some (.int .i64 a1_1) := (blk_cell BK174.out 1).trans rfl; have hfz179_0 := blk_frozen BK174.out 0; have hfz179_1 := blk_frozen BK174.out 1) | ((with_reducible refine gate_callee (f := 73) rfl ?_); refine goesL_ (some 127) rfl rfl Try.func73 (by kernel_rfl) rfl #[.agg #[.int .i64 a0_0, .int .i64 a0_1], .agg #[.int .i64 a1_0, .int .i64 a1_1]] rfl (by (try simp only [List.map_toArray, List.map_cons, List.map_nil]); first | done | rfl | (simp only [List.length_drop, List.length_take]; rfl)) ?_; (with_reducible refine (manorboyref01_SpanQuo.calls kj122 a0_0 a0_1 a1_0 a1_1 t213 t214 t215 t216 _ A163.out).mono ?_); rintro e w180 ⟨rfl, hb⟩; refine ⟨_, rfl, ?_⟩; have n0_ := Aside0.mk (blk_below (g := gb173) (o := .cells #[.int .i64 a0_0, .int .i64 a0_1] 38 (0, 0)) (by (with_reducible repeat (first | refine blk_drewN ?_ _ | refine blk_drew ?_ | refine blk_alloc ?_ _)); refine blk_far ?_ NB173_178.out _; (with_reducible repeat (first | refine blk_drewN ?_ _ | refine blk_drew ?_ | refine blk_alloc ?_ _)); refine blk_far ?_ NB173_178.out _; (with_reducible repeat (first | refine blk_drewN ?_ _ | refine blk_drew ?_ | refine blk_alloc ?_ _)); exact BK173.out) hb); have n1_ := Aside0.mk (blk_below (g := gb174) (o := .cells #[.int .i64 a1_0, .int .i64 a1_1] 38 (0, 0)) (by (with_reducible repeat (first | refine blk_drewN ?_ _ | refine blk_drew ?_ | refine blk_alloc ?_ _)); refine blk_far ?_ NB174_178.out _; (with_reducible repeat (first | refine blk_drewN ?_ _ | refine blk_drew ?_ | refine blk_alloc ?_ _)); refine blk_far ?_ NB174_178.out _; (with_reducible repeat (first | refine blk_drewN ?_ _ | refine blk_drew ?_ | refine blk_alloc ?_ _)); exact BK174.out) hb); have n2_ := Aside0.mk (blk_below (g := gb178) (o := .cells #[.int .i64 t209, .int .i64 t210] 38 (0, 0)) (by (with_reducible repeat (first | refine blk_drewN ?_ _ | refine blk_drew ?_ | refine blk_alloc ?_ _)); refine blk_put (cs := #[.int .i64 t209, .int .i64 t202]) ?_ 1 _ rfl; (with_reducible repeat (first | refine blk_drewN ?_ _ | refine blk_drew ?_ | refine blk_alloc ?_ _)); refine blk_put (cs := #[.int .i64 t201, .int .i64 t202]) ?_ 0 _ rfl; (with_reducible repeat (first | refine blk_drewN ?_ _ | refine blk_drew ?_ | refine blk_alloc ?_ _)); exact BK178.out) hb); have n3_ := Aside0.mk (blk_below (g := gb182) (o := .cells #[.int .i64 t205, .int .i64 t206] 38 (0, 0)) (by (with_reducible repeat (first | refine blk_drewN ?_ _ | refine blk_drew ?_ | refine blk_alloc ?_ _)); refine blk_far ?_ NB182_178.out _; (with_reducible repeat (first | refine blk_drewN ?_ _ | refine blk_drew ?_ | refine blk_alloc ?_ _)); refine blk_far ?_ NB182_178.out _; (with_reducible repeat (first | refine blk_drewN ?_ _ | refine blk_drew ?_ | refine blk_alloc ?_ _)); exact BK182.out) hb); have n4_ := Aside0.mk (below_step (by repeat (first | (with_reducible first | exact HB.out | apply below_alloc | apply pw_below_drewN | apply below_drew1 | refine below_set ?_ GE173.out | refine below_set ?_ GE174.out | refine below_set ?_ GE178.out | refine below_set ?_ GE182.out) | exact HB.out)) hb); clear BK173; clear BK174; clear BK178; clear BK182; clear HB; have BK173 := n0_; have BK174 := n1_; have BK178 := n2_; have BK182 := n3_; have HB := n4_; clear n0_ n1_ n2_ n3_ n4_; (try clear hb); (try clear hb2); (try clear hk); (try clear hi); have hcz181_0 : w180.cell? ⟨gb182, 0, none⟩ = some (.int .i64 t205) := (blk_cell BK182.out 0).trans rfl; have hcz181_1 : w180.cell? ⟨gb182, 1, none⟩ = some (.int .i64 t206) := (blk_cell BK182.out 1).trans rfl; have hfz181_0 := blk_frozen BK182.out 0; have hfz181_1 := blk_frozen BK182.out 1) | ((with_reducible refine gate_callee (f := 50) rfl ?_); refine goesL_ (some 131) rfl rfl Try.func50 (by kernel_rfl) rfl #[] rfl (by (try simp only [List.map_toArray, List.map_cons, List.map_nil]); first | done | rfl | (simp only [List.length_drop, List.length_take]; rfl)) ?_; (with_reducible refine (manorboylaw01_wide.calls kj122  true _ A164.out).mono ?_); rintro e w182 ⟨rfl, hb⟩; refine ⟨_, rfl, ?_⟩; have n0_ := Aside0.mk (blk_below (g := gb173) (o := .cells #[.int .i64 a0_0, .int .i64 a0_1] 38 (0, 0)) (by (with_reducible repeat (first | refine blk_drewN ?_ _ | refine blk_drew ?_ | refine blk_alloc ?_ _)); refine blk_far ?_ NB173_182.out _; (with_reducible repeat (first | refine blk_drewN ?_ _ | refine blk_drew ?_ | refine blk_alloc ?_ _)); refine blk_far ?_ NB173_182.out _; (with_reducible repeat (first | refine blk_drewN ?_ _ | refine blk_drew ?_ | refine blk_alloc ?_ _)); exact BK173.out) hb); have n1_ := Aside0.mk (blk_below (g := gb174) (o := .cells #[.int .i64 a1_0, .int .i64 a1_1] 38 (0, 0)) (by (with_reducible repeat (first | refine blk_drewN ?_ _ | refine blk_drew ?_ | refine blk_alloc ?_ _)); refine blk_far ?_ NB174_182.out _; (with_reducible repeat (first | refine blk_drewN ?_ _ | refine blk_drew ?_ | refine blk_alloc ?_ _)); refine blk_far ?_ NB174_182.out _; (with_reducible repeat (first | refine blk_drewN ?_ _ | refine blk_drew ?_ | refine blk_alloc ?_ _)); exact BK174.out) hb); have n2_ := Aside0.mk (blk_below (g := gb178) (o := .cells #[.int .i64 t209, .int .i64 t210] 38 (0, 0)) (by (with_reducible repeat (first | refine blk_drewN ?_ _ | refine blk_drew ?_ | refine blk_alloc ?_ _)); refine blk_far ?_ NB178_182.out _; (with_reducible repeat (first | refine blk_drewN ?_ _ | refine blk_drew ?_ | refine blk_alloc ?_ _)); refine blk_far ?_ NB178_182.out _; (with_reducible repeat (first | refine blk_drewN ?_ _ | refine blk_drew ?_ | refine blk_alloc ?_ _)); exact BK178.out) hb); have n3_ := Aside0.mk (blk_below (g := gb182) (o := .cells #[.int .i64 t213, .int .i64 t214] 38 (0, 0)) (by (with_reducible repeat (first | refine blk_drewN ?_ _ | refine blk_drew ?_ | refine blk_alloc ?_ _)); refine blk_put (cs := #[.int .i64 t213, .int .i64 t206]) ?_ 1 _ rfl; (with_reducible repeat (first | refine blk_drewN ?_ _ | refine blk_drew ?_ | refine blk_alloc ?_ _)); refine blk_put (cs := #[.int .i64 t205, .int .i64 t206]) ?_ 0 _ rfl; (with_reducible repeat (first | refine blk_drewN ?_ _ | refine blk_drew ?_ | refine blk_alloc ?_ _)); exact BK182.out) hb); have n4_ := Aside0.mk (below_step (by repeat (first | (with_reducible first | exact HB.out | apply below_alloc | apply pw_below_drewN | apply below_drew1 | refine below_set ?_ GE173.out | refine below_set ?_ GE174.out | refine below_set ?_ GE178.out | refine below_set ?_ GE182.out) | exact HB.out)) hb); clear BK173; clear BK174; clear BK178; clear BK182; clear HB; have BK173 := n0_; have BK174 := n1_; have BK178 := n2_; have BK182 := n3_; have HB := n4_; clear n0_ n1_ n2_ n3_ n4_; (try clear hb); (try clear hb2); (try clear hk); (try clear hi); have hcz183_0 : w182.cell? ⟨gb178, 0, none⟩ = some (.int .i64 t209) := (blk_cell BK178.out 0).trans rfl; have hcz183_1 : w182.cell? ⟨gb178, 1, none⟩ = some (.int .i64 t210) := (blk_cell BK178.out 1).trans rfl; have hfz183_0 := blk_frozen BK178.out 0; have hfz183_1 := blk_frozen BK178.out 1; have hcz184_0 : w182.cell? ⟨gb182, 0, none⟩ = some (.int .i64 t213) := (blk_cell BK182.out 0).trans rfl; have hcz184_1 : w182.cell? ⟨gb182, 1, none⟩ = some (.int .i64 t214) := (blk_cell BK182.out 1).trans rfl; have hfz184_0 := blk_frozen BK182.out 0; have hfz184_1 := blk_frozen BK182.out 1))
                                go_ret
                                exact ⟨by first | rfl | (simp [errW_none, errW_some] <;> rfl) | (simp [*, errW_none, errW_some] <;> rfl), by repeat (first | (with_reducible first | exact HB.out | apply below_alloc | apply pw_below_drewN | apply below_drew1 | refine below_set ?_ GE173.out | refine below_set ?_ GE174.out | refine below_set ?_ GE178.out | refine below_set ?_ GE182.out) | exact HB.out)⟩
                              · rw [if_neg c167] at H
                                have c167b0 : (t211 == t215) = false := by simpa using c167
                                (try (have c167b1 : decide (t211 = t215) = false := by simpa using c167))
                                (try (have c167b2 : (t211 == t215) = false := by simpa using c167))
                                (try (have c167b3 : ¬ (t211 = t215) := by simpa using c167))
                                clear c167
                                obtain rfl := Option.some.inj H
                                have hnb185 := NB173_174.out
                                have hnc185 := NB174_173.out
                                have hnb186 := NB173_178.out
                                have hnc186 := NB178_173.out
                                have hnb187 := NB173_182.out
                                have hnc187 := NB182_173.out
                                have hcz188_0 : wc.cell? ⟨gb173, 0, none⟩ = some (.int .i64 a0_0) := (blk_cell BK173.out 0).trans rfl
                                have hcz188_1 : wc.cell? ⟨gb173, 1, none⟩ = some (.int .i64 a0_1) := (blk_cell BK173.out 1).trans rfl
                                have hfz188_0 := blk_frozen BK173.out 0
                                have hfz188_1 := blk_frozen BK173.out 1
                                have hnb189 := NB174_178.out
                                have hnc189 := NB178_174.out
                                have hnb190 := NB174_182.out
                                have hnc190 := NB182_174.out
                                have hcz191_0 : wc.cell? ⟨gb174, 0, none⟩ = some (.int .i64 a1_0) := (blk_cell BK174.out 0).trans rfl
                                have hcz191_1 : wc.cell? ⟨gb174, 1, none⟩ = some (.int .i64 a1_1) := (blk_cell BK174.out 1).trans rfl
                                have hfz191_0 := blk_frozen BK174.out 0
                                have hfz191_1 := blk_frozen BK174.out 1
                                go_wp2_with (first | ((with_reducible refine gate_callee (f := 72) rfl ?_); refine goesL_ (some 120) rfl rfl Try.func72 (by kernel_rfl) rfl #[.agg #[.int .i64 a0_0, .int .i64 a0_1], .agg #[.int .i64 a1_0, .int .i64 a1_1]] rfl (by (try simp only [List.map_toArray, List.map_cons, List.map_nil]); first | done | rfl | (simp only [List.length_drop, List.length_take]; rfl)) ?_; (with_reducible refine (integer_SpanQuo.calls a0_0 a0_1 a1_0 a1_1 t209 t210 t211 t212 _ A162.out).mono ?_); rintro e w192 ⟨rfl, hb⟩; refine ⟨_, rfl, ?_⟩; have n0_ := Aside0.mk (blk_below (g := gb173) (o := .cells #[.int .i64 a0_0, .int .i64 a0_1] 38 (0, 0)) (by (with_reducible repeat (first | refine blk_drewN ?_ _ | refine blk_drew ?_ | refine blk_alloc ?_ _)); exact BK173.out) hb); have n1_ := Aside0.mk (blk_below (g := gb174) (o := .cells #[.int .i64 a1_0, .int .i64 a1_1] 38 (0, 0)) (by (with_reducible repeat (first | refine blk_drewN ?_ _ | refine blk_drew ?_ | refine blk_alloc ?_ _)); exact BK174.out) hb); have n2_ := Aside0.mk (blk_below (g := gb178) (o := .cells #[.int .i64 t201, .int .i64 t202] 38 (0, 0)) (by (with_reducible repeat (first | refine blk_drewN ?_ _ | refine blk_drew ?_ | refine blk_alloc ?_ _)); exact BK178.out) hb); have n3_ := Aside0.mk (blk_below (g := gb182) (o := .cells #[.int .i64 t205, .int .i64 t206] 38 (0, 0)) (by (with_reducible repeat (first | refine blk_drewN ?_ _ | refine blk_drew ?_ | refine blk_alloc ?_ _)); exact BK182.out) hb); have n4_ := Aside0.mk (below_step (by repeat (first | (with_reducible first | exact HB.out | apply below_alloc | apply pw_below_drewN | apply below_drew1 | refine below_set ?_ GE173.out | refine below_set ?_ GE174.out | refine below_set ?_ GE178.out | refine below_set ?_ GE182.out) | exact HB.out)) hb); clear BK173; clear BK174; clear BK178; clear BK182; clear HB; have BK173 := n0_; have BK174 := n1_; have BK178 := n2_; have BK182 := n3_; have HB := n4_; clear n0_ n1_ n2_ n3_ n4_; (try clear hb); (try clear hb2); (try clear hk); (try clear hi); have hnb193 := NB178_182.out; have hnc193 := NB182_178.out; have hcz194_0 : w192.cell? ⟨gb178, 0, none⟩ = some (.int .i64 t201) := (blk_cell BK178.out 0).trans rfl; have hcz194_1 : w192.cell? ⟨gb178, 1, none⟩ = some (.int .i64 t202) := (blk_cell BK178.out 1).trans rfl; have hfz194_0 := blk_frozen BK178.out 0; have hfz194_1 := blk_frozen BK178.out 1; have hcz195_0 : w192.cell? ⟨gb173, 0, none⟩ = some (.int .i64 a0_0) := (blk_cell BK173.out 0).trans rfl; have hcz195_1 : w192.cell? ⟨gb173, 1, none⟩ = some (.int .i64 a0_1) := (blk_cell BK173.out 1).trans rfl; have hfz195_0 := blk_frozen BK173.out 0; have hfz195_1 := blk_frozen BK173.out 1; have hcz196_0 : w192.cell? ⟨gb174, 0, none⟩ = some (.int .i64 a1_0) := (blk_cell BK174.out 0).trans rfl; have hcz196_1 : w192.cell? ⟨gb174, 1, none⟩ = some (.int .i64 a1_1) := (blk_cell BK174.out 1).trans rfl; have hfz196_0 := blk_frozen BK174.out 0; have hfz196_1 := blk_frozen BK174.out 1) | ((with_reducible refine gate_callee (f := 73) rfl ?_); refine goesL_ (some 127) rfl rfl Try.func73 (by kernel_rfl) rfl #[.agg #[.int .i64 a0_0, .int .i64 a0_1], .agg #[.int .i64 a1_0, .int .i64 a1_1]] rfl (by (try simp only [List.map_toArray, List.map_cons, List.map_nil]); first | done | rfl | (simp only [List.length_drop, List.length_take]; rfl)) ?_; (with_reducible refine (manorboyref01_SpanQuo.calls kj122 a0_0 a0_1 a1_0 a1_1 t213 t214 t215 t216 _ A163.out).mono ?_); rintro e w197 ⟨rfl, hb⟩; refine ⟨_, rfl, ?_⟩; have n0_ := Aside0.mk (blk_below (g := gb173) (o := .cells #[.int .i64 a0_0, .int .i64 a0_1] 38 (0, 0)) (by (with_reducible repeat (first | refine blk_drewN ?_ _ | refine blk_drew ?_ | refine blk_alloc ?_ _)); refine blk_far ?_ NB173_178.out _; (with_reducible repeat (first | refine blk_drewN ?_ _ | refine blk_drew ?_ | refine blk_alloc ?_ _)); refine blk_far ?_ NB173_178.out _; (with_reducible repeat (first | refine blk_drewN ?_ _ | refine blk_drew ?_ | refine blk_alloc ?_ _)); exact BK173.out) hb); have n1_ := Aside0.mk (blk_below (g := gb174) (o := .cells #[.int .i64 a1_0, .int .i64 a1_1] 38 (0, 0)) (by (with_reducible repeat (first | refine blk_drewN ?_ _ | refine blk_drew ?_ | refine blk_alloc ?_ _)); refine blk_far ?_ NB174_178.out _; (with_reducible repeat (first | refine blk_drewN ?_ _ | refine blk_drew ?_ | refine blk_alloc ?_ _)); refine blk_far ?_ NB174_178.out _; (with_reducible repeat (first | refine blk_drewN ?_ _ | refine blk_drew ?_ | refine blk_alloc ?_ _)); exact BK174.out) hb); have n2_ := Aside0.mk (blk_below (g := gb178) (o := .cells #[.int .i64 t209, .int .i64 t210] 38 (0, 0)) (by (with_reducible repeat (first | refine blk_drewN ?_ _ | refine blk_drew ?_ | refine blk_alloc ?_ _)); refine blk_put (cs := #[.int .i64 t209, .int .i64 t202]) ?_ 1 _ rfl; (with_reducible repeat (first | refine blk_drewN ?_ _ | refine blk_drew ?_ | refine blk_alloc ?_ _)); refine blk_put (cs := #[.int .i64 t201, .int .i64 t202]) ?_ 0 _ rfl; (with_reducible repeat (first | refine blk_drewN ?_ _ | refine blk_drew ?_ | refine blk_alloc ?_ _)); exact BK178.out) hb); have n3_ := Aside0.mk (blk_below (g := gb182) (o := .cells #[.int .i64 t205, .int .i64 t206] 38 (0, 0)) (by (with_reducible repeat (first | refine blk_drewN ?_ _ | refine blk_drew ?_ | refine blk_alloc ?_ _)); refine blk_far ?_ NB182_178.out _; (with_reducible repeat (first | refine blk_drewN ?_ _ | refine blk_drew ?_ | refine blk_alloc ?_ _)); refine blk_far ?_ NB182_178.out _; (with_reducible repeat (first | refine blk_drewN ?_ _ | refine blk_drew ?_ | refine blk_alloc ?_ _)); exact BK182.out) hb); have n4_ := Aside0.mk (below_step (by repeat (first | (with_reducible first | exact HB.out | apply below_alloc | apply pw_below_drewN | apply below_drew1 | refine below_set ?_ GE173.out | refine below_set ?_ GE174.out | refine below_set ?_ GE178.out | refine below_set ?_ GE182.out) | exact HB.out)) hb); clear BK173; clear BK174; clear BK178; clear BK182; clear HB; have BK173 := n0_; have BK174 := n1_; have BK178 := n2_; have BK182 := n3_; have HB := n4_; clear n0_ n1_ n2_ n3_ n4_; (try clear hb); (try clear hb2); (try clear hk); (try clear hi); have hcz198_0 : w197.cell? ⟨gb182, 0, none⟩ = some (.int .i64 t205) := (blk_cell BK182.out 0).trans rfl; have hcz198_1 : w197.cell? ⟨gb182, 1, none⟩ = some (.int .i64 t206) := (blk_cell BK182.out 1).trans rfl; have hfz198_0 := blk_frozen BK182.out 0; have hfz198_1 := blk_frozen BK182.out 1) | ((with_reducible refine gate_callee (f := 50) rfl ?_); refine goesL_ (some 131) rfl rfl Try.func50 (by kernel_rfl) rfl #[] rfl (by (try simp only [List.map_toArray, List.map_cons, List.map_nil]); first | done | rfl | (simp only [List.length_drop, List.length_take]; rfl)) ?_; (with_reducible refine (manorboylaw01_wide.calls kj122  true _ A164.out).mono ?_); rintro e w199 ⟨rfl, hb⟩; refine ⟨_, rfl, ?_⟩; have n0_ := Aside0.mk (blk_below (g := gb173) (o := .cells #[.int .i64 a0_0, .int .i64 a0_1] 38 (0, 0)) (by (with_reducible repeat (first | refine blk_drewN ?_ _ | refine blk_drew ?_ | refine blk_alloc ?_ _)); refine blk_far ?_ NB173_182.out _; (with_reducible repeat (first | refine blk_drewN ?_ _ | refine blk_drew ?_ | refine blk_alloc ?_ _)); refine blk_far ?_ NB173_182.out _; (with_reducible repeat (first | refine blk_drewN ?_ _ | refine blk_drew ?_ | refine blk_alloc ?_ _)); exact BK173.out) hb); have n1_ := Aside0.mk (blk_below (g := gb174) (o := .cells #[.int .i64 a1_0, .int .i64 a1_1] 38 (0, 0)) (by (with_reducible repeat (first | refine blk_drewN ?_ _ | refine blk_drew ?_ | refine blk_alloc ?_ _)); refine blk_far ?_ NB174_182.out _; (with_reducible repeat (first | refine blk_drewN ?_ _ | refine blk_drew ?_ | refine blk_alloc ?_ _)); refine blk_far ?_ NB174_182.out _; (with_reducible repeat (first | refine blk_drewN ?_ _ | refine blk_drew ?_ | refine blk_alloc ?_ _)); exact BK174.out) hb); have n2_ := Aside0.mk (blk_below (g := gb178) (o := .cells #[.int .i64 t209, .int .i64 t210] 38 (0, 0)) (by (with_reducible repeat (first | refine blk_drewN ?_ _ | refine blk_drew ?_ | refine blk_alloc ?_ _)); refine blk_far ?_ NB178_182.out _; (with_reducible repeat (first | refine blk_drewN ?_ _ | refine blk_drew ?_ | refine blk_alloc ?_ _)); refine blk_far ?_ NB178_182.out _; (with_reducible repeat (first | refine blk_drewN ?_ _ | refine blk_drew ?_ | refine blk_alloc ?_ _)); exact BK178.out) hb); have n3_ := Aside0.mk (blk_below (g := gb182) (o := .cells #[.int .i64 t213, .int .i64 t214] 38 (0, 0)) (by (with_reducible repeat (first | refine blk_drewN ?_ _ | refine blk_drew ?_ | refine blk_alloc ?_ _)); refine blk_put (cs := #[.int .i64 t213, .int .i64 t206]) ?_ 1 _ rfl; (with_reducible repeat (first | refine blk_drewN ?_ _ | refine blk_drew ?_ | refine blk_alloc ?_ _)); refine blk_put (cs := #[.int .i64 t205, .int .i64 t206]) ?_ 0 _ rfl; (with_reducible repeat (first | refine blk_drewN ?_ _ | refine blk_drew ?_ | refine blk_alloc ?_ _)); exact BK182.out) hb); have n4_ := Aside0.mk (below_step (by repeat (first | (with_reducible first | exact HB.out | apply below_alloc | apply pw_below_drewN | apply below_drew1 | refine below_set ?_ GE173.out | refine below_set ?_ GE174.out | refine below_set ?_ GE178.out | refine below_set ?_ GE182.out) | exact HB.out)) hb); clear BK173; clear BK174; clear BK178; clear BK182; clear HB; have BK173 := n0_; have BK174 := n1_; have BK178 := n2_; have BK182 := n3_; have HB := n4_; clear n0_ n1_ n2_ n3_ n4_; (try clear hb); (try clear hb2); (try clear hk); (try clear hi); have hcz200_0 : w199.cell? ⟨gb178, 0, none⟩ = some (.int .i64 t209) := (blk_cell BK178.out 0).trans rfl; have hcz200_1 : w199.cell? ⟨gb178, 1, none⟩ = some (.int .i64 t210) := (blk_cell BK178.out 1).trans rfl; have hfz200_0 := blk_frozen BK178.out 0; have hfz200_1 := blk_frozen BK178.out 1; have hcz201_0 : w199.cell? ⟨gb182, 0, none⟩ = some (.int .i64 t213) := (blk_cell BK182.out 0).trans rfl; have hcz201_1 : w199.cell? ⟨gb182, 1, none⟩ = some (.int .i64 t214) := (blk_cell BK182.out 1).trans rfl; have hfz201_0 := blk_frozen BK182.out 0; have hfz201_1 := blk_frozen BK182.out 1))
                                go_ret
                                exact ⟨by first | rfl | (simp [errW_none, errW_some] <;> rfl) | (simp [*, errW_none, errW_some] <;> rfl), by repeat (first | (with_reducible first | exact HB.out | apply below_alloc | apply pw_below_drewN | apply below_drew1 | refine below_set ?_ GE173.out | refine below_set ?_ GE174.out | refine below_set ?_ GE178.out | refine below_set ?_ GE182.out) | exact HB.out)⟩
                            · rw [if_neg c166] at H
                              have c166b0 : (t209 == t213 && (t210 == t214)) = false := by simpa using c166
                              (try (have c166b1 : decide (t209 = t213 && (t210 == t214)) = false := by simpa using c166))
                              (try (have c166b2 : (t209 == t213 && (t210 == t214)) = false := by simpa using c166))
                              (try (have c166b3 : ¬ (t209 = t213 && (t210 == t214)) := by simpa using c166))
                              clear c166
                              obtain rfl := Option.some.inj H
                              have hnb202 := NB173_174.out
                              have hnc202 := NB174_173.out
                              have hnb203 := NB173_178.out
                              have hnc203 := NB178_173.out
                              have hnb204 := NB173_182.out
                              have hnc204 := NB182_173.out
                              have hcz205_0 : wc.cell? ⟨gb173, 0, none⟩ = some (.int .i64 a0_0) := (blk_cell BK173.out 0).trans rfl
                              have hcz205_1 : wc.cell? ⟨gb173, 1, none⟩ = some (.int .i64 a0_1) := (blk_cell BK173.out 1).trans rfl
                              have hfz205_0 := blk_frozen BK173.out 0
                              have hfz205_1 := blk_frozen BK173.out 1
                              have hnb206 := NB174_178.out
                              have hnc206 := NB178_174.out
                              have hnb207 := NB174_182.out
                              have hnc207 := NB182_174.out
                              have hcz208_0 : wc.cell? ⟨gb174, 0, none⟩ = some (.int .i64 a1_0) := (blk_cell BK174.out 0).trans rfl
                              have hcz208_1 : wc.cell? ⟨gb174, 1, none⟩ = some (.int .i64 a1_1) := (blk_cell BK174.out 1).trans rfl
                              have hfz208_0 := blk_frozen BK174.out 0
                              have hfz208_1 := blk_frozen BK174.out 1
                              go_wp2_with (first | ((with_reducible refine gate_callee (f := 72) rfl ?_); refine goesL_ (some 120) rfl rfl Try.func72 (by kernel_rfl) rfl #[.agg #[.int .i64 a0_0, .int .i64 a0_1], .agg #[.int .i64 a1_0, .int .i64 a1_1]] rfl (by (try simp only [List.map_toArray, List.map_cons, List.map_nil]); first | done | rfl | (simp only [List.length_drop, List.length_take]; rfl)) ?_; (with_reducible refine (integer_SpanQuo.calls a0_0 a0_1 a1_0 a1_1 t209 t210 t211 t212 _ A162.out).mono ?_); rintro e w209 ⟨rfl, hb⟩; refine ⟨_, rfl, ?_⟩; have n0_ := Aside0.mk (blk_below (g := gb173) (o := .cells #[.int .i64 a0_0, .int .i64 a0_1] 38 (0, 0)) (by (with_reducible repeat (first | refine blk_drewN ?_ _ | refine blk_drew ?_ | refine blk_alloc ?_ _)); exact BK173.out) hb); have n1_ := Aside0.mk (blk_below (g := gb174) (o := .cells #[.int .i64 a1_0, .int .i64 a1_1] 38 (0, 0)) (by (with_reducible repeat (first | refine blk_drewN ?_ _ | refine blk_drew ?_ | refine blk_alloc ?_ _)); exact BK174.out) hb); have n2_ := Aside0.mk (blk_below (g := gb178) (o := .cells #[.int .i64 t201, .int .i64 t202] 38 (0, 0)) (by (with_reducible repeat (first | refine blk_drewN ?_ _ | refine blk_drew ?_ | refine blk_alloc ?_ _)); exact BK178.out) hb); have n3_ := Aside0.mk (blk_below (g := gb182) (o := .cells #[.int .i64 t205, .int .i64 t206] 38 (0, 0)) (by (with_reducible repeat (first | refine blk_drewN ?_ _ | refine blk_drew ?_ | refine blk_alloc ?_ _)); exact BK182.out) hb); have n4_ := Aside0.mk (below_step (by repeat (first | (with_reducible first | exact HB.out | apply below_alloc | apply pw_below_drewN | apply below_drew1 | refine below_set ?_ GE173.out | refine below_set ?_ GE174.out | refine below_set ?_ GE178.out | refine below_set ?_ GE182.out) | exact HB.out)) hb); clear BK173; clear BK174; clear BK178; clear BK182; clear HB; have BK173 := n0_; have BK174 := n1_; have BK178 := n2_; have BK182 := n3_; have HB := n4_; clear n0_ n1_ n2_ n3_ n4_; (try clear hb); (try clear hb2); (try clear hk); (try clear hi); have hnb210 := NB178_182.out; have hnc210 := NB182_178.out; have hcz211_0 : w209.cell? ⟨gb178, 0, none⟩ = some (.int .i64 t201) := (blk_cell BK178.out 0).trans rfl; have hcz211_1 : w209.cell? ⟨gb178, 1, none⟩ = some (.int .i64 t202) := (blk_cell BK178.out 1).trans rfl; have hfz211_0 := blk_frozen BK178.out 0; have hfz211_1 := blk_frozen BK178.out 1; have hcz212_0 : w209.cell? ⟨gb173, 0, none⟩ = some (.int .i64 a0_0) := (blk_cell BK173.out 0).trans rfl; have hcz212_1 : w209.cell? ⟨gb173, 1, none⟩ = some (.int .i64 a0_1) := (blk_cell BK173.out 1).trans rfl; have hfz212_0 := blk_frozen BK173.out 0; have hfz212_1 := blk_frozen BK173.out 1; have hcz213_0 : w209.cell? ⟨gb174, 0, none⟩ = some (.int .i64 a1_0) := (blk_cell BK174.out 0).trans rfl; have hcz213_1 : w209.cell? ⟨gb174, 1, none⟩ = some (.int .i64 a1_1) := (blk_cell BK174.out 1).trans rfl; have hfz213_0 := blk_frozen BK174.out 0; have hfz213_1 := blk_frozen BK174.out 1) | ((with_reducible refine gate_callee (f := 73) rfl ?_); refine goesL_ (some 127) rfl rfl Try.func73 (by kernel_rfl) rfl #[.agg #[.int .i64 a0_0, .int .i64 a0_1], .agg #[.int .i64 a1_0, .int .i64 a1_1]] rfl (by (try simp only [List.map_toArray, List.map_cons, List.map_nil]); first | done | rfl | (simp only [List.length_drop, List.length_take]; rfl)) ?_; (with_reducible refine (manorboyref01_SpanQuo.calls kj122 a0_0 a0_1 a1_0 a1_1 t213 t214 t215 t216 _ A163.out).mono ?_); rintro e w214 ⟨rfl, hb⟩; refine ⟨_, rfl, ?_⟩; have n0_ := Aside0.mk (blk_below (g := gb173) (o := .cells #[.int .i64 a0_0, .int .i64 a0_1] 38 (0, 0)) (by (with_reducible repeat (first | refine blk_drewN ?_ _ | refine blk_drew ?_ | refine blk_alloc ?_ _)); refine blk_far ?_ NB173_178.out _; (with_reducible repeat (first | refine blk_drewN ?_ _ | refine blk_drew ?_ | refine blk_alloc ?_ _)); refine blk_far ?_ NB173_178.out _; (with_reducible repeat (first | refine blk_drewN ?_ _ | refine blk_drew ?_ | refine blk_alloc ?_ _)); exact BK173.out) hb); have n1_ := Aside0.mk (blk_below (g := gb174) (o := .cells #[.int .i64 a1_0, .int .i64 a1_1] 38 (0, 0)) (by (with_reducible repeat (first | refine blk_drewN ?_ _ | refine blk_drew ?_ | refine blk_alloc ?_ _)); refine blk_far ?_ NB174_178.out _; (with_reducible repeat (first | refine blk_drewN ?_ _ | refine blk_drew ?_ | refine blk_alloc ?_ _)); refine blk_far ?_ NB174_178.out _; (with_reducible repeat (first | refine blk_drewN ?_ _ | refine blk_drew ?_ | refine blk_alloc ?_ _)); exact BK174.out) hb); have n2_ := Aside0.mk (blk_below (g := gb178) (o := .cells #[.int .i64 t209, .int .i64 t210] 38 (0, 0)) (by (with_reducible repeat (first | refine blk_drewN ?_ _ | refine blk_drew ?_ | refine blk_alloc ?_ _)); refine blk_put (cs := #[.int .i64 t209, .int .i64 t202]) ?_ 1 _ rfl; (with_reducible repeat (first | refine blk_drewN ?_ _ | refine blk_drew ?_ | refine blk_alloc ?_ _)); refine blk_put (cs := #[.int .i64 t201, .int .i64 t202]) ?_ 0 _ rfl; (with_reducible repeat (first | refine blk_drewN ?_ _ | refine blk_drew ?_ | refine blk_alloc ?_ _)); exact BK178.out) hb); have n3_ := Aside0.mk (blk_below (g := gb182) (o := .cells #[.int .i64 t205, .int .i64 t206] 38 (0, 0)) (by (with_reducible repeat (first | refine blk_drewN ?_ _ | refine blk_drew ?_ | refine blk_alloc ?_ _)); refine blk_far ?_ NB182_178.out _; (with_reducible repeat (first | refine blk_drewN ?_ _ | refine blk_drew ?_ | refine blk_alloc ?_ _)); refine blk_far ?_ NB182_178.out _; (with_reducible repeat (first | refine blk_drewN ?_ _ | refine blk_drew ?_ | refine blk_alloc ?_ _)); exact BK182.out) hb); have n4_ := Aside0.mk (below_step (by repeat (first | (with_reducible first | exact HB.out | apply below_alloc | apply pw_below_drewN | apply below_drew1 | refine below_set ?_ GE173.out | refine below_set ?_ GE174.out | refine below_set ?_ GE178.out | refine below_set ?_ GE182.out) | exact HB.out)) hb); clear BK173; clear BK174; clear BK178; clear BK182; clear HB; have BK173 := n0_; have BK174 := n1_; have BK178 := n2_; have BK182 := n3_; have HB := n4_; clear n0_ n1_ n2_ n3_ n4_; (try clear hb); (try clear hb2); (try clear hk); (try clear hi); have hcz215_0 : w214.cell? ⟨gb182, 0, none⟩ = some (.int .i64 t205) := (blk_cell BK182.out 0).trans rfl; have hcz215_1 : w214.cell? ⟨gb182, 1, none⟩ = some (.int .i64 t206) := (blk_cell BK182.out 1).trans rfl; have hfz215_0 := blk_frozen BK182.out 0; have hfz215_1 := blk_frozen BK182.out 1) | ((with_reducible refine gate_callee (f := 50) rfl ?_); refine goesL_ (some 131) rfl rfl Try.func50 (by kernel_rfl) rfl #[] rfl (by (try simp only [List.map_toArray, List.map_cons, List.map_nil]); first | done | rfl | (simp only [List.length_drop, List.length_take]; rfl)) ?_; (with_reducible refine (manorboylaw01_wide.calls kj122  true _ A164.out).mono ?_); rintro e w216 ⟨rfl, hb⟩; refine ⟨_, rfl, ?_⟩; have n0_ := Aside0.mk (blk_below (g := gb173) (o := .cells #[.int .i64 a0_0, .int .i64 a0_1] 38 (0, 0)) (by (with_reducible repeat (first | refine blk_drewN ?_ _ | refine blk_drew ?_ | refine blk_alloc ?_ _)); refine blk_far ?_ NB173_182.out _; (with_reducible repeat (first | refine blk_drewN ?_ _ | refine blk_drew ?_ | refine blk_alloc ?_ _)); refine blk_far ?_ NB173_182.out _; (with_reducible repeat (first | refine blk_drewN ?_ _ | refine blk_drew ?_ | refine blk_alloc ?_ _)); exact BK173.out) hb); have n1_ := Aside0.mk (blk_below (g := gb174) (o := .cells #[.int .i64 a1_0, .int .i64 a1_1] 38 (0, 0)) (by (with_reducible repeat (first | refine blk_drewN ?_ _ | refine blk_drew ?_ | refine blk_alloc ?_ _)); refine blk_far ?_ NB174_182.out _; (with_reducible repeat (first | refine blk_drewN ?_ _ | refine blk_drew ?_ | refine blk_alloc ?_ _)); refine blk_far ?_ NB174_182.out _; (with_reducible repeat (first | refine blk_drewN ?_ _ | refine blk_drew ?_ | refine blk_alloc ?_ _)); exact BK174.out) hb); have n2_ := Aside0.mk (blk_below (g := gb178) (o := .cells #[.int .i64 t209, .int .i64 t210] 38 (0, 0)) (by (with_reducible repeat (first | refine blk_drewN ?_ _ | refine blk_drew ?_ | refine blk_alloc ?_ _)); refine blk_far ?_ NB178_182.out _; (with_reducible repeat (first | refine blk_drewN ?_ _ | refine blk_drew ?_ | refine blk_alloc ?_ _)); refine blk_far ?_ NB178_182.out _; (with_reducible repeat (first | refine blk_drewN ?_ _ | refine blk_drew ?_ | refine blk_alloc ?_ _)); exact BK178.out) hb); have n3_ := Aside0.mk (blk_below (g := gb182) (o := .cells #[.int .i64 t213, .int .i64 t214] 38 (0, 0)) (by (with_reducible repeat (first | refine blk_drewN ?_ _ | refine blk_drew ?_ | refine blk_alloc ?_ _)); refine blk_put (cs := #[.int .i64 t213, .int .i64 t206]) ?_ 1 _ rfl; (with_reducible repeat (first | refine blk_drewN ?_ _ | refine blk_drew ?_ | refine blk_alloc ?_ _)); refine blk_put (cs := #[.int .i64 t205, .int .i64 t206]) ?_ 0 _ rfl; (with_reducible repeat (first | refine blk_drewN ?_ _ | refine blk_drew ?_ | refine blk_alloc ?_ _)); exact BK182.out) hb); have n4_ := Aside0.mk (below_step (by repeat (first | (with_reducible first | exact HB.out | apply below_alloc | apply pw_below_drewN | apply below_drew1 | refine below_set ?_ GE173.out | refine below_set ?_ GE174.out | refine below_set ?_ GE178.out | refine below_set ?_ GE182.out) | exact HB.out)) hb); clear BK173; clear BK174; clear BK178; clear BK182; clear HB; have BK173 := n0_; have BK174 := n1_; have BK178 := n2_; have BK182 := n3_; have HB := n4_; clear n0_ n1_ n2_ n3_ n4_; (try clear hb); (try clear hb2); (try clear hk); (try clear hi); have hcz217_0 : w216.cell? ⟨gb178, 0, none⟩ = some (.int .i64 t209) := (blk_cell BK178.out 0).trans rfl; have hcz217_1 : w216.cell? ⟨gb178, 1, none⟩ = some (.int .i64 t210) := (blk_cell BK178.out 1).trans rfl; have hfz217_0 := blk_frozen BK178.out 0; have hfz217_1 := blk_frozen BK178.out 1; have hcz218_0 : w216.cell? ⟨gb182, 0, none⟩ = some (.int .i64 t213) := (blk_cell BK182.out 0).trans rfl; have hcz218_1 : w216.cell? ⟨gb182, 1, none⟩ = some (.int .i64 t214) := (blk_cell BK182.out 1).trans rfl; have hfz218_0 := blk_frozen BK182.out 0; have hfz218_1 := blk_frozen BK182.out 1))
                              go_ret
                              exact ⟨by first | rfl | (simp [errW_none, errW_some] <;> rfl) | (simp [*, errW_none, errW_some] <;> rfl), by repeat (first | (with_reducible first | exact HB.out | apply below_alloc | apply pw_below_drewN | apply below_drew1 | refine below_set ?_ GE173.out | refine below_set ?_ GE174.out | refine below_set ?_ GE178.out | refine below_set ?_ GE182.out) | exact HB.out)⟩
                          · replace c165 := Bool.eq_false_iff.mpr c165
                            subst c165
                            have H1 : (some false) = some r := by rw [if_neg (show ¬ (false = true) by decide)] at H; exact H
                            clear H
                            have H := H1
                            clear H1
                            obtain rfl := Option.some.inj H
                            have hnb219 := NB173_174.out
                            have hnc219 := NB174_173.out
                            have hnb220 := NB173_178.out
                            have hnc220 := NB178_173.out
                            have hnb221 := NB173_182.out
                            have hnc221 := NB182_173.out
                            have hcz222_0 : wc.cell? ⟨gb173, 0, none⟩ = some (.int .i64 a0_0) := (blk_cell BK173.out 0).trans rfl
                            have hcz222_1 : wc.cell? ⟨gb173, 1, none⟩ = some (.int .i64 a0_1) := (blk_cell BK173.out 1).trans rfl
                            have hfz222_0 := blk_frozen BK173.out 0
                            have hfz222_1 := blk_frozen BK173.out 1
                            have hnb223 := NB174_178.out
                            have hnc223 := NB178_174.out
                            have hnb224 := NB174_182.out
                            have hnc224 := NB182_174.out
                            have hcz225_0 : wc.cell? ⟨gb174, 0, none⟩ = some (.int .i64 a1_0) := (blk_cell BK174.out 0).trans rfl
                            have hcz225_1 : wc.cell? ⟨gb174, 1, none⟩ = some (.int .i64 a1_1) := (blk_cell BK174.out 1).trans rfl
                            have hfz225_0 := blk_frozen BK174.out 0
                            have hfz225_1 := blk_frozen BK174.out 1
                            go_wp2_with (first | ((with_reducible refine gate_callee (f := 72) rfl ?_); refine goesL_ (some 120) rfl rfl Try.func72 (by kernel_rfl) rfl #[.agg #[.int .i64 a0_0, .int .i64 a0_1], .agg #[.int .i64 a1_0, .int .i64 a1_1]] rfl (by (try simp only [List.map_toArray, List.map_cons, List.map_nil]); first | done | rfl | (simp only [List.length_drop, List.length_take]; rfl)) ?_; (with_reducible refine (integer_SpanQuo.calls a0_0 a0_1 a1_0 a1_1 t209 t210 t211 t212 _ A162.out).mono ?_); rintro e w226 ⟨rfl, hb⟩; refine ⟨_, rfl, ?_⟩; have n0_ := Aside0.mk (blk_below (g := gb173) (o := .cells #[.int .i64 a0_0, .int .i64 a0_1] 38 (0, 0)) (by (with_reducible repeat (first | refine blk_drewN ?_ _ | refine blk_drew ?_ | refine blk_alloc ?_ _)); exact BK173.out) hb); have n1_ := Aside0.mk (blk_below (g := gb174) (o := .cells #[.int .i64 a1_0, .int .i64 a1_1] 38 (0, 0)) (by (with_reducible repeat (first | refine blk_drewN ?_ _ | refine blk_drew ?_ | refine blk_alloc ?_ _)); exact BK174.out) hb); have n2_ := Aside0.mk (blk_below (g := gb178) (o := .cells #[.int .i64 t201, .int .i64 t202] 38 (0, 0)) (by (with_reducible repeat (first | refine blk_drewN ?_ _ | refine blk_drew ?_ | refine blk_alloc ?_ _)); exact BK178.out) hb); have n3_ := Aside0.mk (blk_below (g := gb182) (o := .cells #[.int .i64 t205, .int .i64 t206] 38 (0, 0)) (by (with_reducible repeat (first | refine blk_drewN ?_ _ | refine blk_drew ?_ | refine blk_alloc ?_ _)); exact BK182.out) hb); have n4_ := Aside0.mk (below_step (by repeat (first | (with_reducible first | exact HB.out | apply below_alloc | apply pw_below_drewN | apply below_drew1 | refine below_set ?_ GE173.out | refine below_set ?_ GE174.out | refine below_set ?_ GE178.out | refine below_set ?_ GE182.out) | exact HB.out)) hb); clear BK173; clear BK174; clear BK178; clear BK182; clear HB; have BK173 := n0_; have BK174 := n1_; have BK178 := n2_; have BK182 := n3_; have HB := n4_; clear n0_ n1_ n2_ n3_ n4_; (try clear hb); (try clear hb2); (try clear hk); (try clear hi); have hnb227 := NB178_182.out; have hnc227 := NB182_178.out; have hcz228_0 : w226.cell? ⟨gb178, 0, none⟩ = some (.int .i64 t201) := (blk_cell BK178.out 0).trans rfl; have hcz228_1 : w226.cell? ⟨gb178, 1, none⟩ = some (.int .i64 t202) := (blk_cell BK178.out 1).trans rfl; have hfz228_0 := blk_frozen BK178.out 0; have hfz228_1 := blk_frozen BK178.out 1; have hcz229_0 : w226.cell? ⟨gb173, 0, none⟩ = some (.int .i64 a0_0) := (blk_cell BK173.out 0).trans rfl; have hcz229_1 : w226.cell? ⟨gb173, 1, none⟩ = some (.int .i64 a0_1) := (blk_cell BK173.out 1).trans rfl; have hfz229_0 := blk_frozen BK173.out 0; have hfz229_1 := blk_frozen BK173.out 1; have hcz230_0 : w226.cell? ⟨gb174, 0, none⟩ = some (.int .i64 a1_0) := (blk_cell BK174.out 0).trans rfl; have hcz230_1 : w226.cell? ⟨gb174, 1, none⟩ = some (.int .i64 a1_1) := (blk_cell BK174.out 1).trans rfl; have hfz230_0 := blk_frozen BK174.out 0; have hfz230_1 := blk_frozen BK174.out 1) | ((with_reducible refine gate_callee (f := 73) rfl ?_); refine goesL_ (some 127) rfl rfl Try.func73 (by kernel_rfl) rfl #[.agg #[.int .i64 a0_0, .int .i64 a0_1], .agg #[.int .i64 a1_0, .int .i64 a1_1]] rfl (by (try simp only [List.map_toArray, List.map_cons, List.map_nil]); first | done | rfl | (simp only [List.length_drop, List.length_take]; rfl)) ?_; (with_reducible refine (manorboyref01_SpanQuo.calls kj122 a0_0 a0_1 a1_0 a1_1 t213 t214 t215 t216 _ A163.out).mono ?_); rintro e w231 ⟨rfl, hb⟩; refine ⟨_, rfl, ?_⟩; have n0_ := Aside0.mk (blk_below (g := gb173) (o := .cells #[.int .i64 a0_0, .int .i64 a0_1] 38 (0, 0)) (by (with_reducible repeat (first | refine blk_drewN ?_ _ | refine blk_drew ?_ | refine blk_alloc ?_ _)); refine blk_far ?_ NB173_178.out _; (with_reducible repeat (first | refine blk_drewN ?_ _ | refine blk_drew ?_ | refine blk_alloc ?_ _)); refine blk_far ?_ NB173_178.out _; (with_reducible repeat (first | refine blk_drewN ?_ _ | refine blk_drew ?_ | refine blk_alloc ?_ _)); exact BK173.out) hb); have n1_ := Aside0.mk (blk_below (g := gb174) (o := .cells #[.int .i64 a1_0, .int .i64 a1_1] 38 (0, 0)) (by (with_reducible repeat (first | refine blk_drewN ?_ _ | refine blk_drew ?_ | refine blk_alloc ?_ _)); refine blk_far ?_ NB174_178.out _; (with_reducible repeat (first | refine blk_drewN ?_ _ | refine blk_drew ?_ | refine blk_alloc ?_ _)); refine blk_far ?_ NB174_178.out _; (with_reducible repeat (first | refine blk_drewN ?_ _ | refine blk_drew ?_ | refine blk_alloc ?_ _)); exact BK174.out) hb); have n2_ := Aside0.mk (blk_below (g := gb178) (o := .cells #[.int .i64 t209, .int .i64 t210] 38 (0, 0)) (by (with_reducible repeat (first | refine blk_drewN ?_ _ | refine blk_drew ?_ | refine blk_alloc ?_ _)); refine blk_put (cs := #[.int .i64 t209, .int .i64 t202]) ?_ 1 _ rfl; (with_reducible repeat (first | refine blk_drewN ?_ _ | refine blk_drew ?_ | refine blk_alloc ?_ _)); refine blk_put (cs := #[.int .i64 t201, .int .i64 t202]) ?_ 0 _ rfl; (with_reducible repeat (first | refine blk_drewN ?_ _ | refine blk_drew ?_ | refine blk_alloc ?_ _)); exact BK178.out) hb); have n3_ := Aside0.mk (blk_below (g := gb182) (o := .cells #[.int .i64 t205, .int .i64 t206] 38 (0, 0)) (by (with_reducible repeat (first | refine blk_drewN ?_ _ | refine blk_drew ?_ | refine blk_alloc ?_ _)); refine blk_far ?_ NB182_178.out _; (with_reducible repeat (first | refine blk_drewN ?_ _ | refine blk_drew ?_ | refine blk_alloc ?_ _)); refine blk_far ?_ NB182_178.out _; (with_reducible repeat (first | refine blk_drewN ?_ _ | refine blk_drew ?_ | refine blk_alloc ?_ _)); exact BK182.out) hb); have n4_ := Aside0.mk (below_step (by repeat (first | (with_reducible first | exact HB.out | apply below_alloc | apply pw_below_drewN | apply below_drew1 | refine below_set ?_ GE173.out | refine below_set ?_ GE174.out | refine below_set ?_ GE178.out | refine below_set ?_ GE182.out) | exact HB.out)) hb); clear BK173; clear BK174; clear BK178; clear BK182; clear HB; have BK173 := n0_; have BK174 := n1_; have BK178 := n2_; have BK182 := n3_; have HB := n4_; clear n0_ n1_ n2_ n3_ n4_; (try clear hb); (try clear hb2); (try clear hk); (try clear hi); have hcz232_0 : w231.cell? ⟨gb182, 0, none⟩ = some (.int .i64 t205) := (blk_cell BK182.out 0).trans rfl; have hcz232_1 : w231.cell? ⟨gb182, 1, none⟩ = some (.int .i64 t206) := (blk_cell BK182.out 1).trans rfl; have hfz232_0 := blk_frozen BK182.out 0; have hfz232_1 := blk_frozen BK182.out 1) | ((with_reducible refine gate_callee (f := 50) rfl ?_); refine goesL_ (some 131) rfl rfl Try.func50 (by kernel_rfl) rfl #[] rfl (by (try simp only [List.map_toArray, List.map_cons, List.map_nil]); first | done | rfl | (simp only [List.length_drop, List.length_take]; rfl)) ?_; (with_reducible refine (manorboylaw01_wide.calls kj122  false _ A164.out).mono ?_); rintro e w233 ⟨rfl, hb⟩; refine ⟨_, rfl, ?_⟩; have n0_ := Aside0.mk (blk_below (g := gb173) (o := .cells #[.int .i64 a0_0, .int .i64 a0_1] 38 (0, 0)) (by (with_reducible repeat (first | refine blk_drewN ?_ _ | refine blk_drew ?_ | refine blk_alloc ?_ _)); refine blk_far ?_ NB173_182.out _; (with_reducible repeat (first | refine blk_drewN ?_ _ | refine blk_drew ?_ | refine blk_alloc ?_ _)); refine blk_far ?_ NB173_182.out _; (with_reducible repeat (first | refine blk_drewN ?_ _ | refine blk_drew ?_ | refine blk_alloc ?_ _)); exact BK173.out) hb); have n1_ := Aside0.mk (blk_below (g := gb174) (o := .cells #[.int .i64 a1_0, .int .i64 a1_1] 38 (0, 0)) (by (with_reducible repeat (first | refine blk_drewN ?_ _ | refine blk_drew ?_ | refine blk_alloc ?_ _)); refine blk_far ?_ NB174_182.out _; (with_reducible repeat (first | refine blk_drewN ?_ _ | refine blk_drew ?_ | refine blk_alloc ?_ _)); refine blk_far ?_ NB174_182.out _; (with_reducible repeat (first | refine blk_drewN ?_ _ | refine blk_drew ?_ | refine blk_alloc ?_ _)); exact BK174.out) hb); have n2_ := Aside0.mk (blk_below (g := gb178) (o := .cells #[.int .i64 t209, .int .i64 t210] 38 (0, 0)) (by (with_reducible repeat (first | refine blk_drewN ?_ _ | refine blk_drew ?_ | refine blk_alloc ?_ _)); refine blk_far ?_ NB178_182.out _; (with_reducible repeat (first | refine blk_drewN ?_ _ | refine blk_drew ?_ | refine blk_alloc ?_ _)); refine blk_far ?_ NB178_182.out _; (with_reducible repeat (first | refine blk_drewN ?_ _ | refine blk_drew ?_ | refine blk_alloc ?_ _)); exact BK178.out) hb); have n3_ := Aside0.mk (blk_below (g := gb182) (o := .cells #[.int .i64 t213, .int .i64 t214] 38 (0, 0)) (by (with_reducible repeat (first | refine blk_drewN ?_ _ | refine blk_drew ?_ | refine blk_alloc ?_ _)); refine blk_put (cs := #[.int .i64 t213, .int .i64 t206]) ?_ 1 _ rfl; (with_reducible repeat (first | refine blk_drewN ?_ _ | refine blk_drew ?_ | refine blk_alloc ?_ _)); refine blk_put (cs := #[.int .i64 t205, .int .i64 t206]) ?_ 0 _ rfl; (with_reducible repeat (first | refine blk_drewN ?_ _ | refine blk_drew ?_ | refine blk_alloc ?_ _)); exact BK182.out) hb); have n4_ := Aside0.mk (below_step (by repeat (first | (with_reducible first | exact HB.out | apply below_alloc | apply pw_below_drewN | apply below_drew1 | refine below_set ?_ GE173.out | refine below_set ?_ GE174.out | refine below_set ?_ GE178.out | refine below_set ?_ GE182.out) | exact HB.out)) hb); clear BK173; clear BK174; clear BK178; clear BK182; clear HB; have BK173 := n0_; have BK174 := n1_; have BK178 := n2_; have BK182 := n3_; have HB := n4_; clear n0_ n1_ n2_ n3_ n4_; (try clear hb); (try clear hb2); (try clear hk); (try clear hi)))
                            go_ret
                            exact ⟨by first | rfl | (simp [errW_none, errW_some] <;> rfl) | (simp [*, errW_none, errW_some] <;> rfl), by repeat (first | (with_reducible first | exact HB.out | apply below_alloc | apply pw_below_drewN | apply below_drew1 | refine below_set ?_ GE173.out | refine below_set ?_ GE174.out | refine below_set ?_ GE178.out | refine below_set ?_ GE182.out) | exact HB.out)⟩

end Go.Proofs.Ytjclehdhjnmlpaa.T
