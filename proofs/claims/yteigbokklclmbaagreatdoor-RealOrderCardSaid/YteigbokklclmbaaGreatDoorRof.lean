/- The card of the law RealOrder, out of its pure statement and the walk; what the listed variables hold is tied to the program's text by the given tie; no condition of its own. Written by program (rowreal.py). -/
import Derived.RowKit
import Derived.Laws.BitsLemmas
import Derived.Test.YteigbokklclmbaaGreatDoorProg
import Derived.KernelRfl
import Derived.Test.YteigbokklclmbaaGreatDoorRows
import Derived.Test.YteigbokklclmbaaGreatDoorCards
import Derived.Test.YteigbokklclmbaaGreatDoorTie
import Derived.WalkKit
import Derived.ProofKit
import Derived.OpenShut
import Derived.ShutString
import Derived.ChangeOld
import Derived.LaidMore
import Derived.Lay
import Derived.Below
import Derived.SizedLaws
import Derived.Lib.SmallJoins
import Derived.SevenTiedAt
import Derived.Test.YteigbokklclmbaaGreatDoorRoa
import Derived.Test.YteigbokklclmbaaGreatDoorRob
import Derived.Test.YteigbokklclmbaaGreatDoorRoc
import Derived.Test.YteigbokklclmbaaGreatDoorRod
import Derived.Test.YteigbokklclmbaaGreatDoorRoe
section
namespace Go.Proofs.YteigbokklclmbaaGreatDoor.Z.Y.V
open Go.RowKit Go.Proofs.YteigbokklclmbaaGreatDoor.Z.Y.Q Go.Proofs.YteigbokklclmbaaGreatDoor.Given Go.Proofs.YteigbokklclmbaaGreatDoorW.PrintWords Go.Proofs.YteigbokklclmbaaGreatDoorW.PrintLast Go.Proofs.YteigbokklclmbaaGreatDoorW.PrintMore
attribute [local go_sem] max2_int min2_int max_two min_two max_three min_three max_four min_four   -- for this text's walks alone
set_option linter.unusedVariables false
set_option linter.unusedSimpArgs false

def manorboylaw02_RealOrder.j0 : Nat → Int → Int → Bool → Int → Int → Option (Bool)
 | 0, _, _, _, _, _ => none
 | k + 1, x0, x14, x88, x570000, x570001 => if x88 = true then (some false) else (if x0 = 2533359615 then ((manorboylaw02_sanity.f k).bind fun t571 => (if t571 = true then (some (x14 == 3)) else (some false))) else ((real_Index.f x570000 x570001).bind fun bt572 => ((manorboylaw02_sanity.f k).bind fun t574 => (if t574 = true then (if x14 = 0 then (if bt572.2 = 0 then (some (bt572.1 == (wrap64 (x0 + 1)))) else (some false)) else (some false)) else (some false)))))
def manorboylaw02_RealOrder.f (k : Nat) (a0 : Int) (a1 : Int) : Option (Bool) := (manorboylaw02_at.f (Int.tmod a0 2533359616)).bind fun bt554 => ((manorboylaw02_at.f (Int.tmod a1 2533359616)).bind fun bt557 => ((real_Index.f bt554.1 bt554.2).bind fun bt560 => ((real_Cmp.f bt554.1 bt554.2 bt557.1 bt557.2).bind fun bt562 => ((real_Cmp.f bt557.1 bt557.2 bt554.1 bt554.2).bind fun bt564 => ((real_Next.f bt554.1 bt554.2).bind fun bt566 => ((real_Valid.f bt554.1 bt554.2).bind fun t570 => (if t570 = true then (if bt560.2 = 0 then (if bt560.1 = (Int.tmod a0 2533359616) then (if bt562.2 = 0 then (if bt564.2 = 0 then (if bt562.1 = (wrap64 (-bt564.1)) then (if ((decide (bt562.1 < 0)) != (decide ((Int.tmod a0 2533359616) < (Int.tmod a1 2533359616)))) = true then (manorboylaw02_RealOrder.j0 k (Int.tmod a0 2533359616) bt566.2.2 true bt566.1 bt566.2.1) else (manorboylaw02_RealOrder.j0 k (Int.tmod a0 2533359616) bt566.2.2 ((bt562.1 == 0) != ((Int.tmod a0 2533359616) == (Int.tmod a1 2533359616))) bt566.1 bt566.2.1)) else (manorboylaw02_RealOrder.j0 k (Int.tmod a0 2533359616) bt566.2.2 true bt566.1 bt566.2.1)) else (manorboylaw02_RealOrder.j0 k (Int.tmod a0 2533359616) bt566.2.2 true bt566.1 bt566.2.1)) else (manorboylaw02_RealOrder.j0 k (Int.tmod a0 2533359616) bt566.2.2 true bt566.1 bt566.2.1)) else (manorboylaw02_RealOrder.j0 k (Int.tmod a0 2533359616) bt566.2.2 true bt566.1 bt566.2.1)) else (manorboylaw02_RealOrder.j0 k (Int.tmod a0 2533359616) bt566.2.2 true bt566.1 bt566.2.1)) else (manorboylaw02_RealOrder.j0 k (Int.tmod a0 2533359616) bt566.2.2 true bt566.1 bt566.2.1))))))))
theorem manorboylaw02_RealOrder.j0_no : ∀ (k : Nat) (y0 : _) (y1 : _) (y3 : _) (y4 : _), manorboylaw02_RealOrder.j0 k y0 y1 true y3 y4 ≠ some true
 | 0, y0, y1, y3, y4, h => by simp [manorboylaw02_RealOrder.j0] at h
 | k + 1, y0, y1, y3, y4, h => by rw [manorboylaw02_RealOrder.j0, if_pos rfl] at h; simp at h
set_option maxHeartbeats 8000000 in
set_option maxRecDepth 100000 in
theorem manorboylaw02_RealOrder.calls (k : Nat) (a0 : Int) (a1 : Int) (r : Bool) (w : World) (h : manorboylaw02_RealOrder.f k a0 a1 = some r) (hr : r = true) (ht : Table w) :
  Calls Tryz.prog 13 #[.int .i64 a0, .int .i64 a1] w fun e w' => e = .returned (.bool r) ∧ Below w.heap.size w w' := by
 have hu23 := Tryz.underlying23
 have HB := Aside0.mk (Below.refl w.heap.size w)
 have HT := Aside0.mk (Lib.tabBelow_of_tabIs ht)
 clear ht
 have H : ((manorboylaw02_at.f (Int.tmod a0 2533359616)).bind fun bt554 => ((manorboylaw02_at.f (Int.tmod a1 2533359616)).bind fun bt557 => ((real_Index.f bt554.1 bt554.2).bind fun bt560 => ((real_Cmp.f bt554.1 bt554.2 bt557.1 bt557.2).bind fun bt562 => ((real_Cmp.f bt557.1 bt557.2 bt554.1 bt554.2).bind fun bt564 => ((real_Next.f bt554.1 bt554.2).bind fun bt566 => ((real_Valid.f bt554.1 bt554.2).bind fun t570 => (if t570 = true then (if bt560.2 = 0 then (if bt560.1 = (Int.tmod a0 2533359616) then (if bt562.2 = 0 then (if bt564.2 = 0 then (if bt562.1 = (wrap64 (-bt564.1)) then (if ((decide (bt562.1 < 0)) != (decide ((Int.tmod a0 2533359616) < (Int.tmod a1 2533359616)))) = true then (manorboylaw02_RealOrder.j0 k (Int.tmod a0 2533359616) bt566.2.2 true bt566.1 bt566.2.1) else (manorboylaw02_RealOrder.j0 k (Int.tmod a0 2533359616) bt566.2.2 ((bt562.1 == 0) != ((Int.tmod a0 2533359616) == (Int.tmod a1 2533359616))) bt566.1 bt566.2.1)) else (manorboylaw02_RealOrder.j0 k (Int.tmod a0 2533359616) bt566.2.2 true bt566.1 bt566.2.1)) else (manorboylaw02_RealOrder.j0 k (Int.tmod a0 2533359616) bt566.2.2 true bt566.1 bt566.2.1)) else (manorboylaw02_RealOrder.j0 k (Int.tmod a0 2533359616) bt566.2.2 true bt566.1 bt566.2.1)) else (manorboylaw02_RealOrder.j0 k (Int.tmod a0 2533359616) bt566.2.2 true bt566.1 bt566.2.1)) else (manorboylaw02_RealOrder.j0 k (Int.tmod a0 2533359616) bt566.2.2 true bt566.1 bt566.2.1)) else (manorboylaw02_RealOrder.j0 k (Int.tmod a0 2533359616) bt566.2.2 true bt566.1 bt566.2.1))))))))) = some r := h
 clear h
 replace H := Option.bind_eq_some_iff.mp H
 obtain ⟨⟨t554, t555⟩, A30, H⟩ := H
 try dsimp only at H
 have A3 := Aside0.mk A30
 clear A30
 replace H := Option.bind_eq_some_iff.mp H
 obtain ⟨⟨t557, t558⟩, A40, H⟩ := H
 try dsimp only at H
 have A4 := Aside0.mk A40
 clear A40
 replace H := Option.bind_eq_some_iff.mp H
 obtain ⟨⟨t560, t561⟩, A50, H⟩ := H
 try dsimp only at H
 have A5 := Aside0.mk A50
 clear A50
 replace H := Option.bind_eq_some_iff.mp H
 obtain ⟨⟨t562, t563⟩, A60, H⟩ := H
 try dsimp only at H
 have A6 := Aside0.mk A60
 clear A60
 replace H := Option.bind_eq_some_iff.mp H
 obtain ⟨⟨t564, t565⟩, A70, H⟩ := H
 try dsimp only at H
 have A7 := Aside0.mk A70
 clear A70
 replace H := Option.bind_eq_some_iff.mp H
 obtain ⟨⟨t566, t567, t568⟩, A80, H⟩ := H
 try dsimp only at H
 have A8 := Aside0.mk A80
 clear A80
 have HC9 := Aside0.mk H
 clear H
 go_enter Tryz.func13, Tryz.ntmps13
 go_upto_region 9 with (first | ((with_reducible refine gate_callee (f := 38) rfl ?_); refine goesL_ (some 22) rfl rfl Tryz.func38 (by kernel_rfl) rfl #[.int .i64 (Int.tmod a0 2533359616)] rfl (by (try simp only [List.map_toArray, List.map_cons, List.map_nil]); first | done | rfl | (simp only [List.length_drop, List.length_take]; rfl)) ?_; (with_reducible refine (manorboylaw02_at.calls (Int.tmod a0 2533359616) t554 t555 _ A3.out).mono ?_); rintro e w10 ⟨rfl, hb⟩; refine ⟨_, rfl, ?_⟩; replace HB := bs hb; (try clear hb); (try clear hb2); (try clear hk); (try clear hi)) | ((with_reducible refine gate_dst (N := 5) rfl ?_); refine box_event ?hg (N := 5) ?hd (cs := #[.int .i64 0, .int .i64 0]) (t := 23) ?hr ?_; (case hd => rfl); (case hg => rfl); (case hr => first | (go_simp; done) | (go_simp; rfl)); intro gb556 hg w11 hbox hb; have BK556 := Aside0.mk hbox; have GW556 := ge hg; have GE556 := ge hg; replace HB := bs hb; clear hb hbox hg; have hcz12_0 := Given.c20 BK556; have hcz12_1 := Given.c21 BK556; have hfz12_0 := blk_frozen BK556.out 0; have hfz12_1 := blk_frozen BK556.out 1) | ((with_reducible refine gate_callee (f := 38) rfl ?_); refine goesL_ (some 24) rfl rfl Tryz.func38 (by kernel_rfl) rfl #[.int .i64 (Int.tmod a1 2533359616)] rfl (by (try simp only [List.map_toArray, List.map_cons, List.map_nil]); first | done | rfl | (simp only [List.length_drop, List.length_take]; rfl)) ?_; (with_reducible refine (manorboylaw02_at.calls (Int.tmod a1 2533359616) t557 t558 _ A4.out).mono ?_); rintro e w13 ⟨rfl, hb⟩; refine ⟨_, rfl, ?_⟩; replace BK556 := Aside0.mk (blk_below (g := gb556) (o := .cells #[.int .i64 t554, .int .i64 t555] 23 (0, 0)) (by (with_reducible repeat (first | refine blk_drewN ?_ _ | refine blk_drew ?_ | refine blk_alloc ?_ _)); refine blk_put (cs := #[.int .i64 t554, .int .i64 0]) ?_ 1 _ rfl; (with_reducible repeat (first | refine blk_drewN ?_ _ | refine blk_drew ?_ | refine blk_alloc ?_ _)); refine blk_put (cs := #[.int .i64 0, .int .i64 0]) ?_ 0 _ rfl; (with_reducible repeat (first | refine blk_drewN ?_ _ | refine blk_drew ?_ | refine blk_alloc ?_ _)); exact BK556.out) hb); replace HB := bs hb; (try clear hb); (try clear hb2); (try clear hk); (try clear hi)) | ((with_reducible refine gate_dst (N := 6) rfl ?_); refine box_event ?hg (N := 6) ?hd (cs := #[.int .i64 0, .int .i64 0]) (t := 23) ?hr ?_; (case hd => rfl); (case hg => rfl); (case hr => first | (go_simp; done) | (go_simp; rfl)); intro gb559 hg w14 hbox hb; have BK559 := Aside0.mk hbox; have GW559 := ge hg; have GE559 := ge hg; have NB556_559 := nl BK556 hg; have NB559_556 := nr BK556 hg; replace BK556 := kb BK556 hb; replace HB := bs hb; clear hb hbox hg; have hnb15 := NB559_556.out; have hnc15 := NB556_559.out; have hcz16_0 := Given.c20 BK559; have hcz16_1 := Given.c21 BK559; have hfz16_0 := blk_frozen BK559.out 0; have hfz16_1 := blk_frozen BK559.out 1; have hcz17_0 := Given.c20 BK556; have hcz17_1 := Given.c21 BK556; have hfz17_0 := blk_frozen BK556.out 0; have hfz17_1 := blk_frozen BK556.out 1) | ((with_reducible refine gate_callee (f := 51) rfl ?_); refine goesL_ (some 27) rfl rfl Tryz.func51 (by kernel_rfl) rfl #[.agg #[.int .i64 t554, .int .i64 t555]] rfl (by (try simp only [List.map_toArray, List.map_cons, List.map_nil]); first | done | rfl | (simp only [List.length_drop, List.length_take]; rfl)) ?_; (with_reducible refine (real_Index.calls t554 t555 t560 t561 _ A5.out).mono ?_); rintro e w18 ⟨rfl, hb⟩; refine ⟨_, rfl, ?_⟩; replace BK556 := Aside0.mk (blk_below (g := gb556) (o := .cells #[.int .i64 t554, .int .i64 t555] 23 (0, 0)) (by (with_reducible repeat (first | refine blk_drewN ?_ _ | refine blk_drew ?_ | refine blk_alloc ?_ _)); refine blk_far ?_ NB556_559.out _; (with_reducible repeat (first | refine blk_drewN ?_ _ | refine blk_drew ?_ | refine blk_alloc ?_ _)); refine blk_far ?_ NB556_559.out _; (with_reducible repeat (first | refine blk_drewN ?_ _ | refine blk_drew ?_ | refine blk_alloc ?_ _)); exact BK556.out) hb); replace BK559 := Aside0.mk (blk_below (g := gb559) (o := .cells #[.int .i64 t557, .int .i64 t558] 23 (0, 0)) (by (with_reducible repeat (first | refine blk_drewN ?_ _ | refine blk_drew ?_ | refine blk_alloc ?_ _)); refine blk_put (cs := #[.int .i64 t557, .int .i64 0]) ?_ 1 _ rfl; (with_reducible repeat (first | refine blk_drewN ?_ _ | refine blk_drew ?_ | refine blk_alloc ?_ _)); refine blk_put (cs := #[.int .i64 0, .int .i64 0]) ?_ 0 _ rfl; (with_reducible repeat (first | refine blk_drewN ?_ _ | refine blk_drew ?_ | refine blk_alloc ?_ _)); exact BK559.out) hb); replace HB := bs hb; (try clear hb); (try clear hb2); (try clear hk); (try clear hi); have hcz19_0 := Given.c20 BK556; have hcz19_1 := Given.c21 BK556; have hfz19_0 := blk_frozen BK556.out 0; have hfz19_1 := blk_frozen BK556.out 1; have hcz20_0 := Given.c20 BK559; have hcz20_1 := Given.c21 BK559; have hfz20_0 := blk_frozen BK559.out 0; have hfz20_1 := blk_frozen BK559.out 1) | ((with_reducible refine gate_callee (f := 48) rfl ?_); refine goesL_ (some 33) rfl rfl Tryz.func48 (by kernel_rfl) rfl #[.agg #[.int .i64 t554, .int .i64 t555], .agg #[.int .i64 t557, .int .i64 t558]] rfl (by (try simp only [List.map_toArray, List.map_cons, List.map_nil]); first | done | rfl | (simp only [List.length_drop, List.length_take]; rfl)) ?_; (with_reducible refine (real_Cmp.calls t554 t555 t557 t558 t562 t563 _ A6.out).mono ?_); rintro e w21 ⟨rfl, hb⟩; refine ⟨_, rfl, ?_⟩; replace BK556 := kb BK556 hb; replace BK559 := kb BK559 hb; replace HB := bs hb; (try clear hb); (try clear hb2); (try clear hk); (try clear hi); have hcz22_0 := Given.c20 BK559; have hcz22_1 := Given.c21 BK559; have hfz22_0 := blk_frozen BK559.out 0; have hfz22_1 := blk_frozen BK559.out 1; have hcz23_0 := Given.c20 BK556; have hcz23_1 := Given.c21 BK556; have hfz23_0 := blk_frozen BK556.out 0; have hfz23_1 := blk_frozen BK556.out 1) | ((with_reducible refine gate_callee (f := 48) rfl ?_); refine goesL_ (some 39) rfl rfl Tryz.func48 (by kernel_rfl) rfl #[.agg #[.int .i64 t557, .int .i64 t558], .agg #[.int .i64 t554, .int .i64 t555]] rfl (by (try simp only [List.map_toArray, List.map_cons, List.map_nil]); first | done | rfl | (simp only [List.length_drop, List.length_take]; rfl)) ?_; (with_reducible refine (real_Cmp.calls t557 t558 t554 t555 t564 t565 _ A7.out).mono ?_); rintro e w24 ⟨rfl, hb⟩; refine ⟨_, rfl, ?_⟩; replace BK556 := kb BK556 hb; replace BK559 := kb BK559 hb; replace HB := bs hb; (try clear hb); (try clear hb2); (try clear hk); (try clear hi); have hcz25_0 := Given.c20 BK556; have hcz25_1 := Given.c21 BK556; have hfz25_0 := blk_frozen BK556.out 0; have hfz25_1 := blk_frozen BK556.out 1) | ((with_reducible refine gate_callee (f := 52) rfl ?_); refine goesL_ (some 44) rfl rfl Tryz.func52 (by kernel_rfl) rfl #[.agg #[.int .i64 t554, .int .i64 t555]] rfl (by (try simp only [List.map_toArray, List.map_cons, List.map_nil]); first | done | rfl | (simp only [List.length_drop, List.length_take]; rfl)) ?_; (with_reducible refine (real_Next.calls t554 t555 t566 t567 t568 _ A8.out).mono ?_); rintro e w26 ⟨rfl, hb⟩; refine ⟨_, rfl, ?_⟩; replace BK556 := kb BK556 hb; replace BK559 := kb BK559 hb; replace HB := bs hb; (try clear hb); (try clear hb2); (try clear hk); (try clear hi)) | ((with_reducible refine gate_dst (N := 13) rfl ?_); refine box_event ?hg (N := 13) ?hd (cs := #[.int .i64 0, .int .i64 0]) (t := 23) ?hr ?_; (case hd => rfl); (case hg => rfl); (case hr => first | (go_simp; done) | (go_simp; rfl)); intro gb569 hg w27 hbox hb; have BK569 := Aside0.mk hbox; have GW569 := ge hg; have GE569 := ge hg; have NB556_569 := nl BK556 hg; have NB569_556 := nr BK556 hg; have NB559_569 := nl BK559 hg; have NB569_559 := nr BK559 hg; replace BK556 := kb BK556 hb; replace BK559 := kb BK559 hb; replace HB := bs hb; clear hb hbox hg; have hnb28 := NB569_556.out; have hnc28 := NB556_569.out; have hnb29 := NB569_559.out; have hnc29 := NB559_569.out; have hcz30_0 := Given.c20 BK569; have hcz30_1 := Given.c21 BK569; have hfz30_0 := blk_frozen BK569.out 0; have hfz30_1 := blk_frozen BK569.out 1))
 (try simp only [Act.put, List.setIfInBounds_toArray, List.set_cons_zero, List.set_cons_succ])
 go_cut [88] (fun v88 wc => ∃ (kq : Nat) (x88_8 : Bool), v88 = .bool x88_8 ∧ Aside0 (manorboylaw02_RealOrder.j0 kq (Int.tmod a0 2533359616) t568 x88_8 t566 t567 = some r) ∧ Aside0 (kq ≤ k) ∧ Aside0 (wc.heap[gb556]? = some (.cells #[.int .i64 t554, .int .i64 t555] 23 (0, 0))) ∧ Aside0 (wc.heap[gb559]? = some (.cells #[.int .i64 t557, .int .i64 t558] 23 (0, 0))) ∧ Aside0 (wc.heap[gb569]? = some (.cells #[.int .i64 t566, .int .i64 t567] 23 (0, 0))) ∧ Aside0 (Below w.heap.size w wc))
 case first => as_aux_lemma =>
  have H := HC9.out
  clear HC9
  replace H := Option.bind_eq_some_iff.mp H
  obtain ⟨t570, A310, H⟩ := H
  try dsimp only at H
  have A31 := Aside0.mk A310
  clear A310
  by_cases c32 : t570 = true
  ·subst c32
   have H1 : (if t561 = 0 then (if t560 = (Int.tmod a0 2533359616) then (if t563 = 0 then (if t565 = 0 then (if t562 = (wrap64 (-t564)) then (if ((decide (t562 < 0)) != (decide ((Int.tmod a0 2533359616) < (Int.tmod a1 2533359616)))) = true then (manorboylaw02_RealOrder.j0 k (Int.tmod a0 2533359616) t568 true t566 t567) else (manorboylaw02_RealOrder.j0 k (Int.tmod a0 2533359616) t568 ((t562 == 0) != ((Int.tmod a0 2533359616) == (Int.tmod a1 2533359616))) t566 t567)) else (manorboylaw02_RealOrder.j0 k (Int.tmod a0 2533359616) t568 true t566 t567)) else (manorboylaw02_RealOrder.j0 k (Int.tmod a0 2533359616) t568 true t566 t567)) else (manorboylaw02_RealOrder.j0 k (Int.tmod a0 2533359616) t568 true t566 t567)) else (manorboylaw02_RealOrder.j0 k (Int.tmod a0 2533359616) t568 true t566 t567)) else (manorboylaw02_RealOrder.j0 k (Int.tmod a0 2533359616) t568 true t566 t567)) = some r := by rw [if_pos rfl] at H; exact H
   clear H
   have H := H1
   clear H1
   by_cases c33 : t561 = 0
   ·rw [if_pos c33] at H
    have c33b0 : (t561 == 0) = true := beq_iff_eq.mpr c33
    have c33b1 : (t561 != 0) = false := bne_eq_false_iff_eq.mpr c33
    clear c33
    (first | rw [c33b0] | (simp only [i64_w, i32_w]; rw [c33b0]) | skip)
    by_cases c34 : t560 = (Int.tmod a0 2533359616)
    ·rw [if_pos c34] at H
     have c34b0 : (t560 == (Int.tmod a0 2533359616)) = true := beq_iff_eq.mpr c34
     have c34b1 : (t560 != (Int.tmod a0 2533359616)) = false := bne_eq_false_iff_eq.mpr c34
     clear c34
     by_cases c35 : t563 = 0
     ·rw [if_pos c35] at H
      have c35b0 : (t563 == 0) = true := beq_iff_eq.mpr c35
      have c35b1 : (t563 != 0) = false := bne_eq_false_iff_eq.mpr c35
      clear c35
      by_cases c36 : t565 = 0
      ·rw [if_pos c36] at H
       have c36b0 : (t565 == 0) = true := beq_iff_eq.mpr c36
       have c36b1 : (t565 != 0) = false := bne_eq_false_iff_eq.mpr c36
       clear c36
       by_cases c37 : t562 = (wrap64 (-t564))
       ·rw [if_pos c37] at H
        have c37b0 : (t562 == (wrap64 (-t564))) = true := beq_iff_eq.mpr c37
        have c37b1 : (t562 != (wrap64 (-t564))) = false := bne_eq_false_iff_eq.mpr c37
        clear c37
        by_cases c38 : ((decide (t562 < 0)) != (decide ((Int.tmod a0 2533359616) < (Int.tmod a1 2533359616)))) = true
        ·rw [if_pos c38] at H
         first | exact absurd (Option.some.inj H) (by rw [hr]; decide) | exact absurd H (by rw [hr]; exact manorboylaw02_RealOrder.j0_no _ _ _ _ _)
        ·rw [if_neg c38] at H
         have c38b0 : ((decide (t562 < 0)) != (decide ((Int.tmod a0 2533359616) < (Int.tmod a1 2533359616)))) = false := by simpa using c38
         (try (have c38b1 : decide ((decide (t562 < 0)) = (decide ((Int.tmod a0 2533359616) < (Int.tmod a1 2533359616)))) = true := by simpa using c38))
         (try (have c38b2 : ((decide (t562 < 0)) == (decide ((Int.tmod a0 2533359616) < (Int.tmod a1 2533359616)))) = true := by simpa using c38))
         clear c38
         have H' := Aside0.mk H
         clear H
         have hnb43 := NB556_559.out
         have hnc43 := NB559_556.out
         have hnb44 := NB556_569.out
         have hnc44 := NB569_556.out
         have hcz45_0 := Given.c20 BK556
         have hcz45_1 := Given.c21 BK556
         have hfz45_0 := blk_frozen BK556.out 0
         have hfz45_1 := blk_frozen BK556.out 1
         go_wp2_with (first | ((with_reducible refine gate_callee (f := 53) rfl ?_); refine goesL_ (some 48) rfl rfl Tryz.func53 (by kernel_rfl) rfl #[.agg #[.int .i64 t554, .int .i64 t555]] rfl (by (try simp only [List.map_toArray, List.map_cons, List.map_nil]); first | done | rfl | (simp only [List.length_drop, List.length_take]; rfl)) ?_; (with_reducible refine (real_Valid.calls t554 t555 true _ A31.out).mono ?_); rintro e w46 ⟨rfl, hb⟩; refine ⟨_, rfl, ?_⟩; replace BK556 := Aside0.mk (blk_below (g := gb556) (o := .cells #[.int .i64 t554, .int .i64 t555] 23 (0, 0)) (by (with_reducible repeat (first | refine blk_drewN ?_ _ | refine blk_drew ?_ | refine blk_alloc ?_ _)); refine blk_far ?_ NB556_569.out _; (with_reducible repeat (first | refine blk_drewN ?_ _ | refine blk_drew ?_ | refine blk_alloc ?_ _)); refine blk_far ?_ NB556_569.out _; (with_reducible repeat (first | refine blk_drewN ?_ _ | refine blk_drew ?_ | refine blk_alloc ?_ _)); exact BK556.out) hb); replace BK559 := Aside0.mk (blk_below (g := gb559) (o := .cells #[.int .i64 t557, .int .i64 t558] 23 (0, 0)) (by (with_reducible repeat (first | refine blk_drewN ?_ _ | refine blk_drew ?_ | refine blk_alloc ?_ _)); refine blk_far ?_ NB559_569.out _; (with_reducible repeat (first | refine blk_drewN ?_ _ | refine blk_drew ?_ | refine blk_alloc ?_ _)); refine blk_far ?_ NB559_569.out _; (with_reducible repeat (first | refine blk_drewN ?_ _ | refine blk_drew ?_ | refine blk_alloc ?_ _)); exact BK559.out) hb); replace BK569 := Aside0.mk (blk_below (g := gb569) (o := .cells #[.int .i64 t566, .int .i64 t567] 23 (0, 0)) (by (with_reducible repeat (first | refine blk_drewN ?_ _ | refine blk_drew ?_ | refine blk_alloc ?_ _)); refine blk_put (cs := #[.int .i64 t566, .int .i64 0]) ?_ 1 _ rfl; (with_reducible repeat (first | refine blk_drewN ?_ _ | refine blk_drew ?_ | refine blk_alloc ?_ _)); refine blk_put (cs := #[.int .i64 0, .int .i64 0]) ?_ 0 _ rfl; (with_reducible repeat (first | refine blk_drewN ?_ _ | refine blk_drew ?_ | refine blk_alloc ?_ _)); exact BK569.out) hb); replace HB := bs hb; (try clear hb); (try clear hb2); (try clear hk); (try clear hi)))
         go_meet
         case rel => exact ⟨_, (((t562 == 0) != ((Int.tmod a0 2533359616) == (Int.tmod a1 2533359616)))), (by first | rfl | (simp; done) | (simp [*]; done)), H', ⟨by first | omega | exact Nat.le_refl _⟩, ⟨kz BK556⟩, ⟨kz BK559⟩, ⟨kz BK569⟩, ⟨bz⟩⟩
       ·rw [if_neg c37] at H
        first | exact absurd (Option.some.inj H) (by rw [hr]; decide) | exact absurd H (by rw [hr]; exact manorboylaw02_RealOrder.j0_no _ _ _ _ _)
      ·rw [if_neg c36] at H
       first | exact absurd (Option.some.inj H) (by rw [hr]; decide) | exact absurd H (by rw [hr]; exact manorboylaw02_RealOrder.j0_no _ _ _ _ _)
     ·rw [if_neg c35] at H
      first | exact absurd (Option.some.inj H) (by rw [hr]; decide) | exact absurd H (by rw [hr]; exact manorboylaw02_RealOrder.j0_no _ _ _ _ _)
    ·rw [if_neg c34] at H
     first | exact absurd (Option.some.inj H) (by rw [hr]; decide) | exact absurd H (by rw [hr]; exact manorboylaw02_RealOrder.j0_no _ _ _ _ _)
   ·rw [if_neg c33] at H
    first | exact absurd (Option.some.inj H) (by rw [hr]; decide) | exact absurd H (by rw [hr]; exact manorboylaw02_RealOrder.j0_no _ _ _ _ _)
  ·replace c32 := Bool.eq_false_iff.mpr c32
   subst c32
   have H1 : (manorboylaw02_RealOrder.j0 k (Int.tmod a0 2533359616) t568 true t566 t567) = some r := by rw [if_neg (show ¬ (false = true) by decide)] at H; exact H
   clear H
   have H := H1
   clear H1
   first | exact absurd (Option.some.inj H) (by rw [hr]; decide) | exact absurd H (by rw [hr]; exact manorboylaw02_RealOrder.j0_no _ _ _ _ _)
 case rest => as_aux_lemma =>
  clear HC9
  try clear c1
  try clear c2
  try clear p2
  try clear c3
  try clear c4
  try clear c5
  try clear c6
  try clear p6
  try clear c13
  try clear c15
  try clear c28
  try clear c29
  try clear c32
  try clear c33
  try clear c33b0
  try clear c33b1
  try clear c34
  try clear c34b0
  try clear c34b1
  try clear c35
  try clear c35b0
  try clear c35b1
  try clear c36
  try clear c36b0
  try clear c36b1
  try clear c37
  try clear c37b0
  try clear c37b1
  try clear c38
  try clear c38b0
  try clear c38b1
  try clear c38b2
  try clear c39
  try clear c40
  try clear c43
  try clear c44
  try clear c47
  try clear c48
  try clear c51
  try clear c52
  try clear c53
  try clear c55
  try clear c56
  try clear c59
  try clear c60
  try clear c63
  try clear c64
  try clear p64
  try clear c67
  try clear c68
  try clear hcz12_0
  try clear hcz12_1
  try clear hcz16_0
  try clear hcz16_1
  try clear hcz17_0
  try clear hcz17_1
  try clear hcz19_0
  try clear hcz19_1
  try clear hcz20_0
  try clear hcz20_1
  try clear hcz22_0
  try clear hcz22_1
  try clear hcz23_0
  try clear hcz23_1
  try clear hcz25_0
  try clear hcz25_1
  try clear hcz30_0
  try clear hcz30_1
  try clear hcz41_0
  try clear hcz41_1
  try clear hcz45_0
  try clear hcz45_1
  try clear hcz49_0
  try clear hcz49_1
  try clear hcz53_0
  try clear hcz53_1
  try clear hcz57_0
  try clear hcz57_1
  try clear hcz61_0
  try clear hcz61_1
  try clear hcz65_0
  try clear hcz65_1
  try clear hcz69_0
  try clear hcz69_1
  try clear hfz12_0
  try clear hfz12_1
  try clear hfz16_0
  try clear hfz16_1
  try clear hfz17_0
  try clear hfz17_1
  try clear hfz19_0
  try clear hfz19_1
  try clear hfz20_0
  try clear hfz20_1
  try clear hfz22_0
  try clear hfz22_1
  try clear hfz23_0
  try clear hfz23_1
  try clear hfz25_0
  try clear hfz25_1
  try clear hfz30_0
  try clear hfz30_1
  try clear hfz41_0
  try clear hfz41_1
  try clear hfz45_0
  try clear hfz45_1
  try clear hfz49_0
  try clear hfz49_1
  try clear hfz53_0
  try clear hfz53_1
  try clear hfz57_0
  try clear hfz57_1
  try clear hfz61_0
  try clear hfz61_1
  try clear hfz65_0
  try clear hfz65_1
  try clear hfz69_0
  try clear hfz69_1
  obtain ⟨kq, x88_8, rfl, HA, HJ8, BK556, BK559, BK569, HB⟩ := hcut
  cases kq with
  | zero => exact absurd HA.out (by simp [manorboylaw02_RealOrder.j0])
  | succ kj8 =>
   have H := HA.out
   clear HA
   simp only [manorboylaw02_RealOrder.j0] at H
   by_cases c71 : x88_8 = true
   ·subst c71
    have H1 : (some false) = some r := by rw [if_pos rfl] at H; exact H
    clear H
    have H := H1
    clear H1
    first | exact absurd (Option.some.inj H) (by rw [hr]; decide) | exact absurd H (by rw [hr]; exact manorboylaw02_RealOrder.j0_no _ _ _ _ _)
   ·replace c71 := Bool.eq_false_iff.mpr c71
    subst c71
    have H1 : (if (Int.tmod a0 2533359616) = 2533359615 then ((manorboylaw02_sanity.f kj8).bind fun t571 => (if t571 = true then (some (t568 == 3)) else (some false))) else ((real_Index.f t566 t567).bind fun bt572 => ((manorboylaw02_sanity.f kj8).bind fun t574 => (if t574 = true then (if t568 = 0 then (if bt572.2 = 0 then (some (bt572.1 == (wrap64 ((Int.tmod a0 2533359616) + 1)))) else (some false)) else (some false)) else (some false))))) = some r := by rw [if_neg (show ¬ (false = true) by decide)] at H; exact H
    clear H
    have H := H1
    clear H1
    by_cases c72 : (Int.tmod a0 2533359616) = 2533359615
    ·rw [if_pos c72] at H
     have c72b0 : ((Int.tmod a0 2533359616) == 2533359615) = true := beq_iff_eq.mpr c72
     have c72b1 : ((Int.tmod a0 2533359616) != 2533359615) = false := bne_eq_false_iff_eq.mpr c72
     clear c72
     replace H := Option.bind_eq_some_iff.mp H
     obtain ⟨t571, A730, H⟩ := H
     try dsimp only at H
     have A73 := Aside0.mk A730
     clear A730
     by_cases c74 : t571 = true
     ·subst c74
      have H1 : (some (t568 == 3)) = some r := by rw [if_pos rfl] at H; exact H
      clear H
      have H := H1
      clear H1
      obtain rfl := Option.some.inj H
      go_wp2_with (first | ((with_reducible refine gate_callee (f := 19) rfl ?_); refine goesL_ (some 91) rfl rfl Tryz.func19 (by kernel_rfl) rfl #[] rfl (by (try simp only [List.map_toArray, List.map_cons, List.map_nil]); first | done | rfl | (simp only [List.length_drop, List.length_take]; rfl)) ?_; (with_reducible refine (manorboylaw02_sanity.calls kj8  true _ A73.out rfl (tabAt HT.out bz)).mono ?_); rintro e w75 ⟨rfl, hb⟩; refine ⟨_, rfl, ?_⟩; replace BK556 := kb BK556 hb; replace BK559 := kb BK559 hb; replace BK569 := kb BK569 hb; replace HB := bs hb; (try clear hb); (try clear hb2); (try clear hk); (try clear hi)))
      go_ret
      exact ⟨by first | rfl | (simp [errW_none, errW_some] <;> rfl) | (simp [*, errW_none, errW_some] <;> rfl), bz⟩
     ·replace c74 := Bool.eq_false_iff.mpr c74
      subst c74
      have H1 : (some false) = some r := by rw [if_neg (show ¬ (false = true) by decide)] at H; exact H
      clear H
      have H := H1
      clear H1
      first | exact absurd (Option.some.inj H) (by rw [hr]; decide) | exact absurd H (by rw [hr]; exact manorboylaw02_RealOrder.j0_no _ _ _ _ _)
    ·rw [if_neg c72] at H
     have c72b0 : ((Int.tmod a0 2533359616) == 2533359615) = false := beq_eq_false_iff_ne.mpr c72
     have c72b1 : ((Int.tmod a0 2533359616) != 2533359615) = true := bne_iff_ne.mpr c72
     replace H := Option.bind_eq_some_iff.mp H
     obtain ⟨⟨t572, t573⟩, A770, H⟩ := H
     try dsimp only at H
     have A77 := Aside0.mk A770
     clear A770
     replace H := Option.bind_eq_some_iff.mp H
     obtain ⟨t574, A780, H⟩ := H
     try dsimp only at H
     have A78 := Aside0.mk A780
     clear A780
     by_cases c79 : t574 = true
     ·subst c79
      have H1 : (if t568 = 0 then (if t573 = 0 then (some (t572 == (wrap64 ((Int.tmod a0 2533359616) + 1)))) else (some false)) else (some false)) = some r := by rw [if_pos rfl] at H; exact H
      clear H
      have H := H1
      clear H1
      by_cases c80 : t568 = 0
      ·rw [if_pos c80] at H
       have c80b0 : (t568 == 0) = true := beq_iff_eq.mpr c80
       have c80b1 : (t568 != 0) = false := bne_eq_false_iff_eq.mpr c80
       clear c80
       by_cases c81 : t573 = 0
       ·rw [if_pos c81] at H
        have c81b0 : (t573 == 0) = true := beq_iff_eq.mpr c81
        have c81b1 : (t573 != 0) = false := bne_eq_false_iff_eq.mpr c81
        clear c81
        obtain rfl := Option.some.inj H
        have hnb82 := NB569_556.out
        have hnc82 := NB556_569.out
        have hnb83 := NB569_559.out
        have hnc83 := NB559_569.out
        have hcz84_0 := Given.c20 BK569
        have hcz84_1 := Given.c21 BK569
        have hfz84_0 := blk_frozen BK569.out 0
        have hfz84_1 := blk_frozen BK569.out 1
        go_wp2_with (first | ((with_reducible refine gate_callee (f := 51) rfl ?_); refine goesL_ (some 98) rfl rfl Tryz.func51 (by kernel_rfl) rfl #[.agg #[.int .i64 t566, .int .i64 t567]] rfl (by (try simp only [List.map_toArray, List.map_cons, List.map_nil]); first | done | rfl | (simp only [List.length_drop, List.length_take]; rfl)) ?_; (with_reducible refine (real_Index.calls t566 t567 t572 t573 _ A77.out).mono ?_); rintro e w85 ⟨rfl, hb⟩; refine ⟨_, rfl, ?_⟩; replace BK556 := kb BK556 hb; replace BK559 := kb BK559 hb; replace BK569 := kb BK569 hb; replace HB := bs hb; (try clear hb); (try clear hb2); (try clear hk); (try clear hi)) | ((with_reducible refine gate_callee (f := 19) rfl ?_); refine goesL_ (some 101) rfl rfl Tryz.func19 (by kernel_rfl) rfl #[] rfl (by (try simp only [List.map_toArray, List.map_cons, List.map_nil]); first | done | rfl | (simp only [List.length_drop, List.length_take]; rfl)) ?_; (with_reducible refine (manorboylaw02_sanity.calls kj8  true _ A78.out rfl (tabAt HT.out bz)).mono ?_); rintro e w86 ⟨rfl, hb⟩; refine ⟨_, rfl, ?_⟩; replace BK556 := kb BK556 hb; replace BK559 := kb BK559 hb; replace BK569 := kb BK569 hb; replace HB := bs hb; (try clear hb); (try clear hb2); (try clear hk); (try clear hi)))
        go_ret
        exact ⟨by first | rfl | (simp [errW_none, errW_some] <;> rfl) | (simp [*, errW_none, errW_some] <;> rfl), bz⟩
       ·rw [if_neg c81] at H
        first | exact absurd (Option.some.inj H) (by rw [hr]; decide) | exact absurd H (by rw [hr]; exact manorboylaw02_RealOrder.j0_no _ _ _ _ _)
      ·rw [if_neg c80] at H
       first | exact absurd (Option.some.inj H) (by rw [hr]; decide) | exact absurd H (by rw [hr]; exact manorboylaw02_RealOrder.j0_no _ _ _ _ _)
     ·replace c79 := Bool.eq_false_iff.mpr c79
      subst c79
      have H1 : (some false) = some r := by rw [if_neg (show ¬ (false = true) by decide)] at H; exact H
      clear H
      have H := H1
      clear H1
      first | exact absurd (Option.some.inj H) (by rw [hr]; decide) | exact absurd H (by rw [hr]; exact manorboylaw02_RealOrder.j0_no _ _ _ _ _)

end Go.Proofs.YteigbokklclmbaaGreatDoor.Z.Y.V
end
section
namespace Go.Proofs.YteigbokklclmbaaGreatDoor.M
set_option linter.unusedVariables false
set_option linter.unusedSimpArgs false
/-- The row of a number's digits, the lowest first, without zeros at the end. -/
def dg (B n : Nat) : List Int := if h : 2 ≤ B ∧ 0 < n then ((n % B : Nat) : Int) :: dg B (n / B) else []
termination_by n
decreasing_by exact Nat.div_lt_self h.2 h.1
/-- All digits lie below the base. -/
def InB (B : Nat) (l : List Int) : Prop := ∀ x ∈ l, 0 ≤ x ∧ x < B
theorem InB.nil {B : Nat} : InB B [] := fun _ h => by cases h
theorem InB.cons {B : Nat} {x : Int} {l : List Int} (h : 0 ≤ x ∧ x < B) (k : InB B l) : InB B (x :: l) := fun y hy => by
  rcases List.mem_cons.1 hy with rfl | hy
  · exact h
  · exact k y hy
theorem InB.append {B : Nat} {l m : List Int} (h : InB B l) (k : InB B m) : InB B (l ++ m) := fun y hy => by
  rcases List.mem_append.1 hy with hy | hy
  · exact h y hy
  · exact k y hy
theorem InB.snoc {B : Nat} {l : List Int} {x : Int} (h : InB B l) (k : 0 ≤ x ∧ x < B) : InB B (l ++ [x]) := h.append (InB.cons k InB.nil)
theorem InB.take {B : Nat} {l : List Int} (h : InB B l) (i : Nat) : InB B (l.take i) := fun y hy => h y (List.mem_of_mem_take hy)
theorem InB.drop {B : Nat} {l : List Int} (h : InB B l) (i : Nat) : InB B (l.drop i) := fun y hy => h y (List.mem_of_mem_drop hy)
theorem InB.set {B : Nat} {l : List Int} (h : InB B l) (i : Nat) {v : Int} (k : 0 ≤ v ∧ v < B) : InB B (l.set i v) := fun y hy => by
  rcases List.mem_or_eq_of_mem_set hy with hy | rfl
  · exact h y hy
  · exact k
theorem InB.getD {B : Nat} {l : List Int} (h : InB B l) (hB : 0 < B) (i : Nat) : 0 ≤ l.getD i 0 ∧ l.getD i 0 < B := by
  rw [List.getD_eq_getElem?_getD]
  rcases e : l[i]? with _ | x
  · simp; omega
  · simp; exact h x (List.mem_of_getElem? e)
theorem InB.replicate {B : Nat} (hB : 0 < B) (n : Nat) : InB B (List.replicate n 0) := fun y hy => by
  rw [List.eq_of_mem_replicate hy]; omega
theorem dg_zero {B : Nat} : dg B 0 = [] := by rw [dg]; simp
theorem dg_pos {B n : Nat} (hB : 2 ≤ B) (hn : 0 < n) : dg B n = ((n % B : Nat) : Int) :: dg B (n / B) := by rw [dg, dif_pos ⟨hB, hn⟩]
theorem dg_len_le {B : Nat} (hB : 2 ≤ B) : ∀ (m n : Nat), n < B ^ m → (dg B n).length ≤ m
  | 0, n, h => by
    have : n = 0 := by simpa using h
    rw [this, dg_zero]; exact Nat.le_refl _
  | m + 1, n, h => by
    rcases Nat.eq_zero_or_pos n with rfl | hn
    · rw [dg_zero]; simp
    · rw [dg_pos hB hn, List.length_cons]
      have := dg_len_le hB m (n / B) (by rw [Nat.div_lt_iff_lt_mul (by omega)]; rwa [Nat.pow_succ] at h)
      omega
end Go.Proofs.YteigbokklclmbaaGreatDoor.M
end
section
namespace Go.Proofs.YteigbokklclmbaaGreatDoor.M
open Go Go.RowKit Go.Proofs.YteigbokklclmbaaGreatDoor.Given Go.Proofs.YteigbokklclmbaaGreatDoorW.PrintWords Go.Proofs.YteigbokklclmbaaGreatDoorW.PrintLast Go.Proofs.YteigbokklclmbaaGreatDoorW.PrintMore Go.Proofs.YteigbokklclmbaaGreatDoor.Z
set_option linter.unusedVariables false
set_option linter.unusedSimpArgs false
abbrev B32 : Nat := 4294967296
abbrev D (n : Nat) : List Int := dg B32 n
theorem B2 : 2 ≤ B32 := by decide
/-- A number of modest size: at most 2048 digits. -/
def Sm (n : Nat) : Prop := (D n).length ≤ 2048
theorem pow32 (n : Nat) : B32 ^ n = 2 ^ (32 * n) := by rw [Nat.pow_mul]
theorem Sm.of {n m : Nat} (h : n < 2 ^ m) (hm : m ≤ 32 * 2048) : Sm n := by
  have key : ∀ L : Nat, m ≤ 32 * L → (D n).length ≤ L := fun L hL => by
    refine dg_len_le B2 L n ?_
    rw [pow32]
    exact Nat.lt_of_lt_of_le h (Nat.pow_le_pow_right (by decide) hL)
  exact key 2048 hm
theorem mag_abs (a : Int) (h0 : -9223372036854775808 < a) (h1 : a ≤ 9223372036854775807) : mx a (wrap64 (-a)) = (a.natAbs : Int) := by
  unfold mx; rw [w64 _ (by omega) (by omega)]; split <;> omega
end Go.Proofs.YteigbokklclmbaaGreatDoor.M
end
section
namespace Go.Proofs.YteigbokklclmbaaGreatDoor.M
open Go Go.RowKit Go.Proofs.YteigbokklclmbaaGreatDoor.Given Go.Proofs.YteigbokklclmbaaGreatDoorW.PrintWords Go.Proofs.YteigbokklclmbaaGreatDoorW.PrintLast Go.Proofs.YteigbokklclmbaaGreatDoorW.PrintMore Go.Proofs.YteigbokklclmbaaGreatDoor.Z
set_option linter.unusedVariables false
set_option linter.unusedSimpArgs false
/-- How many binary digits a number has. -/
def bl (n : Nat) : Nat := if h : 0 < n then bl (n / 2) + 1 else 0
termination_by n
decreasing_by exact Nat.div_lt_self h (by decide)
theorem bl_zero : bl 0 = 0 := by rw [bl]; simp
theorem bl_pos {n : Nat} (h : 0 < n) : bl n = bl (n / 2) + 1 := by rw [bl, dif_pos h]
theorem bl_lt (n : Nat) : n < 2 ^ bl n := by
  induction n using Nat.strongRecOn with
  | ind n ih =>
    rcases Nat.eq_zero_or_pos n with rfl | h
    · rw [bl_zero]; decide
    · rw [bl_pos h, Nat.pow_succ]
      have := ih (n / 2) (Nat.div_lt_self h (by decide))
      omega
theorem bl_ge {n : Nat} (h : 0 < n) : 2 ^ (bl n - 1) ≤ n := by
  induction n using Nat.strongRecOn with
  | ind n ih =>
    rw [bl_pos h, Nat.add_sub_cancel]
    rcases Nat.eq_zero_or_pos (n / 2) with h2 | h2
    · rw [h2, bl_zero]; exact h
    · have := ih (n / 2) (Nat.div_lt_self h (by decide)) h2
      have e : bl (n / 2) = bl (n / 2) - 1 + 1 := by rw [bl_pos h2]; omega
      rw [e, Nat.pow_succ]; omega
theorem bl_pos' {n : Nat} (h : 0 < n) : 0 < bl n := by rw [bl_pos h]; omega
theorem bl_le_iff {n m : Nat} : bl n ≤ m ↔ n < 2 ^ m := by
  constructor
  · intro h; exact Nat.lt_of_lt_of_le (bl_lt n) (Nat.pow_le_pow_right (by decide) h)
  · intro h
    rcases Nat.eq_zero_or_pos n with rfl | h0
    · rw [bl_zero]; omega
    · have h1 := bl_ge h0
      have h2 := bl_pos' h0
      rcases Nat.lt_or_ge m (bl n) with h3 | h3
      · have := Nat.pow_le_pow_right (show 0 < 2 by decide) (show m ≤ bl n - 1 by omega); omega
      · exact h3
end Go.Proofs.YteigbokklclmbaaGreatDoor.M
end
section
namespace Go.Proofs.YteigbokklclmbaaGreatDoor.M
open Go Go.RowKit Go.Proofs.YteigbokklclmbaaGreatDoor.Given Go.Proofs.YteigbokklclmbaaGreatDoorW.PrintWords Go.Proofs.YteigbokklclmbaaGreatDoorW.PrintLast Go.Proofs.YteigbokklclmbaaGreatDoorW.PrintMore Go.Proofs.YteigbokklclmbaaGreatDoor.Z
set_option linter.unusedVariables false
set_option linter.unusedSimpArgs false
theorem Sm.bl {n : Nat} (h : M.bl n ≤ 32 * 2048) : Sm n := Sm.of (bl_lt n) h
end Go.Proofs.YteigbokklclmbaaGreatDoor.M
end
section
namespace Go.Proofs.YteigbokklclmbaaGreatDoor.Z.Y.V
open Go.RowKit Go.Proofs.YteigbokklclmbaaGreatDoor.Given Go.Proofs.YteigbokklclmbaaGreatDoorW.PrintWords Go.Proofs.YteigbokklclmbaaGreatDoorW.PrintLast Go.Proofs.YteigbokklclmbaaGreatDoorW.PrintMore
attribute [local go_sem] max2_int min2_int max_two min_two max_three min_three max_four min_four   -- for this text's walks alone
set_option linter.unusedVariables false
set_option linter.unusedSimpArgs false

theorem eqA23 (d : Nat) (w : World) (x0 y0 : Int) (x1 y1 : Int) :
  (Op.equalIn (d + 2) 23 (.agg #[.int .i64 x0, .int .i64 x1]) (.agg #[.int .i64 y0, .int .i64 y1])).run Tryz.prog w = .ok (x0 == y0 && (x1 == y1)) w := by
 refine eqA_of Tryz.underlying23 (by kernel_rfl) ?_
 refine eqf_cons (by rfl) (by go_simp; rfl) (by go_simp; rfl) (by go_simp) ?_
 exact eqf_last (by rfl) (by go_simp; rfl) (by go_simp; rfl) (by go_simp)
end Go.Proofs.YteigbokklclmbaaGreatDoor.Z.Y.V
end
section
namespace Go.Proofs.YteigbokklclmbaaGreatDoor.M
open Go Go.RowKit Go.Proofs.YteigbokklclmbaaGreatDoor.Given Go.Proofs.YteigbokklclmbaaGreatDoorW.PrintWords Go.Proofs.YteigbokklclmbaaGreatDoorW.PrintLast Go.Proofs.YteigbokklclmbaaGreatDoorW.PrintMore Go.Proofs.YteigbokklclmbaaGreatDoor.Z Go.Proofs.YteigbokklclmbaaGreatDoor.Z.Y Go.Proofs.YteigbokklclmbaaGreatDoor.Z.Y.V
set_option linter.unusedVariables false
set_option linter.unusedSimpArgs false
abbrev B15 : Nat := 32768
abbrev E (n : Nat) : List Int := dg B15 n
theorem C2 : 2 ≤ B15 := by decide
theorem pow15 (n : Nat) : B15 ^ n = 2 ^ (15 * n) := by rw [Nat.pow_mul]
/-- A number of modest size: at most 8000 digits. -/
def Se (n : Nat) : Prop := (E n).length ≤ 8000
theorem Se.of {n : Nat} (h : bl n ≤ 15 * 8000) : Se n := by
  have key : ∀ L : Nat, bl n ≤ 15 * L → (E n).length ≤ L := fun L hL => by
    refine dg_len_le C2 L n ?_
    rw [pow15]
    exact bl_le_iff.1 hL
  exact key 8000 h
end Go.Proofs.YteigbokklclmbaaGreatDoor.M
end
section
namespace Go.Proofs.YteigbokklclmbaaGreatDoor.M
set_option linter.unusedVariables false
set_option linter.unusedSimpArgs false
/-- The exponent (above the least one) and the mantissa of the real with an index. -/
def sh (i : Nat) : Nat := i / 8388608 - 1
def man (i : Nat) : Nat := i - sh i * 8388608
/-- The real with an index, in units of 2^-150. -/
def G (i : Nat) : Nat := man i * 2 ^ sh i
/-- The middle of two neighbours, in units of 2^-151. -/
def H (i : Nat) : Nat := G i + G (i + 1)
theorem G_succ (i : Nat) : G (i + 1) = G i + 2 ^ sh i := by
  have hs : (sh (i + 1) = sh i ∧ man (i + 1) = man i + 1) ∨ (sh (i + 1) = sh i + 1 ∧ man i = 16777215 ∧ man (i + 1) = 8388608) := by
    unfold man sh; omega
  unfold G
  rcases hs with ⟨h1, h2⟩ | ⟨h1, h2, h3⟩
  · rw [h1, h2, Nat.add_mul, Nat.one_mul]
  · rw [h1, h2, h3, Nat.pow_succ]; omega
theorem G_lt_succ (i : Nat) : G i < G (i + 1) := by
  rw [G_succ]; have := Nat.two_pow_pos (sh i); omega
theorem G_lt {i j : Nat} (h : i < j) : G i < G j := by
  induction h with
  | refl => exact G_lt_succ i
  | step _ ih => exact Nat.lt_trans ih (G_lt_succ _)
theorem H_lt {i j : Nat} (h : i < j) : H i < H j := by
  unfold H; have h1 := G_lt h; have h2 := G_lt (show i + 1 < j + 1 by omega); omega
theorem H_le {i j : Nat} (h : i ≤ j) : H i ≤ H j := by
  rcases Nat.lt_or_ge i j with h' | h'
  · exact Nat.le_of_lt (H_lt h')
  · rw [Nat.le_antisymm h h']; exact Nat.le_refl _
theorem H_inj {i j : Nat} (h : H i = H j) : i = j := by
  rcases Nat.lt_trichotomy i j with h' | h' | h'
  · have := H_lt h'; omega
  · exact h'
  · have := H_lt h'; omega
/-- I is the index of the rounded value of N / D, which is in units of 2^-150: to the nearest, on the middle to the even one. -/
def Rd (N D I : Nat) : Prop := (I = 0 ∨ (H (I - 1) * D ≤ 2 * N ∧ (H (I - 1) * D = 2 * N → I % 2 = 0))) ∧ 2 * N ≤ H I * D ∧ (2 * N = H I * D → I % 2 = 0)
theorem Rd.mono {N D I N' D' J : Nat} (hD : 0 < D) (hD' : 0 < D') (h : Rd N D I) (h' : Rd N' D' J) (hle : N * D' ≤ N' * D) : I ≤ J := by
  rcases Nat.lt_or_ge J I with hlt | hge
  · exfalso
    obtain ⟨h1, _⟩ := h
    obtain ⟨_, h2, h3⟩ := h'
    rcases h1 with h1 | ⟨h1, h4⟩
    · omega
    · have hH : H J ≤ H (I - 1) := H_le (by omega)
      -- H (I-1) * D * D' ≤ 2 N D' ≤ 2 N' D ≤ H J * D' * D
      have a1 : H (I - 1) * D * D' ≤ 2 * N * D' := Nat.mul_le_mul_right _ h1
      have a2 : 2 * N' * D ≤ H J * D' * D := Nat.mul_le_mul_right _ h2
      have a3 : H J * D' * D ≤ H (I - 1) * D' * D := Nat.mul_le_mul_right _ (Nat.mul_le_mul_right _ hH)
      have e1 : H (I - 1) * D' * D = H (I - 1) * D * D' := by rw [Nat.mul_assoc, Nat.mul_comm D' D, ← Nat.mul_assoc]
      have e2 : 2 * N * D' = 2 * (N * D') := Nat.mul_assoc _ _ _
      have e3 : 2 * N' * D = 2 * (N' * D) := Nat.mul_assoc _ _ _
      have b1 : H (I - 1) * D * D' = 2 * N * D' := by omega
      have b2 : 2 * N' * D = H J * D' * D := by omega
      have b3 : H J * D' * D = H (I - 1) * D' * D := by omega
      have c1 := Nat.eq_of_mul_eq_mul_right hD' b1
      have c2 := Nat.eq_of_mul_eq_mul_right hD b2
      have c3 := Nat.eq_of_mul_eq_mul_right hD' (Nat.eq_of_mul_eq_mul_right hD b3)
      have := h4 c1
      have := h3 c2
      have := H_inj c3
      omega
  · exact hge
theorem Rd.only {N D I N' D' J : Nat} (hD : 0 < D) (hD' : 0 < D') (h : Rd N D I) (h' : Rd N' D' J) (he : N * D' = N' * D) : I = J :=
  Nat.le_antisymm (h.mono hD hD' h' (Nat.le_of_eq he)) (h'.mono hD' hD h (Nat.le_of_eq he.symm))
theorem Rd.exact (I D : Nat) (hD : 0 < D) : Rd (G I * D) D I := by
  have h1 : 2 * (G I * D) = 2 * G I * D := (Nat.mul_assoc _ _ _).symm
  refine ⟨?_, ?_, ?_⟩
  · rcases Nat.eq_zero_or_pos I with h | h
    · exact .inl h
    · right
      have : H (I - 1) < 2 * G I := by
        unfold H; rw [show I - 1 + 1 = I by omega]; have := G_lt (show I - 1 < I by omega); omega
      have := Nat.mul_lt_mul_of_pos_right this hD
      rw [h1]
      exact ⟨Nat.le_of_lt this, fun e => by omega⟩
  · rw [h1]; refine Nat.mul_le_mul_right _ ?_
    unfold H; have := G_lt_succ I; omega
  · intro e
    rw [h1] at e
    have := Nat.eq_of_mul_eq_mul_right hD e
    unfold H at this; have := G_lt_succ I; omega
/-- The same fraction, the same index. -/
theorem Rd.congr {N D I N' D' : Nat} (hD : 0 < D) (hD' : 0 < D') (h : Rd N D I) (he : N * D' = N' * D) : Rd N' D' I := by
  have key : ∀ X : Nat, (X * D ≤ 2 * N ↔ X * D' ≤ 2 * N') ∧ (X * D = 2 * N ↔ X * D' = 2 * N') ∧ (2 * N ≤ X * D ↔ 2 * N' ≤ X * D') := by
    intro X
    have e1 : X * D * D' = X * D' * D := by rw [Nat.mul_assoc, Nat.mul_comm D D', ← Nat.mul_assoc]
    have e2 : 2 * N * D' = 2 * N' * D := by rw [Nat.mul_assoc, he, ← Nat.mul_assoc]
    refine ⟨?_, ?_, ?_⟩
    · rw [← Nat.mul_le_mul_right_iff hD', e1, e2, Nat.mul_le_mul_right_iff hD]
    · constructor
      · intro h; exact Nat.eq_of_mul_eq_mul_right hD (by rw [← e1, ← e2, h])
      · intro h; exact Nat.eq_of_mul_eq_mul_right hD' (by rw [e1, e2, h])
    · rw [← Nat.mul_le_mul_right_iff hD', e1, e2, Nat.mul_le_mul_right_iff hD]
  obtain ⟨h1, h2, h3⟩ := h
  refine ⟨?_, (key _).2.2.1 h2, fun e => h3 ((key _).2.1.2 e.symm).symm⟩
  rcases h1 with h1 | ⟨h1, h4⟩
  · exact .inl h1
  · exact .inr ⟨(key _).1.1 h1, fun e => h4 ((key _).2.1.2 e)⟩
end Go.Proofs.YteigbokklclmbaaGreatDoor.M
end
section
namespace Go.Proofs.YteigbokklclmbaaGreatDoor.M
open Go Go.RowKit Go.Proofs.YteigbokklclmbaaGreatDoor.Given Go.Proofs.YteigbokklclmbaaGreatDoorW.PrintWords Go.Proofs.YteigbokklclmbaaGreatDoorW.PrintLast Go.Proofs.YteigbokklclmbaaGreatDoorW.PrintMore Go.Proofs.YteigbokklclmbaaGreatDoor.Z
set_option linter.unusedVariables false
set_option linter.unusedSimpArgs false
/-- The real with an index, and what rounding to it answers (1000 in the exponent's place: it panics). -/
def atI (I : Nat) : Int × Int := if I = 0 then (0, 0) else ((man I : Int), (sh I : Int) - 150)
end Go.Proofs.YteigbokklclmbaaGreatDoor.M
end
section
namespace Go.Proofs.YteigbokklclmbaaGreatDoor.Given
open Go
theorem field23_0 (a b : Int) (w : World) : Sem.run Tryz.prog (Instr.field 23 (Value.agg #[Value.int .i64 a, Value.int .i64 b]) 0) w = .ok (Value.int .i64 a) w := by kernel_rfl
theorem field23_1 (a b : Int) (w : World) : Sem.run Tryz.prog (Instr.field 23 (Value.agg #[Value.int .i64 a, Value.int .i64 b]) 1) w = .ok (Value.int .i64 b) w := by kernel_rfl
end Go.Proofs.YteigbokklclmbaaGreatDoor.Given
end
section
namespace Go.Proofs.YteigbokklclmbaaGreatDoor.Z.Y.V
open Go.RowKit Go.Proofs.YteigbokklclmbaaGreatDoor.Given Go.Proofs.YteigbokklclmbaaGreatDoorW.PrintWords Go.Proofs.YteigbokklclmbaaGreatDoorW.PrintLast Go.Proofs.YteigbokklclmbaaGreatDoorW.PrintMore
attribute [local go_sem] max2_int min2_int max_two min_two max_three min_three max_four min_four   -- for this text's walks alone
attribute [local go_sem high] field23_0 field23_1
set_option linter.unusedVariables false
set_option linter.unusedSimpArgs false

def manorboyref02_Quotient_Round.T6 : Bool × List (List Nat × List Nat) := (true, [([], []), ([0], [0]), ([], []), ([2], [2]), ([1, 3, 1], [1, 3]), ([], []), ([4, 5, 4], [4, 5]), ([6], [6])])
def manorboyref02_Quotient_Round.B6 : List Nat := [0, 1, 0, 4, 15, 0, 63, 127]
theorem manorboyref02_Quotient_Round.tab6 : rtab .any (opsOf Tryz.f88 6) = manorboyref02_Quotient_Round.T6 := by kernel_rfl
theorem manorboyref02_Quotient_Round.bits6 : waitsOk manorboyref02_Quotient_Round.T6.2 manorboyref02_Quotient_Round.B6 = true := by kernel_rfl
def manorboyref02_Quotient_Round.T11 : Bool × List (List Nat × List Nat) := (true, [([], []), ([0], [0]), ([], []), ([2], [2]), ([1, 3, 1], [1, 3]), ([], []), ([4, 5, 4], [4, 5]), ([6], [6]), ([7, 6], [7]), ([8], [8]), ([9, 8, 8], [8, 9]), ([10, 8], [8, 10]), ([11, 8], [8, 11]), ([12, 8], [8, 12]), ([8, 13], [8, 13])])
def manorboyref02_Quotient_Round.B11 : List Nat := [0, 1, 0, 4, 15, 0, 63, 127, 255, 511, 1023, 2047, 4095, 8191, 16383]
theorem manorboyref02_Quotient_Round.tab11 : rtab .any (opsOf Tryz.f88 11) = manorboyref02_Quotient_Round.T11 := by kernel_rfl
theorem manorboyref02_Quotient_Round.bits11 : waitsOk manorboyref02_Quotient_Round.T11.2 manorboyref02_Quotient_Round.B11 = true := by kernel_rfl
end Go.Proofs.YteigbokklclmbaaGreatDoor.Z.Y.V
end
section
namespace Go.Proofs.YteigbokklclmbaaGreatDoor.Z.Y.V
open Go.RowKit Go.Proofs.YteigbokklclmbaaGreatDoor.Given Go.Proofs.YteigbokklclmbaaGreatDoorW.PrintWords Go.Proofs.YteigbokklclmbaaGreatDoorW.PrintLast Go.Proofs.YteigbokklclmbaaGreatDoorW.PrintMore
attribute [local go_sem] max2_int min2_int max_two min_two max_three min_three max_four min_four   -- for this text's walks alone
set_option linter.unusedVariables false
set_option linter.unusedSimpArgs false

def manorboyref02_Of.T7 : Bool × List (List Nat × List Nat) := (true, [([], []), ([0], [0]), ([1], [1]), ([], []), ([3], [3]), ([], []), ([5], [5]), ([6, 4], [6]), ([4, 7, 7], [4, 7]), ([8], []), ([2, 8, 9], [2, 8, 9]), ([10, 9, 0, 1, 2, 3, 4, 5, 6, 7, 8, 9, 10], [10])])
def manorboyref02_Of.B7 : List Nat := [0, 1, 3, 0, 8, 0, 32, 120, 248, 504, 1023, 2047]
theorem manorboyref02_Of.tab7 : rtab .any (opsOf Tryz.f102 7) = manorboyref02_Of.T7 := by kernel_rfl
theorem manorboyref02_Of.bits7 : waitsOk manorboyref02_Of.T7.2 manorboyref02_Of.B7 = true := by kernel_rfl
end Go.Proofs.YteigbokklclmbaaGreatDoor.Z.Y.V
end
section
namespace Go.Proofs.YteigbokklclmbaaGreatDoor.M
open Go Go.RowKit Go.Proofs.YteigbokklclmbaaGreatDoor.Given Go.Proofs.YteigbokklclmbaaGreatDoorW.PrintWords Go.Proofs.YteigbokklclmbaaGreatDoorW.PrintLast Go.Proofs.YteigbokklclmbaaGreatDoorW.PrintMore Go.Proofs.YteigbokklclmbaaGreatDoor.Z Go.Proofs.YteigbokklclmbaaGreatDoor.Z.Y Go.Proofs.YteigbokklclmbaaGreatDoor.Z.Y.V
set_option linter.unusedVariables false
set_option linter.unusedSimpArgs false
/-- A sign laid on a real. -/
def sgn (neg : Bool) (p : Int × Int) : Int × Int := (if neg = true then -p.1 else p.1, p.2)
theorem man_bd (I : Nat) : man I < 16777216 := by unfold man sh; omega
end Go.Proofs.YteigbokklclmbaaGreatDoor.M
end
section
namespace Go.Proofs.YteigbokklclmbaaGreatDoor.Z.Y
open Go Go.RowKit Go.Proofs.YteigbokklclmbaaGreatDoor.Given Go.Proofs.YteigbokklclmbaaGreatDoorW.PrintWords Go.Proofs.YteigbokklclmbaaGreatDoorW.PrintLast Go.Proofs.YteigbokklclmbaaGreatDoorW.PrintMore
set_option linter.unusedVariables false
set_option linter.unusedSimpArgs false
/-- What a valid real is. -/
def VR (a b : Int) : Prop := (a = 0 ∧ b = 0) ∨ (1 ≤ mx a (wrap64 (-a)) ∧ mx a (wrap64 (-a)) < 16777216 ∧ (b = -150 ∨ (8388608 ≤ mx a (wrap64 (-a)) ∧ -150 < b ∧ b ≤ 150)))
instance (a b : Int) : Decidable (VR a b) := by unfold VR; infer_instance
theorem valid_real (a b : Int) : real_Valid.f a b = some (decide (VR a b)) := by
  unfold real_Valid.f
  have hd : ∀ (p q : Prop) [Decidable p] [Decidable q], (p ↔ q) → decide p = decide q := fun p q _ _ h => by simp [h]
  have hv : VR a b ↔ ((a = 0 ∧ b = 0) ∨ (1 ≤ mx a (wrap64 (-a)) ∧ mx a (wrap64 (-a)) < 16777216 ∧ (b = -150 ∨ (8388608 ≤ mx a (wrap64 (-a)) ∧ -150 < b ∧ b ≤ 150)))) := Iff.rfl
  generalize mx a (wrap64 (-a)) = m at *
  by_cases h0 : a = 0 ∧ b = 0
  · have : decide (VR a b) = true := decide_eq_true (hv.2 (.inl h0))
    rw [this, if_pos (by simp [h0.1, h0.2])]
  · have h0' : ¬ ((a == 0 && (b == 0)) = true) := by simpa using h0
    rw [if_neg h0']
    by_cases h1 : m < 1
    · rw [if_pos h1]; congr 1; symm; rw [decide_eq_false_iff_not, hv]; rintro (h | h); exact h0 h; omega
    rw [if_neg h1]
    by_cases h2 : m ≥ 16777216
    · rw [if_pos h2]; congr 1; symm; rw [decide_eq_false_iff_not, hv]; rintro (h | h); exact h0 h; omega
    rw [if_neg h2]
    by_cases h3 : b = -150
    · rw [if_pos h3]; congr 1; symm; rw [decide_eq_true_eq, hv]; exact .inr ⟨by omega, by omega, .inl h3⟩
    rw [if_neg h3]
    by_cases h4 : m ≥ 8388608
    · rw [if_pos h4]
      by_cases h5 : b > -150
      · rw [if_pos h5]; congr 1; apply hd; rw [hv]
        constructor
        · intro h; exact .inr ⟨by omega, by omega, .inr ⟨h4, h5, h⟩⟩
        · rintro (h | h)
          · exact absurd h h0
          · omega
      · rw [if_neg h5]; congr 1; symm; rw [decide_eq_false_iff_not, hv]; rintro (h | h); exact h0 h; omega
    · rw [if_neg h4]; congr 1; symm; rw [decide_eq_false_iff_not, hv]; rintro (h | h); exact h0 h; omega
theorem VR_abs {a b : Int} (hw : -9223372036854775808 ≤ a ∧ a ≤ 9223372036854775807) (h : VR a b) : -16777216 < a ∧ a < 16777216 ∧ -150 ≤ b ∧ b ≤ 150 ∧ (b > -150 → a ≠ 0 → a ≤ -8388608 ∨ 8388608 ≤ a) := by
  unfold VR mx wrap64 at h
  rcases h with ⟨rfl, rfl⟩ | h
  · omega
  · split at h <;> omega
end Go.Proofs.YteigbokklclmbaaGreatDoor.Z.Y
end
section
namespace Go.Proofs.YteigbokklclmbaaGreatDoor.Z.Y.V
open Go.RowKit Go.Proofs.YteigbokklclmbaaGreatDoor.Given Go.Proofs.YteigbokklclmbaaGreatDoorW.PrintWords Go.Proofs.YteigbokklclmbaaGreatDoorW.PrintLast Go.Proofs.YteigbokklclmbaaGreatDoorW.PrintMore
attribute [local go_sem] max2_int min2_int max_two min_two max_three min_three max_four min_four   -- for this text's walks alone
set_option linter.unusedVariables false
set_option linter.unusedSimpArgs false

def manorboyref02_Add.T4 : Bool × List (List Nat × List Nat) := (true, [([], []), ([0], [0]), ([], []), ([2], [2]), ([], []), ([4], [4]), ([3, 5], [3, 5]), ([], []), ([7], [7]), ([1, 6, 8], [1, 6, 8]), ([9, 6], [9]), ([10, 10, 0, 1, 2, 3, 4, 5, 6, 7, 8, 9, 10], [10])])
def manorboyref02_Add.B4 : List Nat := [0, 1, 0, 4, 0, 16, 60, 0, 128, 511, 1023, 2047]
theorem manorboyref02_Add.tab4 : rtab .any (opsOf Tryz.f36 4) = manorboyref02_Add.T4 := by kernel_rfl
theorem manorboyref02_Add.bits4 : waitsOk manorboyref02_Add.T4.2 manorboyref02_Add.B4 = true := by kernel_rfl
def manorboyref02_Add.T6 : Bool × List (List Nat × List Nat) := (true, [([], []), ([0], [0]), ([], []), ([2], [2]), ([], []), ([4], [4]), ([3, 5], [3, 5]), ([], []), ([7], [7]), ([1, 6, 8], [1, 6, 8]), ([9, 6], [9]), ([10, 10, 0, 1, 2, 3, 4, 5, 6, 7, 8, 9, 10], [10])])
def manorboyref02_Add.B6 : List Nat := [0, 1, 0, 4, 0, 16, 60, 0, 128, 511, 1023, 2047]
theorem manorboyref02_Add.tab6 : rtab .any (opsOf Tryz.f36 6) = manorboyref02_Add.T6 := by kernel_rfl
theorem manorboyref02_Add.bits6 : waitsOk manorboyref02_Add.T6.2 manorboyref02_Add.B6 = true := by kernel_rfl
def manorboyref02_Add.T7 : Bool × List (List Nat × List Nat) := (true, [([], []), ([0], [0]), ([], []), ([2], [2]), ([], []), ([4], [4]), ([3, 5], [3, 5]), ([], []), ([7], [7]), ([1, 6, 8], [1, 6, 8]), ([9, 6], [9]), ([10, 10, 0, 1, 2, 3, 4, 5, 6, 7, 8, 9, 10], [10])])
def manorboyref02_Add.B7 : List Nat := [0, 1, 0, 4, 0, 16, 60, 0, 128, 511, 1023, 2047]
theorem manorboyref02_Add.tab7 : rtab .any (opsOf Tryz.f36 7) = manorboyref02_Add.T7 := by kernel_rfl
theorem manorboyref02_Add.bits7 : waitsOk manorboyref02_Add.T7.2 manorboyref02_Add.B7 = true := by kernel_rfl
end Go.Proofs.YteigbokklclmbaaGreatDoor.Z.Y.V
end
section
namespace Go.Proofs.YteigbokklclmbaaGreatDoor.M
open Go Go.RowKit Go.Proofs.YteigbokklclmbaaGreatDoor.Given Go.Proofs.YteigbokklclmbaaGreatDoorW.PrintWords Go.Proofs.YteigbokklclmbaaGreatDoorW.PrintLast Go.Proofs.YteigbokklclmbaaGreatDoorW.PrintMore Go.Proofs.YteigbokklclmbaaGreatDoor.Z Go.Proofs.YteigbokklclmbaaGreatDoor.Z.Y Go.Proofs.YteigbokklclmbaaGreatDoor.Z.Y.V
set_option linter.unusedVariables false
set_option linter.unusedSimpArgs false
/-- The range of an int. -/
def I64 (a : Int) : Prop := -9223372036854775808 ≤ a ∧ a ≤ 9223372036854775807
/-- What is known of the parts of a real. -/
def RC (a b : Int) : Prop := a.natAbs < 16777216 ∧ -150 ≤ b ∧ b ≤ 150
theorem VR.rc {a b : Int} (hw : I64 a) (h : VR a b) : RC a b := by
  obtain ⟨h1, h2, h3, h4, _⟩ := VR_abs hw h
  exact ⟨by omega, h3, h4⟩
/-- The index of a real's magnitude. -/
def ix (a b : Int) : Nat := if a = 0 then 0 else a.natAbs + (b + 150).toNat * 8388608
theorem ix_le {a b : Int} (hw : I64 a) (h : VR a b) : ix a b ≤ 2533359615 := by
  unfold ix; have hr := VR.rc hw h; obtain ⟨h1, h2, h3⟩ := hr; split <;> omega
theorem signed_is (neg : Bool) (p : Int × Int) : real_signed.f neg p.1 p.2 = some (if neg = true then wrap64 (-p.1) else p.1, p.2) := by
  unfold real_signed.f; split <;> rfl
theorem atI_bd (I : Nat) (h : I ≤ 2533359615) : 0 ≤ (atI I).1 ∧ (atI I).1 < 16777216 ∧ -150 ≤ (atI I).2 ∧ (atI I).2 ≤ 150 := by
  have hm := man_bd I
  unfold atI
  split
  · show (0 : Int) ≤ 0 ∧ (0 : Int) < 16777216 ∧ -150 ≤ (0 : Int) ∧ (0 : Int) ≤ 150; omega
  · show (0 : Int) ≤ ((man I : Nat) : Int) ∧ ((man I : Nat) : Int) < 16777216 ∧ -150 ≤ ((sh I : Nat) : Int) - 150 ∧ ((sh I : Nat) : Int) - 150 ≤ 150
    unfold sh; omega
theorem sanity_ev : Ev (fun k => manorboylaw02_sanity.f k) true := Ev.of (fun k => manorboylaw02_sanity.mono k) sanity_ok
end Go.Proofs.YteigbokklclmbaaGreatDoor.M
end
section
namespace Go.Proofs.YteigbokklclmbaaGreatDoor.M
open Go Go.RowKit Go.Proofs.YteigbokklclmbaaGreatDoor.Given Go.Proofs.YteigbokklclmbaaGreatDoorW.PrintWords Go.Proofs.YteigbokklclmbaaGreatDoorW.PrintLast Go.Proofs.YteigbokklclmbaaGreatDoorW.PrintMore Go.Proofs.YteigbokklclmbaaGreatDoor.Z Go.Proofs.YteigbokklclmbaaGreatDoor.Z.Y Go.Proofs.YteigbokklclmbaaGreatDoor.Z.Y.Q
set_option linter.unusedVariables false
set_option linter.unusedSimpArgs false
/-- The range of the indices. -/
def IR (n : Int) : Prop := -2533359615 ≤ n ∧ n ≤ 2533359615
/-- The real with a signed index. -/
def rl (n : Int) : Int × Int := sgn (decide (n < 0)) (atI n.natAbs)
/-- The signed index of a real. -/
def sx (a b : Int) : Int := if a < 0 then -((ix a b : Nat) : Int) else ((ix a b : Nat) : Int)
theorem abs_mx (n : Int) (h : IR n) : mx n (wrap64 (-n)) = ((n.natAbs : Nat) : Int) := mag_abs n (by have := h.1; omega) (by have := h.2; omega)
theorem at_ev {n : Int} (h : IR n) : real_at.f n = some (rl n) := by
  obtain ⟨h0, h1⟩ := h
  have hm := abs_mx n ⟨h0, h1⟩
  unfold real_at.f rl
  rw [hm]
  generalize hN : n.natAbs = N at *
  have hb := atI_bd N (by omega)
  by_cases hs : ((N : Nat) : Int) < 16777216
  · rw [if_pos hs]
    by_cases hz : ((N : Nat) : Int) = 0
    · rw [if_pos hz]
      have : N = 0 := by omega
      subst this
      unfold sgn atI; rw [if_pos rfl]
      split <;> rfl
    · rw [if_neg hz, signed_is (decide (n < 0)) (((N : Nat) : Int), -150)]
      have e1 : sh N = 0 := by unfold sh; omega
      have e2 : man N = N := by unfold man; rw [e1]; omega
      have e3 : atI N = (((N : Nat) : Int), -150) := by unfold atI; rw [if_neg (by omega), e1, e2]; rfl
      rw [e3]
      unfold sgn
      show some ((if decide (n < 0) = true then wrap64 (-((N : Nat) : Int)) else ((N : Nat) : Int)), (-150 : Int)) = _
      rw [w64 (-((N : Nat) : Int)) (by omega) (by omega)]
  · rw [if_neg hs]
    have e1 : Int.tmod ((N : Nat) : Int) 8388608 = ((N % 8388608 : Nat) : Int) := by rw [Int.tmod_eq_emod_of_nonneg (by omega)]; omega
    have e2 : Int.tdiv ((N : Nat) : Int) 8388608 = ((N / 8388608 : Nat) : Int) := by rw [Int.tdiv_eq_ediv_of_nonneg (by omega)]; omega
    have e3 : wrap64 (((N % 8388608 : Nat) : Int) + 8388608) = ((man N : Nat) : Int) := by
      rw [w64 _ (by omega) (by omega)]; unfold man sh; omega
    have e4 : wrap64 (wrap64 (wrap64 ((N / 8388608 : Nat) : Int) - 1) + -150) = ((sh N : Nat) : Int) - 150 := by
      rw [w64 ((N / 8388608 : Nat) : Int) (by omega) (by omega), w64 (((N / 8388608 : Nat) : Int) - 1) (by omega) (by omega), w64 _ (by omega) (by omega)]
      unfold sh; omega
    rw [e1, e2, e3, e4, signed_is (decide (n < 0)) (((man N : Nat) : Int), ((sh N : Nat) : Int) - 150)]
    have e5 : atI N = (((man N : Nat) : Int), ((sh N : Nat) : Int) - 150) := by unfold atI; rw [if_neg (by omega)]
    have hmb := man_bd N
    rw [e5]
    unfold sgn
    show some ((if decide (n < 0) = true then wrap64 (-((man N : Nat) : Int)) else ((man N : Nat) : Int)), ((sh N : Nat) : Int) - 150) = _
    rw [w64 (-((man N : Nat) : Int)) (by omega) (by omega)]
theorem At_ev {n : Int} (h : IR n) : real_At.f n = some ((rl n).1, (rl n).2, 0) := by
  unfold real_At.f; rw [if_neg (by have := h.1; omega), if_neg (by have := h.2; omega), at_ev h]; rfl
theorem tmod_IR (i : Int) : IR (Int.tmod i 2533359616) := by
  have h1 := Int.tmod_lt_of_pos i (show (0 : Int) < 2533359616 by decide)
  have h2 : -2533359616 < Int.tmod i 2533359616 := by
    rcases Int.lt_or_le i 0 with h | h
    · have e : i = -(-i) := by omega
      rw [e, Int.neg_tmod]
      have := Int.tmod_lt_of_pos (-i) (show (0 : Int) < 2533359616 by decide)
      omega
    · have := Int.tmod_nonneg 2533359616 h; omega
  exact ⟨by omega, by omega⟩
theorem tmod_id {n : Int} (h : IR n) : Int.tmod n 2533359616 = n := by
  obtain ⟨h0, h1⟩ := h
  rcases Int.lt_or_le n 0 with h | h
  · have e : n = -(-n) := by omega
    rw [e, Int.neg_tmod, Int.tmod_eq_emod_of_nonneg (by omega), Int.emod_eq_of_lt (by omega) (by omega)]
  · rw [Int.tmod_eq_emod_of_nonneg h, Int.emod_eq_of_lt h (by omega)]
theorem law_at_ev (i : Int) : manorboylaw02_at.f i = some (rl (Int.tmod i 2533359616)) := by
  unfold manorboylaw02_at.f; rw [At_ev (tmod_IR i)]; rfl
theorem rl_bd {n : Int} (h : IR n) : -16777216 < (rl n).1 ∧ (rl n).1 < 16777216 ∧ -150 ≤ (rl n).2 ∧ (rl n).2 ≤ 150 := by
  obtain ⟨h0, h1⟩ := h
  have := atI_bd n.natAbs (by omega)
  unfold rl sgn; split <;> (dsimp only; omega)
theorem rl_64 {n : Int} (h : IR n) : I64 (rl n).1 := by have := rl_bd h; exact ⟨by omega, by omega⟩
theorem rl_abs {n : Int} (h : IR n) : ((rl n).1.natAbs : Int) = (atI n.natAbs).1 ∧ (rl n).2 = (atI n.natAbs).2 := by
  obtain ⟨h0, h1⟩ := h
  have := atI_bd n.natAbs (by omega)
  unfold rl sgn; split <;> (dsimp only; omega)
theorem rl_VR {n : Int} (h : IR n) : VR (rl n).1 (rl n).2 := by
  have hb := rl_bd h
  have ha := rl_abs h
  obtain ⟨h0, h1⟩ := h
  unfold VR
  rw [mag_abs (rl n).1 (by omega) (by omega), ha.1, ha.2]
  unfold atI
  have hm := man_bd n.natAbs
  by_cases hz : n.natAbs = 0
  · left
    have hn : n = 0 := by omega
    subst hn
    exact ⟨rfl, rfl⟩
  · right
    rw [if_neg hz]
    show 1 ≤ ((man n.natAbs : Nat) : Int) ∧ ((man n.natAbs : Nat) : Int) < 16777216 ∧ (((sh n.natAbs : Nat) : Int) - 150 = -150 ∨ (8388608 ≤ ((man n.natAbs : Nat) : Int) ∧ -150 < ((sh n.natAbs : Nat) : Int) - 150 ∧ ((sh n.natAbs : Nat) : Int) - 150 ≤ 150))
    have hN : n.natAbs ≤ 2533359615 := by omega
    clear ha
    generalize n.natAbs = N at *
    unfold man sh
    omega
theorem ix_rl {n : Int} (h : IR n) : ix (rl n).1 (rl n).2 = n.natAbs := by
  have hb := rl_bd h
  have ha := rl_abs h
  obtain ⟨h0, h1⟩ := h
  unfold ix
  by_cases hz : n.natAbs = 0
  · have hn : n = 0 := by omega
    subst hn; rfl
  · have e5 : atI n.natAbs = (((man n.natAbs : Nat) : Int), ((sh n.natAbs : Nat) : Int) - 150) := by unfold atI; rw [if_neg hz]
    rw [e5] at ha
    obtain ⟨h2, h3⟩ := ha
    have h2 : ((rl n).1.natAbs : Int) = ((man n.natAbs : Nat) : Int) := h2
    have h3 : (rl n).2 = ((sh n.natAbs : Nat) : Int) - 150 := h3
    have hm : man n.natAbs ≠ 0 := by unfold man sh; omega
    rw [if_neg (by omega), h3]
    have : man n.natAbs + sh n.natAbs * 8388608 = n.natAbs := by unfold man sh; omega
    omega
theorem sx_rl {n : Int} (h : IR n) : sx (rl n).1 (rl n).2 = n := by
  unfold sx
  rw [ix_rl h]
  have hb := rl_bd h
  obtain ⟨h0, h1⟩ := h
  have hb2 := atI_bd n.natAbs (by omega)
  by_cases hn : n < 0
  · have : (rl n).1 < 0 := by
      have hm : man n.natAbs ≠ 0 := by unfold man sh; omega
      unfold rl sgn
      rw [if_pos (decide_eq_true hn)]
      show -(atI n.natAbs).1 < 0
      unfold atI; rw [if_neg (by omega)]; show -((man n.natAbs : Nat) : Int) < 0; omega
    rw [if_pos this]; omega
  · have : ¬ (rl n).1 < 0 := by
      unfold rl sgn
      rw [if_neg (by simpa using hn)]
      show ¬ (atI n.natAbs).1 < 0
      omega
    rw [if_neg this]; omega
theorem sx_IR {a b : Int} (hw : I64 a) (h : VR a b) : IR (sx a b) := by
  have := ix_le hw h
  unfold sx; exact ⟨by split <;> omega, by split <;> omega⟩
theorem index_ev {a b : Int} (hw : I64 a) (h : VR a b) : real_index.f a b = some (sx a b) := by
  obtain ⟨h1, h2, h3⟩ := VR.rc hw h
  have hm := mag_abs a (by omega) (by omega)
  unfold real_index.f sx ix
  by_cases h0 : a = 0
  · rw [if_pos h0, if_pos h0, if_neg (by omega)]; rfl
  · rw [if_neg h0, if_neg h0, hm, w64 (b - -150) (by omega) (by omega), w64 ((b - -150) * 8388608) (by omega) (by omega), w64 (((a.natAbs : Nat) : Int) + (b - -150) * 8388608) (by omega) (by omega)]
    by_cases hn : a < 0
    · rw [if_pos hn, if_pos hn, w64 _ (by omega) (by omega)]; congr 1; omega
    · rw [if_neg hn, if_neg hn]; congr 1; omega
theorem Index_ev {a b : Int} (hw : I64 a) (h : VR a b) : real_Index.f a b = some (sx a b, 0) := by
  unfold real_Index.f; rw [valid_real, decide_eq_true h]; rw [Option.bind_some, if_pos rfl, index_ev hw h]; rfl
theorem Next_ev {a b : Int} (hw : I64 a) (h : VR a b) : real_Next.f a b = some (if sx a b + 1 > 2533359615 then (0, 0, 3) else ((rl (sx a b + 1)).1, (rl (sx a b + 1)).2, 0)) := by
  obtain ⟨h0, h1⟩ := sx_IR hw h
  unfold real_Next.f; rw [valid_real, decide_eq_true h]; rw [Option.bind_some, if_pos rfl, index_ev hw h]; simp only [Option.bind_some]
  rw [w64 _ (by omega) (by omega)]
  by_cases hc : sx a b + 1 > 2533359615
  · rw [if_pos hc, if_pos hc]
  · rw [if_neg hc, if_neg hc, at_ev ⟨by omega, by omega⟩]; rfl
/-- The comparison of two whole numbers. -/
def cmpI (x y : Int) : Int := if x < y then -1 else if x > y then 1 else 0
theorem Cmp_ev {a b c d : Int} (wa : I64 a) (wc : I64 c) (h : VR a b) (h' : VR c d) : real_Cmp.f a b c d = some (cmpI (sx a b) (sx c d), 0) := by
  obtain ⟨h0, h1⟩ := sx_IR wa h
  obtain ⟨h2, h3⟩ := sx_IR wc h'
  unfold real_Cmp.f
  show (((real_Valid.f a b).bind fun v0 => (real_Valid.f c d).bind fun v1 => some (v0 && v1)).bind _) = _
  rw [valid_real, valid_real, decide_eq_true h, decide_eq_true h']
  simp only [Option.bind_some, Bool.and_true]
  rw [if_pos trivial, index_ev wa h, index_ev wc h']
  simp only [Option.bind_some]
  rw [w64 _ (by omega) (by omega)]
  unfold real_sign.f cmpI
  by_cases hl : sx a b - sx c d < 0
  · rw [if_pos hl, if_pos (show sx a b < sx c d by omega)]; rfl
  · by_cases hg : sx a b - sx c d > 0
    · rw [if_neg hl, if_pos hg, if_neg (show ¬ sx a b < sx c d by omega), if_pos (show sx a b > sx c d by omega)]; rfl
    · rw [if_neg hl, if_neg hg, if_neg (show ¬ sx a b < sx c d by omega), if_neg (show ¬ sx a b > sx c d by omega)]; rfl
theorem Valid_ev {a b : Int} (h : VR a b) : real_Valid.f a b = some true := by rw [valid_real, decide_eq_true h]
end Go.Proofs.YteigbokklclmbaaGreatDoor.M
end
section
namespace Go.Proofs.YteigbokklclmbaaGreatDoor.M
open Go Go.RowKit Go.Proofs.YteigbokklclmbaaGreatDoor.Given Go.Proofs.YteigbokklclmbaaGreatDoorW.PrintWords Go.Proofs.YteigbokklclmbaaGreatDoorW.PrintLast Go.Proofs.YteigbokklclmbaaGreatDoorW.PrintMore Go.Proofs.YteigbokklclmbaaGreatDoor.Z Go.Proofs.YteigbokklclmbaaGreatDoor.Z.Y Go.Proofs.YteigbokklclmbaaGreatDoor.Z.Y.V Go.Proofs.YteigbokklclmbaaGreatDoor.Z.Y.Q
set_option linter.unusedVariables false
set_option linter.unusedSimpArgs false
theorem order_j0 (n x y x14 : Int) (hn : IR n) (h : (n = 2533359615 ∧ x14 = 3) ∨ (n ≠ 2533359615 ∧ x14 = 0 ∧ real_Index.f x y = some (n + 1, 0))) : Ev (fun k => manorboylaw02_RealOrder.j0 k n x14 false x y) true := by
  obtain ⟨h0, h1⟩ := hn
  rcases h with ⟨h2, h3⟩ | ⟨h2, h3, h4⟩
  · refine Ev.step (fun k => by rw [manorboylaw02_RealOrder.j0, if_neg (by decide), if_pos h2]) ?_
    refine Ev.bind sanity_ev (Ev.congr (f := fun _ => some true) (fun k => by rw [if_pos rfl, h3]; rfl) (Ev.now _))
  · refine Ev.step (f := fun k => (manorboylaw02_sanity.f k).bind fun t574 => (if t574 = true then some true else some false)) (fun k => by
      rw [manorboylaw02_RealOrder.j0, if_neg (by decide), if_neg h2, h4, w64 _ (by omega) (by omega)]
      simp [h3]) ?_
    exact Ev.bind sanity_ev (Ev.now _)
theorem pure_real_order (i j : Int) (_ : I64 i) (_ : I64 j) : ∃ k, manorboylaw02_RealOrder.f k i j = some true := by
  have hi := tmod_IR i
  have hj := tmod_IR j
  refine Ev.rounds ?_
  generalize hn : Int.tmod i 2533359616 = n at *
  generalize hm : Int.tmod j 2533359616 = m at *
  have vn := rl_VR hi
  have vm := rl_VR hj
  have wn := rl_64 hi
  have wm := rl_64 hj
  have e1 : manorboylaw02_at.f n = some (rl n) := by rw [law_at_ev, tmod_id hi]
  have e2 : manorboylaw02_at.f m = some (rl m) := by rw [law_at_ev, tmod_id hj]
  have e3 := Index_ev wn vn
  have e4 := Cmp_ev wn wm vn vm
  have e5 := Cmp_ev wm wn vm vn
  have e6 := Next_ev wn vn
  have e7 := Valid_ev vn
  rw [sx_rl hi] at e3 e4 e5 e6
  rw [sx_rl hj] at e4 e5
  have hc : ((decide (cmpI n m < 0)) != (decide (n < m))) = false := by
    unfold cmpI
    by_cases h1 : n < m
    · simp [h1]
    · by_cases h2 : n > m <;> simp [h1, h2]
  have hd : ((cmpI n m == 0) != (n == m)) = false := by
    unfold cmpI
    by_cases h1 : n < m
    · have : ¬ n = m := by omega
      simp [h1, this]
    · by_cases h2 : n > m
      · have : ¬ n = m := by omega
        simp [h1, h2, this]
      · have : n = m := by omega
        simp [h1, h2, this]
  have hs : cmpI n m = wrap64 (-cmpI m n) := by
    have : -1 ≤ cmpI m n ∧ cmpI m n ≤ 1 := by unfold cmpI; split <;> (try split) <;> omega
    rw [w64 _ (by omega) (by omega)]
    unfold cmpI
    by_cases h1 : n < m
    · rw [if_pos h1, if_neg (by omega), if_pos (by omega)]
    · rw [if_neg h1]
      by_cases h2 : n > m
      · rw [if_pos h2, if_pos (by omega)]; rfl
      · rw [if_neg h2, if_neg (by omega), if_neg (by omega)]; rfl
  obtain ⟨h0, h1⟩ := hi
  by_cases hx : n = 2533359615
  · refine Ev.congr (f := fun k => manorboylaw02_RealOrder.j0 k n 3 false 0 0) (fun k => ?_) (order_j0 n 0 0 3 ⟨h0, h1⟩ (.inl ⟨hx, rfl⟩))
    unfold manorboylaw02_RealOrder.f
    rw [hn, hm, e1, e2]
    simp only [Option.bind_some]
    rw [e3, e4, e5, e6, e7]
    simp only [Option.bind_some]
    rw [if_pos trivial, if_pos trivial, if_pos trivial, if_pos trivial, if_pos trivial, if_pos hs, hc, if_neg (by decide), hd, if_pos (by omega)]
  · have hi' : IR (n + 1) := ⟨by omega, by omega⟩
    have e8 := Index_ev (rl_64 hi') (rl_VR hi')
    rw [sx_rl hi'] at e8
    refine Ev.congr (f := fun k => manorboylaw02_RealOrder.j0 k n 0 false (rl (n + 1)).1 (rl (n + 1)).2) (fun k => ?_) (order_j0 n _ _ 0 ⟨h0, h1⟩ (.inr ⟨hx, rfl, e8⟩))
    unfold manorboylaw02_RealOrder.f
    rw [hn, hm, e1, e2]
    simp only [Option.bind_some]
    rw [e3, e4, e5, e6, e7]
    simp only [Option.bind_some]
    rw [if_pos trivial, if_pos trivial, if_pos trivial, if_pos trivial, if_pos trivial, if_pos hs, hc, if_neg (by decide), hd, if_neg (by omega)]
end Go.Proofs.YteigbokklclmbaaGreatDoor.M
end
section
namespace Go.Proofs.YteigbokklclmbaaGreatDoor.Given
open Go
theorem gT : Tryz.prog.globalNamed "internal/strconv.uint64pow10" = some 0 := by kernel_rfl
theorem gTType : (Tryz.prog.globals[0]?).map (·.type) = some 188 := by kernel_rfl
theorem pow10_datum : (Rows.laid_internal_strconv_uint64pow10 : DataW Unit) = Lib.tabData .u64 Lib.pow10Tab := by kernel_rfl
theorem table_of {W : World} (h : laidMet Tryz.prog [("math/bits.deBruijn32tab", Rows.laid_math_bits_deBruijn32tab), ("math/bits.deBruijn64tab", Rows.laid_math_bits_deBruijn64tab), ("internal/strconv.uint64pow10", Rows.laid_internal_strconv_uint64pow10), ("unicode/utf8.acceptRanges", Rows.laid_unicode_utf8_acceptRanges), ("unicode/utf8.first", Rows.laid_unicode_utf8_first)] W) : Z.Table W := by
  obtain ⟨ps, ⟨_, _, _, _, _, _, _, _, _, _, ⟨_, _, _, _, _, _, _, _, _, _, ⟨g, t, cs, f, p, q, hg, ht, hv, hd, _, _⟩, _⟩, _⟩, _⟩ := h
  obtain rfl := Option.some.inj (gT.symm.trans hg)
  obtain rfl := Option.some.inj (gTType.symm.trans ht)
  rw [pow10_datum] at hd
  show Lib.TabIs _ _ _ _ _
  unfold Lib.TabIs
  rw [hv, ← Lib.cells_of_tab Tryz.underlying188 Tryz.underlying72 (by kernel_rfl) (by kernel_rfl) hd]
theorem i64_of {a : Int} (h : (Lit.int IntKind.i64 a).wf = true) : -9223372036854775808 ≤ a ∧ a ≤ 9223372036854775807 := by
  have h1 : (decide ((-9223372036854775808 : Int) ≤ a) && decide (a ≤ (9223372036854775807 : Int))) = true := h
  simpa using h1
end Go.Proofs.YteigbokklclmbaaGreatDoor.Given
end
section
namespace Go.Proofs.YteigbokklclmbaaGreatDoor.realOrder
open Go Go.ChangeShapes Go.WideShapes Go.ChangeAt Go.RowKit Go.Joins
open Go.ChangeMaps (open_string shut_string)
set_option linter.unusedVariables false
theorem own : ownKnob Tryz.prog.godebug = none := by kernel_rfl
theorem cells23 : Tryz.prog.cellsOf 23 = 2 := by kernel_rfl
set_option maxRecDepth 100000 in
theorem lifted (os : Os) (started : os.Started) (H : Type) (enc : TypeId × Value → H) :
    ReturnsInHanded {} Tryz.checked os 13 .any (fun w args => (Rows.realOrderSpec.pre enc Tryz.prog Tryz.f13 [] false w args ∧ laidMetH Tryz.prog Rows.realOrderRow.laid w) ∧ sizedMet enc Tryz.prog Tryz.f13 (OpenSpec.ofChange Rows.realOrderSpec) false w args)
      (Rows.realOrderSpec.post enc Tryz.prog Tryz.f13 false true false false) := by
  refine returnsInHanded_of_change_and (C := Tryz.checked) (X := fun w _ => laidMetH Tryz.prog Rows.realOrderRow.laid w) (fun _ _ _ hh h => h.of_heap hh) own started (by kernel_rfl) Tryz.func13
    (ChangeSpec.witness_shaped (enc := enc) (C := Tryz.checked) (os := os) (X := fun w _ => laidMetH Tryz.prog Rows.realOrderRow.laid w) false (World.laidAll Tryz.prog os Rows.realOrderRow.laid) #[.int .i64 0, .int .i64 0] 8 (World.laidAll_os _ _ _)
      (World.shaped_of_ZipB (by kernel_rfl) (by kernel_rfl)) (by kernel_rfl) (by kernel_rfl) (by kernel_rfl)
      (by rw [MakeChecks.laidMetH_plain _ _ _ (by kernel_rfl)]; exact laidMet_laidAll _ (by kernel_rfl) (by kernel_rfl))) ?_
  intro W base args ds gs before hval0 hW _ hsz0 hL _
  have hsz : (DataW.weightsEach Tryz.prog (Tryz.f13.params.toList ++ Rows.realOrderSpec.plain.varTypes Tryz.prog) (ds ++ gs)).all (· ≤ reachBytes) = true := hsz0
  have hval : ∀ (j : Nat) t v, Tryz.f13.params[j]? = some t → args[j]? = some v → Value.okWide Tryz.prog W .any base t v := hval0
  have hW' := hW
  obtain ⟨p, q, hA0, hV, rfl, hfz, hnd⟩ := hW
  have hA : DataW.TrodAll enc Tryz.prog W 0 (fun _ => true) true Tryz.f13.params.toList args.toList ds p := hA0
  rw [Tryz.params13] at hA hval hsz
  obtain ⟨v0, vs0, d0, ds0, p0, q0, hargs, rfl, rfl, h0, r0⟩ := trodAll_cons hA
  obtain ⟨v1, vs1, d1, ds1, p1, q1, rfl, rfl, rfl, h1, r1⟩ := trodAll_cons r0
  obtain ⟨rfl, rfl, rfl⟩ := trodAll_nil r1
  obtain rfl : args = #[v0, v1] := by cases args; simp_all
  obtain ⟨rfl, rfl⟩ := trodVars_none hV
  obtain ⟨a0, rfl, rfl, rfl, w0⟩ := open_int Tryz.underlying3 (hval 0 3 v0 rfl rfl) h0
  obtain ⟨a1, rfl, rfl, rfl, w1⟩ := open_int Tryz.underlying3 (hval 1 3 v1 rfl rfl) h1
  have hT : Z.Table W := Given.table_of (by
    have h := hL
    rw [MakeChecks.laidMetH_plain _ _ _ (by kernel_rfl)] at h
    exact h)
  clear hA0 hval0 hsz0 hsz hL
  simp only [List.append_nil] at hW'
  obtain ⟨k_, hk_⟩ := M.pure_real_order a0 a1 (Given.i64_of w0) (Given.i64_of w1)
  refine (Z.Y.V.manorboylaw02_RealOrder.calls k_ a0 a1 true W hk_ rfl hT).mono fun e W' ⟨he, bel⟩ => ?_
  subst he
  exact ⟨_, rfl, _, _, _, [], _, [], hW', trodAll_mk1 (shut_bool Tryz.underlying4 _), (trodAll_cons_mk (shut_int Tryz.underlying3 w0) (trodAll_cons_mk (shut_int Tryz.underlying3 w1) trodAll_mk0)), rfl, bel.frame _, fun h => by cases h⟩
theorem over : Rows.realOrderRow.holds Tryz.pinned (OpenSpec.ofChange Rows.realOrderSpec) :=
  OpenClaim.holds_of_wide 13 Tryz.f13 rfl rfl rfl rfl rfl rfl rfl ⟨rfl, rfl, rfl, rfl, rfl⟩ rfl rfl rfl rfl rfl (by kernel_rfl) Tryz.func13 (by kernel_rfl)
    (of_decide_eq_true (by kernel_rfl)) (by unfold Func.isWrapper; first | (rw [if_pos (by decide +kernel)]; kernel_rfl) | (rw [if_neg (by decide +kernel)]; exact ⟨rfl, rfl⟩))
    (fun os started H enc _ => lifted os started H enc)
theorem proved : Rows.RealOrderCardSaid :=
  Claim7.holds_tied_plain_at .later [] [.data, .data, .data, .data, .pinned] true (true, "02d3c689eb6e49c930b728a9da17e489b105c2fbb88b02783bdd02e84394884c") true over (fun _ h => by cases h) (by kernel_rfl) (fun _ h => by cases h) realOrder_row_tie rfl ⟨rfl, rfl⟩ (by kernel_rfl) rfl
    (fun f fn hf hfn => by
      obtain rfl : f = 13 := Option.some.inj ((show Tryz.prog.funcNamed "manorboy/manorboylaw02.RealOrder" = some 13 by kernel_rfl).symm.trans hf) |>.symm
      obtain rfl : fn = Tryz.f13 := (Option.some.inj (Tryz.func13.symm.trans hfn)).symm
      exact ⟨by kernel_rfl, fun j t ht => by
        rw [Tryz.params13] at ht
        have hm : t ∈ [3, 3] := by simpa using Array.mem_of_getElem? ht
        have hall : ([3, 3].all fun u => !Tryz.prog.wantsStandIn u) = true := by kernel_rfl
        exact (show Tryz.prog.wantsStandIn t = false by simpa using List.all_eq_true.1 hall t hm)⟩)
    (by kernel_rfl)
#print axioms proved
end Go.Proofs.YteigbokklclmbaaGreatDoor.realOrder
namespace Go.Proofs.YteigbokklclmbaaGreatDoor
/-- The card, under a short name, for the claim. -/
theorem realOrder_holds : Rows.RealOrderCardSaid := realOrder.proved
end Go.Proofs.YteigbokklclmbaaGreatDoor
end
