/- Contracts and lemmas that the law's row leans on, joined by program (pack.py) out of the session's texts; no condition of its own. -/
import Derived.Test.YteigbokklclmbaaGreatDoorProg
import Derived.Below
import Derived.Deep.Draws
import Derived.Deep.AppendLies
import Derived.Maps.AppendAt
import Derived.OwnWalk
import Derived.Laws.BytesArg
import Derived.Laws.MakeOwn
import Derived.Laws.OwnMore
import Derived.Deep.OwnRows
import Derived.Tactics
import Derived.Lib.ConvBytes
import Derived.Laws.Slices
import Derived.WalkKit
import Derived.KernelRfl
import Derived.RowKit3
import Derived.Deep.LoopGhost
import Derived.Deep.QuietTactic
import Derived.BigQuiet
import Derived.WideLaws
import Derived.Deep.DeepCutAuto
import Derived.Deep.CutBlock
import Derived.Deep.RegionHeld3
import Derived.Laws.Rows
import Derived.Lib.AppendStr
import Derived.ArgAppend
import Derived.Laws.IdiomCopy
import Derived.OrdersHeld
import Derived.Laws.BitsLemmas
import Derived.RowKit
import Derived.Test.YteigbokklclmbaaGreatDoorRows
import Derived.Test.YteigbokklclmbaaGreatDoorRexa
import Derived.Test.YteigbokklclmbaaGreatDoorRexb
import Derived.Test.YteigbokklclmbaaGreatDoorRexc
import Derived.Test.YteigbokklclmbaaGreatDoorRexd
set_option linter.unusedVariables false
set_option linter.unusedSimpArgs false
set_option maxRecDepth 100000
set_option maxHeartbeats 8000000
section
namespace Go.Proofs.YteigbokklclmbaaGreatDoor.Z.Y
open Go.RowKit Go.Proofs.YteigbokklclmbaaGreatDoor.Given Go.Proofs.YteigbokklclmbaaGreatDoorW.PrintWords Go.Proofs.YteigbokklclmbaaGreatDoorW.PrintLast Go.Proofs.YteigbokklclmbaaGreatDoorW.PrintMore
attribute [local go_sem] max2_int min2_int max_two min_two max_three min_three max_four min_four   -- for this text's walks alone

attribute [local go_sem high] eqA23
def manorboylaw02_sanity.j0 : Nat → Bool → Option (Bool)
 | 0, _ => none
 | k + 1, x60 => if x60 = true then (some false) else ((real_Entier.f (-12582912) (-23)).bind fun bt127 => ((real_Round.f 10485760 (-22)).bind fun bt129 => ((real_Parse.f k (⟨#[49, 101, 54, 48]⟩ : ByteArray)).bind fun bt131 => ((real_PowZ.f 0 0 (-1)).bind fun bt134 => ((real_Print.f k 1 (-150)).bind fun bt137 => (if bt127.2 = 0 then (if bt129.2 = 0 then (if bt127.1 = (-2) then (if bt129.1 = 3 then (if bt131.2.2 = 3 then (if bt134.2.2 = 5 then (if bt137.2 = 0 then (if bt137.1.toList = ([55, 46, 48, 101, 45, 52, 54] : List UInt8) then ((real_FromIntN.f k 16777217).bind fun bt139 => ((manorboylaw02_two.f 24).bind fun bt141 => (some (bt139.1 == bt141.1 && (bt139.2 == bt141.2))))) else (some false)) else (some false)) else (some false)) else (some false)) else (some false)) else (some false)) else (some false)) else (some false)))))))
def manorboylaw02_sanity.f (k : Nat)  : Option (Bool) := (manorboylaw02_two.f 0).bind fun bt102 => ((manorboylaw02_two.f (-24)).bind fun bt104 => ((real_Add.f k bt102.1 bt102.2 bt104.1 bt104.2).bind fun bt106 => ((manorboylaw02_two.f 0).bind fun bt110 => ((real_Div.f k bt110.1 bt110.2 12582912 (-22)).bind fun bt112 => ((real_Parse.f k (⟨#[48, 46, 49]⟩ : ByteArray)).bind fun bt116 => ((real_Print.f k bt112.1 bt112.2.1).bind fun bt120 => ((manorboylaw02_two.f 0).bind fun bt122 => ((manorboylaw02_is.f bt106.1 bt106.2.1 bt106.2.2 bt122.1 bt122.2).bind fun t124 => (if t124 = true then ((manorboylaw02_is.f bt112.1 bt112.2.1 bt112.2.2 11184811 (-25)).bind fun t125 => (if t125 = true then ((manorboylaw02_is.f bt116.1 bt116.2.1 bt116.2.2 13421773 (-27)).bind fun t126 => (if t126 = true then (if bt120.2 = 0 then (manorboylaw02_sanity.j0 k (bt120.1.toList != ([48, 46, 51, 51, 51, 51, 51, 51, 51, 52] : List UInt8))) else (manorboylaw02_sanity.j0 k true)) else (manorboylaw02_sanity.j0 k true))) else (manorboylaw02_sanity.j0 k true))) else (manorboylaw02_sanity.j0 k true))))))))))
theorem manorboylaw02_sanity.mono_l : ∀ k, (∀ y0, LeO (manorboylaw02_sanity.j0 k y0) (manorboylaw02_sanity.j0 (k + 1) y0))
 | 0 => fun _ r h => by simp [manorboylaw02_sanity.j0] at h
 | k + 1 => by
  have ih0 := manorboylaw02_sanity.mono_l k
  ·intro y0
   unfold manorboylaw02_sanity.j0
   repeat' first
   | (with_reducible exact ih0 _)
   | (with_reducible exact real_Add.mono _ _ _ _ _)
   | (with_reducible exact real_Div.mono _ _ _ _ _)
   | (with_reducible exact real_FromIntN.mono _ _)
   | (with_reducible exact real_Parse.mono _ _)
   | (with_reducible exact real_Print.mono _ _ _)
   | (with_reducible exact LeO.refl _)
   | (with_reducible exact LeO.none _)
   | (with_reducible refine LeO.ite ?_ ?_)
   | (with_reducible refine LeO.bind ?_ (fun _ => ?_))
   | exact ih0 _
   | exact real_Add.mono _ _ _ _ _
   | exact real_Div.mono _ _ _ _ _
   | exact real_FromIntN.mono _ _
   | exact real_Parse.mono _ _
   | exact real_Print.mono _ _ _
   | exact LeO.none _
   | refine LeO.ite ?_ ?_
   | refine LeO.bind ?_ (fun _ => ?_)
theorem manorboylaw02_sanity.mono : ∀ k, LeO (manorboylaw02_sanity.f k ) (manorboylaw02_sanity.f (k + 1) ) := by
 intro  k
 have ih0 := manorboylaw02_sanity.mono_l k
 unfold manorboylaw02_sanity.f
 repeat' first
   | (with_reducible exact ih0 _)
   | (with_reducible exact real_Add.mono _ _ _ _ _)
   | (with_reducible exact real_Div.mono _ _ _ _ _)
   | (with_reducible exact real_FromIntN.mono _ _)
   | (with_reducible exact real_Parse.mono _ _)
   | (with_reducible exact real_Print.mono _ _ _)
   | (with_reducible exact LeO.refl _)
   | (with_reducible exact LeO.none _)
   | (with_reducible refine LeO.ite ?_ ?_)
   | (with_reducible refine LeO.bind ?_ (fun _ => ?_))
   | exact ih0 _
   | exact real_Add.mono _ _ _ _ _
   | exact real_Div.mono _ _ _ _ _
   | exact real_FromIntN.mono _ _
   | exact real_Parse.mono _ _
   | exact real_Print.mono _ _ _
   | exact LeO.none _
   | refine LeO.ite ?_ ?_
   | refine LeO.bind ?_ (fun _ => ?_)
def manorboylaw02_sanity.T5 : Bool × List (List Nat × List Nat) := (true, [([], []), ([], []), ([], []), ([0, 1, 2, 2], [0, 1, 2]), ([3], [3]), ([4, 3], [4]), ([5], [5]), ([5], [5]), ([5], [5]), ([6, 7, 8, 5, 5], [5, 6, 7, 8]), ([9, 5], [5, 9]), ([5, 10], [5, 10]), ([11, 9], [11]), ([12], [12]), ([12], [12]), ([12], [12]), ([13, 14, 15, 12, 12], [12, 13, 14, 15]), ([16, 12], [12, 16]), ([12, 17], [12, 17]), ([18, 16], [18]), ([19], [19]), ([20, 19], [19, 20]), ([19, 21], [19, 21]), ([22, 19], [22]), ([23], [23]), ([24, 23], [23, 24]), ([23, 25], [23, 25])])
def manorboylaw02_sanity.B5 : List Nat := [0, 0, 0, 7, 15, 31, 63, 63, 63, 511, 1023, 2047, 4095, 8191, 8191, 8191, 65535, 131071, 262143, 524287, 1048575, 2097151, 4194303, 8388607, 16777215, 33554431, 67108863]
theorem manorboylaw02_sanity.tab5 : rtab .any (opsOf Tryz.f19 5) = manorboylaw02_sanity.T5 := by kernel_rfl
theorem manorboylaw02_sanity.bits5 : waitsOk manorboylaw02_sanity.T5.2 manorboylaw02_sanity.B5 = true := by kernel_rfl
theorem manorboylaw02_sanity.no : ∀ k, manorboylaw02_sanity.j0 k true ≠ some true
 | 0, h => by simp [manorboylaw02_sanity.j0] at h
 | k + 1, h => by simp [manorboylaw02_sanity.j0] at h
theorem third_is {k : Nat} {a b c d e : Int} (h1 : manorboylaw02_two.f 0 = some (a, b)) (h2 : real_Div.f k a b 12582912 (-22) = some (c, d, e)) : c = 11184811 ∧ d = -25 ∨ c = 1 ∧ d = -150 := by
 have e1 : manorboylaw02_two.f 0 = some (8388608, -23) := by kernel_rfl
 have e2 := Option.some.inj (h1.symm.trans e1)
 obtain ⟨rfl, rfl⟩ := Prod.mk.inj e2
 have e3 : real_Div.f 400 8388608 (-23) 12582912 (-22) = some (11184811, -25, 0) := by kernel_rfl
 have e4 := at_fixed (fun k => real_Div.mono _ _ _ _ k) h2 e3
 simp only [Prod.mk.injEq] at e4
 exact Or.inl ⟨e4.1, e4.2.1⟩
theorem manorboylaw02_sanity.calls (k : Nat)  (r : Bool) (w : World) (h : manorboylaw02_sanity.f k  = some r) (hr : r = true) (ht : Table w) :
  Calls Tryz.prog 19 #[] w fun e w' => e = .returned (.bool r) ∧ Below w.heap.size w w' := by
 have hu23 := Tryz.underlying23
 have HB := Aside0.mk (Below.refl w.heap.size w)
 have HT := Aside0.mk (Lib.tabBelow_of_tabIs ht)
 clear ht
 have H := h; unfold manorboylaw02_sanity.f at H; clear h
 replace H := Option.bind_eq_some_iff.mp H
 obtain ⟨⟨t102, t103⟩, A10, H⟩ := H
 try dsimp only at H
 have A1 := Aside0.mk A10
 clear A10
 replace H := Option.bind_eq_some_iff.mp H
 obtain ⟨⟨t104, t105⟩, A20, H⟩ := H
 try dsimp only at H
 have A2 := Aside0.mk A20
 clear A20
 replace H := Option.bind_eq_some_iff.mp H
 obtain ⟨⟨t106, t107, t108⟩, A30, H⟩ := H
 try dsimp only at H
 have A3 := Aside0.mk A30
 clear A30
 replace H := Option.bind_eq_some_iff.mp H
 obtain ⟨⟨t110, t111⟩, A40, H⟩ := H
 try dsimp only at H
 have A4 := Aside0.mk A40
 clear A40
 replace H := Option.bind_eq_some_iff.mp H
 obtain ⟨⟨t112, t113, t114⟩, A50, H⟩ := H
 try dsimp only at H
 have A5 := Aside0.mk A50
 clear A50
 replace H := Option.bind_eq_some_iff.mp H
 obtain ⟨⟨t116, t117, t118⟩, A60, H⟩ := H
 try dsimp only at H
 have A6 := Aside0.mk A60
 clear A60
 replace H := Option.bind_eq_some_iff.mp H
 obtain ⟨⟨t120, t121⟩, A70, H⟩ := H
 try dsimp only at H
 have A7 := Aside0.mk A70
 clear A70
 have HC8 := Aside0.mk H
 clear H
 go_enter Tryz.func19, Tryz.ntmps19
 go_upto_region 5 with (first | ((with_reducible refine gate_callee (f := 49) rfl ?_); refine goesL_ (some 14) rfl rfl Tryz.func49 (by kernel_rfl) rfl #[.int .i64 0] rfl az ?_; (with_reducible refine (manorboylaw02_two.calls 0 t102 t103 _ A1.out).mono ?_); rintro e w9 ⟨rfl, hb⟩; refine ⟨_, rfl, ?_⟩; replace HB := bs hb; (try clear hb)) | ((with_reducible refine gate_callee (f := 49) rfl ?_); refine goesL_ (some 15) rfl rfl Tryz.func49 (by kernel_rfl) rfl #[.int .i64 (-24)] rfl az ?_; (with_reducible refine (manorboylaw02_two.calls (-24) t104 t105 _ A2.out).mono ?_); rintro e w10 ⟨rfl, hb⟩; refine ⟨_, rfl, ?_⟩; replace HB := bs hb; (try clear hb)) | ((with_reducible refine gate_callee (f := 33) rfl ?_); refine goesL_ (some 16) rfl rfl Tryz.func33 (by kernel_rfl) rfl #[.agg #[.int .i64 t102, .int .i64 t103], .agg #[.int .i64 t104, .int .i64 t105]] rfl az ?_; (with_reducible refine (real_Add.calls k t102 t103 t104 t105 t106 t107 t108 _ A3.out).mono ?_); rintro e w11 ⟨rfl, hb⟩; refine ⟨_, rfl, ?_⟩; replace HB := bs hb; (try clear hb)) | ((with_reducible refine gate_dst (N := 1) rfl ?_); refine box_event ?hg (N := 1) ?hd (cs := #[.int .i64 0, .int .i64 0]) (t := 23) ?hr ?_; (case hd => rfl); (case hg => rfl); (case hr => first | (go_simp; done) | (go_simp; rfl)); intro gb109 hg w12 hbox hb; have BK109 := Aside0.mk hbox; have GW109 := ge hg; have GE109 := ge hg; replace HB := bs hb; clear hb hbox hg; have hcz13_0 := c20 BK109; have hcz13_1 := c21 BK109; have hfz13_0 := blk_frozen BK109.out 0; have hfz13_1 := blk_frozen BK109.out 1) | ((with_reducible refine gate_callee (f := 49) rfl ?_); refine goesL_ (some 20) rfl rfl Tryz.func49 (by kernel_rfl) rfl #[.int .i64 0] rfl az ?_; (with_reducible refine (manorboylaw02_two.calls 0 t110 t111 _ A4.out).mono ?_); rintro e w14 ⟨rfl, hb⟩; refine ⟨_, rfl, ?_⟩; replace BK109 := Aside0.mk (blk_below (g := gb109) (o := .cells #[.int .i64 t106, .int .i64 t107] 23 (0, 0)) (by (with_reducible repeat (first | refine blk_drewN ?_ _ | refine blk_drew ?_ | refine blk_alloc ?_ _)); refine blk_put (cs := #[.int .i64 t106, .int .i64 0]) ?_ 1 _ rfl; (with_reducible repeat (first | refine blk_drewN ?_ _ | refine blk_drew ?_ | refine blk_alloc ?_ _)); refine blk_put (cs := #[.int .i64 0, .int .i64 0]) ?_ 0 _ rfl; (with_reducible repeat (first | refine blk_drewN ?_ _ | refine blk_drew ?_ | refine blk_alloc ?_ _)); exact BK109.out) hb); replace HB := bs hb; (try clear hb)) | ((with_reducible refine gate_callee (f := 32) rfl ?_); refine goesL_ (some 22) rfl rfl Tryz.func32 (by kernel_rfl) rfl #[.agg #[.int .i64 t110, .int .i64 t111], .agg #[.int .i64 12582912, .int .i64 (-22)]] rfl az ?_; (with_reducible refine (real_Div.calls k t110 t111 12582912 (-22) t112 t113 t114 _ A5.out).mono ?_); rintro e w15 ⟨rfl, hb⟩; refine ⟨_, rfl, ?_⟩; replace BK109 := kb BK109 hb; replace HB := bs hb; (try clear hb)) | ((with_reducible refine gate_dst (N := 3) rfl ?_); refine box_event ?hg (N := 3) ?hd (cs := #[.int .i64 0, .int .i64 0]) (t := 23) ?hr ?_; (case hd => rfl); (case hg => rfl); (case hr => first | (go_simp; done) | (go_simp; rfl)); intro gb115 hg w16 hbox hb; have BK115 := Aside0.mk hbox; have GW115 := ge hg; have GE115 := ge hg; have NB109_115 := nl BK109 hg; have NB115_109 := nr BK109 hg; replace BK109 := kb BK109 hb; replace HB := bs hb; clear hb hbox hg; have hnb17 := NB115_109.out; have hnc17 := NB109_115.out; have hcz18_0 := c20 BK115; have hcz18_1 := c21 BK115; have hfz18_0 := blk_frozen BK115.out 0; have hfz18_1 := blk_frozen BK115.out 1) | ((with_reducible refine gate_callee (f := 25) rfl ?_); refine goesL_ (some 26) rfl rfl Tryz.func25 (by kernel_rfl) rfl #[.string (⟨#[48, 46, 49]⟩ : ByteArray)] rfl az ?_; (with_reducible refine (real_Parse.calls01 k t116 t117 t118 _ A6.out).mono ?_); rintro e w19 ⟨rfl, hb⟩; refine ⟨_, rfl, ?_⟩; replace BK109 := Aside0.mk (blk_below (g := gb109) (o := .cells #[.int .i64 t106, .int .i64 t107] 23 (0, 0)) (by (with_reducible repeat (first | refine blk_drewN ?_ _ | refine blk_drew ?_ | refine blk_alloc ?_ _)); refine blk_far ?_ NB109_115.out _; (with_reducible repeat (first | refine blk_drewN ?_ _ | refine blk_drew ?_ | refine blk_alloc ?_ _)); refine blk_far ?_ NB109_115.out _; (with_reducible repeat (first | refine blk_drewN ?_ _ | refine blk_drew ?_ | refine blk_alloc ?_ _)); exact BK109.out) hb); replace BK115 := Aside0.mk (blk_below (g := gb115) (o := .cells #[.int .i64 t112, .int .i64 t113] 23 (0, 0)) (by (with_reducible repeat (first | refine blk_drewN ?_ _ | refine blk_drew ?_ | refine blk_alloc ?_ _)); refine blk_put (cs := #[.int .i64 t112, .int .i64 0]) ?_ 1 _ rfl; (with_reducible repeat (first | refine blk_drewN ?_ _ | refine blk_drew ?_ | refine blk_alloc ?_ _)); refine blk_put (cs := #[.int .i64 0, .int .i64 0]) ?_ 0 _ rfl; (with_reducible repeat (first | refine blk_drewN ?_ _ | refine blk_drew ?_ | refine blk_alloc ?_ _)); exact BK115.out) hb); replace HB := bs hb; (try clear hb)) | ((with_reducible refine gate_dst (N := 5) rfl ?_); refine box_event ?hg (N := 5) ?hd (cs := #[.int .i64 0, .int .i64 0]) (t := 23) ?hr ?_; (case hd => rfl); (case hg => rfl); (case hr => first | (go_simp; done) | (go_simp; rfl)); intro gb119 hg w20 hbox hb; have BK119 := Aside0.mk hbox; have GW119 := ge hg; have GE119 := ge hg; have NB109_119 := nl BK109 hg; have NB119_109 := nr BK109 hg; have NB115_119 := nl BK115 hg; have NB119_115 := nr BK115 hg; replace BK109 := kb BK109 hb; replace BK115 := kb BK115 hb; replace HB := bs hb; clear hb hbox hg; have hnb21 := NB119_109.out; have hnc21 := NB109_119.out; have hnb22 := NB119_115.out; have hnc22 := NB115_119.out; have hcz23_0 := c20 BK119; have hcz23_1 := c21 BK119; have hfz23_0 := blk_frozen BK119.out 0; have hfz23_1 := blk_frozen BK119.out 1; have hcz24_0 := c20 BK115; have hcz24_1 := c21 BK115; have hfz24_0 := blk_frozen BK115.out 0; have hfz24_1 := blk_frozen BK115.out 1) | ((with_reducible refine gate_callee (f := 27) rfl ?_); refine goesL_ (some 31) rfl rfl Tryz.func27 (by kernel_rfl) rfl #[.agg #[.int .i64 t112, .int .i64 t113]] rfl az ?_; (with_reducible refine (real_Print.calls1 k t112 t113 t120 t121 _ A7.out (third_is A4.out A5.out) (tabAt HT.out bz)).mono ?_); rintro e w25 ⟨rfl, hb⟩; refine ⟨_, rfl, ?_⟩; replace BK109 := Aside0.mk (blk_below (g := gb109) (o := .cells #[.int .i64 t106, .int .i64 t107] 23 (0, 0)) (by (with_reducible repeat (first | refine blk_drewN ?_ _ | refine blk_drew ?_ | refine blk_alloc ?_ _)); refine blk_far ?_ NB109_119.out _; (with_reducible repeat (first | refine blk_drewN ?_ _ | refine blk_drew ?_ | refine blk_alloc ?_ _)); refine blk_far ?_ NB109_119.out _; (with_reducible repeat (first | refine blk_drewN ?_ _ | refine blk_drew ?_ | refine blk_alloc ?_ _)); exact BK109.out) hb); replace BK115 := Aside0.mk (blk_below (g := gb115) (o := .cells #[.int .i64 t112, .int .i64 t113] 23 (0, 0)) (by (with_reducible repeat (first | refine blk_drewN ?_ _ | refine blk_drew ?_ | refine blk_alloc ?_ _)); refine blk_far ?_ NB115_119.out _; (with_reducible repeat (first | refine blk_drewN ?_ _ | refine blk_drew ?_ | refine blk_alloc ?_ _)); refine blk_far ?_ NB115_119.out _; (with_reducible repeat (first | refine blk_drewN ?_ _ | refine blk_drew ?_ | refine blk_alloc ?_ _)); exact BK115.out) hb); replace BK119 := Aside0.mk (blk_below (g := gb119) (o := .cells #[.int .i64 t116, .int .i64 t117] 23 (0, 0)) (by (with_reducible repeat (first | refine blk_drewN ?_ _ | refine blk_drew ?_ | refine blk_alloc ?_ _)); refine blk_put (cs := #[.int .i64 t116, .int .i64 0]) ?_ 1 _ rfl; (with_reducible repeat (first | refine blk_drewN ?_ _ | refine blk_drew ?_ | refine blk_alloc ?_ _)); refine blk_put (cs := #[.int .i64 0, .int .i64 0]) ?_ 0 _ rfl; (with_reducible repeat (first | refine blk_drewN ?_ _ | refine blk_drew ?_ | refine blk_alloc ?_ _)); exact BK119.out) hb); replace HB := bs hb; (try clear hb)))
 (try simp only [Act.put, List.setIfInBounds_toArray, List.set_cons_zero, List.set_cons_succ])
 go_cut [60] (fun v60 wc => ∃ (kq : Nat) (x60_7 : Bool), v60 = .bool x60_7 ∧ Aside0 (manorboylaw02_sanity.j0 kq x60_7 = some r) ∧ Aside0 (kq ≤ k) ∧ Aside0 (wc.heap[gb109]? = some (.cells #[.int .i64 t106, .int .i64 t107] 23 (0, 0))) ∧ Aside0 (wc.heap[gb115]? = some (.cells #[.int .i64 t112, .int .i64 t113] 23 (0, 0))) ∧ Aside0 (wc.heap[gb119]? = some (.cells #[.int .i64 t116, .int .i64 t117] 23 (0, 0))) ∧ Aside0 (Below w.heap.size w wc))
 case first => as_aux_lemma =>
  have H := HC8.out
  clear HC8
  replace H := Option.bind_eq_some_iff.mp H
  obtain ⟨⟨t122, t123⟩, A260, H⟩ := H
  try dsimp only at H
  have A26 := Aside0.mk A260
  clear A260
  replace H := Option.bind_eq_some_iff.mp H
  obtain ⟨t124, A270, H⟩ := H
  try dsimp only at H
  have A27 := Aside0.mk A270
  clear A270
  by_cases c28 : t124 = true
  ·subst c28
   rw [if_pos rfl] at H
   replace H := Option.bind_eq_some_iff.mp H
   obtain ⟨t125, A290, H⟩ := H
   try dsimp only at H
   have A29 := Aside0.mk A290
   clear A290
   by_cases c30 : t125 = true
   ·subst c30
    rw [if_pos rfl] at H
    replace H := Option.bind_eq_some_iff.mp H
    obtain ⟨t126, A310, H⟩ := H
    try dsimp only at H
    have A31 := Aside0.mk A310
    clear A310
    by_cases c32 : t126 = true
    ·subst c32
     rw [if_pos rfl] at H
     by_cases c33 : t121 = 0
     ·rw [if_pos c33] at H
      have c33b0 : (t121 == 0) = true := beq_iff_eq.mpr c33
      have c33b1 : (t121 != 0) = false := bne_eq_false_iff_eq.mpr c33
      clear c33
      (first | rw [c33b0] | (simp only [i64_w, i32_w]; rw [c33b0]) | skip)
      have H' := Aside0.mk H
      clear H
      try go_wp2
      replace BK109 := Aside0.mk (blk_drew BK109.out)
      replace BK115 := Aside0.mk (blk_drew BK115.out)
      replace BK119 := Aside0.mk (blk_drew BK119.out)
      replace HB := Aside0.mk (below_drew1 HB.out)
      refine start_ (n := 27) (S := fun w' => w'.cell? ⟨gb109, 0, none⟩ = some (.int .i64 t106) ∧ w'.cell? ⟨gb109, 1, none⟩ = some (.int .i64 t107) ∧ w'.cell? ⟨gb115, 0, none⟩ = some (.int .i64 t112) ∧ w'.cell? ⟨gb115, 1, none⟩ = some (.int .i64 t113) ∧ w'.cell? ⟨gb119, 0, none⟩ = some (.int .i64 t116) ∧ w'.cell? ⟨gb119, 1, none⟩ = some (.int .i64 t117)) (ds := []) #[false, false, false, false, false, false, false, false, false, false, false, false, false, false, false, false, false, false, false, false, false, false, false, false, false, false, false] (by kernel_rfl) rfl rfl ⟨(blk_cell BK109.out 0).trans rfl, (blk_cell BK109.out 1).trans rfl, (blk_cell BK115.out 0).trans rfl, (blk_cell BK115.out 1).trans rfl, (blk_cell BK119.out 0).trans rfl, (blk_cell BK119.out 1).trans rfl⟩ (fun hHeld => ?_); refine with_tabW manorboylaw02_sanity.tab5 manorboylaw02_sanity.bits5 (fun HT_ HW_ => ?_)
      generalize w25.drew = w34 at BK109 BK115 BK119 HB hHeld ⊢
      refine pur 1 (some 35) #[ff,tt,ff,ff,ff,ff,ff,ff,ff,ff,ff,ff,ff,ff,ff,ff,ff,ff,ff,ff,ff,ff,ff,ff,ff,ff,ff] ?_
      refine take_ (i := 0) (N := some 34) (v := ?_) (a' := ?_) #[true, true, false, false, false, false, false, false, false, false, false, false, false, false, false, false, false, false, false, false, false, false, false, false, false, false, false] rfl rfl (take_ofW HT_.out HW_.out (by kernel_rfl)) (fun _ _ _ h => h) (Or.inl ⟨by rfl, ?_⟩) hHeld ?_ ?_
      rotate_left
      ·rintro w' ⟨s0, s1, s2, s3, s4, s5⟩
       go_simp
       with_reducible rfl
      rotate_left
      ·simp only [Act.put, List.setIfInBounds_toArray, List.set_cons_zero, List.set_cons_succ, i64_w, i32_w]
       rfl
      refine one_ (i := 2) (N := some 36) #[true, true, true, false, false, false, false, false, false, false, false, false, false, false, false, false, false, false, false, false, false, false, false, false, false, false, false] rfl rfl (one_of HT_.out (by kernel_rfl)) (by decide) (fun K hK => ?_)
      refine goes_ Tryz.func49 (by kernel_rfl) rfl #[.int .i64 0] (by rfl) rfl rfl az ?_
      with_reducible refine (manorboylaw02_two.calls 0 t122 t123 _ A26.out).mono ?_
      rintro e w35 ⟨rfl, hb⟩
      refine ⟨_, rfl, ?_⟩
      replace BK109 := kb BK109 hb
      replace BK115 := kb BK115 hb
      replace BK119 := kb BK119 hb
      replace HB := bs hb
      (try clear hb)
      refine hK.out _ _ ⟨(blk_cell BK109.out 0).trans rfl, (blk_cell BK109.out 1).trans rfl, (blk_cell BK115.out 0).trans rfl, (blk_cell BK115.out 1).trans rfl, (blk_cell BK119.out 0).trans rfl, (blk_cell BK119.out 1).trans rfl⟩ (fun hHeld => ?_)
      clear hK K
      refine norm_ (a' := ?_) ?_ ?_
      rotate_left
      ·show Act.put _ (some 36) _ = _
       simp only [Act.put, List.setIfInBounds_toArray, List.set_cons_zero, List.set_cons_succ, i64_w, i32_w]
       rfl
      refine one_ (i := 3) (N := some 37) #[true, true, true, true, false, false, false, false, false, false, false, false, false, false, false, false, false, false, false, false, false, false, false, false, false, false, false] rfl rfl (one_of HT_.out (by kernel_rfl)) (by decide) (fun K hK => ?_)
      refine goes_ Tryz.func39 (by kernel_rfl) rfl #[.agg #[.int .i64 t106, .int .i64 t107], .int .i64 t108, .agg #[.int .i64 t122, .int .i64 t123]] (by rfl) rfl rfl az ?_
      with_reducible refine (manorboylaw02_is.calls t106 t107 t108 t122 t123 true _ A27.out).mono ?_
      rintro e w36 ⟨rfl, hb⟩
      refine ⟨_, rfl, ?_⟩
      replace BK109 := kb BK109 hb
      replace BK115 := kb BK115 hb
      replace BK119 := kb BK119 hb
      replace HB := bs hb
      (try clear hb)
      refine hK.out _ _ ⟨(blk_cell BK109.out 0).trans rfl, (blk_cell BK109.out 1).trans rfl, (blk_cell BK115.out 0).trans rfl, (blk_cell BK115.out 1).trans rfl, (blk_cell BK119.out 0).trans rfl, (blk_cell BK119.out 1).trans rfl⟩ (fun hHeld => ?_)
      clear hK K
      refine norm_ (a' := ?_) ?_ ?_
      rotate_left
      ·show Act.put _ (some 37) _ = _
       simp only [Act.put, List.setIfInBounds_toArray, List.set_cons_zero, List.set_cons_succ, i64_w, i32_w]
       rfl
      refine pur 4 (some 38) #[tt,tt,tt,tt,tt,ff,ff,ff,ff,ff,ff,ff,ff,ff,ff,ff,ff,ff,ff,ff,ff,ff,ff,ff,ff,ff,ff] ?_
      refine pur 5 (some 39) #[tt,tt,tt,tt,tt,tt,ff,ff,ff,ff,ff,ff,ff,ff,ff,ff,ff,ff,ff,ff,ff,ff,ff,ff,ff,ff,ff] ?_
      refine pur 7 (some 41) #[tt,tt,tt,tt,tt,tt,ff,tt,ff,ff,ff,ff,ff,ff,ff,ff,ff,ff,ff,ff,ff,ff,ff,ff,ff,ff,ff] ?_
      refine pur 8 (some 42) #[tt,tt,tt,tt,tt,tt,ff,tt,tt,ff,ff,ff,ff,ff,ff,ff,ff,ff,ff,ff,ff,ff,ff,ff,ff,ff,ff] ?_
      refine take_ (i := 6) (N := some 40) (v := ?_) (a' := ?_) #[true, true, true, true, true, true, true, true, true, false, false, false, false, false, false, false, false, false, false, false, false, false, false, false, false, false, false] rfl rfl (take_ofW HT_.out HW_.out (by kernel_rfl)) (fun _ _ _ h => h) (Or.inl ⟨by rfl, ?_⟩) hHeld ?_ ?_
      rotate_left
      ·rintro w' ⟨s0, s1, s2, s3, s4, s5⟩
       go_simp
       with_reducible rfl
      rotate_left
      ·simp only [Act.put, List.setIfInBounds_toArray, List.set_cons_zero, List.set_cons_succ, i64_w, i32_w]
       rfl
      refine one_ (i := 9) (N := some 43) #[true, true, true, true, true, true, true, true, true, true, false, false, false, false, false, false, false, false, false, false, false, false, false, false, false, false, false] rfl rfl (one_of HT_.out (by kernel_rfl)) (by decide) (fun K hK => ?_)
      refine goes_ Tryz.func39 (by kernel_rfl) rfl #[.agg #[.int .i64 t112, .int .i64 t113], .int .i64 t114, .agg #[.int .i64 11184811, .int .i64 (-25)]] (by rfl) rfl rfl az ?_
      with_reducible refine (manorboylaw02_is.calls t112 t113 t114 11184811 (-25) true _ A29.out).mono ?_
      rintro e w37 ⟨rfl, hb⟩
      refine ⟨_, rfl, ?_⟩
      replace BK109 := kb BK109 hb
      replace BK115 := kb BK115 hb
      replace BK119 := kb BK119 hb
      replace HB := bs hb
      (try clear hb)
      refine hK.out _ _ ⟨(blk_cell BK109.out 0).trans rfl, (blk_cell BK109.out 1).trans rfl, (blk_cell BK115.out 0).trans rfl, (blk_cell BK115.out 1).trans rfl, (blk_cell BK119.out 0).trans rfl, (blk_cell BK119.out 1).trans rfl⟩ (fun hHeld => ?_)
      clear hK K
      refine norm_ (a' := ?_) ?_ ?_
      rotate_left
      ·show Act.put _ (some 43) _ = _
       simp only [Act.put, List.setIfInBounds_toArray, List.set_cons_zero, List.set_cons_succ, i64_w, i32_w]
       rfl
      refine pur 10 (some 44) #[tt,tt,tt,tt,tt,tt,tt,tt,tt,tt,tt,ff,ff,ff,ff,ff,ff,ff,ff,ff,ff,ff,ff,ff,ff,ff,ff] ?_
      refine pur 11 (some 45) #[tt,tt,tt,tt,tt,tt,tt,tt,tt,tt,tt,tt,ff,ff,ff,ff,ff,ff,ff,ff,ff,ff,ff,ff,ff,ff,ff] ?_
      refine pur 12 (some 46) #[tt,tt,tt,tt,tt,tt,tt,tt,tt,tt,tt,tt,tt,ff,ff,ff,ff,ff,ff,ff,ff,ff,ff,ff,ff,ff,ff] ?_
      refine pur 14 (some 48) #[tt,tt,tt,tt,tt,tt,tt,tt,tt,tt,tt,tt,tt,ff,tt,ff,ff,ff,ff,ff,ff,ff,ff,ff,ff,ff,ff] ?_
      refine pur 15 (some 49) #[tt,tt,tt,tt,tt,tt,tt,tt,tt,tt,tt,tt,tt,ff,tt,tt,ff,ff,ff,ff,ff,ff,ff,ff,ff,ff,ff] ?_
      refine take_ (i := 13) (N := some 47) (v := ?_) (a' := ?_) #[true, true, true, true, true, true, true, true, true, true, true, true, true, true, true, true, false, false, false, false, false, false, false, false, false, false, false] rfl rfl (take_ofW HT_.out HW_.out (by kernel_rfl)) (fun _ _ _ h => h) (Or.inl ⟨by rfl, ?_⟩) hHeld ?_ ?_
      rotate_left
      ·rintro w' ⟨s0, s1, s2, s3, s4, s5⟩
       go_simp
       with_reducible rfl
      rotate_left
      ·simp only [Act.put, List.setIfInBounds_toArray, List.set_cons_zero, List.set_cons_succ, i64_w, i32_w]
       rfl
      refine one_ (i := 16) (N := some 50) #[true, true, true, true, true, true, true, true, true, true, true, true, true, true, true, true, true, false, false, false, false, false, false, false, false, false, false] rfl rfl (one_of HT_.out (by kernel_rfl)) (by decide) (fun K hK => ?_)
      refine goes_ Tryz.func39 (by kernel_rfl) rfl #[.agg #[.int .i64 t116, .int .i64 t117], .int .i64 t118, .agg #[.int .i64 13421773, .int .i64 (-27)]] (by rfl) rfl rfl az ?_
      with_reducible refine (manorboylaw02_is.calls t116 t117 t118 13421773 (-27) true _ A31.out).mono ?_
      rintro e w38 ⟨rfl, hb⟩
      refine ⟨_, rfl, ?_⟩
      replace BK109 := kb BK109 hb
      replace BK115 := kb BK115 hb
      replace BK119 := kb BK119 hb
      replace HB := bs hb
      (try clear hb)
      refine hK.out _ _ ⟨(blk_cell BK109.out 0).trans rfl, (blk_cell BK109.out 1).trans rfl, (blk_cell BK115.out 0).trans rfl, (blk_cell BK115.out 1).trans rfl, (blk_cell BK119.out 0).trans rfl, (blk_cell BK119.out 1).trans rfl⟩ (fun hHeld => ?_)
      clear hK K
      refine norm_ (a' := ?_) ?_ ?_
      rotate_left
      ·show Act.put _ (some 50) _ = _
       simp only [Act.put, List.setIfInBounds_toArray, List.set_cons_zero, List.set_cons_succ, i64_w, i32_w]
       rfl
      refine pur 17 (some 51) #[tt,tt,tt,tt,tt,tt,tt,tt,tt,tt,tt,tt,tt,tt,tt,tt,tt,tt,ff,ff,ff,ff,ff,ff,ff,ff,ff] ?_
      refine pur 18 (some 52) #[tt,tt,tt,tt,tt,tt,tt,tt,tt,tt,tt,tt,tt,tt,tt,tt,tt,tt,tt,ff,ff,ff,ff,ff,ff,ff,ff] ?_
      refine pur 19 (some 53) #[tt,tt,tt,tt,tt,tt,tt,tt,tt,tt,tt,tt,tt,tt,tt,tt,tt,tt,tt,tt,ff,ff,ff,ff,ff,ff,ff] ?_
      refine pur 20 (some 54) #[tt,tt,tt,tt,tt,tt,tt,tt,tt,tt,tt,tt,tt,tt,tt,tt,tt,tt,tt,tt,tt,ff,ff,ff,ff,ff,ff] ?_
      refine pur 21 (some 55) #[tt,tt,tt,tt,tt,tt,tt,tt,tt,tt,tt,tt,tt,tt,tt,tt,tt,tt,tt,tt,tt,tt,ff,ff,ff,ff,ff] ?_
      refine pur 22 (some 56) #[tt,tt,tt,tt,tt,tt,tt,tt,tt,tt,tt,tt,tt,tt,tt,tt,tt,tt,tt,tt,tt,tt,tt,ff,ff,ff,ff] ?_
      refine pur 23 (some 57) #[tt,tt,tt,tt,tt,tt,tt,tt,tt,tt,tt,tt,tt,tt,tt,tt,tt,tt,tt,tt,tt,tt,tt,tt,ff,ff,ff] ?_
      refine pur 24 (some 58) #[tt,tt,tt,tt,tt,tt,tt,tt,tt,tt,tt,tt,tt,tt,tt,tt,tt,tt,tt,tt,tt,tt,tt,tt,tt,ff,ff] ?_
      refine pur 25 (some 59) #[tt,tt,tt,tt,tt,tt,tt,tt,tt,tt,tt,tt,tt,tt,tt,tt,tt,tt,tt,tt,tt,tt,tt,tt,tt,tt,ff] ?_
      refine pur 26 (some 60) #[tt,tt,tt,tt,tt,tt,tt,tt,tt,tt,tt,tt,tt,tt,tt,tt,tt,tt,tt,tt,tt,tt,tt,tt,tt,tt,tt] ?_
      refine done_ (done_of HT_.out (by kernel_rfl)) ?_
      try go_wp2
      go_meet
      case rel => exact ⟨_, ((t120.toList != ([48, 46, 51, 51, 51, 51, 51, 51, 51, 52] : List UInt8))), (by first | rfl | (simp; done) | (simp [*]; done)), H', ⟨by first | omega | exact Nat.le_refl _⟩, ⟨kz BK109⟩, ⟨kz BK115⟩, ⟨kz BK119⟩, ⟨bz⟩⟩
     ·rw [if_neg c33] at H
      first | exact absurd (Option.some.inj H) (by rw [hr]; decide) | exact absurd H (by rw [hr]; exact manorboylaw02_sanity.no _)
    ·replace c32 := Bool.eq_false_iff.mpr c32
     subst c32
     rw [if_neg (show ¬ (false = true) by decide)] at H
     first | exact absurd (Option.some.inj H) (by rw [hr]; decide) | exact absurd H (by rw [hr]; exact manorboylaw02_sanity.no _)
   ·replace c30 := Bool.eq_false_iff.mpr c30
    subst c30
    rw [if_neg (show ¬ (false = true) by decide)] at H
    first | exact absurd (Option.some.inj H) (by rw [hr]; decide) | exact absurd H (by rw [hr]; exact manorboylaw02_sanity.no _)
  ·replace c28 := Bool.eq_false_iff.mpr c28
   subst c28
   rw [if_neg (show ¬ (false = true) by decide)] at H
   first | exact absurd (Option.some.inj H) (by rw [hr]; decide) | exact absurd H (by rw [hr]; exact manorboylaw02_sanity.no _)
 case rest => as_aux_lemma =>
  clear HC8
  try clear c28
  try clear c30
  obtain ⟨kq, x60_7, rfl, HA, HJ7, BK109, BK115, BK119, HB⟩ := hcut
  cases kq with
  | zero => exact absurd HA.out (by simp [manorboylaw02_sanity.j0])
  | succ kj7 =>
   have H := HA.out
   clear HA
   simp only [manorboylaw02_sanity.j0] at H
   by_cases c56 : x60_7 = true
   ·subst c56
    rw [if_pos rfl] at H
    first | exact absurd (Option.some.inj H) (by rw [hr]; decide) | exact absurd H (by rw [hr]; exact manorboylaw02_sanity.no _)
   ·replace c56 := Bool.eq_false_iff.mpr c56
    subst c56
    rw [if_neg (show ¬ (false = true) by decide)] at H
    replace H := Option.bind_eq_some_iff.mp H
    obtain ⟨⟨t127, t128⟩, A570, H⟩ := H
    try dsimp only at H
    have A57 := Aside0.mk A570
    clear A570
    replace H := Option.bind_eq_some_iff.mp H
    obtain ⟨⟨t129, t130⟩, A580, H⟩ := H
    try dsimp only at H
    have A58 := Aside0.mk A580
    clear A580
    replace H := Option.bind_eq_some_iff.mp H
    obtain ⟨⟨t131, t132, t133⟩, A590, H⟩ := H
    try dsimp only at H
    have A59 := Aside0.mk A590
    clear A590
    replace H := Option.bind_eq_some_iff.mp H
    obtain ⟨⟨t134, t135, t136⟩, A600, H⟩ := H
    try dsimp only at H
    have A60 := Aside0.mk A600
    clear A600
    replace H := Option.bind_eq_some_iff.mp H
    obtain ⟨⟨t137, t138⟩, A610, H⟩ := H
    try dsimp only at H
    have A61 := Aside0.mk A610
    clear A610
    by_cases c62 : t128 = 0
    ·rw [if_pos c62] at H
     have c62b0 : (t128 == 0) = true := beq_iff_eq.mpr c62
     have c62b1 : (t128 != 0) = false := bne_eq_false_iff_eq.mpr c62
     clear c62
     by_cases c63 : t130 = 0
     ·rw [if_pos c63] at H
      have c63b0 : (t130 == 0) = true := beq_iff_eq.mpr c63
      have c63b1 : (t130 != 0) = false := bne_eq_false_iff_eq.mpr c63
      clear c63
      by_cases c64 : t127 = (-2)
      ·rw [if_pos c64] at H
       have c64b0 : (t127 == (-2)) = true := beq_iff_eq.mpr c64
       have c64b1 : (t127 != (-2)) = false := bne_eq_false_iff_eq.mpr c64
       clear c64
       by_cases c65 : t129 = 3
       ·rw [if_pos c65] at H
        have c65b0 : (t129 == 3) = true := beq_iff_eq.mpr c65
        have c65b1 : (t129 != 3) = false := bne_eq_false_iff_eq.mpr c65
        clear c65
        by_cases c66 : t133 = 3
        ·rw [if_pos c66] at H
         have c66b0 : (t133 == 3) = true := beq_iff_eq.mpr c66
         have c66b1 : (t133 != 3) = false := bne_eq_false_iff_eq.mpr c66
         clear c66
         by_cases c67 : t136 = 5
         ·rw [if_pos c67] at H
          have c67b0 : (t136 == 5) = true := beq_iff_eq.mpr c67
          have c67b1 : (t136 != 5) = false := bne_eq_false_iff_eq.mpr c67
          clear c67
          by_cases c68 : t138 = 0
          ·rw [if_pos c68] at H
           have c68b0 : (t138 == 0) = true := beq_iff_eq.mpr c68
           have c68b1 : (t138 != 0) = false := bne_eq_false_iff_eq.mpr c68
           clear c68
           by_cases c69 : t137.toList = ([55, 46, 48, 101, 45, 52, 54] : List UInt8)
           ·rw [if_pos c69] at H
            have c69b0 : (t137.toList == ([55, 46, 48, 101, 45, 52, 54] : List UInt8)) = true := beq_iff_eq.mpr c69
            have c69b1 : (t137.toList != ([55, 46, 48, 101, 45, 52, 54] : List UInt8)) = false := bne_eq_false_iff_eq.mpr c69
            clear c69
            replace H := Option.bind_eq_some_iff.mp H
            obtain ⟨⟨t139, t140⟩, A700, H⟩ := H
            try dsimp only at H
            have A70 := Aside0.mk A700
            clear A700
            replace H := Option.bind_eq_some_iff.mp H
            obtain ⟨⟨t141, t142⟩, A710, H⟩ := H
            try dsimp only at H
            have A71 := Aside0.mk A710
            clear A710
            obtain rfl := Option.some.inj H
            go_wp2_with (first | ((with_reducible refine gate_callee (f := 21) rfl ?_); refine goesL_ (some 63) rfl rfl Tryz.func21 (by kernel_rfl) rfl #[.agg #[.int .i64 (-12582912), .int .i64 (-23)]] rfl az ?_; (with_reducible refine (real_Entier.calls (-12582912) (-23) t127 t128 _ A57.out).mono ?_); rintro e w72 ⟨rfl, hb⟩; refine ⟨_, rfl, ?_⟩; replace BK109 := kb BK109 hb; replace BK115 := kb BK115 hb; replace BK119 := kb BK119 hb; replace HB := bs hb; (try clear hb)) | ((with_reducible refine gate_callee (f := 22) rfl ?_); refine goesL_ (some 68) rfl rfl Tryz.func22 (by kernel_rfl) rfl #[.agg #[.int .i64 10485760, .int .i64 (-22)]] rfl az ?_; (with_reducible refine (real_Round.calls 10485760 (-22) t129 t130 _ A58.out).mono ?_); rintro e w73 ⟨rfl, hb⟩; refine ⟨_, rfl, ?_⟩; replace BK109 := kb BK109 hb; replace BK115 := kb BK115 hb; replace BK119 := kb BK119 hb; replace HB := bs hb; (try clear hb)) | ((with_reducible refine gate_callee (f := 25) rfl ?_); refine goesL_ (some 72) rfl rfl Tryz.func25 (by kernel_rfl) rfl #[.string (⟨#[49, 101, 54, 48]⟩ : ByteArray)] rfl az ?_; (with_reducible refine (real_Parse.calls1e kj7 t131 t132 t133 _ A59.out).mono ?_); rintro e w74 ⟨rfl, hb⟩; refine ⟨_, rfl, ?_⟩; replace BK109 := kb BK109 hb; replace BK115 := kb BK115 hb; replace BK119 := kb BK119 hb; replace HB := bs hb; (try clear hb)) | ((with_reducible refine gate_callee (f := 17) rfl ?_); refine goesL_ (some 77) rfl rfl Tryz.func17 (by kernel_rfl) rfl #[.agg #[.int .i64 0, .int .i64 0], .int .i64 (-1)] rfl az ?_; (with_reducible refine (real_PowZ.calls 0 0 (-1) t134 t135 t136 _ A60.out).mono ?_); rintro e w75 ⟨rfl, hb⟩; refine ⟨_, rfl, ?_⟩; replace BK109 := kb BK109 hb; replace BK115 := kb BK115 hb; replace BK119 := kb BK119 hb; replace HB := bs hb; (try clear hb)) | ((with_reducible refine gate_callee (f := 27) rfl ?_); refine goesL_ (some 82) rfl rfl Tryz.func27 (by kernel_rfl) rfl #[.agg #[.int .i64 1, .int .i64 (-150)]] rfl az ?_; (with_reducible refine (real_Print.calls1 kj7 1 (-150) t137 t138 _ A61.out (Or.inr ⟨rfl, rfl⟩) (tabAt HT.out bz)).mono ?_); rintro e w76 ⟨rfl, hb⟩; refine ⟨_, rfl, ?_⟩; replace BK109 := kb BK109 hb; replace BK115 := kb BK115 hb; replace BK119 := kb BK119 hb; replace HB := bs hb; (try clear hb)) | (go_at_call 31; (with_reducible refine (real_FromIntN.calls kj7 16777217 t139 t140 _ A70.out).mono ?_); rintro e w77 ⟨rfl, hb⟩; replace BK109 := kb BK109 hb; replace BK115 := kb BK115 hb; replace BK119 := kb BK119 hb; replace HB := bs hb; (try clear hb)) | (go_at_call 49; (with_reducible refine (manorboylaw02_two.calls 24 t141 t142 _ A71.out).mono ?_); rintro e w78 ⟨rfl, hb⟩; replace BK109 := kb BK109 hb; replace BK115 := kb BK115 hb; replace BK119 := kb BK119 hb; replace HB := bs hb; (try clear hb)))
            go_ret
            exact ⟨by first | rfl | (simp [errW_none, errW_some] <;> rfl) | (simp [*, errW_none, errW_some] <;> rfl), bz⟩
           ·rw [if_neg c69] at H
            first | exact absurd (Option.some.inj H) (by rw [hr]; decide) | exact absurd H (by rw [hr]; exact manorboylaw02_sanity.no _)
          ·rw [if_neg c68] at H
           first | exact absurd (Option.some.inj H) (by rw [hr]; decide) | exact absurd H (by rw [hr]; exact manorboylaw02_sanity.no _)
         ·rw [if_neg c67] at H
          first | exact absurd (Option.some.inj H) (by rw [hr]; decide) | exact absurd H (by rw [hr]; exact manorboylaw02_sanity.no _)
        ·rw [if_neg c66] at H
         first | exact absurd (Option.some.inj H) (by rw [hr]; decide) | exact absurd H (by rw [hr]; exact manorboylaw02_sanity.no _)
       ·rw [if_neg c65] at H
        first | exact absurd (Option.some.inj H) (by rw [hr]; decide) | exact absurd H (by rw [hr]; exact manorboylaw02_sanity.no _)
      ·rw [if_neg c64] at H
       first | exact absurd (Option.some.inj H) (by rw [hr]; decide) | exact absurd H (by rw [hr]; exact manorboylaw02_sanity.no _)
     ·rw [if_neg c63] at H
      first | exact absurd (Option.some.inj H) (by rw [hr]; decide) | exact absurd H (by rw [hr]; exact manorboylaw02_sanity.no _)
    ·rw [if_neg c62] at H
     first | exact absurd (Option.some.inj H) (by rw [hr]; decide) | exact absurd H (by rw [hr]; exact manorboylaw02_sanity.no _)
end Go.Proofs.YteigbokklclmbaaGreatDoor.Z.Y
end
section
namespace Go.Proofs.YteigbokklclmbaaGreatDoor.Z.Y
open Go Go.RowKit Go.Proofs.YteigbokklclmbaaGreatDoor.Given Go.Proofs.YteigbokklclmbaaGreatDoorW.PrintWords Go.Proofs.YteigbokklclmbaaGreatDoorW.PrintLast Go.Proofs.YteigbokklclmbaaGreatDoorW.PrintMore
theorem sanity_ok : manorboylaw02_sanity.f 400 = some true := by kernel_rfl
end Go.Proofs.YteigbokklclmbaaGreatDoor.Z.Y
end
section
namespace Go.Proofs.YteigbokklclmbaaGreatDoor.Z.Y.V
open Go.RowKit Go.Proofs.YteigbokklclmbaaGreatDoor.Given Go.Proofs.YteigbokklclmbaaGreatDoorW.PrintWords Go.Proofs.YteigbokklclmbaaGreatDoorW.PrintLast Go.Proofs.YteigbokklclmbaaGreatDoorW.PrintMore
attribute [local go_sem] max2_int min2_int max_two min_two max_three min_three max_four min_four   -- for this text's walks alone



def errW : Option Int → Value
 | none => .nilIface
 | some c => .iface 0 (.int .i64 c)
theorem errW_none : errW none = .nilIface := rfl
theorem errW_some (c : Int) : errW (some c) = .iface 0 (.int .i64 c) := rfl

-- the values' own types


theorem eqA23 (d : Nat) (w : World) (x0 y0 : Int) (x1 y1 : Int) :
  (Op.equalIn (d + 2) 23 (.agg #[.int .i64 x0, .int .i64 x1]) (.agg #[.int .i64 y0, .int .i64 y1])).run Tryz.prog w = .ok (x0 == y0 && (x1 == y1)) w := by
 refine eqA_of Tryz.underlying23 (by kernel_rfl) ?_
 refine eqf_cons (by rfl) (by go_simp; rfl) (by go_simp; rfl) (by go_simp) ?_
 exact eqf_last (by rfl) (by go_simp; rfl) (by go_simp; rfl) (by go_simp)
end Go.Proofs.YteigbokklclmbaaGreatDoor.Z.Y.V
end
section
namespace Go.Proofs.YteigbokklclmbaaGreatDoor.M
open Go Go.RowKit Go.Proofs.YteigbokklclmbaaGreatDoor.Given Go.Proofs.YteigbokklclmbaaGreatDoorW.PrintWords Go.Proofs.YteigbokklclmbaaGreatDoorW.PrintLast Go.Proofs.YteigbokklclmbaaGreatDoorW.PrintMore Go.Proofs.YteigbokklclmbaaGreatDoor.Z Go.Proofs.YteigbokklclmbaaGreatDoor.Z.Y Go.Proofs.YteigbokklclmbaaGreatDoor.Z.Y.V
abbrev B15 : Nat := 32768
abbrev E (n : Nat) : List Int := dg B15 n
theorem C2 : 2 ≤ B15 := by decide
theorem pow15 (n : Nat) : B15 ^ n = 2 ^ (15 * n) := by rw [Nat.pow_mul]
/-- A number of modest size: at most 8000 digits. -/
def Se (n : Nat) : Prop := (E n).length ≤ 8000
theorem Se.of {n : Nat} (h : bl n ≤ 15 * 8000) : Se n := by
  have key : ∀ L : Nat, bl n ≤ 15 * L → (E n).length ≤ L := fun L hL => by
    refine dg_len_le C2 L n ?_
    rw [pow15]
    exact bl_le_iff.1 hL
  exact key 8000 h
end Go.Proofs.YteigbokklclmbaaGreatDoor.M
end
section
namespace Go.Proofs.YteigbokklclmbaaGreatDoor.M
/-- The exponent (above the least one) and the mantissa of the real with an index. -/
def sh (i : Nat) : Nat := i / 8388608 - 1
def man (i : Nat) : Nat := i - sh i * 8388608
/-- The real with an index, in units of 2^-150. -/
def G (i : Nat) : Nat := man i * 2 ^ sh i
/-- The middle of two neighbours, in units of 2^-151. -/
def H (i : Nat) : Nat := G i + G (i + 1)
theorem G_succ (i : Nat) : G (i + 1) = G i + 2 ^ sh i := by
  have hs : (sh (i + 1) = sh i ∧ man (i + 1) = man i + 1) ∨ (sh (i + 1) = sh i + 1 ∧ man i = 16777215 ∧ man (i + 1) = 8388608) := by
    unfold man sh; omega
  unfold G
  rcases hs with ⟨h1, h2⟩ | ⟨h1, h2, h3⟩
  · rw [h1, h2, Nat.add_mul, Nat.one_mul]
  · rw [h1, h2, h3, Nat.pow_succ]; omega
theorem G_zero : G 0 = 0 := by unfold G man sh; rfl
theorem G_lt_succ (i : Nat) : G i < G (i + 1) := by
  rw [G_succ]; have := Nat.two_pow_pos (sh i); omega
theorem G_lt {i j : Nat} (h : i < j) : G i < G j := by
  induction h with
  | refl => exact G_lt_succ i
  | step _ ih => exact Nat.lt_trans ih (G_lt_succ _)
theorem G_le {i j : Nat} (h : i ≤ j) : G i ≤ G j := by
  rcases Nat.lt_or_ge i j with h' | h'
  · exact Nat.le_of_lt (G_lt h')
  · rw [Nat.le_antisymm h h']; exact Nat.le_refl _
theorem G_inj {i j : Nat} (h : G i = G j) : i = j := by
  rcases Nat.lt_trichotomy i j with h' | h' | h'
  · have := G_lt h'; omega
  · exact h'
  · have := G_lt h'; omega
theorem H_lt {i j : Nat} (h : i < j) : H i < H j := by
  unfold H; have h1 := G_lt h; have h2 := G_lt (show i + 1 < j + 1 by omega); omega
theorem H_le {i j : Nat} (h : i ≤ j) : H i ≤ H j := by
  rcases Nat.lt_or_ge i j with h' | h'
  · exact Nat.le_of_lt (H_lt h')
  · rw [Nat.le_antisymm h h']; exact Nat.le_refl _
theorem H_inj {i j : Nat} (h : H i = H j) : i = j := by
  rcases Nat.lt_trichotomy i j with h' | h' | h'
  · have := H_lt h'; omega
  · exact h'
  · have := H_lt h'; omega
/-- A mantissa and an exponent, also where the mantissa is one too great. -/
theorem G_at (m u : Nat) (hm : m ≤ 16777216) (hu : u = 0 ∨ 8388608 ≤ m) : G (m + u * 8388608) = m * 2 ^ u := by
  unfold G
  rcases Nat.lt_or_ge m 16777216 with h | h
  · have h1 : sh (m + u * 8388608) = u := by unfold sh; omega
    have h2 : man (m + u * 8388608) = m := by unfold man; rw [h1]; omega
    rw [h1, h2]
  · have e : m = 16777216 := by omega
    subst e
    have h1 : sh (16777216 + u * 8388608) = u + 1 := by unfold sh; omega
    have h2 : man (16777216 + u * 8388608) = 8388608 := by unfold man; rw [h1]; omega
    rw [h1, h2, Nat.pow_succ]; omega
/-- I is the index of the rounded value of N / D, which is in units of 2^-150: to the nearest, on the middle to the even one. -/
def Rd (N D I : Nat) : Prop := (I = 0 ∨ (H (I - 1) * D ≤ 2 * N ∧ (H (I - 1) * D = 2 * N → I % 2 = 0))) ∧ 2 * N ≤ H I * D ∧ (2 * N = H I * D → I % 2 = 0)
theorem Rd.mono {N D I N' D' J : Nat} (hD : 0 < D) (hD' : 0 < D') (h : Rd N D I) (h' : Rd N' D' J) (hle : N * D' ≤ N' * D) : I ≤ J := by
  rcases Nat.lt_or_ge J I with hlt | hge
  · exfalso
    obtain ⟨h1, _⟩ := h
    obtain ⟨_, h2, h3⟩ := h'
    rcases h1 with h1 | ⟨h1, h4⟩
    · omega
    · have hH : H J ≤ H (I - 1) := H_le (by omega)
      -- H (I-1) * D * D' ≤ 2 N D' ≤ 2 N' D ≤ H J * D' * D
      have a1 : H (I - 1) * D * D' ≤ 2 * N * D' := Nat.mul_le_mul_right _ h1
      have a2 : 2 * N' * D ≤ H J * D' * D := Nat.mul_le_mul_right _ h2
      have a3 : H J * D' * D ≤ H (I - 1) * D' * D := Nat.mul_le_mul_right _ (Nat.mul_le_mul_right _ hH)
      have e1 : H (I - 1) * D' * D = H (I - 1) * D * D' := by rw [Nat.mul_assoc, Nat.mul_comm D' D, ← Nat.mul_assoc]
      have e2 : 2 * N * D' = 2 * (N * D') := Nat.mul_assoc _ _ _
      have e3 : 2 * N' * D = 2 * (N' * D) := Nat.mul_assoc _ _ _
      have b1 : H (I - 1) * D * D' = 2 * N * D' := by omega
      have b2 : 2 * N' * D = H J * D' * D := by omega
      have b3 : H J * D' * D = H (I - 1) * D' * D := by omega
      have c1 := Nat.eq_of_mul_eq_mul_right hD' b1
      have c2 := Nat.eq_of_mul_eq_mul_right hD b2
      have c3 := Nat.eq_of_mul_eq_mul_right hD' (Nat.eq_of_mul_eq_mul_right hD b3)
      have := h4 c1
      have := h3 c2
      have := H_inj c3
      omega
  · exact hge
theorem Rd.only {N D I N' D' J : Nat} (hD : 0 < D) (hD' : 0 < D') (h : Rd N D I) (h' : Rd N' D' J) (he : N * D' = N' * D) : I = J :=
  Nat.le_antisymm (h.mono hD hD' h' (Nat.le_of_eq he)) (h'.mono hD' hD h (Nat.le_of_eq he.symm))
theorem Rd.exact (I D : Nat) (hD : 0 < D) : Rd (G I * D) D I := by
  have h1 : 2 * (G I * D) = 2 * G I * D := (Nat.mul_assoc _ _ _).symm
  refine ⟨?_, ?_, ?_⟩
  · rcases Nat.eq_zero_or_pos I with h | h
    · exact .inl h
    · right
      have : H (I - 1) < 2 * G I := by
        unfold H; rw [show I - 1 + 1 = I by omega]; have := G_lt (show I - 1 < I by omega); omega
      have := Nat.mul_lt_mul_of_pos_right this hD
      rw [h1]
      exact ⟨Nat.le_of_lt this, fun e => by omega⟩
  · rw [h1]; refine Nat.mul_le_mul_right _ ?_
    unfold H; have := G_lt_succ I; omega
  · intro e
    rw [h1] at e
    have := Nat.eq_of_mul_eq_mul_right hD e
    unfold H at this; have := G_lt_succ I; omega
/-- The same fraction, the same index. -/
theorem Rd.congr {N D I N' D' : Nat} (hD : 0 < D) (hD' : 0 < D') (h : Rd N D I) (he : N * D' = N' * D) : Rd N' D' I := by
  have key : ∀ X : Nat, (X * D ≤ 2 * N ↔ X * D' ≤ 2 * N') ∧ (X * D = 2 * N ↔ X * D' = 2 * N') ∧ (2 * N ≤ X * D ↔ 2 * N' ≤ X * D') := by
    intro X
    have e1 : X * D * D' = X * D' * D := by rw [Nat.mul_assoc, Nat.mul_comm D D', ← Nat.mul_assoc]
    have e2 : 2 * N * D' = 2 * N' * D := by rw [Nat.mul_assoc, he, ← Nat.mul_assoc]
    refine ⟨?_, ?_, ?_⟩
    · rw [← Nat.mul_le_mul_right_iff hD', e1, e2, Nat.mul_le_mul_right_iff hD]
    · constructor
      · intro h; exact Nat.eq_of_mul_eq_mul_right hD (by rw [← e1, ← e2, h])
      · intro h; exact Nat.eq_of_mul_eq_mul_right hD' (by rw [e1, e2, h])
    · rw [← Nat.mul_le_mul_right_iff hD', e1, e2, Nat.mul_le_mul_right_iff hD]
  obtain ⟨h1, h2, h3⟩ := h
  refine ⟨?_, (key _).2.2.1 h2, fun e => h3 ((key _).2.1.2 e.symm).symm⟩
  rcases h1 with h1 | ⟨h1, h4⟩
  · exact .inl h1
  · exact .inr ⟨(key _).1.1 h1, fun e => h4 ((key _).2.1.2 e)⟩
/-- What the rounding by hand comes to: of n / d in units of 2^(u - 150), with a quotient of at most 24 bits, is rounded so. -/
theorem Rd.of_quo (n d u : Nat) (hd : 0 < d) (hq : n / d < 16777216) (hu : u = 0 ∨ 8388608 ≤ n / d) :
    Rd (n * 2 ^ u) d ((n / d + if d < 2 * (n % d) ∨ (d = 2 * (n % d) ∧ n / d % 2 = 1) then 1 else 0) + u * 8388608) := by
  have hn := Nat.div_add_mod n d
  have hr := Nat.mod_lt n hd
  generalize n / d = m at *
  generalize n % d = r at *
  have hP := Nat.two_pow_pos u
  have hG := G_at m u (by omega) hu
  have hG1 : G (m + u * 8388608 + 1) = (m + 1) * 2 ^ u := by
    have := G_at (m + 1) u (by omega) (by omega)
    rw [← this]; congr 1; omega
  have hH : H (m + u * 8388608) = (2 * m + 1) * 2 ^ u := by
    unfold H; rw [hG, hG1, ← Nat.add_mul]; congr 1; omega
  have hpar : (m + u * 8388608) % 2 = m % 2 := by omega
  have e1 : 2 * (n * 2 ^ u) = 2 * n * 2 ^ u := (Nat.mul_assoc _ _ _).symm
  have e2 : (2 * m + 1) * 2 ^ u * d = (2 * m + 1) * d * 2 ^ u := by rw [Nat.mul_assoc, Nat.mul_comm (2 ^ u) d, ← Nat.mul_assoc]
  have e3 : (2 * m + 1) * d = 2 * (d * m) + d := by rw [Nat.add_mul, Nat.one_mul, Nat.mul_assoc, Nat.mul_comm m d]
  have hlow : ∀ J, J = m + u * 8388608 → J = 0 ∨ (H (J - 1) * d ≤ 2 * (n * 2 ^ u) ∧ (H (J - 1) * d = 2 * (n * 2 ^ u) → J % 2 = 0)) := by
    intro J hJ
    rcases Nat.eq_zero_or_pos J with h | h
    · exact .inl h
    · right
      have h1 : H (J - 1) < 2 * (m * 2 ^ u) := by
        unfold H; rw [show J - 1 + 1 = J by omega]
        have h2 := G_lt (show J - 1 < J by omega)
        have h3 : G J = m * 2 ^ u := by rw [hJ, hG]
        omega
      have h2 := Nat.mul_lt_mul_of_pos_right h1 hd
      have h3 : 2 * (m * 2 ^ u) * d ≤ 2 * (n * 2 ^ u) := by
        rw [Nat.mul_assoc]
        refine Nat.mul_le_mul_left _ ?_
        rw [Nat.mul_assoc, Nat.mul_comm (2 ^ u) d, ← Nat.mul_assoc]
        refine Nat.mul_le_mul_right _ ?_
        rw [Nat.mul_comm m d]; omega
      exact ⟨by omega, fun e => by omega⟩
  split
  · rename_i hc
    have hI : m + 1 + u * 8388608 = m + u * 8388608 + 1 := by omega
    rw [hI]
    refine ⟨.inr ?_, ?_, ?_⟩
    · rw [Nat.add_sub_cancel, hH, e1, e2]
      constructor
      · refine Nat.mul_le_mul_right _ ?_
        omega
      · intro e
        have := Nat.eq_of_mul_eq_mul_right hP e
        omega
    · have : 2 * ((m + 1) * 2 ^ u) ≤ H (m + u * 8388608 + 1) := by
        unfold H; rw [hG1]; have := G_lt_succ (m + u * 8388608 + 1); rw [hG1] at this; omega
      have h2 := Nat.mul_le_mul_right d this
      have h3 : 2 * (n * 2 ^ u) ≤ 2 * ((m + 1) * 2 ^ u) * d := by
        rw [Nat.mul_assoc]
        refine Nat.mul_le_mul_left _ ?_
        rw [Nat.mul_assoc, Nat.mul_comm (2 ^ u) d, ← Nat.mul_assoc]
        refine Nat.mul_le_mul_right _ ?_
        rw [Nat.add_mul, Nat.one_mul, Nat.mul_comm m d]; omega
      omega
    · intro e
      exfalso
      have : 2 * ((m + 1) * 2 ^ u) < H (m + u * 8388608 + 1) := by
        unfold H; rw [hG1]; have := G_lt_succ (m + u * 8388608 + 1); rw [hG1] at this; omega
      have h2 := Nat.mul_lt_mul_of_pos_right this hd
      have h3 : 2 * (n * 2 ^ u) ≤ 2 * ((m + 1) * 2 ^ u) * d := by
        rw [Nat.mul_assoc]
        refine Nat.mul_le_mul_left _ ?_
        rw [Nat.mul_assoc, Nat.mul_comm (2 ^ u) d, ← Nat.mul_assoc]
        refine Nat.mul_le_mul_right _ ?_
        rw [Nat.add_mul, Nat.one_mul, Nat.mul_comm m d]; omega
      omega
  · rename_i hc
    rw [Nat.add_zero]
    refine ⟨hlow _ rfl, ?_, ?_⟩
    · rw [hH, e1, e2]
      refine Nat.mul_le_mul_right _ ?_
      omega
    · rw [hH, e1, e2]
      intro e
      have := Nat.eq_of_mul_eq_mul_right hP e
      omega
/-- A fraction num * 2^e / den, as a fraction in units of 2^x. -/
def nx (e x : Int) (num : Nat) : Nat := if x ≤ e then num * 2 ^ (e - x).toNat else num
def dx (e x : Int) (den : Nat) : Nat := if x ≤ e then den else den * 2 ^ (x - e).toNat
theorem dx_pos {e x : Int} {den : Nat} (h : 0 < den) : 0 < dx e x den := by
  unfold dx; split
  · exact h
  · exact Nat.mul_pos h (Nat.two_pow_pos _)
theorem frac_step (e x : Int) (num den : Nat) : nx e x num * dx e (x + 1) den = 2 * (nx e (x + 1) num * dx e x den) := by
  unfold nx dx
  rcases Int.lt_trichotomy x e with h | h | h
  · rw [if_pos (by omega), if_pos (by omega), if_pos (by omega), if_pos (by omega), show (e - x).toNat = (e - (x + 1)).toNat + 1 by omega, Nat.pow_succ]
    rw [← Nat.mul_assoc, Nat.mul_comm (num * 2 ^ _) 2, Nat.mul_assoc 2]
  · subst h
    rw [if_pos (by omega), if_neg (by omega), if_neg (by omega), if_pos (by omega), show (x - x).toNat = 0 by omega, show (x + 1 - x).toNat = 1 by omega, Nat.pow_zero, Nat.mul_one, Nat.pow_one]
    rw [← Nat.mul_assoc, Nat.mul_comm _ 2]
  · rw [if_neg (by omega), if_neg (by omega), if_neg (by omega), if_neg (by omega), show (x + 1 - e).toNat = (x - e).toNat + 1 by omega, Nat.pow_succ]
    rw [← Nat.mul_assoc, ← Nat.mul_assoc, Nat.mul_comm _ 2, Nat.mul_assoc]
theorem frac_at (e : Int) (num den : Nat) (hden : 0 < den) : ∀ u : Nat, nx e (-150 + u) num * 2 ^ u * dx e (-150) den = nx e (-150) num * dx e (-150 + u) den
  | 0 => by simp
  | u + 1 => by
    have ih := frac_at e num den hden u
    have hs := frac_step e (-150 + u) num den
    have hx : (-150 + (u : Int) + 1) = (-150 + ((u + 1 : Nat) : Int)) := by omega
    rw [hx] at hs
    have hp : 0 < dx e (-150 + u) den := dx_pos hden
    refine Nat.eq_of_mul_eq_mul_right hp ?_
    -- n' * 2^(u+1) * D * d = N * d' * d ; n * d' = 2 n' d ; n 2^u D = N d
    generalize nx e (-150 + u) num = n at *
    generalize nx e (-150 + ((u + 1 : Nat) : Int)) num = n' at *
    generalize dx e (-150 + u) den = d at *
    generalize dx e (-150 + ((u + 1 : Nat) : Int)) den = d' at *
    generalize nx e (-150) num = N at *
    generalize dx e (-150) den = D at *
    have h1 : n' * 2 ^ (u + 1) * D * d = 2 * (n' * d) * (2 ^ u * D) := by
      rw [Nat.pow_succ]; ac_rfl
    rw [h1, ← hs]
    have h2 : n * d' * (2 ^ u * D) = n * 2 ^ u * D * d' := by ac_rfl
    rw [h2, ih]; ac_rfl
end Go.Proofs.YteigbokklclmbaaGreatDoor.M
end
section
namespace Go.Proofs.YteigbokklclmbaaGreatDoor.M
open Go Go.RowKit Go.Proofs.YteigbokklclmbaaGreatDoor.Given Go.Proofs.YteigbokklclmbaaGreatDoorW.PrintWords Go.Proofs.YteigbokklclmbaaGreatDoorW.PrintLast Go.Proofs.YteigbokklclmbaaGreatDoorW.PrintMore Go.Proofs.YteigbokklclmbaaGreatDoor.Z
/-- The real with an index, and what rounding to it answers (1000 in the exponent's place: it panics). -/
def atI (I : Nat) : Int × Int := if I = 0 then (0, 0) else ((man I : Int), (sh I : Int) - 150)
def rres (I : Nat) : Int × Int := if 2533359615 < I then (0, 1000) else atI I
theorem rounded_j4 (x m : Int) : Ev (fun k => real_rounded.j4 k x m) (if x > 150 then (0, 1000) else if m = 0 then (0, 0) else (m, x)) := by
  refine Ev.step (f := fun _ => some (if x > 150 then (0, 1000) else if m = 0 then (0, 0) else (m, x))) (fun k => ?_) (Ev.now _)
  rw [real_rounded.j4]
  split
  · rfl
  · split <;> rfl
theorem rounded_j3 (u m : Nat) (hu : u ≤ 60000) (hm : m ≤ 16777216) (hc : u = 0 ∨ 8388608 ≤ m) : Ev (fun k => real_rounded.j3 k (-150 + (u : Int)) (m : Int)) (rres (m + u * 8388608)) := by
  have w : wrap64 (-150 + (u : Int) + 1) = -150 + (u : Int) + 1 := w64 _ (by omega) (by omega)
  by_cases h : (m : Int) = 16777216
  · refine Ev.step (f := fun k => real_rounded.j4 k (-150 + (u : Int) + 1) 8388608) (fun k => by rw [real_rounded.j3, if_pos h, w]) ?_
    have := rounded_j4 (-150 + (u : Int) + 1) 8388608
    have e : (if -150 + (u : Int) + 1 > 150 then ((0 : Int), (1000 : Int)) else if (8388608 : Int) = 0 then (0, 0) else (8388608, -150 + (u : Int) + 1)) = rres (m + u * 8388608) := by
      unfold rres atI
      have hs : sh (m + u * 8388608) = u + 1 := by unfold sh; omega
      have hmn : man (m + u * 8388608) = 8388608 := by unfold man; rw [hs]; omega
      rw [hs, hmn]
      by_cases hg : -150 + (u : Int) + 1 > 150
      · rw [if_pos hg, if_pos (by omega)]
      · rw [if_neg hg, if_neg (by omega), if_neg (by omega), if_neg (by omega)]
        congr 1; omega
    rw [← e]; exact this
  · refine Ev.step (f := fun k => real_rounded.j4 k (-150 + (u : Int)) (m : Int)) (fun k => by rw [real_rounded.j3, if_neg h]) ?_
    have := rounded_j4 (-150 + (u : Int)) (m : Int)
    have e : (if -150 + (u : Int) > 150 then ((0 : Int), (1000 : Int)) else if (m : Int) = 0 then (0, 0) else ((m : Int), -150 + (u : Int))) = rres (m + u * 8388608) := by
      unfold rres atI
      have hs : sh (m + u * 8388608) = u := by unfold sh; omega
      have hmn : man (m + u * 8388608) = m := by unfold man; rw [hs]; omega
      rw [hs, hmn]
      by_cases hg : -150 + (u : Int) > 150
      · rw [if_pos hg, if_pos (by omega)]
      · by_cases hz : (m : Int) = 0
        · rw [if_neg hg, if_pos hz, if_neg (by omega), if_pos (by omega)]
        · rw [if_neg hg, if_neg hz, if_neg (by omega), if_neg (by omega)]
          congr 1 <;> omega
    rw [← e]; exact this
theorem rounded_j2 (u m : Nat) (b : Bool) (hu : u ≤ 60000) (hm : m < 16777216) (hc : u = 0 ∨ 8388608 ≤ m) : Ev (fun k => real_rounded.j2 k (-150 + (u : Int)) (m : Int) b) (rres ((m + if b = true then 1 else 0) + u * 8388608)) := by
  by_cases h : b = true
  · have w : wrap64 ((m : Int) + 1) = ((m + 1 : Nat) : Int) := by rw [w64 _ (by omega) (by omega)]; omega
    rw [if_pos h]
    refine Ev.step (fun k => by rw [real_rounded.j2, if_pos h, w]) (rounded_j3 u (m + 1) hu (by omega) (by omega))
  · rw [if_neg h, Nat.add_zero]
    exact Ev.step (fun k => by rw [real_rounded.j2, if_neg h]) (rounded_j3 u m hu (by omega) hc)
/-- Where the quotient has at most 24 bits. -/
theorem rounded_stop (num den n d u : Nat) (e : Int) (hd : 0 < d) (hn : bl n ≤ 30000) (hdd : bl d ≤ 29990) (hu : u ≤ 60000) (hq : n / d < 16777216) (hc : u = 0 ∨ 8388608 ≤ n / d) :
    Ev (fun k => real_rounded.j1 k (D num) e (D den) (-150 + (u : Int)) (D n) (D d)) (rres ((n / d + if d < 2 * (n % d) ∨ (d = 2 * (n % d) ∧ n / d % 2 = 1) then 1 else 0) + u * 8388608)) := by
  have hr := Nat.mod_lt n hd
  have b1 := bl_mono (Nat.le_of_lt hr)
  have b2 := bl_shift (n % d) 1
  rw [Nat.pow_one] at b2
  have b3 : bl (n / d) ≤ 24 := bl_le_iff.2 hq
  have hdiv := div_ev hd hn (show bl d ≤ 30000 by omega)
  clear hn
  generalize n / d = q at *
  generalize n % d = r at *
  have sq : Sm q := Sm.bl (by omega)
  have sr : Sm (r) := Sm.bl (by omega)
  have sr2 : Sm (r * 2) := Sm.bl (by omega)
  have sd : Sm d := Sm.bl (by omega)
  have hsh : Ev (fun k => real_nat_shl.f k (D (r)) 1) (D (r * 2)) := by
    have := shl_ev sr 1 (by decide)
    rw [Nat.pow_one] at this; exact this
  have hbl : ¬ ((bl (q) : Int) > 24) := by
    omega
  have w : wrap64 ((q : Nat) : Int) = ((q : Nat) : Int) := w64 _ (by omega) (by omega)
  refine Ev.step (fun k => by rw [real_rounded.j1]) ?_
  refine Ev.bind hdiv (Ev.bind (bits_ev sq) ?_)
  dsimp only
  refine Ev.congr (f := fun k => (real_nat_small.f k (D (q))).bind fun t195 => (real_nat_shl.f k (D (r)) 1).bind fun t196 => (real_nat_cmp.f k t196 (D d)).bind fun t199 => if t199 > 0 then real_rounded.j2 k (-150 + (u : Int)) (wrap64 t195) true else if t199 = 0 then real_rounded.j2 k (-150 + (u : Int)) (wrap64 t195) ((Int.tmod (wrap64 t195) 2) == 1) else real_rounded.j2 k (-150 + (u : Int)) (wrap64 t195) false) (fun k => by rw [if_neg hbl]) ?_
  refine Ev.bind (small_ev (by omega)) (Ev.bind hsh (Ev.bind (cmp_ev sr2 sd) ?_))
  rw [w]
  by_cases h1 : d < 2 * (r)
  · have e1 : cmpN (r * 2) d = 1 := by unfold cmpN; rw [if_neg (by omega), if_neg (by omega)]
    rw [e1, if_pos (Or.inl h1)]
    have := rounded_j2 u (q) true hu hq hc
    rw [if_pos rfl] at this
    exact Ev.congr (fun k => by rw [if_pos (by omega)]) this
  · by_cases h2 : d = 2 * (r)
    · have e1 : cmpN (r * 2) d = 0 := by unfold cmpN; rw [if_neg (by omega), if_pos (by omega)]
      rw [e1]
      have ht : (Int.tmod ((q : Nat) : Int) 2 == 1) = decide (q % 2 = 1) := by
        rw [Int.tmod_eq_emod_of_nonneg (by omega)]
        by_cases h : q % 2 = 1
        · rw [decide_eq_true h, beq_iff_eq]; omega
        · rw [decide_eq_false h, beq_eq_false_iff_ne]; omega
      have := rounded_j2 u (q) (decide (q % 2 = 1)) hu hq hc
      have e2 : (if decide (q % 2 = 1) = true then 1 else 0) = (if d < 2 * (r) ∨ (d = 2 * (r) ∧ q % 2 = 1) then 1 else 0) := by
        by_cases h : q % 2 = 1
        · rw [if_pos (by simpa using h), if_pos (Or.inr ⟨h2, h⟩)]
        · rw [if_neg (by simpa using h), if_neg (by rintro (h' | h') <;> omega)]
      rw [e2] at this
      exact Ev.congr (fun k => by rw [if_neg (by omega), if_pos rfl, ht]) this
    · have e1 : cmpN (r * 2) d = -1 := by unfold cmpN; rw [if_pos (by omega)]
      rw [e1, if_neg (by rintro (h' | h') <;> omega)]
      have := rounded_j2 u (q) false hu hq hc
      rw [if_neg (by decide)] at this
      exact Ev.congr (fun k => by rw [if_neg (by omega), if_neg (by omega)]) this
/-- The state of a round: how great the fraction's parts are, and how the shifts come to them. -/
theorem go_ (num den : Nat) (e : Int) (hnum : bl num ≤ 10000) (hden : 0 < den) (hden2 : bl den ≤ 10000) (he0 : -10000 ≤ e) (he1 : e ≤ 10000) (u : Nat) (hx : (-150 + (u : Int)) - e ≤ 10100) :
    bl (nx e (-150 + u) num) ≤ 30000 ∧ bl (dx e (-150 + u) den) ≤ 29990 ∧ ∀ r, Ev (fun k => real_rounded.j1 k (D num) e (D den) (-150 + (u : Int)) (D (nx e (-150 + u) num)) (D (dx e (-150 + u) den))) r → Ev (fun k => real_rounded.l0 k (D num) e (D den) (-150 + (u : Int))) r := by
  have sn : Sm num := Sm.bl (by omega)
  have sd : Sm den := Sm.bl (by omega)
  unfold nx dx
  by_cases h : -150 + (u : Int) ≤ e
  · rw [if_pos h, if_pos h]
    refine ⟨?_, by omega, fun r hr => ?_⟩
    · have := bl_shift num (e - (-150 + (u : Int))).toNat; omega
    · have w : wrap64 (e - (-150 + (u : Int))) = ((e - (-150 + (u : Int))).toNat : Int) := by rw [w64 _ (by omega) (by omega)]; omega
      refine Ev.step (f := fun k => (real_nat_shl.f k (D num) ((e - (-150 + (u : Int))).toNat : Int)).bind fun t => real_rounded.j1 k (D num) e (D den) (-150 + (u : Int)) t (D den)) (fun k => by rw [real_rounded.l0, if_pos (by omega), w]) ?_
      exact Ev.bind (shl_ev sn _ (by omega)) hr
  · rw [if_neg h, if_neg h]
    refine ⟨by omega, ?_, fun r hr => ?_⟩
    · have := bl_shift den ((-150 + (u : Int)) - e).toNat; omega
    · have w : wrap64 ((-150 + (u : Int)) - e) = (((-150 + (u : Int)) - e).toNat : Int) := by rw [w64 _ (by omega) (by omega)]; omega
      refine Ev.step (f := fun k => (real_nat_shl.f k (D den) (((-150 + (u : Int)) - e).toNat : Int)).bind fun t => real_rounded.j1 k (D num) e (D den) (-150 + (u : Int)) (D num) t) (fun k => by rw [real_rounded.l0, if_neg (by omega), w]) ?_
      exact Ev.bind (shl_ev sd _ (by omega)) hr
theorem stop_ (num den : Nat) (e : Int) (hnum : bl num ≤ 10000) (hden : 0 < den) (hden2 : bl den ≤ 10000) (he0 : -10000 ≤ e) (he1 : e ≤ 10000) (u : Nat) (hx : (-150 + (u : Int)) - e ≤ 10100)
    (hq : nx e (-150 + u) num / dx e (-150 + u) den < 16777216) (hge : u = 0 ∨ 8388608 * dx e (-150 + u) den ≤ nx e (-150 + u) num) :
    ∃ I, Rd (nx e (-150) num) (dx e (-150) den) I ∧ Ev (fun k => real_rounded.l0 k (D num) e (D den) (-150 + (u : Int))) (rres I) := by
  have hdp : 0 < dx e (-150 + u) den := dx_pos hden
  have hgo := go_ num den e hnum hden hden2 he0 he1 u hx
  have hc : u = 0 ∨ 8388608 ≤ nx e (-150 + u) num / dx e (-150 + u) den := by
    rcases hge with h | h
    · exact .inl h
    · right; rw [Nat.le_div_iff_mul_le hdp]; exact h
  refine ⟨_, Rd.congr hdp (dx_pos hden) (Rd.of_quo _ _ u hdp hq hc) (frac_at e num den hden u), hgo.2.2 _ ?_⟩
  exact rounded_stop num den _ _ u e hdp hgo.1 hgo.2.1 (by omega) hq hc
theorem rounded_l0 (num den : Nat) (e : Int) (hnum : bl num ≤ 10000) (hden : 0 < den) (hden2 : bl den ≤ 10000) (he0 : -10000 ≤ e) (he1 : e ≤ 10000) :
    ∀ (j u : Nat), (-150 + (u : Int)) - e + j ≤ 10100 → nx e (-150 + u) num < 2 ^ (24 + j) * dx e (-150 + u) den → (u = 0 ∨ 8388608 * dx e (-150 + u) den ≤ nx e (-150 + u) num) →
    ∃ I, Rd (nx e (-150) num) (dx e (-150) den) I ∧ Ev (fun k => real_rounded.l0 k (D num) e (D den) (-150 + (u : Int))) (rres I) := by
  intro j
  induction j with
  | zero => 
    intro u hx hlt hge
    rw [show (2 : Nat) ^ (24 + 0) = 16777216 by decide] at hlt
    exact stop_ num den e hnum hden hden2 he0 he1 u (by omega) (by rw [Nat.div_lt_iff_lt_mul (dx_pos hden)]; exact hlt) hge
  | succ j ih =>
    intro u hx hlt hge
    have hdp : 0 < dx e (-150 + u) den := dx_pos hden
    by_cases hq : nx e (-150 + u) num / dx e (-150 + u) den < 16777216
    · exact stop_ num den e hnum hden hden2 he0 he1 u (by omega) hq hge
    · have hq' : 16777216 * dx e (-150 + u) den ≤ nx e (-150 + u) num := by
        rw [← Nat.le_div_iff_mul_le hdp]; omega
      have hs := frac_step e (-150 + u) num den
      have hxx : (-150 + (u : Int) + 1) = (-150 + ((u + 1 : Nat) : Int)) := by omega
      rw [hxx] at hs
      have hdp' : 0 < dx e (-150 + ((u + 1 : Nat) : Int)) den := dx_pos hden
      have up : nx e (-150 + ((u + 1 : Nat) : Int)) num < 2 ^ (24 + j) * dx e (-150 + ((u + 1 : Nat) : Int)) den := by
        have h1 := Nat.mul_lt_mul_of_pos_right hlt hdp'
        rw [hs, show 24 + (j + 1) = (24 + j) + 1 from rfl, Nat.pow_succ] at h1
        clear hlt hge hq hq' hs ih
        generalize (2 : Nat) ^ (24 + j) = P at *
        generalize nx e (-150 + ((u + 1 : Nat) : Int)) num = n' at *
        generalize dx e (-150 + ((u + 1 : Nat) : Int)) den = d' at *
        generalize dx e (-150 + (u : Int)) den = d at *
        have h2 : P * 2 * d * d' = 2 * (P * d' * d) := by ac_rfl
        rw [h2] at h1
        exact Nat.lt_of_mul_lt_mul_right (a := d) (Nat.lt_of_mul_lt_mul_left (a := 2) h1)
      have low : 8388608 * dx e (-150 + ((u + 1 : Nat) : Int)) den ≤ nx e (-150 + ((u + 1 : Nat) : Int)) num := by
        have h1 := Nat.mul_le_mul_right (dx e (-150 + ((u + 1 : Nat) : Int)) den) hq'
        rw [hs] at h1
        clear hlt hge hq hq' hs ih up
        generalize nx e (-150 + ((u + 1 : Nat) : Int)) num = n' at *
        generalize dx e (-150 + ((u + 1 : Nat) : Int)) den = d' at *
        generalize dx e (-150 + (u : Int)) den = d at *
        have h2 : 16777216 * d * d' = 2 * (8388608 * d' * d) := by
          rw [show (16777216 : Nat) = 2 * 8388608 by decide]; ac_rfl
        rw [h2] at h1
        exact Nat.le_of_mul_le_mul_right (Nat.le_of_mul_le_mul_left h1 (by decide)) hdp
      obtain ⟨I, hR, hE⟩ := ih (u + 1) (by omega) up (.inr low)
      refine ⟨I, hR, ?_⟩
      have hgo := go_ num den e hnum hden hden2 he0 he1 u (by omega)
      have sq : Sm (nx e (-150 + u) num / dx e (-150 + u) den) := Sm.bl (by have := bl_mono (Nat.div_le_self (nx e (-150 + u) num) (dx e (-150 + u) den)); have := hgo.1; omega)
      have hbl : (bl (nx e (-150 + u) num / dx e (-150 + u) den) : Int) > 24 := by
        have : ¬ bl (nx e (-150 + u) num / dx e (-150 + u) den) ≤ 24 := fun h => hq (bl_le_iff.1 h)
        omega
      have w : wrap64 (-150 + (u : Int) + 1) = -150 + ((u + 1 : Nat) : Int) := by rw [w64 _ (by omega) (by omega)]; omega
      refine hgo.2.2 _ (Ev.step (fun k => by rw [real_rounded.j1]) ?_)
      refine Ev.bind (div_ev hdp hgo.1 (by have := hgo.2.1; omega)) (Ev.bind (bits_ev sq) ?_)
      dsimp only
      exact Ev.congr (fun k => by rw [if_pos hbl, w]) hE
theorem rounded_ev (num den : Nat) (e : Int) (hnum : bl num ≤ 10000) (hden : 0 < den) (hden2 : bl den ≤ 10000) (he0 : -10000 ≤ e) (he1 : e ≤ 10000) :
    ∃ I, Rd (nx e (-150) num) (dx e (-150) den) I ∧ Ev (fun k => real_rounded.f k (D num) e (D den)) (rres I) := by
  rcases Nat.eq_zero_or_pos num with h0 | h0
  · subst h0
    refine ⟨0, ⟨.inl rfl, ?_, fun _ => rfl⟩, ?_⟩
    · have : nx e (-150) 0 = 0 := by unfold nx; split <;> simp
      rw [this]; omega
    · refine Ev.congr (f := fun _ => some (0, 0)) (fun k => by rw [show D 0 = [] from dg_zero]; rfl) ?_
      exact Ev.now _
  · have sn : Sm num := Sm.bl (by omega)
    have sd : Sm den := Sm.bl (by omega)
    have hne : (D num).length ≠ 0 := fun e => by
      have := (dg_nil (n := num) B2).1 (List.eq_nil_of_length_eq_zero e); omega
    have w1 : wrap64 ((bl num : Int) - (bl den : Int)) = (bl num : Int) - (bl den : Int) := w64 _ (by omega) (by omega)
    have w2 : wrap64 ((bl num : Int) - (bl den : Int) + e) = (bl num : Int) - (bl den : Int) + e := w64 _ (by omega) (by omega)
    have w3 : wrap64 ((bl num : Int) - (bl den : Int) + e - 24) = (bl num : Int) - (bl den : Int) + e - 24 := w64 _ (by omega) (by omega)
    have w4 : wrap64 ((bl num : Int) - (bl den : Int) + e - 24 - 1) = (bl num : Int) - (bl den : Int) + e - 24 - 1 := w64 _ (by omega) (by omega)
    obtain ⟨u, hu⟩ : ∃ u : Nat, mx (-150) ((bl num : Int) - (bl den : Int) + e - 24 - 1) = -150 + (u : Int) := ⟨(mx (-150) ((bl num : Int) - (bl den : Int) + e - 24 - 1) + 150).toNat, by unfold mx; split <;> omega⟩
    have hu1 : (bl num : Int) - (bl den : Int) + e - 25 ≤ -150 + (u : Int) := by unfold mx at hu; split at hu <;> omega
    have hu2 : u = 0 ∨ (bl num : Int) - (bl den : Int) + e - 25 = -150 + (u : Int) := by unfold mx at hu; split at hu <;> omega
    have p1 := bl_pos' h0
    have p2 := bl_pos' hden
    obtain ⟨I, hR, hE⟩ := rounded_l0 num den e hnum hden hden2 he0 he1 2 u (by omega) (by
      have a1 := bl_lt num
      have a2 := bl_ge hden
      unfold nx dx
      by_cases h : -150 + (u : Int) ≤ e
      · rw [if_pos h, if_pos h]
        have c1 := Nat.mul_lt_mul_of_pos_right a1 (Nat.two_pow_pos (e - (-150 + (u : Int))).toNat)
        rw [← Nat.pow_add] at c1
        have c2 := Nat.mul_le_mul_left (2 ^ (24 + 2)) a2
        rw [← Nat.pow_add] at c2
        have c3 : 2 ^ (bl num + (e - (-150 + (u : Int))).toNat) ≤ 2 ^ (24 + 2 + (bl den - 1)) := Nat.pow_le_pow_right (by decide) (by omega)
        exact Nat.lt_of_lt_of_le c1 (Nat.le_trans c3 c2)
      · rw [if_neg h, if_neg h]
        have c2 := Nat.mul_le_mul_left (2 ^ (24 + 2)) (Nat.mul_le_mul_right (2 ^ ((-150 + (u : Int)) - e).toNat) a2)
        rw [← Nat.pow_add, ← Nat.pow_add] at c2
        have c3 : 2 ^ (bl num) ≤ 2 ^ (24 + 2 + (bl den - 1 + ((-150 + (u : Int)) - e).toNat)) := Nat.pow_le_pow_right (by decide) (by omega)
        exact Nat.lt_of_lt_of_le a1 (Nat.le_trans c3 c2)) (by
      rcases hu2 with hu2 | hu2
      · exact .inl hu2
      · right
        have a1 := bl_ge h0
        have a2 := bl_lt den
        unfold nx dx
        by_cases h : -150 + (u : Int) ≤ e
        · rw [if_pos h, if_pos h]
          have c1 := Nat.mul_le_mul_right (2 ^ (e - (-150 + (u : Int))).toNat) a1
          rw [← Nat.pow_add] at c1
          have c2 := Nat.mul_le_mul_left (2 ^ 23) (Nat.le_of_lt a2)
          rw [← Nat.pow_add] at c2
          have c3 : 2 ^ (23 + bl den) ≤ 2 ^ (bl num - 1 + (e - (-150 + (u : Int))).toNat) := Nat.pow_le_pow_right (by decide) (by omega)
          exact Nat.le_trans c2 (Nat.le_trans c3 c1)
        · rw [if_neg h, if_neg h]
          have c2 := Nat.mul_le_mul_left (2 ^ 23) (Nat.mul_le_mul_right (2 ^ ((-150 + (u : Int)) - e).toNat) (Nat.le_of_lt a2))
          rw [← Nat.pow_add, ← Nat.pow_add] at c2
          have c3 : 2 ^ (23 + (bl den + ((-150 + (u : Int)) - e).toNat)) ≤ 2 ^ (bl num - 1) := Nat.pow_le_pow_right (by decide) (by omega)
          exact Nat.le_trans c2 (Nat.le_trans c3 a1))
    refine ⟨I, hR, ?_⟩
    refine Ev.congr (f := fun k => (real_nat_bits.f k (D num)).bind fun t180 => (real_nat_bits.f k (D den)).bind fun t181 => real_rounded.l0 k (D num) e (D den) (mx (-150) (wrap64 (wrap64 (wrap64 (wrap64 (t180 - t181) + e) - 24) - 1)))) (fun k => by unfold real_rounded.f; rw [if_neg (by omega)]) ?_
    refine Ev.bind (bits_ev sn) (Ev.bind (bits_ev sd) ?_)
    rw [w1, w2, w3, w4, hu]
    exact hE
end Go.Proofs.YteigbokklclmbaaGreatDoor.M
end
section
namespace Go.Proofs.YteigbokklclmbaaGreatDoor.Given
open Go
theorem field23_0 (a b : Int) (w : World) : Sem.run Tryz.prog (Instr.field 23 (Value.agg #[Value.int .i64 a, Value.int .i64 b]) 0) w = .ok (Value.int .i64 a) w := by kernel_rfl
theorem field23_1 (a b : Int) (w : World) : Sem.run Tryz.prog (Instr.field 23 (Value.agg #[Value.int .i64 a, Value.int .i64 b]) 1) w = .ok (Value.int .i64 b) w := by kernel_rfl
end Go.Proofs.YteigbokklclmbaaGreatDoor.Given
end
section
namespace Go.Proofs.YteigbokklclmbaaGreatDoor.Z.Y.V
open Go.RowKit Go.Proofs.YteigbokklclmbaaGreatDoor.Given Go.Proofs.YteigbokklclmbaaGreatDoorW.PrintWords Go.Proofs.YteigbokklclmbaaGreatDoorW.PrintLast Go.Proofs.YteigbokklclmbaaGreatDoorW.PrintMore
attribute [local go_sem] max2_int min2_int max_two min_two max_three min_three max_four min_four   -- for this text's walks alone
attribute [local go_sem high] field23_0 field23_1

def manorboyref02_Quotient_Round.T6 : Bool × List (List Nat × List Nat) := (true, [([], []), ([0], [0]), ([], []), ([2], [2]), ([1, 3, 1], [1, 3]), ([], []), ([4, 5, 4], [4, 5]), ([6], [6])])
def manorboyref02_Quotient_Round.B6 : List Nat := [0, 1, 0, 4, 15, 0, 63, 127]
theorem manorboyref02_Quotient_Round.tab6 : rtab .any (opsOf Tryz.f88 6) = manorboyref02_Quotient_Round.T6 := by kernel_rfl
theorem manorboyref02_Quotient_Round.bits6 : waitsOk manorboyref02_Quotient_Round.T6.2 manorboyref02_Quotient_Round.B6 = true := by kernel_rfl
def manorboyref02_Quotient_Round.T11 : Bool × List (List Nat × List Nat) := (true, [([], []), ([0], [0]), ([], []), ([2], [2]), ([1, 3, 1], [1, 3]), ([], []), ([4, 5, 4], [4, 5]), ([6], [6]), ([7, 6], [7]), ([8], [8]), ([9, 8, 8], [8, 9]), ([10, 8], [8, 10]), ([11, 8], [8, 11]), ([12, 8], [8, 12]), ([8, 13], [8, 13])])
def manorboyref02_Quotient_Round.B11 : List Nat := [0, 1, 0, 4, 15, 0, 63, 127, 255, 511, 1023, 2047, 4095, 8191, 16383]
theorem manorboyref02_Quotient_Round.tab11 : rtab .any (opsOf Tryz.f88 11) = manorboyref02_Quotient_Round.T11 := by kernel_rfl
theorem manorboyref02_Quotient_Round.bits11 : waitsOk manorboyref02_Quotient_Round.T11.2 manorboyref02_Quotient_Round.B11 = true := by kernel_rfl
end Go.Proofs.YteigbokklclmbaaGreatDoor.Z.Y.V
end
section
namespace Go.Proofs.YteigbokklclmbaaGreatDoor.Z.Y.V
open Go.RowKit Go.Proofs.YteigbokklclmbaaGreatDoor.Given Go.Proofs.YteigbokklclmbaaGreatDoorW.PrintWords Go.Proofs.YteigbokklclmbaaGreatDoorW.PrintLast Go.Proofs.YteigbokklclmbaaGreatDoorW.PrintMore
attribute [local go_sem] max2_int min2_int max_two min_two max_three min_three max_four min_four   -- for this text's walks alone

def manorboyref02_Of.T7 : Bool × List (List Nat × List Nat) := (true, [([], []), ([0], [0]), ([1], [1]), ([], []), ([3], [3]), ([], []), ([5], [5]), ([6, 4], [6]), ([4, 7, 7], [4, 7]), ([8], []), ([2, 8, 9], [2, 8, 9]), ([10, 9, 0, 1, 2, 3, 4, 5, 6, 7, 8, 9, 10], [10])])
def manorboyref02_Of.B7 : List Nat := [0, 1, 3, 0, 8, 0, 32, 120, 248, 504, 1023, 2047]
theorem manorboyref02_Of.tab7 : rtab .any (opsOf Tryz.f102 7) = manorboyref02_Of.T7 := by kernel_rfl
theorem manorboyref02_Of.bits7 : waitsOk manorboyref02_Of.T7.2 manorboyref02_Of.B7 = true := by kernel_rfl
end Go.Proofs.YteigbokklclmbaaGreatDoor.Z.Y.V
end
section
namespace Go.Proofs.YteigbokklclmbaaGreatDoor.M
open Go Go.RowKit Go.Proofs.YteigbokklclmbaaGreatDoor.Given Go.Proofs.YteigbokklclmbaaGreatDoorW.PrintWords Go.Proofs.YteigbokklclmbaaGreatDoorW.PrintLast Go.Proofs.YteigbokklclmbaaGreatDoorW.PrintMore Go.Proofs.YteigbokklclmbaaGreatDoor.Z Go.Proofs.YteigbokklclmbaaGreatDoor.Z.Y Go.Proofs.YteigbokklclmbaaGreatDoor.Z.Y.V
/-- A sign laid on a real. -/
def sgn (neg : Bool) (p : Int × Int) : Int × Int := (if neg = true then -p.1 else p.1, p.2)
theorem man_bd (I : Nat) : man I < 16777216 := by unfold man sh; omega
end Go.Proofs.YteigbokklclmbaaGreatDoor.M
end
section
namespace Go.Proofs.YteigbokklclmbaaGreatDoor.Z.Y
open Go Go.RowKit Go.Proofs.YteigbokklclmbaaGreatDoor.Given Go.Proofs.YteigbokklclmbaaGreatDoorW.PrintWords Go.Proofs.YteigbokklclmbaaGreatDoorW.PrintLast Go.Proofs.YteigbokklclmbaaGreatDoorW.PrintMore
/-- What a valid real is. -/
def VR (a b : Int) : Prop := (a = 0 ∧ b = 0) ∨ (1 ≤ mx a (wrap64 (-a)) ∧ mx a (wrap64 (-a)) < 16777216 ∧ (b = -150 ∨ (8388608 ≤ mx a (wrap64 (-a)) ∧ -150 < b ∧ b ≤ 150)))
instance (a b : Int) : Decidable (VR a b) := by unfold VR; infer_instance
theorem valid_real (a b : Int) : real_Valid.f a b = some (decide (VR a b)) := by
  unfold real_Valid.f
  have hd : ∀ (p q : Prop) [Decidable p] [Decidable q], (p ↔ q) → decide p = decide q := fun p q _ _ h => by simp [h]
  have hv : VR a b ↔ ((a = 0 ∧ b = 0) ∨ (1 ≤ mx a (wrap64 (-a)) ∧ mx a (wrap64 (-a)) < 16777216 ∧ (b = -150 ∨ (8388608 ≤ mx a (wrap64 (-a)) ∧ -150 < b ∧ b ≤ 150)))) := Iff.rfl
  generalize mx a (wrap64 (-a)) = m at *
  by_cases h0 : a = 0 ∧ b = 0
  · have : decide (VR a b) = true := decide_eq_true (hv.2 (.inl h0))
    rw [this, if_pos (by simp [h0.1, h0.2])]
  · have h0' : ¬ ((a == 0 && (b == 0)) = true) := by simpa using h0
    rw [if_neg h0']
    by_cases h1 : m < 1
    · rw [if_pos h1]; congr 1; symm; rw [decide_eq_false_iff_not, hv]; rintro (h | h); exact h0 h; omega
    rw [if_neg h1]
    by_cases h2 : m ≥ 16777216
    · rw [if_pos h2]; congr 1; symm; rw [decide_eq_false_iff_not, hv]; rintro (h | h); exact h0 h; omega
    rw [if_neg h2]
    by_cases h3 : b = -150
    · rw [if_pos h3]; congr 1; symm; rw [decide_eq_true_eq, hv]; exact .inr ⟨by omega, by omega, .inl h3⟩
    rw [if_neg h3]
    by_cases h4 : m ≥ 8388608
    · rw [if_pos h4]
      by_cases h5 : b > -150
      · rw [if_pos h5]; congr 1; apply hd; rw [hv]
        constructor
        · intro h; exact .inr ⟨by omega, by omega, .inr ⟨h4, h5, h⟩⟩
        · rintro (h | h)
          · exact absurd h h0
          · omega
      · rw [if_neg h5]; congr 1; symm; rw [decide_eq_false_iff_not, hv]; rintro (h | h); exact h0 h; omega
    · rw [if_neg h4]; congr 1; symm; rw [decide_eq_false_iff_not, hv]; rintro (h | h); exact h0 h; omega
theorem VR_abs {a b : Int} (hw : -9223372036854775808 ≤ a ∧ a ≤ 9223372036854775807) (h : VR a b) : -16777216 < a ∧ a < 16777216 ∧ -150 ≤ b ∧ b ≤ 150 ∧ (b > -150 → a ≠ 0 → a ≤ -8388608 ∨ 8388608 ≤ a) := by
  unfold VR mx wrap64 at h
  rcases h with ⟨rfl, rfl⟩ | h
  · omega
  · split at h <;> omega
end Go.Proofs.YteigbokklclmbaaGreatDoor.Z.Y
end
section
namespace Go.Proofs.YteigbokklclmbaaGreatDoor.Z.Y.V
open Go.RowKit Go.Proofs.YteigbokklclmbaaGreatDoor.Given Go.Proofs.YteigbokklclmbaaGreatDoorW.PrintWords Go.Proofs.YteigbokklclmbaaGreatDoorW.PrintLast Go.Proofs.YteigbokklclmbaaGreatDoorW.PrintMore
attribute [local go_sem] max2_int min2_int max_two min_two max_three min_three max_four min_four   -- for this text's walks alone

def manorboyref02_Add.T4 : Bool × List (List Nat × List Nat) := (true, [([], []), ([0], [0]), ([], []), ([2], [2]), ([], []), ([4], [4]), ([3, 5], [3, 5]), ([], []), ([7], [7]), ([1, 6, 8], [1, 6, 8]), ([9, 6], [9]), ([10, 10, 0, 1, 2, 3, 4, 5, 6, 7, 8, 9, 10], [10])])
def manorboyref02_Add.B4 : List Nat := [0, 1, 0, 4, 0, 16, 60, 0, 128, 511, 1023, 2047]
theorem manorboyref02_Add.tab4 : rtab .any (opsOf Tryz.f36 4) = manorboyref02_Add.T4 := by kernel_rfl
theorem manorboyref02_Add.bits4 : waitsOk manorboyref02_Add.T4.2 manorboyref02_Add.B4 = true := by kernel_rfl
def manorboyref02_Add.T6 : Bool × List (List Nat × List Nat) := (true, [([], []), ([0], [0]), ([], []), ([2], [2]), ([], []), ([4], [4]), ([3, 5], [3, 5]), ([], []), ([7], [7]), ([1, 6, 8], [1, 6, 8]), ([9, 6], [9]), ([10, 10, 0, 1, 2, 3, 4, 5, 6, 7, 8, 9, 10], [10])])
def manorboyref02_Add.B6 : List Nat := [0, 1, 0, 4, 0, 16, 60, 0, 128, 511, 1023, 2047]
theorem manorboyref02_Add.tab6 : rtab .any (opsOf Tryz.f36 6) = manorboyref02_Add.T6 := by kernel_rfl
theorem manorboyref02_Add.bits6 : waitsOk manorboyref02_Add.T6.2 manorboyref02_Add.B6 = true := by kernel_rfl
def manorboyref02_Add.T7 : Bool × List (List Nat × List Nat) := (true, [([], []), ([0], [0]), ([], []), ([2], [2]), ([], []), ([4], [4]), ([3, 5], [3, 5]), ([], []), ([7], [7]), ([1, 6, 8], [1, 6, 8]), ([9, 6], [9]), ([10, 10, 0, 1, 2, 3, 4, 5, 6, 7, 8, 9, 10], [10])])
def manorboyref02_Add.B7 : List Nat := [0, 1, 0, 4, 0, 16, 60, 0, 128, 511, 1023, 2047]
theorem manorboyref02_Add.tab7 : rtab .any (opsOf Tryz.f36 7) = manorboyref02_Add.T7 := by kernel_rfl
theorem manorboyref02_Add.bits7 : waitsOk manorboyref02_Add.T7.2 manorboyref02_Add.B7 = true := by kernel_rfl
end Go.Proofs.YteigbokklclmbaaGreatDoor.Z.Y.V
end
section
namespace Go.Proofs.YteigbokklclmbaaGreatDoor.M
open Go Go.RowKit Go.Proofs.YteigbokklclmbaaGreatDoor.Given Go.Proofs.YteigbokklclmbaaGreatDoorW.PrintWords Go.Proofs.YteigbokklclmbaaGreatDoorW.PrintLast Go.Proofs.YteigbokklclmbaaGreatDoorW.PrintMore Go.Proofs.YteigbokklclmbaaGreatDoor.Z Go.Proofs.YteigbokklclmbaaGreatDoor.Z.Y Go.Proofs.YteigbokklclmbaaGreatDoor.Z.Y.V
/-- The range of an int. -/
def I64 (a : Int) : Prop := -9223372036854775808 ≤ a ∧ a ≤ 9223372036854775807
/-- What is known of the parts of a real. -/
def RC (a b : Int) : Prop := a.natAbs < 16777216 ∧ -150 ≤ b ∧ b ≤ 150
theorem VR.rc {a b : Int} (hw : I64 a) (h : VR a b) : RC a b := by
  obtain ⟨h1, h2, h3, h4, _⟩ := VR_abs hw h
  exact ⟨by omega, h3, h4⟩
/-- The index of a real's magnitude. -/
def ix (a b : Int) : Nat := if a = 0 then 0 else a.natAbs + (b + 150).toNat * 8388608
theorem VR.norm {a b : Int} (hw : I64 a) (h : VR a b) : (a = 0 ∧ b = 0) ∨ (a ≠ 0 ∧ ((b + 150).toNat = 0 ∨ 8388608 ≤ a.natAbs)) := by
  obtain ⟨h1, h2, h3, h4, h5⟩ := VR_abs hw h
  rcases h with ⟨h6, h7⟩ | h
  · exact .inl ⟨h6, h7⟩
  · right
    have ha : a ≠ 0 := by
      rintro rfl
      have : mx 0 (wrap64 (-0)) = 0 := by unfold mx wrap64; split <;> omega
      omega
    refine ⟨ha, ?_⟩
    by_cases hb : b > -150
    · right; have := h5 hb ha; omega
    · left; omega
theorem ix_G {a b : Int} (hw : I64 a) (h : VR a b) : G (ix a b) = a.natAbs * 2 ^ (b + 150).toNat := by
  unfold ix
  have hr := VR.rc hw h
  rcases VR.norm hw h with ⟨h1, h2⟩ | ⟨h1, h2⟩
  · rw [if_pos h1, G_zero, h1]; simp
  · rw [if_neg h1]; exact G_at _ _ (by have := hr.1; omega) h2
theorem ix_at {a b : Int} (hw : I64 a) (h : VR a b) : atI (ix a b) = ((a.natAbs : Int), b) := by
  have hr := VR.rc hw h
  obtain ⟨r1, r2, r3⟩ := hr
  unfold atI ix
  rcases VR.norm hw h with ⟨h1, h2⟩ | ⟨h1, h2⟩
  · rw [if_pos h1, if_pos rfl, h1, h2]; rfl
  · rw [if_neg h1, if_neg (by omega)]
    have e1 : sh (a.natAbs + (b + 150).toNat * 8388608) = (b + 150).toNat := by unfold sh; omega
    have e2 : man (a.natAbs + (b + 150).toNat * 8388608) = a.natAbs := by unfold man; rw [e1]; omega
    rw [e1, e2]; congr 1; omega
theorem sgn_ix {a b : Int} (hw : I64 a) (h : VR a b) : sgn (decide (a < 0)) (atI (ix a b)) = (a, b) := by
  rw [ix_at hw h]
  unfold sgn
  by_cases hn : a < 0
  · rw [if_pos (decide_eq_true hn)]; congr 1; show -((a.natAbs : Nat) : Int) = a; omega
  · rw [if_neg (by simpa using hn)]; congr 1; omega
/-- What an operation of the program answers: a real, or overflow. -/
def res3 (neg : Bool) (I : Nat) : Int × Int × Int := if 2533359615 < I then (0, 0, 3) else ((sgn neg (atI I)).1, (sgn neg (atI I)).2, 0)
/-- The same ahead of 'caught'. -/
def sgnr (neg : Bool) (I : Nat) : Int × Int := (if neg = true then wrap64 (-(rres I).1) else (rres I).1, (rres I).2)
theorem signed_is (neg : Bool) (p : Int × Int) : real_signed.f neg p.1 p.2 = some (if neg = true then wrap64 (-p.1) else p.1, p.2) := by
  unfold real_signed.f; split <;> rfl
theorem signed_back (neg : Bool) (I : Nat) : ((real_signed.f neg (rres I).1 (rres I).2).bind fun bt => some (bt.1, bt.2)) = some (sgnr neg I) := by
  rw [signed_is]; rfl
theorem atI_bd (I : Nat) (h : I ≤ 2533359615) : 0 ≤ (atI I).1 ∧ (atI I).1 < 16777216 ∧ -150 ≤ (atI I).2 ∧ (atI I).2 ≤ 150 := by
  have hm := man_bd I
  unfold atI
  split
  · show (0 : Int) ≤ 0 ∧ (0 : Int) < 16777216 ∧ -150 ≤ (0 : Int) ∧ (0 : Int) ≤ 150; omega
  · show (0 : Int) ≤ ((man I : Nat) : Int) ∧ ((man I : Nat) : Int) < 16777216 ∧ -150 ≤ ((sh I : Nat) : Int) - 150 ∧ ((sh I : Nat) : Int) - 150 ≤ 150
    unfold sh; omega
theorem rres_in {I : Nat} (h : I ≤ 2533359615) : rres I = atI I := by unfold rres; rw [if_neg (by omega)]
theorem sgnr_in {neg : Bool} {I : Nat} (h : I ≤ 2533359615) : sgnr neg I = sgn neg (atI I) := by
  have hb := atI_bd I h
  have hw : wrap64 (-(atI I).1) = -(atI I).1 := w64 _ (by omega) (by omega)
  unfold sgnr sgn
  rw [rres_in h, hw]
theorem caught_is (neg : Bool) (I : Nat) : caughtS (sgnr neg I).1 (sgnr neg I).2 = res3 neg I := by
  unfold caughtS res3
  by_cases h : 2533359615 < I
  · rw [if_pos h, if_pos]
    unfold sgnr rres; rw [if_pos h]
  · rw [if_neg h, sgnr_in (by omega), if_neg]
    have := atI_bd I (by omega)
    show ¬ (atI I).2 = 1000
    omega
theorem one_D : D 1 = [1] := dg_small B2 (by decide) (by decide)
theorem nx_at (e : Int) (h : -150 ≤ e) (n : Nat) : nx e (-150) n = n * 2 ^ (e + 150).toNat := by
  unfold nx; rw [if_pos h]; congr 2
theorem dx_at (e : Int) (h : -150 ≤ e) (n : Nat) : dx e (-150) n = n := by unfold dx; rw [if_pos h]
/-- The program's rounding of a whole number times a power of two. -/
theorem rounded_one (n : Nat) (e : Int) (hn : bl n ≤ 10000) (h0 : -150 ≤ e) (h1 : e ≤ 10000) : ∃ I, Rd (n * 2 ^ (e + 150).toNat) 1 I ∧ Ev (fun k => real_rounded.f k (D n) e [1]) (rres I) := by
  obtain ⟨I, hR, hE⟩ := rounded_ev n 1 e hn (by decide) (by rw [bl_one]; decide) (by omega) h1
  rw [nx_at e h0, dx_at e h0] at hR
  rw [one_D] at hE
  exact ⟨I, hR, hE⟩
theorem sanity_ev : Ev (fun k => manorboylaw02_sanity.f k) true := Ev.of (fun k => manorboylaw02_sanity.mono k) sanity_ok
theorem nx_prod (a b : Nat) (x y : Int) (hx : -150 ≤ x) (hy : -150 ≤ y) : nx (x + y) (-150) (a * b) * 2 ^ 150 = a * 2 ^ (x + 150).toNat * (b * 2 ^ (y + 150).toNat) * dx (x + y) (-150) 1 := by
  have e0 : a * 2 ^ (x + 150).toNat * (b * 2 ^ (y + 150).toNat) = a * b * 2 ^ ((x + 150).toNat + (y + 150).toNat) := by rw [Nat.pow_add]; ac_rfl
  rw [e0]
  unfold nx dx
  by_cases h : (-150 : Int) ≤ x + y
  · rw [if_pos h, if_pos h, Nat.mul_one, Nat.mul_assoc, ← Nat.pow_add]; congr 2; omega
  · rw [if_neg h, if_neg h, Nat.one_mul, Nat.mul_assoc (a * b), ← Nat.pow_add]; congr 2; omega
theorem nx_quo (a b : Nat) (x y : Int) (hx : -150 ≤ x) (hy : -150 ≤ y) : nx (x - y) (-150) a * (b * 2 ^ (y + 150).toNat) = a * 2 ^ (x + 150).toNat * 2 ^ 150 * dx (x - y) (-150) b := by
  unfold nx dx
  by_cases h : (-150 : Int) ≤ x - y
  · rw [if_pos h, if_pos h]
    have e : 2 ^ (x - y - -150).toNat * 2 ^ (y + 150).toNat = 2 ^ (x + 150).toNat * 2 ^ 150 := by rw [← Nat.pow_add, ← Nat.pow_add]; congr 1; omega
    calc a * 2 ^ (x - y - -150).toNat * (b * 2 ^ (y + 150).toNat) = a * b * (2 ^ (x - y - -150).toNat * 2 ^ (y + 150).toNat) := by ac_rfl
      _ = a * b * (2 ^ (x + 150).toNat * 2 ^ 150) := by rw [e]
      _ = _ := by ac_rfl
  · rw [if_neg h, if_neg h]
    have e : 2 ^ (y + 150).toNat = 2 ^ (x + 150).toNat * 2 ^ 150 * 2 ^ (-150 - (x - y)).toNat := by rw [← Nat.pow_add, ← Nat.pow_add]; congr 1; omega
    rw [e]; ac_rfl
theorem real_product_ev {x0 x1 y0 y1 : Int} (hx : RC x0 x1) (hy : RC y0 y1) :
    ∃ I, Rd (x0.natAbs * 2 ^ (x1 + 150).toNat * (y0.natAbs * 2 ^ (y1 + 150).toNat)) (2 ^ 150) I ∧ Ev (fun k => real_product.f k x0 x1 y0 y1) (sgnr ((decide (x0 < 0)) != (decide (y0 < 0))) I) := by
  obtain ⟨hx1, hx2, hx3⟩ := hx
  obtain ⟨hy1, hy2, hy3⟩ := hy
  have bx : bl x0.natAbs ≤ 24 := bl_le_iff.2 hx1
  have by_ : bl y0.natAbs ≤ 24 := bl_le_iff.2 hy1
  have bp := bl_mul x0.natAbs y0.natAbs
  have we : wrap64 (x1 + y1) = x1 + y1 := w64 _ (by omega) (by omega)
  obtain ⟨I, hR, hE⟩ := rounded_ev (x0.natAbs * y0.natAbs) 1 (x1 + y1) (by omega) (by decide) (by rw [bl_one]; decide) (by omega) (by omega)
  refine ⟨I, Rd.congr (dx_pos (by decide)) (Nat.two_pow_pos _) hR (nx_prod _ _ _ _ hx2 hy2), ?_⟩
  rw [one_D] at hE
  refine Ev.congr (f := fun k => (real_magnitude.f k x0).bind fun t223 => ((real_magnitude.f k y0).bind fun t226 => ((real_nat_mul.f k t223 t226).bind fun t229 => ((real_rounded.f k t229 (x1 + y1) (([1] : List Int))).bind fun bt235 => _)))) (fun k => by unfold real_product.f; rw [we]) ?_
  refine Ev.bind (magnitude_ev x0 (by omega) (by omega)) (Ev.bind (magnitude_ev y0 (by omega) (by omega)) (Ev.bind (mul_ev (Sm.bl (by omega)) (Sm.bl (by omega))) (Ev.bind hE ?_)))
  exact Ev.congr (fun k => signed_back _ I) (Ev.now _)
theorem real_quotient_ev {x0 x1 y0 y1 : Int} (hx : RC x0 x1) (hy : RC y0 y1) (hy0 : y0 ≠ 0) :
    ∃ I, Rd (x0.natAbs * 2 ^ (x1 + 150).toNat * 2 ^ 150) (y0.natAbs * 2 ^ (y1 + 150).toNat) I ∧ Ev (fun k => real_quotient.f k x0 x1 y0 y1) (sgnr ((decide (x0 < 0)) != (decide (y0 < 0))) I) := by
  obtain ⟨hx1, hx2, hx3⟩ := hx
  obtain ⟨hy1, hy2, hy3⟩ := hy
  have bx : bl x0.natAbs ≤ 24 := bl_le_iff.2 hx1
  have by_ : bl y0.natAbs ≤ 24 := bl_le_iff.2 hy1
  have hyp : 0 < y0.natAbs := by omega
  have we : wrap64 (x1 - y1) = x1 - y1 := w64 _ (by omega) (by omega)
  obtain ⟨I, hR, hE⟩ := rounded_ev x0.natAbs y0.natAbs (x1 - y1) (by omega) hyp (by omega) (by omega) (by omega)
  refine ⟨I, Rd.congr (dx_pos hyp) (Nat.mul_pos hyp (Nat.two_pow_pos _)) hR (nx_quo _ _ _ _ hx2 hy2), ?_⟩
  refine Ev.congr (f := fun k => (real_magnitude.f k x0).bind fun t305 => ((real_magnitude.f k y0).bind fun t308 => ((real_rounded.f k t305 (x1 - y1) t308).bind fun bt311 => _))) (fun k => by unfold real_quotient.f; rw [we]) ?_
  refine Ev.bind (magnitude_ev x0 (by omega) (by omega)) (Ev.bind (magnitude_ev y0 (by omega) (by omega)) (Ev.bind hE ?_))
  exact Ev.congr (fun k => signed_back _ I) (Ev.now _)
/-- The program's Mul of two reals. -/
theorem real_Mul_ev {x0 x1 y0 y1 : Int} (wx : I64 x0) (wy : I64 y0) (hx : VR x0 x1) (hy : VR y0 y1) :
    ∃ I, Rd (G (ix x0 x1) * G (ix y0 y1)) (2 ^ 150) I ∧ Ev (fun k => real_Mul.f k x0 x1 y0 y1) (res3 ((decide (x0 < 0)) != (decide (y0 < 0))) I) := by
  obtain ⟨I, hR, hE⟩ := real_product_ev (VR.rc wx hx) (VR.rc wy hy)
  rw [← ix_G wx hx, ← ix_G wy hy] at hR
  refine ⟨I, hR, ?_⟩
  rw [← caught_is]
  refine Ev.congr (f := fun k => (real_product.f k x0 x1 y0 y1).bind fun r => some (caughtS r.1 r.2)) (fun k => by
    unfold real_Mul.f; rw [valid_real, valid_real, decide_eq_true hx, decide_eq_true hy]; rfl) ?_
  exact Ev.bind hE (Ev.now _)
/-- The program's Div of two reals. -/
theorem real_Div_ev {x0 x1 y0 y1 : Int} (wx : I64 x0) (wy : I64 y0) (hx : VR x0 x1) (hy : VR y0 y1) (hy0 : y0 ≠ 0) :
    ∃ I, Rd (G (ix x0 x1) * 2 ^ 150) (G (ix y0 y1)) I ∧ Ev (fun k => real_Div.f k x0 x1 y0 y1) (res3 ((decide (x0 < 0)) != (decide (y0 < 0))) I) := by
  obtain ⟨I, hR, hE⟩ := real_quotient_ev (VR.rc wx hx) (VR.rc wy hy) hy0
  rw [← ix_G wx hx, ← ix_G wy hy] at hR
  refine ⟨I, hR, ?_⟩
  rw [← caught_is]
  refine Ev.congr (f := fun k => (real_quotient.f k x0 x1 y0 y1).bind fun r => some (caughtS r.1 r.2)) (fun k => by
    unfold real_Div.f; rw [valid_real, valid_real, decide_eq_true hx, decide_eq_true hy]; simp only [Option.bind_some, Bool.and_self, if_true, if_neg hy0]) ?_
  exact Ev.bind hE (Ev.now _)
end Go.Proofs.YteigbokklclmbaaGreatDoor.M
end
section
namespace Go.Proofs.YteigbokklclmbaaGreatDoor.Z.Y.Q
open Go.RowKit Go.Proofs.YteigbokklclmbaaGreatDoor.Given Go.Proofs.YteigbokklclmbaaGreatDoorW.PrintWords Go.Proofs.YteigbokklclmbaaGreatDoorW.PrintLast Go.Proofs.YteigbokklclmbaaGreatDoorW.PrintMore
attribute [local go_sem] max2_int min2_int max_two min_two max_three min_three max_four min_four   -- for this text's walks alone



def errW : Option Int → Value
  | none => .nilIface
  | some c => .iface 0 (.int .i64 c)
theorem errW_none : errW none = .nilIface := rfl
theorem errW_some (c : Int) : errW (some c) = .iface 0 (.int .i64 c) := rfl

-- the values' own types
end Go.Proofs.YteigbokklclmbaaGreatDoor.Z.Y.Q
end
section
namespace Go.Proofs.YteigbokklclmbaaGreatDoor.M
open Go Go.RowKit Go.Proofs.YteigbokklclmbaaGreatDoor.Given Go.Proofs.YteigbokklclmbaaGreatDoorW.PrintWords Go.Proofs.YteigbokklclmbaaGreatDoorW.PrintLast Go.Proofs.YteigbokklclmbaaGreatDoorW.PrintMore Go.Proofs.YteigbokklclmbaaGreatDoor.Z Go.Proofs.YteigbokklclmbaaGreatDoor.Z.Y Go.Proofs.YteigbokklclmbaaGreatDoor.Z.Y.Q
/-- The range of the indices. -/
def IR (n : Int) : Prop := -2533359615 ≤ n ∧ n ≤ 2533359615
/-- The real with a signed index. -/
def rl (n : Int) : Int × Int := sgn (decide (n < 0)) (atI n.natAbs)
theorem rl_bd {n : Int} (h : IR n) : -16777216 < (rl n).1 ∧ (rl n).1 < 16777216 ∧ -150 ≤ (rl n).2 ∧ (rl n).2 ≤ 150 := by
  obtain ⟨h0, h1⟩ := h
  have := atI_bd n.natAbs (by omega)
  unfold rl sgn; split <;> (dsimp only; omega)
theorem rl_64 {n : Int} (h : IR n) : I64 (rl n).1 := by have := rl_bd h; exact ⟨by omega, by omega⟩
theorem rl_abs {n : Int} (h : IR n) : ((rl n).1.natAbs : Int) = (atI n.natAbs).1 ∧ (rl n).2 = (atI n.natAbs).2 := by
  obtain ⟨h0, h1⟩ := h
  have := atI_bd n.natAbs (by omega)
  unfold rl sgn; split <;> (dsimp only; omega)
theorem rl_VR {n : Int} (h : IR n) : VR (rl n).1 (rl n).2 := by
  have hb := rl_bd h
  have ha := rl_abs h
  obtain ⟨h0, h1⟩ := h
  unfold VR
  rw [mag_abs (rl n).1 (by omega) (by omega), ha.1, ha.2]
  unfold atI
  have hm := man_bd n.natAbs
  by_cases hz : n.natAbs = 0
  · left
    have hn : n = 0 := by omega
    subst hn
    exact ⟨rfl, rfl⟩
  · right
    rw [if_neg hz]
    show 1 ≤ ((man n.natAbs : Nat) : Int) ∧ ((man n.natAbs : Nat) : Int) < 16777216 ∧ (((sh n.natAbs : Nat) : Int) - 150 = -150 ∨ (8388608 ≤ ((man n.natAbs : Nat) : Int) ∧ -150 < ((sh n.natAbs : Nat) : Int) - 150 ∧ ((sh n.natAbs : Nat) : Int) - 150 ≤ 150))
    have hN : n.natAbs ≤ 2533359615 := by omega
    clear ha
    generalize n.natAbs = N at *
    unfold man sh
    omega
/-- A signed number. -/
def sval (neg : Bool) (n : Nat) : Int := if neg = true then -(n : Int) else (n : Int)
/-- The value of a real in units of 2^-150. -/
def vv (p q : Int) : Int := p * 2 ^ (q + 150).toNat
theorem vv_sval {a b : Int} (hw : I64 a) (h : VR a b) : vv a b = sval (decide (a < 0)) (G (ix a b)) := by
  rw [ix_G hw h]
  unfold vv sval
  by_cases hn : a < 0
  · rw [if_pos (decide_eq_true hn), Int.natCast_mul, Int.natCast_pow]
    have : ((a.natAbs : Nat) : Int) = -a := by omega
    rw [this, Int.neg_mul, Int.neg_neg]; rfl
  · rw [if_neg (by simpa using hn), Int.natCast_mul, Int.natCast_pow]
    have : ((a.natAbs : Nat) : Int) = a := by omega
    rw [this]; rfl
/-- The value of a rounded result. -/
theorem vv_sgn (neg : Bool) (I : Nat) (h : I ≤ 2533359615) : vv (sgn neg (atI I)).1 (sgn neg (atI I)).2 = sval neg (G I) := by
  unfold vv sgn sval
  have e : (atI I).1 * 2 ^ ((atI I).2 + 150).toNat = ((G I : Nat) : Int) := by
    unfold atI
    by_cases h0 : I = 0
    · rw [if_pos h0, h0, G_zero]; simp
    · rw [if_neg h0]
      show ((man I : Nat) : Int) * 2 ^ (((sh I : Nat) : Int) - 150 + 150).toNat = _
      have : (((sh I : Nat) : Int) - 150 + 150).toNat = sh I := by omega
      rw [this]; unfold G; rw [Int.natCast_mul, Int.natCast_pow]; rfl
  split
  · rw [Int.neg_mul, e]
  · exact e
theorem H_two (I : Nat) : H I = G I + G (I + 1) := rfl
/-- The rounded value is a nearest one among those above 0. -/
theorem Rd.near {N I : Nat} (h : Rd N 1 I) (K : Nat) : ((G I : Int) - N).natAbs ≤ ((G K : Int) - N).natAbs := by
  obtain ⟨h1, h2, h3⟩ := h
  rw [Nat.mul_one] at h2 h3
  rcases Nat.lt_trichotomy K I with hk | hk | hk
  · rcases h1 with h1 | ⟨h1, _⟩
    · omega
    · rw [Nat.mul_one] at h1
      have h4 := G_le (show K ≤ I - 1 by omega)
      have h5 := H_two (I - 1)
      rw [show I - 1 + 1 = I by omega] at h5
      have h6 := G_lt (show I - 1 < I by omega)
      omega
  · rw [hk]; exact Nat.le_refl _
  · have h4 := G_le (show I + 1 ≤ K by omega)
    have h5 := H_two I
    have h6 := G_lt_succ I
    omega
/-- .. and among all. -/
theorem Rd.nearest {N I : Nat} (h : Rd N 1 I) (neg σ : Bool) (K : Nat) : (sval neg (G I) - sval neg N).natAbs ≤ (sval σ (G K) - sval neg N).natAbs := by
  have h1 := Rd.near h K
  have h0 := Rd.near h 0
  rw [G_zero] at h0
  unfold sval
  cases neg <;> cases σ <;> simp only [if_true, if_false, Bool.false_eq_true] <;> omega
end Go.Proofs.YteigbokklclmbaaGreatDoor.M
end
section
namespace Go.Proofs.YteigbokklclmbaaGreatDoor.M
open Go Go.RowKit Go.Proofs.YteigbokklclmbaaGreatDoor.Given Go.Proofs.YteigbokklclmbaaGreatDoorW.PrintWords Go.Proofs.YteigbokklclmbaaGreatDoorW.PrintLast Go.Proofs.YteigbokklclmbaaGreatDoorW.PrintMore Go.Proofs.YteigbokklclmbaaGreatDoor.Z Go.Proofs.YteigbokklclmbaaGreatDoor.Z.Y Go.Proofs.YteigbokklclmbaaGreatDoor.Z.Y.V Go.Proofs.YteigbokklclmbaaGreatDoor.Z.Y.Q
theorem sgn_zero (b : Bool) : sgn b (atI 0) = (0, 0) := by cases b <;> rfl
theorem vv_inj {a b c d : Int} (wa : I64 a) (wc : I64 c) (h : VR a b) (h' : VR c d) (he : vv a b = vv c d) : (a, b) = (c, d) := by
  rw [vv_sval wa h, vv_sval wc h'] at he
  have e1 := sgn_ix wa h
  have e2 := sgn_ix wc h'
  have key : ix a b = ix c d ∧ (ix a b = 0 ∨ decide (a < 0) = decide (c < 0)) := by
    unfold sval at he
    by_cases ha : a < 0 <;> by_cases hc : c < 0 <;> simp only [ha, hc, decide_true, decide_false, if_true, if_false, Bool.false_eq_true] at he ⊢
    · have : G (ix a b) = G (ix c d) := by omega
      exact ⟨G_inj this, .inr trivial⟩
    · have h1 : G (ix a b) = 0 := by omega
      have h2 : G (ix c d) = 0 := by omega
      have h3 := G_inj (h1.trans G_zero.symm)
      have h4 := G_inj (h2.trans G_zero.symm)
      exact ⟨by omega, .inl h3⟩
    · have h1 : G (ix a b) = 0 := by omega
      have h2 : G (ix c d) = 0 := by omega
      have h3 := G_inj (h1.trans G_zero.symm)
      have h4 := G_inj (h2.trans G_zero.symm)
      exact ⟨by omega, .inl h3⟩
    · have : G (ix a b) = G (ix c d) := by omega
      exact ⟨G_inj this, .inr trivial⟩
  obtain ⟨k1, k2⟩ := key
  rw [← e1, ← e2, ← k1]
  rcases k2 with k2 | k2
  · rw [k2, sgn_zero, sgn_zero]
  · rw [k2]
end Go.Proofs.YteigbokklclmbaaGreatDoor.M
end
section
namespace Go.Proofs.YteigbokklclmbaaGreatDoor.M
open Go Go.RowKit Go.Proofs.YteigbokklclmbaaGreatDoor.Given Go.Proofs.YteigbokklclmbaaGreatDoorW.PrintWords Go.Proofs.YteigbokklclmbaaGreatDoorW.PrintLast Go.Proofs.YteigbokklclmbaaGreatDoorW.PrintMore Go.Proofs.YteigbokklclmbaaGreatDoor.Z Go.Proofs.YteigbokklclmbaaGreatDoor.Z.Y Go.Proofs.YteigbokklclmbaaGreatDoor.Z.Y.Q
/-- A mantissa times a power of two is a real. -/
theorem repr_ : ∀ (u m : Nat), m ≤ 16777216 → ∃ I, G I = m * 2 ^ u
  | 0, m, h => ⟨_, G_at m 0 h (.inl rfl)⟩
  | u + 1, m, h => by
    by_cases hm : 8388608 ≤ m
    · exact ⟨_, G_at m (u + 1) h (.inr hm)⟩
    · obtain ⟨I, hI⟩ := repr_ u (2 * m) (by omega)
      exact ⟨I, by rw [hI, Nat.pow_succ]; ac_rfl⟩
theorem fromN_ev (n : Int) (h0 : -9223372036854775808 < n) (h1 : n ≤ 9223372036854775807) : ∃ I, Rd (n.natAbs * 2 ^ 150) 1 I ∧ I ≤ 2533359615 ∧ Ev (fun k => real_FromIntN.f k n) (sgn (decide (n < 0)) (atI I)) := by
  have b1 : bl n.natAbs ≤ 64 := bl_le_iff.2 (by omega)
  obtain ⟨I, hR, hE⟩ := rounded_one n.natAbs 0 (by omega) (by omega) (by omega)
  have e150 : ((0 : Int) + 150).toNat = 150 := rfl
  rw [e150] at hR
  have hI : I ≤ 2533359615 := by
    have hG : G (8388608 + 190 * 8388608) = 9223372036854775808 * 2 ^ 150 := by
      rw [G_at 8388608 190 (by decide) (by decide), show (9223372036854775808 : Nat) = 8388608 * 2 ^ 40 by decide, Nat.mul_assoc, ← Nat.pow_add]
    have he := Rd.exact (8388608 + 190 * 8388608) 1 (by decide)
    rw [hG] at he
    have := hR.mono (by decide) (by decide) he (by
      rw [Nat.mul_one, Nat.mul_one, Nat.mul_one]
      exact Nat.mul_le_mul_right _ (by omega))
    omega
  refine ⟨I, hR, hI, ?_⟩
  have hb := atI_bd I hI
  have hj : Ev (fun k => real_FromInt.j0 k n ((n.natAbs : Nat) : Int)) (sgn (decide (n < 0)) (atI I)) := by
    refine Ev.step (fun k => by rw [real_FromInt.j0]) ?_
    refine Ev.bind (natOf_ev n.natAbs (by omega)) (Ev.bind hE ?_)
    rw [← sgnr_in hI]
    exact Ev.congr (fun k => signed_back _ I) (Ev.now _)
  have hf : Ev (fun k => real_FromInt.f k n) (sgn (decide (n < 0)) (atI I)) := by
    by_cases hn : n < 0
    · have u1 : IntKind.u64.wrap n = n + 18446744073709551616 := by
        have : IntKind.u64.wrap n = n % 18446744073709551616 := by simp [IntKind.wrap, IntKind.bits, IntKind.signed]
        rw [this]; omega
      have u2 : IntKind.u64.wrap (-(n + 18446744073709551616)) = ((n.natAbs : Nat) : Int) := by
        have : IntKind.u64.wrap (-(n + 18446744073709551616)) = (-(n + 18446744073709551616)) % 18446744073709551616 := by simp [IntKind.wrap, IntKind.bits, IntKind.signed]
        rw [this]; omega
      exact Ev.congr (fun k => by unfold real_FromInt.f; rw [if_pos hn, u1, u2]) hj
    · have u1 : IntKind.u64.wrap n = ((n.natAbs : Nat) : Int) := by rw [wu64 _ (by omega) (by omega)]; omega
      exact Ev.congr (fun k => by unfold real_FromInt.f; rw [if_neg hn, u1]) hj
  refine Ev.congr (f := fun k => (real_FromInt.f k n).bind fun r => if r.2 = 1000 then none else some r) (fun k => rfl) (Ev.bind hf ?_)
  have h2 : ¬ (sgn (decide (n < 0)) (atI I)).2 = 1000 := by unfold sgn; show ¬ (atI I).2 = 1000; omega
  exact Ev.congr (fun k => if_neg h2) (Ev.now _)
theorem sgn_rl (neg : Bool) (I : Nat) : sgn neg (atI I) = rl (if neg = true then -((I : Nat) : Int) else ((I : Nat) : Int)) := by
  unfold rl
  rcases Nat.eq_zero_or_pos I with h | h
  · subst h; cases neg <;> rfl
  · cases neg
    · simp only [if_false, Bool.false_eq_true, Int.natAbs_natCast]; rw [decide_eq_false (by omega)]
    · simp only [if_true, Int.natAbs_neg, Int.natAbs_natCast]; rw [decide_eq_true (by omega)]
theorem res_VR {neg : Bool} {I : Nat} (h : I ≤ 2533359615) : VR (sgn neg (atI I)).1 (sgn neg (atI I)).2 ∧ I64 (sgn neg (atI I)).1 := by
  rw [sgn_rl]
  have : IR (if neg = true then -((I : Nat) : Int) else ((I : Nat) : Int)) := ⟨by split <;> omega, by split <;> omega⟩
  exact ⟨rl_VR this, rl_64 this⟩
/-- FromInt of a modest integer is this integer. -/
theorem fromS_ev (n : Int) (h0 : -16777216 ≤ n) (h1 : n ≤ 16777216) : ∃ p q, VR p q ∧ I64 p ∧ vv p q = n * 2 ^ 150 ∧ Ev (fun k => real_FromIntN.f k n) (p, q) := by
  obtain ⟨I, hR, hI, hE⟩ := fromN_ev n (by omega) (by omega)
  obtain ⟨J, hJ⟩ := repr_ 150 n.natAbs (by omega)
  have he := Rd.exact J 1 (by decide)
  rw [Nat.mul_one, hJ] at he
  have hIJ : I = J := hR.only (by decide) (by decide) he rfl
  obtain ⟨v1, v2⟩ := res_VR (neg := decide (n < 0)) hI
  refine ⟨_, _, v1, v2, ?_, hE⟩
  rw [vv_sgn _ I hI, hIJ, hJ]
  unfold sval
  by_cases hn : n < 0
  · rw [if_pos (decide_eq_true hn), Int.natCast_mul, Int.natCast_pow, ← Int.neg_mul]
    congr 1; omega
  · rw [if_neg (by simpa using hn), Int.natCast_mul, Int.natCast_pow]
    congr 1; omega
end Go.Proofs.YteigbokklclmbaaGreatDoor.M
end
section
namespace Go.Proofs.YteigbokklclmbaaGreatDoor.M
open Go Go.RowKit Go.Proofs.YteigbokklclmbaaGreatDoor.Given Go.Proofs.YteigbokklclmbaaGreatDoorW.PrintWords Go.Proofs.YteigbokklclmbaaGreatDoorW.PrintLast Go.Proofs.YteigbokklclmbaaGreatDoorW.PrintMore Go.Proofs.YteigbokklclmbaaGreatDoor.Z Go.Proofs.YteigbokklclmbaaGreatDoor.Z.Y Go.Proofs.YteigbokklclmbaaGreatDoor.Z.Y.V
theorem sval_mul (a b : Bool) (g h : Nat) : sval a g * sval b h = sval (a != b) (g * h) := by
  cases a <;> cases b <;> simp [sval, Int.natCast_mul, Int.neg_mul, Int.mul_neg]
theorem sval_scale (a : Bool) (g h : Nat) : sval a (g * h) = sval a g * (h : Int) := by
  cases a <;> simp [sval, Int.natCast_mul, Int.neg_mul]
theorem sval_abs (a : Bool) (g : Nat) : (sval a g).natAbs = g := by cases a <;> simp [sval]
theorem G_top : G 2533359615 = 16777215 * 2 ^ 300 := by kernel_rfl
theorem top_of {J : Nat} (h : G J ≤ 16777215 * 2 ^ 300) : J ≤ 2533359615 := by
  rcases Nat.lt_or_ge 2533359615 J with h' | h'
  · have := G_lt h'; rw [G_top] at this; omega
  · exact h'
theorem res3_in {neg : Bool} {J : Nat} (h : J ≤ 2533359615) : res3 neg J = ((sgn neg (atI J)).1, (sgn neg (atI J)).2, 0) := by unfold res3; rw [if_neg (by omega)]
theorem mulV {x0 x1 y0 y1 : Int} (wx : I64 x0) (wy : I64 y0) (hx : VR x0 x1) (hy : VR y0 y1) {C : Int} {c u : Nat} (hp : vv x0 x1 * vv y0 y1 = C * 2 ^ 150) (hc : c ≤ 16777216) (hC : C.natAbs = c * 2 ^ u) (hb : C.natAbs ≤ 16777215 * 2 ^ 300) :
    ∃ p q, VR p q ∧ I64 p ∧ vv p q = C ∧ Ev (fun k => real_Mul.f k x0 x1 y0 y1) (p, q, 0) := by
  obtain ⟨I, hR, hE⟩ := real_Mul_ev wx wy hx hy
  obtain ⟨J, hJ⟩ := repr_ u c hc
  rw [vv_sval wx hx, vv_sval wy hy, sval_mul] at hp
  generalize hneg : (decide (x0 < 0) != decide (y0 < 0)) = neg at hp hE
  have ha : G (ix x0 x1) * G (ix y0 y1) = G J * 2 ^ 150 := by
    have := congrArg Int.natAbs hp
    rw [sval_abs, Int.natAbs_mul, hC, ← hJ] at this
    rw [this]; rfl
  have hIJ : I = J := hR.only (Nat.two_pow_pos _) (Nat.two_pow_pos _) (Rd.exact J (2 ^ 150) (Nat.two_pow_pos _)) (by rw [ha])
  have hI : J ≤ 2533359615 := top_of (by rw [hJ, ← hC]; exact hb)
  subst hIJ
  rw [res3_in hI] at hE
  obtain ⟨v1, v2⟩ := res_VR (neg := neg) hI
  refine ⟨_, _, v1, v2, ?_, hE⟩
  rw [vv_sgn _ I hI]
  rw [ha, sval_scale] at hp
  exact Int.eq_of_mul_eq_mul_right (by decide) hp
theorem divV {x0 x1 y0 y1 : Int} (wx : I64 x0) (wy : I64 y0) (hx : VR x0 x1) (hy : VR y0 y1) (hy0 : vv y0 y1 ≠ 0) {C : Int} {c u : Nat} (hp : vv x0 x1 * 2 ^ 150 = C * vv y0 y1) (hc : c ≤ 16777216) (hC : C.natAbs = c * 2 ^ u) (hb : C.natAbs ≤ 16777215 * 2 ^ 300) :
    ∃ p q, VR p q ∧ I64 p ∧ vv p q = C ∧ Ev (fun k => real_Div.f k x0 x1 y0 y1) (p, q, 0) := by
  have hyz : y0 ≠ 0 := fun h => hy0 (by unfold vv; rw [h, Int.zero_mul])
  obtain ⟨I, hR, hE⟩ := real_Div_ev wx wy hx hy hyz
  obtain ⟨J, hJ⟩ := repr_ u c hc
  have hB : vv y0 y1 = sval (decide (y0 < 0)) (G (ix y0 y1)) := vv_sval wy hy
  have hA : vv x0 x1 = sval (decide (x0 < 0)) (G (ix x0 x1)) := vv_sval wx hx
  have hGy : 0 < G (ix y0 y1) := by
    rcases Nat.eq_zero_or_pos (G (ix y0 y1)) with h | h
    · rw [h] at hB; exact absurd (by rw [hB]; cases decide (y0 < 0) <;> rfl) hy0
    · exact h
  have ha : G (ix x0 x1) * 2 ^ 150 = G J * G (ix y0 y1) := by
    have := congrArg Int.natAbs hp
    rw [hA, hB, Int.natAbs_mul, Int.natAbs_mul, sval_abs, sval_abs, hC, ← hJ] at this
    exact this
  have hIJ : I = J := hR.only hGy hGy (Rd.exact J _ hGy) (by rw [ha])
  have hI : J ≤ 2533359615 := top_of (by rw [hJ, ← hC]; exact hb)
  subst hIJ
  generalize hneg : (decide (x0 < 0) != decide (y0 < 0)) = neg at hE
  rw [res3_in hI] at hE
  obtain ⟨v1, v2⟩ := res_VR (neg := neg) hI
  refine ⟨_, _, v1, v2, ?_, hE⟩
  rw [vv_sgn _ I hI]
  refine Int.eq_of_mul_eq_mul_right hy0 ?_
  rw [← hp, hA, hB, sval_mul, ← ha, sval_scale]
  have : (neg != decide (y0 < 0)) = decide (x0 < 0) := by rw [← hneg]; cases decide (x0 < 0) <;> cases decide (y0 < 0) <;> rfl
  rw [this]; rfl
end Go.Proofs.YteigbokklclmbaaGreatDoor.M
end
section
namespace Go.Proofs.YteigbokklclmbaaGreatDoor.Z
open Go Go.RowKit Go.Proofs.YteigbokklclmbaaGreatDoor.Given Go.Proofs.YteigbokklclmbaaGreatDoorW.PrintWords Go.Proofs.YteigbokklclmbaaGreatDoorW.PrintLast Go.Proofs.YteigbokklclmbaaGreatDoorW.PrintMore
theorem real_one.calls (w : World) : Calls Tryz.prog 69 #[] w fun e w' => e = .returned (.agg #[.int .i64 8388608, .int .i64 (-23)]) ∧ Below w.heap.size w w' := by
  go_enter Tryz.func69, Tryz.ntmps69
  go_wp2_with fail
  refine (real_FromIntN.calls 60 1 8388608 (-23) _ (by kernel_rfl)).mono ?_
  rintro e w1 ⟨rfl, hb⟩
  have hz : w1.heap[w.heap.size]? = some (.cells #[.int .i64 0, .int .i64 0] 23 (0, 0)) := blk_below (new_at _ _ _ rfl) hb
  have hB : Below w.heap.size w w1 := ((Below.refl _ w).alloc (Nat.le_refl _) _).trans (hb.mono (by simp))
  have z0 : w1.cell? ⟨w.heap.size, 0, none⟩ = some (.int .i64 0) := (blk_cell hz 0).trans rfl
  have z1 : w1.cell? ⟨w.heap.size, 1, none⟩ = some (.int .i64 0) := (blk_cell hz 1).trans rfl
  have f0 := blk_frozen hz 0
  have f1 := blk_frozen hz 1
  have lz := blk_lt hz
  clear hb
  go_wp2
  have fz := heap_setCell_same (w1.setCell ⟨w.heap.size, 0, none⟩ (.int .i64 8388608)) w.heap.size 1 _ _ (.int .i64 (-23)) (heap_setCell_same w1 w.heap.size 0 _ _ (.int .i64 8388608) hz)
  refine bodyPost_ret (results_cell_row rfl _ _ w.heap.size 23 #[.int .i64 8388608, .int .i64 (-23)] (0, 0) _ rfl fz Tryz.underlying23 rfl (by kernel_rfl)) rfl ?_
  exact ⟨rfl, (hB.setCell (Nat.le_refl _) _).setCell (Nat.le_refl _) _⟩
def real_power.f : Nat → Int → Int → Int → Option (Int × Int)
  | 0, _, _, _ => none
  | k + 1, x0, x1, n => if n = 0 then some (8388608, -23) else if n % 2 = 1 then (real_power.f k x0 x1 (n - 1)).bind fun y => if y.2 = 1000 then some y else real_product.f k x0 x1 y.1 y.2
    else (real_power.f k x0 x1 (n / 2)).bind fun y => if y.2 = 1000 then some y else real_product.f k y.1 y.2 y.1 y.2
theorem real_power.mono : ∀ (x0 x1 n : Int) (k : Nat), LeO (real_power.f k x0 x1 n) (real_power.f (k + 1) x0 x1 n)
  | x0, x1, n, 0 => LeO.none _
  | x0, x1, n, k + 1 => by
    rw [real_power.f, real_power.f.eq_2 (k := k + 1)]
    exact LeO.ite (LeO.refl _) (LeO.ite (LeO.bind (real_power.mono _ _ _ k) (fun _ => LeO.ite (LeO.refl _) (real_product.mono _ _ _ _ _))) (LeO.bind (real_power.mono _ _ _ k) (fun _ => LeO.ite (LeO.refl _) (real_product.mono _ _ _ _ _))))
def real_power.T4 : Bool × List (List Nat × List Nat) := (true, [([], []), ([], []), ([], []), ([2], [2]), ([1, 3], [1, 3]), ([0, 4, 4], [0, 4]), ([5, 5, 0, 1, 2, 3, 4, 5], [5])])
def real_power.B4 : List Nat := [0, 0, 0, 4, 14, 31, 63]
theorem real_power.tab4 : rtab .any (opsOf Tryz.f66 4) = real_power.T4 := by kernel_rfl
theorem real_power.bits4 : waitsOk real_power.T4.2 real_power.B4 = true := by kernel_rfl
theorem real_power.calls : ∀ (k : Nat) (x0 x1 n r1 r2 : Int) (w : World), real_power.f k x0 x1 n = some (r1, r2) → 0 ≤ n → n < 18446744073709551616 →
    Calls Tryz.prog 66 #[.agg #[.int .i64 x0, .int .i64 x1], .int .u64 n] w fun e w' => e = ending r1 r2 ∧ Below w.heap.size w w' := by
  intro k
  induction k with
  | zero => intro x0 x1 n r1 r2 w h; exact absurd h (by simp [real_power.f])
  | succ k ih =>
    intro x0 x1 n r1 r2 w h hn hn2
    have IH := Lib.hid ih
    clear ih
    rw [real_power.f] at h
    by_cases c0 : n = 0
    · rw [if_pos c0] at h
      cases h
      subst c0
      go_enter Tryz.func66, Tryz.ntmps66
      go_wp2_with fail
      refine (real_one.calls _).mono ?_
      rintro e w1 ⟨rfl, hb⟩
      have hz : w1.heap[w.heap.size + 1]? = some (.cells #[.int .i64 0, .int .i64 0] 23 (0, 0)) := blk_below (new_at _ _ _ (by simp only [World.size_alloc])) hb
      have hB : Below w.heap.size w w1 := (((Below.refl _ w).alloc (Nat.le_refl _) _).alloc (by simp only [World.size_alloc]; omega) _).trans (hb.mono (by simp only [World.size_alloc]; omega))
      have z0 : w1.cell? ⟨w.heap.size + 1, 0, none⟩ = some (.int .i64 0) := (blk_cell hz 0).trans rfl
      have z1 : w1.cell? ⟨w.heap.size + 1, 1, none⟩ = some (.int .i64 0) := (blk_cell hz 1).trans rfl
      have f0 := blk_frozen hz 0
      have f1 := blk_frozen hz 1
      have lz := blk_lt hz
      clear hb
      go_wp2
      have fz := heap_setCell_same (w1.setCell ⟨w.heap.size + 1, 0, none⟩ (.int .i64 8388608)) (w.heap.size + 1) 1 _ _ (.int .i64 (-23)) (heap_setCell_same w1 (w.heap.size + 1) 0 _ _ (.int .i64 8388608) hz)
      refine bodyPost_ret (results_cell_row rfl _ _ (w.heap.size + 1) 23 #[.int .i64 8388608, .int .i64 (-23)] (0, 0) _ rfl fz Tryz.underlying23 rfl (by kernel_rfl)) rfl ?_
      exact ⟨rfl, (hB.setCell (by simp only; omega) _).setCell (by simp only; omega) _⟩
    · rw [if_neg c0] at h
      have c0b : (n == 0) = false := beq_eq_false_iff_ne.mpr c0
      by_cases c1 : n % 2 = 1
      · rw [if_pos c1] at h
        obtain ⟨⟨y1, y2⟩, hy, h⟩ := Option.bind_eq_some_iff.mp h
        have HY := Lib.hid hy
        have H := Lib.hid h
        clear h hy
        have hn1 : 0 ≤ n - 1 := by omega
        have hn3 : n - 1 < 18446744073709551616 := by omega
        have u1 : IntKind.u64.wrap (n - 1) = n - 1 := by simp [IntKind.wrap, IntKind.bits, IntKind.signed]; omega
        go_enter Tryz.func66, Tryz.ntmps66
        go_wp2_with fail
        have kx : ((w.alloc (.cells #[.int .i64 x0, .int .i64 x1] 23)).alloc (.cells #[.int .i64 0, .int .i64 0] 23)).drew.heap[w.heap.size]? = some (.cells #[.int .i64 x0, .int .i64 x1] 23 (0, 0)) := blk_drew (blk_alloc (new_at _ _ _ rfl) _)
        have kz : ((w.alloc (.cells #[.int .i64 x0, .int .i64 x1] 23)).alloc (.cells #[.int .i64 0, .int .i64 0] 23)).drew.heap[w.heap.size + 1]? = some (.cells #[.int .i64 0, .int .i64 0] 23 (0, 0)) := blk_drew (new_at _ _ _ (by simp only [World.size_alloc]))
        have hB := below_drew1 (((Below.refl _ w).alloc (Nat.le_refl _) (.cells #[.int .i64 x0, .int .i64 x1] 23)).alloc (by simp only [World.size_alloc]; omega) (.cells #[.int .i64 0, .int .i64 0] 23))
        refine start_ (n := 7) (S := fun w' => w'.cell? ⟨w.heap.size, 0, none⟩ = some (.int .i64 x0) ∧ w'.cell? ⟨w.heap.size, 1, none⟩ = some (.int .i64 x1)) (ds := []) #[false, false, false, false, false, false, false] (by kernel_rfl) rfl rfl ⟨(blk_cell kx 0).trans rfl, (blk_cell kx 1).trans rfl⟩ (fun hHeld => ?_); refine with_tabW real_power.tab4 real_power.bits4 (fun HT_ HW_ => ?_)
        generalize ((w.alloc (.cells #[.int .i64 x0, .int .i64 x1] 23)).alloc (.cells #[.int .i64 0, .int .i64 0] 23)).drew = w1 at kx kz hB hHeld ⊢
        have KX := Lib.hid kx
        have KZ := Lib.hid kz
        have HB := Lib.hid hB
        clear kx kz hB
        refine pur 2 (some 14) #[ff,ff,tt,ff,ff,ff,ff] ?_
        refine pur 3 (some 15) #[ff,ff,tt,tt,ff,ff,ff] ?_
        refine tk2 0 (some 12) #[tt,ff,tt,tt,ff,ff,ff] ?_
        refine tk2 1 (some 13) #[tt,tt,tt,tt,ff,ff,ff] ?_
        refine one_ (i := 4) (N := some 16) #[true, true, true, true, true, false, false] rfl rfl (one_of HT_.out (by kernel_rfl)) (by decide) (fun K hK => ?_)
        refine goesP_ Tryz.func66 (by kernel_rfl) rfl #[.agg #[.int .i64 x0, .int .i64 x1], .int .u64 (n - 1)] (by rfl) rfl rfl ay ?_
        with_reducible refine (IH.out x0 x1 (n - 1) y1 y2 _ HY.out hn1 hn3).mono ?_
        rintro e w3 ⟨he_, hb⟩
        refine ends_ he_ (fun p1_ => And.intro rfl (And.intro ?_ (HB.out.trans (hb.mono HB.out.size)))) (fun hpn_ => ?_)
        · have h := H.out
          simp only [if_pos p1_, Option.some.injEq, Prod.mk.injEq] at h
          exact code_direct (h.2 ▸ p1_)
        have h := H.out
        simp only [if_neg hpn_] at h
        have kx := blk_below KX.out hb
        have kz := blk_below KZ.out hb
        have hB := HB.out.trans (hb.mono HB.out.size)
        refine hK.out _ _ ⟨(blk_cell kx 0).trans rfl, (blk_cell kx 1).trans rfl⟩ (fun hHeld => ?_)
        clear hK K H HB KX KZ hb
        refine norm_ (a' := ?_) ?_ ?_
        rotate_left
        · show Act.put _ (some 16) _ = _
          simp only [Act.put, List.setIfInBounds_toArray, List.set_cons_zero, List.set_cons_succ, i64_w, i32_w]
          rfl
        refine one_ (i := 5) (N := some 17) #[true, true, true, true, true, true, false] rfl rfl (one_of HT_.out (by kernel_rfl)) (by decide) (fun K hK => ?_)
        refine goesP_ Tryz.func96 (by kernel_rfl) rfl #[.agg #[.int .i64 x0, .int .i64 x1], .agg #[.int .i64 y1, .int .i64 y2]] (by rfl) rfl rfl ay ?_
        with_reducible refine (real_product.calls k x0 x1 y1 y2 r1 r2 _ h).mono ?_
        rintro e w4 ⟨he_, hb⟩
        refine ends_ he_ (fun p1_ => And.intro rfl (And.intro (code_direct p1_) (hB.trans (hb.mono hB.size)))) (fun hpn2_ => ?_)
        replace kx := blk_below kx hb
        replace kz := blk_below kz hb
        replace hB := hB.trans (hb.mono hB.size)
        refine hK.out _ _ ⟨(blk_cell kx 0).trans rfl, (blk_cell kx 1).trans rfl⟩ (fun hHeld => ?_)
        clear hK K hb
        refine norm_ (a' := ?_) ?_ ?_
        rotate_left
        · show Act.put _ (some 17) _ = _
          simp only [Act.put, List.setIfInBounds_toArray, List.set_cons_zero, List.set_cons_succ, i64_w, i32_w]
          rfl
        refine one_ (i := 6) (N := none) #[true, true, true, true, true, true, true] rfl rfl (one_of HT_.out (by kernel_rfl)) (by decide) (fun K hK => ?_)
        have z0 : w4.cell? ⟨w.heap.size + 1, 0, none⟩ = some (.int .i64 0) := (blk_cell kz 0).trans rfl
        have z1 : w4.cell? ⟨w.heap.size + 1, 1, none⟩ = some (.int .i64 0) := (blk_cell kz 1).trans rfl
        have f0 := blk_frozen kz 0
        have f1 := blk_frozen kz 1
        have hne : w.heap.size ≠ w.heap.size + 1 := by omega
        refine skip_ (w1 := ?_) (by rfl) rfl ?_ ?_
        rotate_left
        · go_simp
          rfl
        refine hK.out _ _ ⟨((cell_far (p := ⟨w.heap.size + 1, _, none⟩) hne _).trans ((cell_far (p := ⟨w.heap.size + 1, _, none⟩) hne _).trans hHeld.1)), ((cell_far (p := ⟨w.heap.size + 1, _, none⟩) hne _).trans ((cell_far (p := ⟨w.heap.size + 1, _, none⟩) hne _).trans hHeld.2))⟩ (fun hHeld => ?_)
        clear hK K
        refine done_ (done_of HT_.out (by kernel_rfl)) ?_
        try go_wp2
        have fz := heap_setCell_same (w4.setCell ⟨w.heap.size + 1, 0, none⟩ (.int .i64 r1)) (w.heap.size + 1) 1 _ _ (.int .i64 r2) (heap_setCell_same w4 (w.heap.size + 1) 0 _ _ (.int .i64 r1) kz)
        refine bodyPost_ret (results_cell_row rfl _ _ (w.heap.size + 1) 23 #[.int .i64 r1, .int .i64 r2] (0, 0) _ rfl fz Tryz.underlying23 rfl (by kernel_rfl)) rfl ?_
        exact ⟨(ending_at hpn2_).symm, (hB.setCell (by simp only; omega) _).setCell (by simp only; omega) _⟩
      · rw [if_neg c1] at h
        obtain ⟨⟨y1, y2⟩, hy, h⟩ := Option.bind_eq_some_iff.mp h
        have HY := Lib.hid hy
        have H := Lib.hid h
        clear h hy
        have hn1 : 0 ≤ n / 2 := by omega
        have hn3 : n / 2 < 18446744073709551616 := by omega
        by_cases hp : y2 = 1000
        · have e1 : ending y1 y2 = .panicked chain := by unfold ending; rw [if_pos hp]
          have e2 : y1 = r1 ∧ y2 = r2 := by have h := H.out; rw [if_pos hp] at h; simpa using h
          obtain ⟨rfl, rfl⟩ := e2
          go_enter Tryz.func66, Tryz.ntmps66
          go_wp2_with fail
          refine (IH.out x0 x1 (n / 2) y1 y2 _ HY.out hn1 hn3).mono ?_
          rintro e w3 ⟨rfl, hb⟩
          have hB : Below w.heap.size w w3 := (((Below.refl _ w).alloc (Nat.le_refl _) _).alloc (by simp only [World.size_alloc]; omega) _).trans (hb.mono (by simp only [World.size_alloc]; omega))
          rw [e1]
          exact ⟨rfl, by rw [e1], hB⟩
        · have e1 : ending y1 y2 = .returned (.agg #[.int .i64 y1, .int .i64 y2]) := ending_at hp
          have h := H.out
          simp only [if_neg hp] at h
          have H2 := Lib.hid h
          clear h H
          go_enter Tryz.func66, Tryz.ntmps66
          go_wp2_with fail
          refine (IH.out x0 x1 (n / 2) y1 y2 _ HY.out hn1 hn3).mono ?_
          rintro e w3 ⟨rfl, hb⟩
          have hz : w3.heap[w.heap.size + 1]? = some (.cells #[.int .i64 0, .int .i64 0] 23 (0, 0)) := blk_below (new_at _ _ _ (by simp only [World.size_alloc])) hb
          have hB : Below w.heap.size w w3 := (((Below.refl _ w).alloc (Nat.le_refl _) _).alloc (by simp only [World.size_alloc]; omega) _).trans (hb.mono (by simp only [World.size_alloc]; omega))
          have HZ := Lib.hid hz
          have HB := Lib.hid hB
          clear hb hz hB
          rw [e1]
          go_wp2_with fail
          refine (real_product.calls k y1 y2 y1 y2 r1 r2 _ H2.out).mono ?_
          rintro e w4 ⟨rfl, hb⟩
          have hz := blk_below (blk_alloc HZ.out (.cells #[.int .i64 y1, .int .i64 y2] 23)) hb
          have hB : Below w.heap.size w w4 := (HB.out.alloc HB.out.size _).trans (hb.mono (by simp only [World.size_alloc]; exact Nat.le_succ_of_le HB.out.size))
          by_cases hq : r2 = 1000
          · have e2 : ending r1 r2 = .panicked chain := by unfold ending; rw [if_pos hq]
            rw [e2]
            exact ⟨rfl, by rw [e2], hB⟩
          · have e2 : ending r1 r2 = .returned (.agg #[.int .i64 r1, .int .i64 r2]) := ending_at hq
            rw [e2]
            have z0 : w4.cell? ⟨w.heap.size + 1, 0, none⟩ = some (.int .i64 0) := (blk_cell hz 0).trans rfl
            have z1 : w4.cell? ⟨w.heap.size + 1, 1, none⟩ = some (.int .i64 0) := (blk_cell hz 1).trans rfl
            have f0 := blk_frozen hz 0
            have f1 := blk_frozen hz 1
            have lz := blk_lt hz
            clear hb
            go_wp2
            have fz := heap_setCell_same (w4.setCell ⟨w.heap.size + 1, 0, none⟩ (.int .i64 r1)) (w.heap.size + 1) 1 _ _ (.int .i64 r2) (heap_setCell_same w4 (w.heap.size + 1) 0 _ _ (.int .i64 r1) hz)
            refine bodyPost_ret (results_cell_row rfl _ _ (w.heap.size + 1) 23 #[.int .i64 r1, .int .i64 r2] (0, 0) _ rfl fz Tryz.underlying23 rfl (by kernel_rfl)) rfl ?_
            exact ⟨e2.symm, (hB.setCell (by simp only; omega) _).setCell (by simp only; omega) _⟩
theorem u64_of {n : Int} (h0 : 0 ≤ n) (h1 : n < 9223372036854775808) : IntKind.u64.wrap n = n := by simp [IntKind.wrap, IntKind.bits, IntKind.signed]; omega
theorem u64_neg {n : Int} (h0 : n < 0) (h1 : -9223372036854775808 ≤ n) : IntKind.u64.wrap (-(IntKind.u64.wrap n)) = -n := by simp [IntKind.wrap, IntKind.bits, IntKind.signed]; omega
theorem pow1_c (k : Nat) (b c : Nat) (x0 x1 n m x : Int) (hp : real_power.f k x0 x1 n = some (m, x)) (hn : 0 ≤ n) (hn2 : n < 9223372036854775808) (w : World)
    (hb : w.heap[b]? = some (.cells #[.int .i64 x0, .int .i64 x1] 23 (0, 0))) (hc : w.heap[c]? = some (.cells #[.int .i64 n] 3 (0, 0))) :
    Calls Tryz.prog 65 #[.pointer (some ⟨b, 0, none⟩), .pointer (some ⟨c, 0, none⟩)] w fun e w' => e = ending m x ∧ Below w.heap.size w w' := by
  have HP := Lib.hid hp
  have b0 : w.cell? ⟨b, 0, none⟩ = some (.int .i64 x0) := (blk_cell hb 0).trans rfl
  have b1 : w.cell? ⟨b, 1, none⟩ = some (.int .i64 x1) := (blk_cell hb 1).trans rfl
  have c0 : w.cell? ⟨c, 0, none⟩ = some (.int .i64 n) := (blk_cell hc 0).trans rfl
  have lb := blk_lt hb
  have lc := blk_lt hc
  have hu := u64_of hn hn2
  have hn3 : n < 18446744073709551616 := by omega
  clear hp hb hc
  by_cases hx : x = 1000
  · have e1 : ending m x = .panicked chain := by unfold ending; rw [if_pos hx]
    go_enter Tryz.func65, Tryz.ntmps65
    go_wp2_with fail
    refine (real_power.calls k x0 x1 n m x _ HP.out hn hn3).mono ?_
    rintro e w3 ⟨rfl, hb⟩
    have hB : Below w.heap.size w w3 := ((Below.refl _ w).alloc (Nat.le_refl _) _).trans (hb.mono (by simp))
    rw [e1]
    exact ⟨rfl, by rw [e1], hB⟩
  · have e1 : ending m x = .returned (.agg #[.int .i64 m, .int .i64 x]) := ending_at hx
    rw [e1]
    go_enter Tryz.func65, Tryz.ntmps65
    go_wp2_with fail
    refine (real_power.calls k x0 x1 n m x _ HP.out hn hn3).mono ?_
    rintro e w3 ⟨rfl, hb⟩
    have hB : Below w.heap.size w w3 := ((Below.refl _ w).alloc (Nat.le_refl _) _).trans (hb.mono (by simp))
    have hz : w3.heap[w.heap.size]? = some (.cells #[.int .i64 0, .int .i64 0] 23 (0, 0)) := blk_below (blk_new _ _) hb
    have z0 : w3.cell? ⟨w.heap.size, 0, none⟩ = some (.int .i64 0) := (blk_cell hz 0).trans rfl
    have z1 : w3.cell? ⟨w.heap.size, 1, none⟩ = some (.int .i64 0) := (blk_cell hz 1).trans rfl
    have f0 := blk_frozen hz 0
    have f1 := blk_frozen hz 1
    have lz := blk_lt hz
    clear hb
    rw [e1]
    go_wp2
    have fz := heap_setCell_same (w3.setCell ⟨w.heap.size, 0, none⟩ (.int .i64 m)) w.heap.size 1 _ _ (.int .i64 x) (heap_setCell_same w3 w.heap.size 0 _ _ (.int .i64 m) hz)
    refine bodyPost_ret (results_cell_row rfl _ _ w.heap.size 23 #[.int .i64 m, .int .i64 x] (0, 0) _ rfl fz Tryz.underlying23 rfl (by kernel_rfl)) rfl ?_
    exact ⟨rfl, (hB.setCell (Nat.le_refl _) _).setCell (Nat.le_refl _) _⟩
def real_pow2.f (k : Nat) (x0 x1 n : Int) : Option (Int × Int) := (real_power.f k x0 x1 (-n)).bind fun y => if y.2 = 1000 then some y else if y.1 = 0 then some (0, 1000) else real_quotient.f k 8388608 (-23) y.1 y.2
theorem real_pow2.mono (x0 x1 n : Int) (k : Nat) : LeO (real_pow2.f k x0 x1 n) (real_pow2.f (k + 1) x0 x1 n) := LeO.bind (real_power.mono _ _ _ _) (fun _ => LeO.ite (LeO.refl _) (LeO.ite (LeO.refl _) (real_quotient.mono _ _ _ _ _)))
def real_pow2.T4 : Bool × List (List Nat × List Nat) := (true, [([], []), ([], []), ([0, 1, 0], [0, 1]), ([2, 2, 0, 1, 2], [2])])
def real_pow2.B4 : List Nat := [0, 0, 3, 7]
theorem real_pow2.tab4 : rtab .any (opsOf Tryz.f67 4) = real_pow2.T4 := by kernel_rfl
theorem real_pow2.bits4 : waitsOk real_pow2.T4.2 real_pow2.B4 = true := by kernel_rfl
theorem pow2_c (k : Nat) (b c : Nat) (x0 x1 n m x : Int) (hp : real_pow2.f k x0 x1 n = some (m, x)) (hn : n < 0) (hn2 : -9223372036854775808 ≤ n) (w : World)
    (hb : w.heap[b]? = some (.cells #[.int .i64 x0, .int .i64 x1] 23 (0, 0))) (hc : w.heap[c]? = some (.cells #[.int .i64 n] 3 (0, 0))) :
    Calls Tryz.prog 67 #[.pointer (some ⟨b, 0, none⟩), .pointer (some ⟨c, 0, none⟩)] w fun e w' => e = ending m x ∧ Below w.heap.size w w' := by
  unfold real_pow2.f at hp
  obtain ⟨⟨y1, y2⟩, hy, hp⟩ := Option.bind_eq_some_iff.mp hp
  have HY := Lib.hid hy
  have HP := Lib.hid hp
  have b0 : w.cell? ⟨b, 0, none⟩ = some (.int .i64 x0) := (blk_cell hb 0).trans rfl
  have b1 : w.cell? ⟨b, 1, none⟩ = some (.int .i64 x1) := (blk_cell hb 1).trans rfl
  have c0 : w.cell? ⟨c, 0, none⟩ = some (.int .i64 n) := (blk_cell hc 0).trans rfl
  have lb := blk_lt hb
  have lc := blk_lt hc
  have hu := u64_neg hn hn2
  have hn3 : -n < 18446744073709551616 := by omega
  have hn4 : 0 ≤ -n := by omega
  clear hp hy hb hc
  by_cases hx : y2 = 1000
  · have e1 : ending y1 y2 = .panicked chain := by unfold ending; rw [if_pos hx]
    have e2 : y1 = m ∧ y2 = x := by have h := HP.out; simp only [if_pos hx] at h; simpa using h
    obtain ⟨rfl, rfl⟩ := e2
    go_enter Tryz.func67, Tryz.ntmps67
    go_wp2_with fail
    refine (real_power.calls k x0 x1 (-n) y1 y2 _ HY.out hn4 hn3).mono ?_
    rintro e w3 ⟨rfl, hb⟩
    have hB : Below w.heap.size w w3 := ((Below.refl _ w).alloc (Nat.le_refl _) _).trans (hb.mono (by simp))
    rw [e1]
    exact ⟨rfl, by rw [e1], hB⟩
  · have e1 : ending y1 y2 = .returned (.agg #[.int .i64 y1, .int .i64 y2]) := ending_at hx
    have h := HP.out
    simp only [if_neg hx] at h
    have H := Lib.hid h
    clear HP h
    by_cases hy0 : y1 = 0
    · have e2 : 0 = m ∧ 1000 = x := by have h := H.out; rw [if_pos hy0] at h; simpa using h
      obtain ⟨rfl, rfl⟩ := e2
      subst hy0
      go_enter Tryz.func67, Tryz.ntmps67
      go_wp2_with fail
      refine (real_power.calls k x0 x1 (-n) 0 y2 _ HY.out hn4 hn3).mono ?_
      rintro e w3 ⟨rfl, hb⟩
      have hB : Below w.heap.size w w3 := ((Below.refl _ w).alloc (Nat.le_refl _) _).trans (hb.mono (by simp))
      rw [e1]
      clear hb
      go_wp2_with fail
      rw [panics77]
      exact ⟨rfl, rfl, hB.alloc hB.size _⟩
    · have h := H.out
      simp only [if_neg hy0] at h
      have HQ := Lib.hid h
      clear H h
      have y0b : (y1 == 0) = false := beq_eq_false_iff_ne.mpr hy0
      go_enter Tryz.func67, Tryz.ntmps67
      go_wp2_with fail
      refine (real_power.calls k x0 x1 (-n) y1 y2 _ HY.out hn4 hn3).mono ?_
      rintro e w3 ⟨rfl, hb⟩
      have hB : Below w.heap.size w w3 := ((Below.refl _ w).alloc (Nat.le_refl _) _).trans (hb.mono (by simp))
      have hz : w3.heap[w.heap.size]? = some (.cells #[.int .i64 0, .int .i64 0] 23 (0, 0)) := blk_below (blk_new _ _) hb
      rw [e1]
      have lz := blk_lt hz
      have HZ := Lib.hid hz
      have HB := Lib.hid hB
      clear hb hz hB
      go_wp2_with fail
      have ky : (w3.alloc (.cells #[.int .i64 y1, .int .i64 y2] 23)).drew.heap[w3.heap.size]? = some (.cells #[.int .i64 y1, .int .i64 y2] 23 (0, 0)) := blk_drew (blk_new _ _)
      have kz : (w3.alloc (.cells #[.int .i64 y1, .int .i64 y2] 23)).drew.heap[w.heap.size]? = some (.cells #[.int .i64 0, .int .i64 0] 23 (0, 0)) := blk_drew (blk_alloc HZ.out _)
      have hB := below_drew1 (HB.out.alloc HB.out.size (.cells #[.int .i64 y1, .int .i64 y2] 23))
      refine start_ (n := 4) (S := fun w' => w'.cell? ⟨w3.heap.size, 0, none⟩ = some (.int .i64 y1) ∧ w'.cell? ⟨w3.heap.size, 1, none⟩ = some (.int .i64 y2)) (ds := []) #[false, false, false, false] (by kernel_rfl) rfl rfl ⟨(blk_cell ky 0).trans rfl, (blk_cell ky 1).trans rfl⟩ (fun hHeld => ?_); refine with_tabW real_pow2.tab4 real_pow2.bits4 (fun HT_ HW_ => ?_)
      clear HB HZ
      generalize (w3.alloc (.cells #[.int .i64 y1, .int .i64 y2] 23)).drew = w4 at ky kz hB hHeld ⊢
      refine tk2 1 (some 15) #[ff,tt,ff,ff] ?_
      refine one_ (i := 0) (N := some 14) #[true, true, false, false] rfl rfl (one_of HT_.out (by kernel_rfl)) (by decide) (fun K hK => ?_)
      refine gsz Tryz.func69 #[] ?_
      with_reducible refine (real_one.calls _).mono ?_
      rintro e w5 ⟨rfl, hb⟩
      refine ⟨_, rfl, ?_⟩
      replace ky := blk_below ky hb
      replace kz := blk_below kz hb
      replace hB := hB.trans (hb.mono hB.size)
      refine hK.out _ _ ⟨(blk_cell ky 0).trans rfl, (blk_cell ky 1).trans rfl⟩ (fun hHeld => ?_)
      clear hK K hb
      refine norm_ (a' := ?_) ?_ ?_
      rotate_left
      · show Act.put _ (some 14) _ = _
        simp only [Act.put, List.setIfInBounds_toArray, List.set_cons_zero, List.set_cons_succ, i64_w, i32_w]
        rfl
      refine one_ (i := 2) (N := some 16) #[true, true, true, false] rfl rfl (one_of HT_.out (by kernel_rfl)) (by decide) (fun K hK => ?_)
      refine goesP_ Tryz.func68 (by kernel_rfl) rfl #[.agg #[.int .i64 8388608, .int .i64 (-23)], .agg #[.int .i64 y1, .int .i64 y2]] (by rfl) rfl rfl ay ?_
      with_reducible refine (real_quotient.calls k 8388608 (-23) y1 y2 m x _ HQ.out).mono ?_
      rintro e w6 ⟨he_, hb⟩
      refine ends_ he_ (fun p1_ => And.intro rfl (And.intro (code_direct p1_) (hB.trans (hb.mono hB.size)))) (fun hpn2_ => ?_)
      replace ky := blk_below ky hb
      replace kz := blk_below kz hb
      replace hB := hB.trans (hb.mono hB.size)
      refine hK.out _ _ ⟨(blk_cell ky 0).trans rfl, (blk_cell ky 1).trans rfl⟩ (fun hHeld => ?_)
      clear hK K hb
      refine norm_ (a' := ?_) ?_ ?_
      rotate_left
      · show Act.put _ (some 16) _ = _
        simp only [Act.put, List.setIfInBounds_toArray, List.set_cons_zero, List.set_cons_succ, i64_w, i32_w]
        rfl
      refine one_ (i := 3) (N := none) #[true, true, true, true] rfl rfl (one_of HT_.out (by kernel_rfl)) (by decide) (fun K hK => ?_)
      have z0 : w6.cell? ⟨w.heap.size, 0, none⟩ = some (.int .i64 0) := (blk_cell kz 0).trans rfl
      have z1 : w6.cell? ⟨w.heap.size, 1, none⟩ = some (.int .i64 0) := (blk_cell kz 1).trans rfl
      have f0 := blk_frozen kz 0
      have f1 := blk_frozen kz 1
      have hne : w3.heap.size ≠ w.heap.size := by omega
      refine skip_ (w1 := ?_) (by rfl) rfl ?_ ?_
      rotate_left
      · go_simp
        rfl
      refine hK.out _ _ ⟨((cell_far (p := ⟨w.heap.size, _, none⟩) hne _).trans ((cell_far (p := ⟨w.heap.size, _, none⟩) hne _).trans hHeld.1)), ((cell_far (p := ⟨w.heap.size, _, none⟩) hne _).trans ((cell_far (p := ⟨w.heap.size, _, none⟩) hne _).trans hHeld.2))⟩ (fun hHeld => ?_)
      clear hK K
      refine done_ (done_of HT_.out (by kernel_rfl)) ?_
      try go_wp2
      have fz := heap_setCell_same (w6.setCell ⟨w.heap.size, 0, none⟩ (.int .i64 m)) w.heap.size 1 _ _ (.int .i64 x) (heap_setCell_same w6 w.heap.size 0 _ _ (.int .i64 m) kz)
      refine bodyPost_ret (results_cell_row rfl _ _ w.heap.size 23 #[.int .i64 m, .int .i64 x] (0, 0) _ rfl fz Tryz.underlying23 rfl (by kernel_rfl)) rfl ?_
      exact ⟨(ending_at hpn2_).symm, (hB.setCell (Nat.le_refl _) _).setCell (Nat.le_refl _) _⟩
def real_Pow.f (k : Nat) (x0 x1 n : Int) : Option (Int × Int × Int) := (real_Valid.f x0 x1).bind fun v => if v = true then (if x0 = 0 ∧ n < 0 then some (0, 0, 5) else if 0 ≤ n then (real_power.f k x0 x1 n).bind fun r => some (caughtS r.1 r.2) else (real_pow2.f k x0 x1 n).bind fun r => some (caughtS r.1 r.2)) else some (0, 0, 1)
theorem real_Pow.mono (x0 x1 n : Int) (k : Nat) : LeO (real_Pow.f k x0 x1 n) (real_Pow.f (k + 1) x0 x1 n) := LeO.bind (LeO.refl _) (fun _ => LeO.ite (LeO.ite (LeO.refl _) (LeO.ite (LeO.bind (real_power.mono _ _ _ _) (fun _ => LeO.refl _)) (LeO.bind (real_pow2.mono _ _ _ _) (fun _ => LeO.refl _)))) (LeO.refl _))
theorem real_Pow.calls (k : Nat) (a0_0 a0_1 a1 r1 r2 r3 : Int) (w : World) (h : real_Pow.f k a0_0 a0_1 a1 = some (r1, r2, r3)) (hlo : -9223372036854775808 ≤ a1) (hhi : a1 < 9223372036854775808) :
    Calls Tryz.prog 17 #[.agg #[.int .i64 a0_0, .int .i64 a0_1], .int .i64 a1] w fun e w' => e = .returned (.tuple #[.agg #[.int .i64 r1, .int .i64 r2], .int .i64 r3]) ∧ Below w.heap.size w w' := by
  unfold real_Pow.f at h
  obtain ⟨v, hv, h⟩ := Option.bind_eq_some_iff.mp h
  have HV := Lib.hid hv
  have H := Lib.hid h
  clear hv h
  go_enter Tryz.func17, Tryz.ntmps17
  go_wp2_with fail
  refine (real_Valid.calls a0_0 a0_1 v _ HV.out).mono ?_
  rintro e w1 ⟨rfl, hb⟩
  have hz : w1.heap[w.heap.size + 1 + 1]? = some (.cells #[.int .i64 0, .int .i64 0] 23 (0, 0)) := blk_below (new_at _ _ _ (by simp only [World.size_alloc])) hb
  have kx : w1.heap[w.heap.size]? = some (.cells #[.int .i64 a0_0, .int .i64 a0_1] 23 (0, 0)) := blk_below (blk_alloc (blk_alloc (new_at _ _ _ rfl) _) _) hb
  have kn : w1.heap[w.heap.size + 1]? = some (.cells #[.int .i64 a1] 3 (0, 0)) := blk_below (blk_alloc (new_at _ _ _ (by simp only [World.size_alloc])) _) hb
  have hB : Below w.heap.size w w1 := ((((Below.refl _ w).alloc (Nat.le_refl _) _).alloc (by simp only [World.size_alloc]; omega) _).alloc (by simp only [World.size_alloc]; omega) _).trans (hb.mono (by simp only [World.size_alloc]; omega))
  have x0 : w1.cell? ⟨w.heap.size, 0, none⟩ = some (.int .i64 a0_0) := (blk_cell kx 0).trans rfl
  have x1 : w1.cell? ⟨w.heap.size, 1, none⟩ = some (.int .i64 a0_1) := (blk_cell kx 1).trans rfl
  have n0 : w1.cell? ⟨w.heap.size + 1, 0, none⟩ = some (.int .i64 a1) := (blk_cell kn 0).trans rfl
  have z0 : w1.cell? ⟨w.heap.size + 1 + 1, 0, none⟩ = some (.int .i64 0) := (blk_cell hz 0).trans rfl
  have z1 : w1.cell? ⟨w.heap.size + 1 + 1, 1, none⟩ = some (.int .i64 0) := (blk_cell hz 1).trans rfl
  have f0 := blk_frozen hz 0
  have f1 := blk_frozen hz 1
  have lz := blk_lt hz
  have lx := blk_lt kx
  have ln := blk_lt kn
  have HZ := Lib.hid hz
  have KX := Lib.hid kx
  have KN := Lib.hid kn
  have HB := Lib.hid hB
  clear hb hz kx kn hB
  have h := H.out
  clear H
  by_cases c1 : v = true
  · subst c1
    rw [if_pos rfl] at h
    by_cases c2 : a0_0 = 0 ∧ a1 < 0
    · rw [if_pos c2] at h
      cases h
      obtain ⟨rfl, hn⟩ := c2
      go_wp2
      have fz := heap_setCell_same (w1.setCell ⟨w.heap.size + 1 + 1, 0, none⟩ (.int .i64 0)) (w.heap.size + 1 + 1) 1 _ _ (.int .i64 0) (heap_setCell_same w1 (w.heap.size + 1 + 1) 0 _ _ (.int .i64 0) HZ.out)
      refine bodyPost_ret (results_ct rfl _ _ (w.heap.size + 1 + 1) 23 #[.int .i64 0, .int .i64 0] (0, 0) _ rfl fz Tryz.underlying23 rfl (by kernel_rfl)) rfl ?_
      exact ⟨rfl, (HB.out.setCell (by simp only; omega) _).setCell (by simp only; omega) _⟩
    · rw [if_neg c2] at h
      by_cases c3 : 0 ≤ a1
      · rw [if_pos c3] at h
        obtain ⟨⟨m, x⟩, hp, h⟩ := Option.bind_eq_some_iff.mp h
        have hcs := Option.some.inj h
        have HP := Lib.hid hp
        clear h hp
        have hmf : ∀ (fn : Fn) (first cap : Array Value) (w : World), (Instr.makeFunc fn first cap).run Tryz.prog w = .ok (.func fn first cap) w := fun _ _ _ _ => rfl
        have c3b : ¬ a1 < 0 := by omega
        by_cases c4 : a0_0 = 0
        · have c4b : (a0_0 == 0) = true := beq_iff_eq.mpr c4
          go_wp2_with fail
          refine (caught_t 65 _ m x r1 r2 r3 hcs w1 (fun args w => enters_ Tryz.func65 (by kernel_rfl) rfl args w) (fun w2 h2 => pow1_c k _ _ a0_0 a0_1 a1 m x HP.out c3 hhi w2 (blk_below KX.out h2) (blk_below KN.out h2))).mono ?_
          rintro e w3 ⟨rfl, hb⟩
          have hz : w3.heap[w.heap.size + 1 + 1]? = some (.cells #[.int .i64 0, .int .i64 0] 23 (0, 0)) := blk_below HZ.out hb
          have hB : Below w.heap.size w w3 := HB.out.trans (hb.mono HB.out.size)
          have z0 : w3.cell? ⟨w.heap.size + 1 + 1, 0, none⟩ = some (.int .i64 0) := (blk_cell hz 0).trans rfl
          have z1 : w3.cell? ⟨w.heap.size + 1 + 1, 1, none⟩ = some (.int .i64 0) := (blk_cell hz 1).trans rfl
          have f0 := blk_frozen hz 0
          have f1 := blk_frozen hz 1
          have lz := blk_lt hz
          clear hb
          go_wp2
          have fz := heap_setCell_same (w3.setCell ⟨w.heap.size + 1 + 1, 0, none⟩ (.int .i64 r1)) (w.heap.size + 1 + 1) 1 _ _ (.int .i64 r2) (heap_setCell_same w3 (w.heap.size + 1 + 1) 0 _ _ (.int .i64 r1) hz)
          refine bodyPost_ret (results_ct rfl _ _ (w.heap.size + 1 + 1) 23 #[.int .i64 r1, .int .i64 r2] (0, 0) _ rfl fz Tryz.underlying23 rfl (by kernel_rfl)) rfl ?_
          exact ⟨rfl, (hB.setCell (by simp only; omega) _).setCell (by simp only; omega) _⟩
        · have c4b : (a0_0 == 0) = false := beq_eq_false_iff_ne.mpr c4
          go_wp2_with fail
          refine (caught_t 65 _ m x r1 r2 r3 hcs w1 (fun args w => enters_ Tryz.func65 (by kernel_rfl) rfl args w) (fun w2 h2 => pow1_c k _ _ a0_0 a0_1 a1 m x HP.out c3 hhi w2 (blk_below KX.out h2) (blk_below KN.out h2))).mono ?_
          rintro e w3 ⟨rfl, hb⟩
          have hz : w3.heap[w.heap.size + 1 + 1]? = some (.cells #[.int .i64 0, .int .i64 0] 23 (0, 0)) := blk_below HZ.out hb
          have hB : Below w.heap.size w w3 := HB.out.trans (hb.mono HB.out.size)
          have z0 : w3.cell? ⟨w.heap.size + 1 + 1, 0, none⟩ = some (.int .i64 0) := (blk_cell hz 0).trans rfl
          have z1 : w3.cell? ⟨w.heap.size + 1 + 1, 1, none⟩ = some (.int .i64 0) := (blk_cell hz 1).trans rfl
          have f0 := blk_frozen hz 0
          have f1 := blk_frozen hz 1
          have lz := blk_lt hz
          clear hb
          go_wp2
          have fz := heap_setCell_same (w3.setCell ⟨w.heap.size + 1 + 1, 0, none⟩ (.int .i64 r1)) (w.heap.size + 1 + 1) 1 _ _ (.int .i64 r2) (heap_setCell_same w3 (w.heap.size + 1 + 1) 0 _ _ (.int .i64 r1) hz)
          refine bodyPost_ret (results_ct rfl _ _ (w.heap.size + 1 + 1) 23 #[.int .i64 r1, .int .i64 r2] (0, 0) _ rfl fz Tryz.underlying23 rfl (by kernel_rfl)) rfl ?_
          exact ⟨rfl, (hB.setCell (by simp only; omega) _).setCell (by simp only; omega) _⟩
      · rw [if_neg c3] at h
        obtain ⟨⟨m, x⟩, hp, h⟩ := Option.bind_eq_some_iff.mp h
        have hcs := Option.some.inj h
        have HP := Lib.hid hp
        clear h hp
        have hmf : ∀ (fn : Fn) (first cap : Array Value) (w : World), (Instr.makeFunc fn first cap).run Tryz.prog w = .ok (.func fn first cap) w := fun _ _ _ _ => rfl
        have c3b : a1 < 0 := by omega
        have c2b : a0_0 ≠ 0 := fun he => c2 ⟨he, c3b⟩
        have c2d : (a0_0 == 0) = false := beq_eq_false_iff_ne.mpr c2b
        go_wp2_with fail
        refine (caught_t 67 _ m x r1 r2 r3 hcs w1 (fun args w => enters_ Tryz.func67 (by kernel_rfl) rfl args w) (fun w2 h2 => pow2_c k _ _ a0_0 a0_1 a1 m x HP.out c3b hlo w2 (blk_below KX.out h2) (blk_below KN.out h2))).mono ?_
        rintro e w3 ⟨rfl, hb⟩
        have hz : w3.heap[w.heap.size + 1 + 1]? = some (.cells #[.int .i64 0, .int .i64 0] 23 (0, 0)) := blk_below HZ.out hb
        have hB : Below w.heap.size w w3 := HB.out.trans (hb.mono HB.out.size)
        have z0 : w3.cell? ⟨w.heap.size + 1 + 1, 0, none⟩ = some (.int .i64 0) := (blk_cell hz 0).trans rfl
        have z1 : w3.cell? ⟨w.heap.size + 1 + 1, 1, none⟩ = some (.int .i64 0) := (blk_cell hz 1).trans rfl
        have f0 := blk_frozen hz 0
        have f1 := blk_frozen hz 1
        have lz := blk_lt hz
        clear hb
        go_wp2
        have fz := heap_setCell_same (w3.setCell ⟨w.heap.size + 1 + 1, 0, none⟩ (.int .i64 r1)) (w.heap.size + 1 + 1) 1 _ _ (.int .i64 r2) (heap_setCell_same w3 (w.heap.size + 1 + 1) 0 _ _ (.int .i64 r1) hz)
        refine bodyPost_ret (results_ct rfl _ _ (w.heap.size + 1 + 1) 23 #[.int .i64 r1, .int .i64 r2] (0, 0) _ rfl fz Tryz.underlying23 rfl (by kernel_rfl)) rfl ?_
        exact ⟨rfl, (hB.setCell (by simp only; omega) _).setCell (by simp only; omega) _⟩
  · replace c1 : v = false := by simpa using c1
    subst c1
    rw [if_neg (by decide)] at h
    cases h
    go_wp2
    have fz := heap_setCell_same (w1.setCell ⟨w.heap.size + 1 + 1, 0, none⟩ (.int .i64 0)) (w.heap.size + 1 + 1) 1 _ _ (.int .i64 0) (heap_setCell_same w1 (w.heap.size + 1 + 1) 0 _ _ (.int .i64 0) HZ.out)
    refine bodyPost_ret (results_ct rfl _ _ (w.heap.size + 1 + 1) 23 #[.int .i64 0, .int .i64 0] (0, 0) _ rfl fz Tryz.underlying23 rfl (by kernel_rfl)) rfl ?_
    exact ⟨rfl, (HB.out.setCell (by simp only; omega) _).setCell (by simp only; omega) _⟩
end Go.Proofs.YteigbokklclmbaaGreatDoor.Z
end
section
namespace Go.Proofs.YteigbokklclmbaaGreatDoor.M
open Go Go.RowKit Go.Proofs.YteigbokklclmbaaGreatDoor.Given Go.Proofs.YteigbokklclmbaaGreatDoorW.PrintWords Go.Proofs.YteigbokklclmbaaGreatDoorW.PrintLast Go.Proofs.YteigbokklclmbaaGreatDoorW.PrintMore Go.Proofs.YteigbokklclmbaaGreatDoor.Z Go.Proofs.YteigbokklclmbaaGreatDoor.Z.Y Go.Proofs.YteigbokklclmbaaGreatDoor.Z.Y.V
def powOk : Bool := (List.range 81).all fun j => real_Pow.f 300 8388608 (-22) ((j : Int) - 40) == some (8388608, (j : Int) - 63, 0)
theorem pow_ok : powOk = true := by kernel_rfl
theorem pow_two_ev (j : Int) (h0 : -40 ≤ j) (h1 : j ≤ 40) : Ev (fun k => real_Pow.f k 8388608 (-22) j) (8388608, j - 23, 0) := by
  have h := List.all_eq_true.1 pow_ok (j + 40).toNat (List.mem_range.2 (by omega))
  have e1 : (((j + 40).toNat : Nat) : Int) - 40 = j := by omega
  have e2 : (((j + 40).toNat : Nat) : Int) - 63 = j - 23 := by omega
  rw [e1, e2] at h
  exact Ev.of (fun k => real_Pow.mono _ _ _ k) (beq_iff_eq.1 h)
end Go.Proofs.YteigbokklclmbaaGreatDoor.M
end
section
namespace Go.Proofs.YteigbokklclmbaaGreatDoor.Z.Y
open Go Go.RowKit Go.Proofs.YteigbokklclmbaaGreatDoor.Given Go.Proofs.YteigbokklclmbaaGreatDoorW.PrintWords Go.Proofs.YteigbokklclmbaaGreatDoorW.PrintLast Go.Proofs.YteigbokklclmbaaGreatDoorW.PrintMore
theorem alloc_step {n : Nat} {w w1 w2 : World} (h : Below n w w1) (hn : n ≤ w1.heap.size) (o : Obj) (hb : Below (w1.alloc o).heap.size (w1.alloc o) w2) : Below n w w2 := (h.alloc hn o).trans (hb.mono (by simp only [World.size_alloc]; omega))
theorem wrap64_of {a : Int} (h0 : -9223372036854775808 ≤ a) (h1 : a ≤ 9223372036854775807) : wrap64 a = a := by unfold wrap64; omega
theorem tmod_bd (e b : Int) (hb : 0 < b) : -b < Int.tmod e b ∧ Int.tmod e b < b := by
  have h1 := Int.tmod_lt_of_pos e hb
  refine ⟨?_, h1⟩
  rcases Int.lt_or_le e 0 with h | h
  · have ee : e = -(-e) := by omega
    rw [ee, Int.neg_tmod]
    have := Int.tmod_lt_of_pos (-e) hb
    omega
  · have := Int.tmod_nonneg b h; omega
theorem small_c (k : Nat) (m e x0 x1 p0 p1 p2 y0 y1 y2 : Int) (hx : real_FromIntN.f k (Int.tmod m 4096) = some (x0, x1)) (h2 : real_FromIntN.f k 2 = some (8388608, -22))
    (hp : real_Pow.f k 8388608 (-22) (Int.tmod e 21) = some (p0, p1, p2)) (hy : real_Mul.f k x0 x1 p0 p1 = some (y0, y1, y2)) (w : World) :
    Calls Tryz.prog 29 #[.int .i64 m, .int .i64 e] w fun e w' => e = .returned (.agg #[.int .i64 y0, .int .i64 y1]) ∧ Below w.heap.size w w' := by
  have HX := Lib.hid hx
  have H2 := Lib.hid h2
  have HP := Lib.hid hp
  have HY := Lib.hid hy
  have he := tmod_bd e 21 (by decide)
  have he1 : -9223372036854775808 ≤ Int.tmod e 21 := by omega
  have he2 : Int.tmod e 21 < 9223372036854775808 := by omega
  clear hx h2 hp hy he
  go_enter Tryz.func29, Tryz.ntmps29
  go_wp2_with fail
  refine (real_FromIntN.calls k _ x0 x1 _ HX.out).mono ?_
  rintro _ w1 ⟨rfl, hb⟩
  have KZ := Lib.hid (blk_below (new_at w (.cells #[.int .i64 0, .int .i64 0] 23) w.heap.size rfl) hb)
  have HB := Lib.hid (((Below.refl _ w).alloc (Nat.le_refl _) (.cells #[.int .i64 0, .int .i64 0] 23)).trans (hb.mono (by simp)))
  clear hb
  go_wp2_with fail
  refine (real_FromIntN.calls k 2 8388608 (-22) _ H2.out).mono ?_
  rintro _ w2 ⟨rfl, hb⟩
  have KX := Lib.hid (blk_below (new_at w1 (.cells #[.int .i64 x0, .int .i64 x1] 23) w1.heap.size rfl) hb)
  have hB1 := HB.out.alloc HB.out.size (.cells #[.int .i64 x0, .int .i64 x1] 23)
  have kz1 := blk_alloc KZ.out (.cells #[.int .i64 x0, .int .i64 x1] 23)
  have lz := blk_lt KZ.out
  clear KZ HB
  have KZ := Lib.hid (blk_below kz1 hb)
  have HB := Lib.hid (hB1.trans (hb.mono hB1.size))
  clear hb hB1 kz1
  go_wp2_with fail
  refine (real_Pow.calls k 8388608 (-22) _ p0 p1 p2 _ HP.out he1 he2).mono ?_
  rintro _ w3 ⟨rfl, hb⟩
  have KX3 := Lib.hid (blk_below KX.out hb)
  have KZ3 := Lib.hid (blk_below KZ.out hb)
  have HB3 := Lib.hid (HB.out.trans (hb.mono HB.out.size))
  clear KX KZ HB hb
  have b0 : w3.cell? ⟨w1.heap.size, 0, none⟩ = some (.int .i64 x0) := (blk_cell KX3.out 0).trans rfl
  have b1 : w3.cell? ⟨w1.heap.size, 1, none⟩ = some (.int .i64 x1) := (blk_cell KX3.out 1).trans rfl
  have lx := blk_lt KX3.out
  go_wp2_with fail
  refine (real_Mul.calls k x0 x1 p0 p1 y0 y1 y2 _ HY.out).mono ?_
  rintro _ w4 ⟨rfl, hb⟩
  have kz4 := blk_below (blk_alloc KZ3.out (.cells #[.int .i64 p0, .int .i64 p1] 23)) hb
  have hB3 := HB3.out.alloc HB3.out.size (.cells #[.int .i64 p0, .int .i64 p1] 23)
  have hB4 := hB3.trans (hb.mono hB3.size)
  have z0 : w4.cell? ⟨w.heap.size, 0, none⟩ = some (.int .i64 0) := (blk_cell kz4 0).trans rfl
  have z1 : w4.cell? ⟨w.heap.size, 1, none⟩ = some (.int .i64 0) := (blk_cell kz4 1).trans rfl
  have f0 := blk_frozen kz4 0
  have f1 := blk_frozen kz4 1
  have lz4 := blk_lt kz4
  clear hb hB3 KX3 KZ3 HB3
  go_wp2
  have fz := heap_setCell_same (w4.setCell ⟨w.heap.size, 0, none⟩ (.int .i64 y0)) w.heap.size 1 _ _ (.int .i64 y1) (heap_setCell_same w4 w.heap.size 0 _ _ (.int .i64 y0) kz4)
  refine bodyPost_ret (results_cell_row rfl _ _ w.heap.size 23 #[.int .i64 y0, .int .i64 y1] (0, 0) _ rfl (blk_alloc fz _) Tryz.underlying23 rfl (by kernel_rfl)) rfl ?_
  exact ⟨rfl, ((hB4.setCell (Nat.le_refl _) _).setCell (Nat.le_refl _) _).alloc (by simp only [World.size_setCell]; omega) _⟩
/-- Four blocks of two numbers, and all elder memory as it was. -/
structure Bk4 (w : World) (b1 b2 b3 b4 : Nat) (m1 e1 m2 e2 m3 e3 m4 e4 : Int) (w' : World) : Prop where
  k1 : w'.heap[b1]? = some (.cells #[.int .i64 m1, .int .i64 e1] 23 (0, 0))
  k2 : w'.heap[b2]? = some (.cells #[.int .i64 m2, .int .i64 e2] 23 (0, 0))
  k3 : w'.heap[b3]? = some (.cells #[.int .i64 m3, .int .i64 e3] 23 (0, 0))
  k4 : w'.heap[b4]? = some (.cells #[.int .i64 m4, .int .i64 e4] 23 (0, 0))
  hB : Below w.heap.size w w'
theorem Bk4.step {w : World} {b1 b2 b3 b4 : Nat} {m1 e1 m2 e2 m3 e3 m4 e4 : Int} {w' w'' : World} (h : Bk4 w b1 b2 b3 b4 m1 e1 m2 e2 m3 e3 m4 e4 w') (hb : Below w'.heap.size w' w'') : Bk4 w b1 b2 b3 b4 m1 e1 m2 e2 m3 e3 m4 e4 w'' :=
  ⟨blk_below h.k1 hb, blk_below h.k2 hb, blk_below h.k3 hb, blk_below h.k4 hb, h.hB.trans (hb.mono h.hB.size)⟩
theorem Bk4.put {w : World} {b1 b2 b3 b4 : Nat} {m1 e1 m2 e2 m3 e3 m4 e4 : Int} {w' : World} (h : Bk4 w b1 b2 b3 b4 m1 e1 m2 e2 m3 e3 m4 e4 w') {s j : Nat} (hs : w.heap.size ≤ s) (n1 : b1 ≠ s) (n2 : b2 ≠ s) (n3 : b3 ≠ s) (n4 : b4 ≠ s) (v : Value) : Bk4 w b1 b2 b3 b4 m1 e1 m2 e2 m3 e3 m4 e4 (w'.setCell ⟨s, j, none⟩ v) :=
  ⟨(heap_setCell_other _ _ _ _ n1).trans h.k1, (heap_setCell_other _ _ _ _ n2).trans h.k2, (heap_setCell_other _ _ _ _ n3).trans h.k3, (heap_setCell_other _ _ _ _ n4).trans h.k4, h.hB.setCell hs _⟩
/-- .. and a fresh one beside them. -/
structure Bk5 (w : World) (b1 b2 b3 b4 : Nat) (m1 e1 m2 e2 m3 e3 m4 e4 : Int) (s : Nat) (w' : World) : Prop extends Bk4 w b1 b2 b3 b4 m1 e1 m2 e2 m3 e3 m4 e4 w' where
  ks : w'.heap[s]? = some (.cells #[.int .i64 0, .int .i64 0] 23 (0, 0))
  hs : w.heap.size ≤ s
  n1 : b1 ≠ s
  n2 : b2 ≠ s
  n3 : b3 ≠ s
  n4 : b4 ≠ s
theorem Bk4.box {w : World} {b1 b2 b3 b4 : Nat} {m1 e1 m2 e2 m3 e3 m4 e4 : Int} {w' w'' : World} (h : Bk4 w b1 b2 b3 b4 m1 e1 m2 e2 m3 e3 m4 e4 w') {g : Nat} (hg : g = w'.heap.size) (hk : w''.heap[g]? = some (.cells #[.int .i64 0, .int .i64 0] 23 (0, 0))) (hb : Below w'.heap.size w' w'') : Bk5 w b1 b2 b3 b4 m1 e1 m2 e2 m3 e3 m4 e4 g w'' := by
  have l1 := blk_lt h.k1
  have l2 := blk_lt h.k2
  have l3 := blk_lt h.k3
  have l4 := blk_lt h.k4
  have := h.hB.size
  exact { h.step hb with ks := hk, hs := by omega, n1 := by omega, n2 := by omega, n3 := by omega, n4 := by omega }
theorem Bk5.step {w : World} {b1 b2 b3 b4 : Nat} {m1 e1 m2 e2 m3 e3 m4 e4 : Int} {s : Nat} {w' w'' : World} (h : Bk5 w b1 b2 b3 b4 m1 e1 m2 e2 m3 e3 m4 e4 s w') (hb : Below w'.heap.size w' w'') : Bk5 w b1 b2 b3 b4 m1 e1 m2 e2 m3 e3 m4 e4 s w'' :=
  { h.toBk4.step hb with ks := blk_below h.ks hb, hs := h.hs, n1 := h.n1, n2 := h.n2, n3 := h.n3, n4 := h.n4 }
def exT7 : Bool × List (List Nat × List Nat) := (true, [([], []), ([0], [0]), ([], []), ([2], [2]), ([1, 3], [1, 3]), ([4], [4]), ([], []), ([5, 6, 5], [5, 6]), ([7], [7]), ([8], [8]), ([8], [8]), ([], []), ([11, 9, 7, 0, 1, 2, 3, 4, 5, 6, 7, 8, 9, 11], [9, 11]), ([10, 12, 0, 1, 2, 3, 4, 5, 6, 7, 8, 9, 10, 11, 12], [10])])
def exB7 : List Nat := [0, 1, 0, 4, 15, 31, 0, 127, 255, 511, 511, 0, 3071, 8191]
theorem exTab7 : rtab .any (opsOf Tryz.f6 7) = exT7 := by kernel_rfl
theorem exBits7 : waitsOk exT7.2 exB7 = true := by kernel_rfl
theorem exact_c (k : Nat) (m e n f a0 a1 px0 px1 px2 x0 x1 x2 b0 b1 py0 py1 py2 y0 y1 y2 p0 p1 v0 v1 n0 n1 : Int)
    (ha : real_FromIntN.f k (Int.tmod m 4096) = some (a0, a1)) (h2 : real_FromIntN.f k 2 = some (8388608, -22)) (hpx : real_Pow.f k 8388608 (-22) (Int.tmod e 21) = some (px0, px1, px2)) (hx : real_Mul.f k a0 a1 px0 px1 = some (x0, x1, x2))
    (hbb : real_FromIntN.f k (Int.tmod n 4096) = some (b0, b1)) (hpy : real_Pow.f k 8388608 (-22) (Int.tmod f 21) = some (py0, py1, py2)) (hy : real_Mul.f k b0 b1 py0 py1 = some (y0, y1, y2))
    (hp : real_Mul.f k x0 x1 y0 y1 = some (p0, p1, 0)) (hw : real_Pow.f k 8388608 (-22) (wrap64 (Int.tmod e 21 + Int.tmod f 21)) = some (v0, v1, 0)) (hn : real_FromIntN.f k (wrap64 (Int.tmod m 4096 * Int.tmod n 4096)) = some (n0, n1)) (hq : real_Mul.f k n0 n1 v0 v1 = some (p0, p1, 0))
    (hz : Int.tmod n 4096 = 0 → p0 = 0 ∧ p1 = 0) (hd : ¬ Int.tmod n 4096 = 0 → real_Div.f k p0 p1 y0 y1 = some (x0, x1, 0)) (hs : manorboylaw02_sanity.f k = some true) (w : World) (ht : Table w) :
    Calls Tryz.prog 6 #[.int .i64 m, .int .i64 e, .int .i64 n, .int .i64 f] w fun e w' => e = .returned (.bool true) ∧ Below w.heap.size w w' := by
  have HT := Aside0.mk (Lib.tabBelow_of_tabIs ht)
  have HA := Lib.hid ha
  have H2 := Lib.hid h2
  have HPX := Lib.hid hpx
  have HX := Lib.hid hx
  have HBB := Lib.hid hbb
  have HPY := Lib.hid hpy
  have HY := Lib.hid hy
  have HP := Lib.hid hp
  have HW := Lib.hid hw
  have HN := Lib.hid hn
  have HQ := Lib.hid hq
  have HD := Lib.hid hd
  have HS := Lib.hid hs
  have he := tmod_bd e 21 (by decide)
  have hf := tmod_bd f 21 (by decide)
  have hw0 : wrap64 (Int.tmod e 21 + Int.tmod f 21) = Int.tmod e 21 + Int.tmod f 21 := wrap64_of (by omega) (by omega)
  have hw1 : -9223372036854775808 ≤ wrap64 (Int.tmod e 21 + Int.tmod f 21) := by rw [hw0]; omega
  have hw2 : wrap64 (Int.tmod e 21 + Int.tmod f 21) < 9223372036854775808 := by rw [hw0]; omega
  clear ht ha h2 hpx hx hbb hpy hy hp hw hn hq hd hs he hf hw0
  go_enter Tryz.func6, Tryz.ntmps6
  go_wp2_with fail
  refine (small_c k m e a0 a1 px0 px1 px2 x0 x1 x2 HA.out H2.out HPX.out HX.out _).mono ?_
  rintro _ w1 ⟨rfl, hb⟩
  have HB := Lib.hid (hb)
  clear hb
  go_wp2_with fail
  refine (small_c k n f b0 b1 py0 py1 py2 y0 y1 y2 HBB.out H2.out HPY.out HY.out _).mono ?_
  rintro _ w2 ⟨rfl, hb⟩
  have BX := Lib.hid (blk_below (new_at w1 (.cells #[.int .i64 x0, .int .i64 x1] 23) w1.heap.size rfl) hb)
  have HB := Lib.hid (alloc_step HB.out HB.out.size (.cells #[.int .i64 x0, .int .i64 x1] 23) hb)
  clear hb
  have BY0 := blk_alloc BX.out (.cells #[.int .i64 y0, .int .i64 y1] 23)
  have cBX2_0 : w2.cell? ⟨w1.heap.size, 0, none⟩ = some (.int .i64 x0) := (blk_cell BX.out 0).trans rfl
  have cBX2_1 : w2.cell? ⟨w1.heap.size, 1, none⟩ = some (.int .i64 x1) := (blk_cell BX.out 1).trans rfl
  have lBX2 := blk_lt BX.out
  go_wp2_with fail
  refine (real_Mul.calls k x0 x1 y0 y1 p0 p1 0 _ HP.out).mono ?_
  rintro _ w3 ⟨rfl, hb⟩
  have BX := Lib.hid (blk_below (blk_alloc BX.out (.cells #[.int .i64 y0, .int .i64 y1] 23)) hb)
  have BY := Lib.hid (blk_below (new_at w2 (.cells #[.int .i64 y0, .int .i64 y1] 23) w2.heap.size rfl) hb)
  have HB := Lib.hid (alloc_step HB.out HB.out.size (.cells #[.int .i64 y0, .int .i64 y1] 23) hb)
  clear hb
  go_wp2_with fail
  refine (real_FromIntN.calls k 2 8388608 (-22) _ H2.out).mono ?_
  rintro _ w4 ⟨rfl, hb⟩
  have BX := Lib.hid (blk_below (blk_alloc BX.out (.cells #[.int .i64 p0, .int .i64 p1] 23)) hb)
  have BY := Lib.hid (blk_below (blk_alloc BY.out (.cells #[.int .i64 p0, .int .i64 p1] 23)) hb)
  have BP := Lib.hid (blk_below (new_at w3 (.cells #[.int .i64 p0, .int .i64 p1] 23) w3.heap.size rfl) hb)
  have HB := Lib.hid (alloc_step HB.out HB.out.size (.cells #[.int .i64 p0, .int .i64 p1] 23) hb)
  clear hb
  go_wp2_with fail
  refine (real_Pow.calls k 8388608 (-22) _ v0 v1 0 _ HW.out hw1 hw2).mono ?_
  rintro _ w5 ⟨rfl, hb⟩
  have BX := Lib.hid (blk_below BX.out hb)
  have BY := Lib.hid (blk_below BY.out hb)
  have BP := Lib.hid (blk_below BP.out hb)
  have HB := Lib.hid (HB.out.trans (hb.mono HB.out.size))
  clear hb
  go_wp2_with fail
  have hk : Bk4 w w1.heap.size w2.heap.size w3.heap.size w5.heap.size x0 x1 y0 y1 p0 p1 v0 v1 (w5.alloc (.cells #[.int .i64 v0, .int .i64 v1] 23)).drew := ⟨blk_drew (blk_alloc BX.out _), blk_drew (blk_alloc BY.out _), blk_drew (blk_alloc BP.out _), blk_drew (new_at _ _ _ rfl), below_drew1 (HB.out.alloc HB.out.size _)⟩
  refine start_ (n := 14) (S := fun w' => w'.cell? ⟨w5.heap.size, 0, none⟩ = some (.int .i64 v0) ∧ w'.cell? ⟨w5.heap.size, 1, none⟩ = some (.int .i64 v1)) (ds := []) #[false, false, false, false, false, false, false, false, false, false, false, false, false, false] (by kernel_rfl) rfl rfl ⟨(blk_cell hk.k4 0).trans rfl, (blk_cell hk.k4 1).trans rfl⟩ (fun hHeld => ?_); refine with_tabW exTab7 exBits7 (fun HT_ HW_ => ?_)
  generalize (w5.alloc (.cells #[.int .i64 v0, .int .i64 v1] 23)).drew = w6 at hk hHeld ⊢
  generalize w1.heap.size = bx at hk ⊢
  generalize w2.heap.size = bY at hk ⊢
  generalize w3.heap.size = bp at hk ⊢
  generalize w5.heap.size = bv at hk hHeld HT_ HW_ ⊢
  have HK := Lib.hid hk
  clear hk BX BY BP HB
  refine pur 0 (some 48) #[tt,ff,ff,ff,ff,ff,ff,ff,ff,ff,ff,ff,ff,ff] ?_
  refine pur 2 (some 50) #[tt,ff,tt,ff,ff,ff,ff,ff,ff,ff,ff,ff,ff,ff] ?_
  refine pur 1 (some 49) #[tt,tt,tt,ff,ff,ff,ff,ff,ff,ff,ff,ff,ff,ff] ?_
  refine pur 3 (some 51) #[tt,tt,tt,tt,ff,ff,ff,ff,ff,ff,ff,ff,ff,ff] ?_
  refine pur 4 (some 52) #[tt,tt,tt,tt,tt,ff,ff,ff,ff,ff,ff,ff,ff,ff] ?_
  refine tk2 6 (some 54) #[tt,tt,tt,tt,tt,ff,tt,ff,ff,ff,ff,ff,ff,ff] ?_
  refine join_ (σ := Nat) 2 #[true, true, true, true, true, true, true, true, true, true, true, true, false, false] (fun s_ => [(53, .agg #[.int .i64 n0, .int .i64 n1]), (55, .tuple #[.agg #[.int .i64 p0, .int .i64 p1], .int .i64 0]), (15, .pointer (some ⟨s_, 0, none⟩)), (47, .tuple #[.agg #[.int .i64 p0, .int .i64 p1], .int .i64 0]), (56, .agg #[.int .i64 p0, .int .i64 p1]), (57, .int .i64 0)]) (fun s_ w' => (w'.cell? ⟨bv, 0, none⟩ = some (.int .i64 v0) ∧ w'.cell? ⟨bv, 1, none⟩ = some (.int .i64 v1)) ∧ Bk5 w bx bY bp bv x0 x1 y0 y1 p0 p1 v0 v1 s_ w') ?_ ?_
  rotate_left
  · intro hCont
    refine two_ (i := 5) (j := 11) (Ni := some 53) (Nj := some 15) #[true, true, true, true, true, true, true, false, false, false, false, false, false, false] #[true, true, true, true, true, false, true, false, false, false, false, true, false, false] rfl rfl rfl rfl (two_of HT_.out (by kernel_rfl)) (by decide) (by decide) (fun K hK => ?_) (fun K hK => ?_)
    · skip
      refine gsz Tryz.func31 #[.int .i64 (wrap64 (Int.tmod m 4096 * Int.tmod n 4096))] ?_
      with_reducible refine (real_FromIntN.calls k _ n0 n1 _ HN.out).mono ?_
      rintro _ w' ⟨rfl, hb⟩
      refine ⟨_, rfl, ?_⟩
      have HK := Lib.hid (HK.out.step hb)
      clear hb
      refine hK.out _ _ ⟨(blk_cell HK.out.k4 0).trans rfl, (blk_cell HK.out.k4 1).trans rfl⟩ (fun hHeld => ?_)
      clear hK K
      refine norm_ (a' := ?_) ?_ ?_
      rotate_left
      · show Act.put _ (some 53) _ = _
        simp only [Act.put, List.setIfInBounds_toArray, List.set_cons_zero, List.set_cons_succ, i64_w, i32_w]
        rfl
      refine two_ (i := 7) (j := 11) (Ni := some 55) (Nj := some 15) #[true, true, true, true, true, true, true, true, false, false, false, false, false, false] #[true, true, true, true, true, true, true, false, false, false, false, true, false, false] rfl rfl rfl rfl (two_of HT_.out (by kernel_rfl)) (by decide) (by decide) (fun K hK => ?_) (fun K hK => ?_)
      · skip
        refine gsz Tryz.func30 #[.agg #[.int .i64 n0, .int .i64 n1], .agg #[.int .i64 v0, .int .i64 v1]] ?_
        with_reducible refine (real_Mul.calls k n0 n1 v0 v1 p0 p1 0 _ HQ.out).mono ?_
        rintro _ w' ⟨rfl, hb⟩
        refine ⟨_, rfl, ?_⟩
        have HK := Lib.hid (HK.out.step hb)
        clear hb
        refine hK.out _ _ ⟨(blk_cell HK.out.k4 0).trans rfl, (blk_cell HK.out.k4 1).trans rfl⟩ (fun hHeld => ?_)
        clear hK K
        refine norm_ (a' := ?_) ?_ ?_
        rotate_left
        · show Act.put _ (some 55) _ = _
          simp only [Act.put, List.setIfInBounds_toArray, List.set_cons_zero, List.set_cons_succ, i64_w, i32_w]
          rfl
        refine pur 8 (some 47) #[tt,tt,tt,tt,tt,tt,tt,tt,tt,ff,ff,ff,ff,ff] ?_
        refine pur 9 (some 56) #[tt,tt,tt,tt,tt,tt,tt,tt,tt,tt,ff,ff,ff,ff] ?_
        refine pur 10 (some 57) #[tt,tt,tt,tt,tt,tt,tt,tt,tt,tt,tt,ff,ff,ff] ?_
        refine one_ (i := 11) (N := some 15) #[true, true, true, true, true, true, true, true, true, true, true, true, false, false] rfl rfl (one_of HT_.out (by kernel_rfl)) (by decide) (fun K hK => ?_)
        refine box_step ?hg (N := 15) ?hd (cs := #[.int .i64 0, .int .i64 0]) (t := 23) ?hr ?_; (case hd => rfl); (case hg => rfl); (case hr => first | (go_simp; done) | (go_simp; rfl))
        intro g hg w' hbox hb
        have HK := Lib.hid (HK.out.box hg hbox hb)
        clear hg hbox hb
        refine hK.out _ _ ⟨(blk_cell HK.out.k4 0).trans rfl, (blk_cell HK.out.k4 1).trans rfl⟩ (fun hHeld => ?_)
        clear hK K
        refine norm_ (a' := ?_) ?_ ?_
        rotate_left
        · show Act.put _ (some 15) _ = _
          simp only [Act.put, List.setIfInBounds_toArray, List.set_cons_zero, List.set_cons_succ, i64_w, i32_w]
          rfl
        exact norm_ (by simp only [putAll, Act.put, List.setIfInBounds_toArray, List.set_cons_zero, List.set_cons_succ]) (hCont g _ ⟨hHeld, HK.out⟩)
      · skip
        refine box_step ?hg (N := 15) ?hd (cs := #[.int .i64 0, .int .i64 0]) (t := 23) ?hr ?_; (case hd => rfl); (case hg => rfl); (case hr => first | (go_simp; done) | (go_simp; rfl))
        intro g hg w' hbox hb
        have HK := Lib.hid (HK.out.box hg hbox hb)
        clear hg hbox hb
        refine hK.out _ _ ⟨(blk_cell HK.out.k4 0).trans rfl, (blk_cell HK.out.k4 1).trans rfl⟩ (fun hHeld => ?_)
        clear hK K
        refine norm_ (a' := ?_) ?_ ?_
        rotate_left
        · show Act.put _ (some 15) _ = _
          simp only [Act.put, List.setIfInBounds_toArray, List.set_cons_zero, List.set_cons_succ, i64_w, i32_w]
          rfl
        refine one_ (i := 7) (N := some 55) #[true, true, true, true, true, true, true, true, false, false, false, true, false, false] rfl rfl (one_of HT_.out (by kernel_rfl)) (by decide) (fun K hK => ?_)
        refine gsz Tryz.func30 #[.agg #[.int .i64 n0, .int .i64 n1], .agg #[.int .i64 v0, .int .i64 v1]] ?_
        with_reducible refine (real_Mul.calls k n0 n1 v0 v1 p0 p1 0 _ HQ.out).mono ?_
        rintro _ w' ⟨rfl, hb⟩
        refine ⟨_, rfl, ?_⟩
        have HK := Lib.hid (HK.out.step hb)
        clear hb
        refine hK.out _ _ ⟨(blk_cell HK.out.k4 0).trans rfl, (blk_cell HK.out.k4 1).trans rfl⟩ (fun hHeld => ?_)
        clear hK K
        refine norm_ (a' := ?_) ?_ ?_
        rotate_left
        · show Act.put _ (some 55) _ = _
          simp only [Act.put, List.setIfInBounds_toArray, List.set_cons_zero, List.set_cons_succ, i64_w, i32_w]
          rfl
        refine pur 8 (some 47) #[tt,tt,tt,tt,tt,tt,tt,tt,tt,ff,ff,tt,ff,ff] ?_
        refine pur 9 (some 56) #[tt,tt,tt,tt,tt,tt,tt,tt,tt,tt,ff,tt,ff,ff] ?_
        refine pur 10 (some 57) #[tt,tt,tt,tt,tt,tt,tt,tt,tt,tt,tt,tt,ff,ff] ?_
        exact norm_ (by simp only [putAll, Act.put, List.setIfInBounds_toArray, List.set_cons_zero, List.set_cons_succ]) (hCont g _ ⟨hHeld, HK.out⟩)
    · skip
      refine box_step ?hg (N := 15) ?hd (cs := #[.int .i64 0, .int .i64 0]) (t := 23) ?hr ?_; (case hd => rfl); (case hg => rfl); (case hr => first | (go_simp; done) | (go_simp; rfl))
      intro g hg w' hbox hb
      have HK := Lib.hid (HK.out.box hg hbox hb)
      clear hg hbox hb
      refine hK.out _ _ ⟨(blk_cell HK.out.k4 0).trans rfl, (blk_cell HK.out.k4 1).trans rfl⟩ (fun hHeld => ?_)
      clear hK K
      refine norm_ (a' := ?_) ?_ ?_
      rotate_left
      · show Act.put _ (some 15) _ = _
        simp only [Act.put, List.setIfInBounds_toArray, List.set_cons_zero, List.set_cons_succ, i64_w, i32_w]
        rfl
      refine one_ (i := 5) (N := some 53) #[true, true, true, true, true, true, true, false, false, false, false, true, false, false] rfl rfl (one_of HT_.out (by kernel_rfl)) (by decide) (fun K hK => ?_)
      refine gsz Tryz.func31 #[.int .i64 (wrap64 (Int.tmod m 4096 * Int.tmod n 4096))] ?_
      with_reducible refine (real_FromIntN.calls k _ n0 n1 _ HN.out).mono ?_
      rintro _ w' ⟨rfl, hb⟩
      refine ⟨_, rfl, ?_⟩
      have HK := Lib.hid (HK.out.step hb)
      clear hb
      refine hK.out _ _ ⟨(blk_cell HK.out.k4 0).trans rfl, (blk_cell HK.out.k4 1).trans rfl⟩ (fun hHeld => ?_)
      clear hK K
      refine norm_ (a' := ?_) ?_ ?_
      rotate_left
      · show Act.put _ (some 53) _ = _
        simp only [Act.put, List.setIfInBounds_toArray, List.set_cons_zero, List.set_cons_succ, i64_w, i32_w]
        rfl
      refine one_ (i := 7) (N := some 55) #[true, true, true, true, true, true, true, true, false, false, false, true, false, false] rfl rfl (one_of HT_.out (by kernel_rfl)) (by decide) (fun K hK => ?_)
      refine gsz Tryz.func30 #[.agg #[.int .i64 n0, .int .i64 n1], .agg #[.int .i64 v0, .int .i64 v1]] ?_
      with_reducible refine (real_Mul.calls k n0 n1 v0 v1 p0 p1 0 _ HQ.out).mono ?_
      rintro _ w' ⟨rfl, hb⟩
      refine ⟨_, rfl, ?_⟩
      have HK := Lib.hid (HK.out.step hb)
      clear hb
      refine hK.out _ _ ⟨(blk_cell HK.out.k4 0).trans rfl, (blk_cell HK.out.k4 1).trans rfl⟩ (fun hHeld => ?_)
      clear hK K
      refine norm_ (a' := ?_) ?_ ?_
      rotate_left
      · show Act.put _ (some 55) _ = _
        simp only [Act.put, List.setIfInBounds_toArray, List.set_cons_zero, List.set_cons_succ, i64_w, i32_w]
        rfl
      refine pur 8 (some 47) #[tt,tt,tt,tt,tt,tt,tt,tt,tt,ff,ff,tt,ff,ff] ?_
      refine pur 9 (some 56) #[tt,tt,tt,tt,tt,tt,tt,tt,tt,tt,ff,tt,ff,ff] ?_
      refine pur 10 (some 57) #[tt,tt,tt,tt,tt,tt,tt,tt,tt,tt,tt,tt,ff,ff] ?_
      exact norm_ (by simp only [putAll, Act.put, List.setIfInBounds_toArray, List.set_cons_zero, List.set_cons_succ]) (hCont g _ ⟨hHeld, HK.out⟩)
  clear HK hHeld
  rintro s_ w7 ⟨hHeld, hk⟩
  have HK := Lib.hid hk
  clear hk
  refine norm_ (a' := ?_) ?_ ?_
  rotate_left
  · simp only [putAll, Act.put, List.setIfInBounds_toArray, List.set_cons_zero, List.set_cons_succ]
    rfl
  refine one_ (i := 12) (N := none) #[true, true, true, true, true, true, true, true, true, true, true, true, true, false] rfl rfl (one_of HT_.out (by kernel_rfl)) (by decide) (fun K hK => ?_)
  have z0 : w7.cell? ⟨s_, 0, none⟩ = some (.int .i64 0) := (blk_cell HK.out.ks 0).trans rfl
  have z1 : w7.cell? ⟨s_, 1, none⟩ = some (.int .i64 0) := (blk_cell HK.out.ks 1).trans rfl
  have f0 := blk_frozen HK.out.ks 0
  have f1 := blk_frozen HK.out.ks 1
  refine skip_ (w1 := ?_) (by rfl) rfl ?_ ?_
  rotate_left
  · go_simp
    rfl
  refine hK.out _ _ ⟨((cell_far (p := ⟨s_, _, none⟩) HK.out.n4 _).trans ((cell_far (p := ⟨s_, _, none⟩) HK.out.n4 _).trans hHeld.1)), ((cell_far (p := ⟨s_, _, none⟩) HK.out.n4 _).trans ((cell_far (p := ⟨s_, _, none⟩) HK.out.n4 _).trans hHeld.2))⟩ (fun hHeld => ?_)
  clear hK K z0 z1 f0 f1
  refine pur 13 (some 16) #[tt,tt,tt,tt,tt,tt,tt,tt,tt,tt,tt,tt,tt,tt] ?_
  refine done_ (done_of HT_.out (by kernel_rfl)) ?_
  have fz := heap_setCell_same (w7.setCell ⟨s_, 0, none⟩ (.int .i64 p0)) s_ 1 _ _ (.int .i64 p1) (heap_setCell_same w7 s_ 0 _ _ (.int .i64 p0) HK.out.ks)
  have hk := (HK.out.toBk4.put (j := 0) HK.out.hs HK.out.n1 HK.out.n2 HK.out.n3 HK.out.n4 (.int .i64 p0)).put (j := 1) HK.out.hs HK.out.n1 HK.out.n2 HK.out.n3 HK.out.n4 (.int .i64 p1)
  clear HK hHeld HT_ HW_
  generalize (w7.setCell ⟨s_, 0, none⟩ (.int .i64 p0)).setCell ⟨s_, 1, none⟩ (.int .i64 p1) = w8 at hk fz ⊢
  have q0 : w8.cell? ⟨s_, 0, none⟩ = some (.int .i64 p0) := (blk_cell fz 0).trans rfl
  have q1 : w8.cell? ⟨s_, 1, none⟩ = some (.int .i64 p1) := (blk_cell fz 1).trans rfl
  have d0 : w8.cell? ⟨bp, 0, none⟩ = some (.int .i64 p0) := (blk_cell hk.k3 0).trans rfl
  have d1 : w8.cell? ⟨bp, 1, none⟩ = some (.int .i64 p1) := (blk_cell hk.k3 1).trans rfl
  have g0 : w8.cell? ⟨bY, 0, none⟩ = some (.int .i64 y0) := (blk_cell hk.k2 0).trans rfl
  have g1 : w8.cell? ⟨bY, 1, none⟩ = some (.int .i64 y1) := (blk_cell hk.k2 1).trans rfl
  have HK := Lib.hid hk
  clear hk fz
  by_cases c0 : Int.tmod n 4096 = 0
  · obtain ⟨rfl, rfl⟩ := hz c0
    go_wp2_with fail
    refine (manorboylaw02_sanity.calls k true _ HS.out rfl (tabAt HT.out HK.out.hB)).mono ?_
    rintro _ w9 ⟨rfl, hb⟩
    have hk := HK.out.step hb
    have e0 : w9.cell? ⟨bp, 0, none⟩ = some (.int .i64 0) := (blk_cell hk.k3 0).trans rfl
    have e1 : w9.cell? ⟨bp, 1, none⟩ = some (.int .i64 0) := (blk_cell hk.k3 1).trans rfl
    have hB := hk.hB
    clear hk hb HK
    go_wp2
    go_ret
    exact ⟨rfl, hB⟩
  · have c0b : (Int.tmod n 4096 == 0) = false := beq_eq_false_iff_ne.mpr c0
    go_wp2_with fail
    refine (real_Div.calls k p0 p1 y0 y1 x0 x1 0 _ (HD.out c0)).mono ?_
    rintro _ w9 ⟨rfl, hb⟩
    have HK9 := Lib.hid (HK.out.step hb)
    clear hb HK
    go_wp2_with fail
    have hk9 := HK9.out.step ((Below.refl _ w9).alloc (Nat.le_refl _) (.cells #[.int .i64 x0, .int .i64 x1] 23))
    refine (manorboylaw02_sanity.calls k true _ HS.out rfl (tabAt HT.out hk9.hB)).mono ?_
    rintro _ w10 ⟨rfl, hb⟩
    have hk := hk9.step hb
    have ks := blk_below (new_at w9 (.cells #[.int .i64 x0, .int .i64 x1] 23) w9.heap.size rfl) hb
    have e0 : w10.cell? ⟨bx, 0, none⟩ = some (.int .i64 x0) := (blk_cell hk.k1 0).trans rfl
    have e1 : w10.cell? ⟨bx, 1, none⟩ = some (.int .i64 x1) := (blk_cell hk.k1 1).trans rfl
    have u0 : w10.cell? ⟨w9.heap.size, 0, none⟩ = some (.int .i64 x0) := (blk_cell ks 0).trans rfl
    have u1 : w10.cell? ⟨w9.heap.size, 1, none⟩ = some (.int .i64 x1) := (blk_cell ks 1).trans rfl
    have hB := hk.hB
    clear hk hb HK9 hk9 ks
    go_wp2
    go_ret
    exact ⟨rfl, hB⟩
end Go.Proofs.YteigbokklclmbaaGreatDoor.Z.Y
end
section
namespace Go.Proofs.YteigbokklclmbaaGreatDoor.M
open Go Go.RowKit Go.Proofs.YteigbokklclmbaaGreatDoor.Given Go.Proofs.YteigbokklclmbaaGreatDoorW.PrintWords Go.Proofs.YteigbokklclmbaaGreatDoorW.PrintLast Go.Proofs.YteigbokklclmbaaGreatDoorW.PrintMore Go.Proofs.YteigbokklclmbaaGreatDoor.Z Go.Proofs.YteigbokklclmbaaGreatDoor.Z.Y Go.Proofs.YteigbokklclmbaaGreatDoor.Z.Y.V
theorem two_from : real_FromIntN.f 60 2 = some (8388608, -22) := by kernel_rfl
theorem from_two_ev : Ev (fun k => real_FromIntN.f k 2) (8388608, -22) := Ev.of (fun k => real_FromIntN.mono 2 k) two_from
theorem VR_two (j : Int) (h0 : -40 ≤ j) (h1 : j ≤ 40) : VR 8388608 (j - 23) ∧ I64 8388608 ∧ vv 8388608 (j - 23) = 2 ^ (150 + j).toNat := by
  have hm : mx 8388608 (wrap64 (-8388608)) = 8388608 := by kernel_rfl
  refine ⟨by unfold VR; rw [hm]; omega, ⟨by decide, by decide⟩, ?_⟩
  unfold vv
  have : (150 + j).toNat = 23 + (j - 23 + 150).toNat := by omega
  rw [this, Int.pow_add]; rfl
theorem tm_bd (e b : Int) (hb : 0 < b) : -b < Int.tmod e b ∧ Int.tmod e b < b := tmod_bd e b hb
theorem big_ok {c u : Nat} (hc : c ≤ 16777216) (hu : u ≤ 250) : c * 2 ^ u ≤ 16777215 * 2 ^ 300 :=
  Nat.le_trans (Nat.mul_le_mul hc (Nat.pow_le_pow_right (by decide) hu)) (Nat.le_of_ble_eq_true (by kernel_rfl))
/-- A small real's value. -/
theorem lsmall_ev (m e : Int) : ∃ a0 a1 p q, VR p q ∧ I64 p ∧ vv p q = Int.tmod m 4096 * 2 ^ (150 + Int.tmod e 21).toNat ∧ Ev (fun k => real_FromIntN.f k (Int.tmod m 4096)) (a0, a1) ∧ Ev (fun k => real_Mul.f k a0 a1 8388608 (Int.tmod e 21 - 23)) (p, q, 0) := by
  have hm := tm_bd m 4096 (by decide)
  have he := tm_bd e 21 (by decide)
  obtain ⟨a0, a1, va, wa, hv, hE⟩ := fromS_ev (Int.tmod m 4096) (by omega) (by omega)
  obtain ⟨v2, w2, h2⟩ := VR_two (Int.tmod e 21) (by omega) (by omega)
  have hC : (Int.tmod m 4096 * 2 ^ (150 + Int.tmod e 21).toNat).natAbs = (Int.tmod m 4096).natAbs * 2 ^ (150 + Int.tmod e 21).toNat := by
    rw [Int.natAbs_mul, Int.natAbs_pow]; rfl
  obtain ⟨p, q, vp, wp, hpv, hM⟩ := mulV wa w2 va v2 (C := Int.tmod m 4096 * 2 ^ (150 + Int.tmod e 21).toNat) (c := (Int.tmod m 4096).natAbs) (u := (150 + Int.tmod e 21).toNat)
    (by rw [hv, h2, Int.mul_assoc, Int.mul_assoc, Int.mul_comm (2 ^ 150)]) (by omega) hC (by rw [hC]; exact big_ok (by omega) (by omega))
  exact ⟨a0, a1, p, q, vp, wp, hpv, hE, hM⟩
theorem zero_of {p q : Int} (hw : I64 p) (h : VR p q) (hz : vv p q = 0) : p = 0 ∧ q = 0 := by
  have hp : p = 0 := by
    unfold vv at hz
    rcases Int.mul_eq_zero.1 hz with h | h
    · exact h
    · exact absurd h (Int.ne_of_gt (Int.pow_pos (by decide)))
  rcases VR.norm hw h with h | h
  · exact h
  · exact absurd hp h.1
/-- What the law's calls come to, at one number of rounds. -/
def Facts (k : Nat) (m e n f a0 a1 x0 x1 b0 b1 y0 y1 p0 p1 n0 n1 : Int) : Prop :=
  real_FromIntN.f k (Int.tmod m 4096) = some (a0, a1) ∧ real_FromIntN.f k 2 = some (8388608, -22) ∧ real_Pow.f k 8388608 (-22) (Int.tmod e 21) = some (8388608, Int.tmod e 21 - 23, 0) ∧ real_Mul.f k a0 a1 8388608 (Int.tmod e 21 - 23) = some (x0, x1, 0)
    ∧ real_FromIntN.f k (Int.tmod n 4096) = some (b0, b1) ∧ real_Pow.f k 8388608 (-22) (Int.tmod f 21) = some (8388608, Int.tmod f 21 - 23, 0) ∧ real_Mul.f k b0 b1 8388608 (Int.tmod f 21 - 23) = some (y0, y1, 0)
    ∧ real_Mul.f k x0 x1 y0 y1 = some (p0, p1, 0) ∧ real_Pow.f k 8388608 (-22) (wrap64 (Int.tmod e 21 + Int.tmod f 21)) = some (8388608, Int.tmod e 21 + Int.tmod f 21 - 23, 0) ∧ real_FromIntN.f k (wrap64 (Int.tmod m 4096 * Int.tmod n 4096)) = some (n0, n1)
    ∧ real_Mul.f k n0 n1 8388608 (Int.tmod e 21 + Int.tmod f 21 - 23) = some (p0, p1, 0) ∧ (Int.tmod n 4096 = 0 → p0 = 0 ∧ p1 = 0) ∧ (¬ Int.tmod n 4096 = 0 → real_Div.f k p0 p1 y0 y1 = some (x0, x1, 0)) ∧ manorboylaw02_sanity.f k = some true
theorem pure_real_exact (m e n f : Int) : ∃ k a0 a1 x0 x1 b0 b1 y0 y1 p0 p1 n0 n1, Facts k m e n f a0 a1 x0 x1 b0 b1 y0 y1 p0 p1 n0 n1 := by
  obtain ⟨a0, a1, x0, x1, vx, wx, hx, ⟨k1, ea⟩, ⟨k2, ex⟩⟩ := lsmall_ev m e
  obtain ⟨b0, b1, y0, y1, vy, wy, hy, ⟨k3, eb⟩, ⟨k4, ey⟩⟩ := lsmall_ev n f
  have hm := tm_bd m 4096 (by decide)
  have hn := tm_bd n 4096 (by decide)
  have he := tm_bd e 21 (by decide)
  have hf := tm_bd f 21 (by decide)
  have pe := pow_two_ev (Int.tmod e 21) (by omega) (by omega)
  have pf := pow_two_ev (Int.tmod f 21) (by omega) (by omega)
  have pw := pow_two_ev (Int.tmod e 21 + Int.tmod f 21) (by omega) (by omega)
  obtain ⟨v2, w2, h2⟩ := VR_two (Int.tmod e 21 + Int.tmod f 21) (by omega) (by omega)
  generalize hM : Int.tmod m 4096 = M at *
  generalize hN : Int.tmod n 4096 = N at *
  generalize hE : Int.tmod e 21 = E at *
  generalize hF : Int.tmod f 21 = F at *
  have hMN : (M * N).natAbs ≤ 4095 * 4095 := by
    rw [Int.natAbs_mul]; exact Nat.mul_le_mul (by omega) (by omega)
  have w1 : wrap64 (E + F) = E + F := wrap64_of (by omega) (by omega)
  have w3 : wrap64 (M * N) = M * N := wrap64_of (by omega) (by omega)
  obtain ⟨n0, n1, vn, wn, hv, ⟨k5, en⟩⟩ := fromS_ev (M * N) (by omega) (by omega)
  have hC : (M * N * 2 ^ (150 + (E + F)).toNat).natAbs = (M * N).natAbs * 2 ^ (150 + (E + F)).toNat := by rw [Int.natAbs_mul, Int.natAbs_pow]; rfl
  have hCb : (M * N * 2 ^ (150 + (E + F)).toNat).natAbs ≤ 16777215 * 2 ^ 300 := by rw [hC]; exact big_ok (by omega) (by omega)
  have hpow : (2 : Int) ^ (150 + E).toNat * 2 ^ (150 + F).toNat = 2 ^ (150 + (E + F)).toNat * 2 ^ 150 := by
    rw [← Int.pow_add, ← Int.pow_add]; congr 1; omega
  obtain ⟨p0, p1, vp, wp, hp, ⟨k6, ep⟩⟩ := mulV wx wy vx vy (C := M * N * 2 ^ (150 + (E + F)).toNat) (c := (M * N).natAbs) (u := (150 + (E + F)).toNat)
    (by rw [hx, hy, Int.mul_assoc (M * N), ← hpow]; ac_rfl) (by omega) hC hCb
  obtain ⟨q0, q1, vq, wq, hq, ⟨k7, eq⟩⟩ := mulV wn w2 vn v2 (C := M * N * 2 ^ (150 + (E + F)).toNat) (c := (M * N).natAbs) (u := (150 + (E + F)).toNat)
    (by rw [hv, h2]; ac_rfl) (by omega) hC hCb
  have hpq := vv_inj wq wp vq vp (hq.trans hp.symm)
  obtain ⟨rfl, rfl⟩ := Prod.mk.inj hpq
  obtain ⟨k8, e8⟩ := pe
  obtain ⟨k9, e9⟩ := pf
  obtain ⟨k10, e10⟩ := pw
  obtain ⟨k11, e11⟩ := from_two_ev
  obtain ⟨k12, e12⟩ := sanity_ev
  have hD : ∃ k13, ∀ k, k13 ≤ k → ¬ N = 0 → real_Div.f k q0 q1 y0 y1 = some (x0, x1, 0) := by
    by_cases h0 : N = 0
    · exact ⟨0, fun _ _ h => absurd h0 h⟩
    · have hyn : vv y0 y1 ≠ 0 := by
        rw [hy]; intro h
        rcases Int.mul_eq_zero.1 h with h | h
        · exact h0 h
        · exact absurd h (Int.ne_of_gt (Int.pow_pos (by decide)))
      have hC2 : (M * 2 ^ (150 + E).toNat).natAbs = M.natAbs * 2 ^ (150 + E).toNat := by rw [Int.natAbs_mul, Int.natAbs_pow]; rfl
      obtain ⟨r0, r1, vr, wr, hr, ⟨k13, er⟩⟩ := divV wq wy vq vy hyn (C := M * 2 ^ (150 + E).toNat) (c := M.natAbs) (u := (150 + E).toNat)
        (by rw [hq, hy, Int.mul_assoc (M * N), ← hpow]; ac_rfl) (by omega) hC2 (by rw [hC2]; exact big_ok (by omega) (by omega))
      have hrx := vv_inj wr wx vr vx (hr.trans hx.symm)
      obtain ⟨rfl, rfl⟩ := Prod.mk.inj hrx
      exact ⟨k13, fun k hk _ => er k hk⟩
  obtain ⟨k13, e13⟩ := hD
  obtain ⟨K, hK⟩ : ∃ K, K = k1 + k2 + k3 + k4 + k5 + k6 + k7 + k8 + k9 + k10 + k11 + k12 + k13 := ⟨_, rfl⟩
  refine ⟨K, a0, a1, x0, x1, b0, b1, y0, y1, q0, q1, n0, n1, ?_⟩
  unfold Facts
  rw [hM, hN, hE, hF, w1, w3]
  refine ⟨ea K (by omega), e11 K (by omega), e8 K (by omega), ex K (by omega), eb K (by omega), e9 K (by omega), ey K (by omega), ep K (by omega), e10 K (by omega), en K (by omega), eq K (by omega), fun h => ?_, e13 K (by omega), e12 K (by omega)⟩
  exact zero_of wq vq (by rw [hq, h, Int.mul_zero, Int.zero_mul])
def ExactH (k : Nat) (m e n f : Int) : Prop := ∃ a0 a1 x0 x1 b0 b1 y0 y1 p0 p1 n0 n1, Facts k m e n f a0 a1 x0 x1 b0 b1 y0 y1 p0 p1 n0 n1
theorem exact_pure (m e n f : Int) (_ : I64 m) (_ : I64 e) (_ : I64 n) (_ : I64 f) : ∃ k, ExactH k m e n f := pure_real_exact m e n f
theorem exact_calls (k : Nat) (m e n f : Int) (r : Bool) (w : World) (h : ExactH k m e n f) (hr : r = true) (ht : Table w) :
    Calls Tryz.prog 6 #[.int .i64 m, .int .i64 e, .int .i64 n, .int .i64 f] w fun e w' => e = .returned (.bool r) ∧ Below w.heap.size w w' := by
  subst hr
  obtain ⟨a0, a1, x0, x1, b0, b1, y0, y1, p0, p1, n0, n1, h1, h2, h3, h4, h5, h6, h7, h8, h9, h10, h11, h12, h13, h14⟩ := h
  exact exact_c k m e n f a0 a1 _ _ _ x0 x1 _ b0 b1 _ _ _ y0 y1 _ p0 p1 _ _ n0 n1 h1 h2 h3 h4 h5 h6 h7 h8 h9 h10 h11 h12 h13 h14 w ht
end Go.Proofs.YteigbokklclmbaaGreatDoor.M
end
section
namespace Go.Proofs.YteigbokklclmbaaGreatDoor.Given
open Go
theorem gT : Tryz.prog.globalNamed "internal/strconv.uint64pow10" = some 0 := by kernel_rfl
theorem gTType : (Tryz.prog.globals[0]?).map (·.type) = some 188 := by kernel_rfl
theorem pow10_datum : (Rows.laid_internal_strconv_uint64pow10 : DataW Unit) = Lib.tabData .u64 Lib.pow10Tab := by kernel_rfl
theorem table_of {W : World} (h : laidMet Tryz.prog [("math/bits.deBruijn32tab", Rows.laid_math_bits_deBruijn32tab), ("math/bits.deBruijn64tab", Rows.laid_math_bits_deBruijn64tab), ("internal/strconv.uint64pow10", Rows.laid_internal_strconv_uint64pow10), ("unicode/utf8.acceptRanges", Rows.laid_unicode_utf8_acceptRanges), ("unicode/utf8.first", Rows.laid_unicode_utf8_first)] W) : Z.Table W := by
  obtain ⟨ps, ⟨_, _, _, _, _, _, _, _, _, _, ⟨_, _, _, _, _, _, _, _, _, _, ⟨g, t, cs, f, p, q, hg, ht, hv, hd, _, _⟩, _⟩, _⟩, _⟩ := h
  obtain rfl := Option.some.inj (gT.symm.trans hg)
  obtain rfl := Option.some.inj (gTType.symm.trans ht)
  rw [pow10_datum] at hd
  show Lib.TabIs _ _ _ _ _
  unfold Lib.TabIs
  rw [hv, ← Lib.cells_of_tab Tryz.underlying188 Tryz.underlying72 (by kernel_rfl) (by kernel_rfl) hd]
theorem i64_lit {a : Int} (h : (Lit.int IntKind.i64 a).wf = true) : -9223372036854775808 ≤ a ∧ a ≤ 9223372036854775807 := by
  have h1 : (decide ((-9223372036854775808 : Int) ≤ a) && decide (a ≤ (9223372036854775807 : Int))) = true := h
  simpa using h1
end Go.Proofs.YteigbokklclmbaaGreatDoor.Given
end
