/- Contracts and lemmas that the law's row leans on, joined by program (pack.py) out of the session's texts; no condition of its own. -/
import Derived.Test.YteigbokklclmbaaGreatDoorProg
import Derived.Below
import Derived.Deep.Draws
import Derived.Deep.AppendLies
import Derived.Maps.AppendAt
import Derived.OwnWalk
import Derived.Laws.BytesArg
import Derived.Laws.MakeOwn
import Derived.Laws.OwnMore
import Derived.Deep.OwnRows
import Derived.Tactics
import Derived.Lib.ConvBytes
import Derived.Laws.Slices
import Derived.WalkKit
import Derived.KernelRfl
import Derived.RowKit3
import Derived.Deep.LoopGhost
import Derived.Deep.QuietTactic
import Derived.BigQuiet
import Derived.WideLaws
import Derived.Deep.DeepCutAuto
import Derived.Deep.CutBlock
import Derived.Deep.RegionHeld3
import Derived.Laws.Rows
import Derived.Lib.AppendStr
import Derived.ArgAppend
import Derived.Laws.IdiomCopy
import Derived.OrdersHeld
import Derived.Laws.BitsLemmas
import Derived.RowKit
import Derived.Deep.Cut
import Derived.Test.YteigbokklclmbaaGreatDoorRpla
import Derived.Test.YteigbokklclmbaaGreatDoorRplb
import Derived.Test.YteigbokklclmbaaGreatDoorRplc
import Derived.Test.YteigbokklclmbaaGreatDoorRpld
set_option linter.unusedVariables false
set_option linter.unusedSimpArgs false
set_option maxRecDepth 100000
set_option maxHeartbeats 8000000
section
namespace Go.Proofs.YteigbokklclmbaaGreatDoor.Z.Y
open Go.RowKit Go.Proofs.YteigbokklclmbaaGreatDoor.Given Go.Proofs.YteigbokklclmbaaGreatDoorW.PrintWords Go.Proofs.YteigbokklclmbaaGreatDoorW.PrintLast Go.Proofs.YteigbokklclmbaaGreatDoorW.PrintMore
attribute [local go_sem] max2_int min2_int max_two min_two max_three min_three max_four min_four   -- for this text's walks alone

attribute [local go_sem high] eqA23
def manorboylaw02_sanity.j0 : Nat → Bool → Option (Bool)
 | 0, _ => none
 | k + 1, x60 => if x60 = true then (some false) else ((real_Entier.f (-12582912) (-23)).bind fun bt127 => ((real_Round.f 10485760 (-22)).bind fun bt129 => ((real_Parse.f k (⟨#[49, 101, 54, 48]⟩ : ByteArray)).bind fun bt131 => ((real_PowZ.f 0 0 (-1)).bind fun bt134 => ((real_Print.f k 1 (-150)).bind fun bt137 => (if bt127.2 = 0 then (if bt129.2 = 0 then (if bt127.1 = (-2) then (if bt129.1 = 3 then (if bt131.2.2 = 3 then (if bt134.2.2 = 5 then (if bt137.2 = 0 then (if bt137.1.toList = ([55, 46, 48, 101, 45, 52, 54] : List UInt8) then ((real_FromIntN.f k 16777217).bind fun bt139 => ((manorboylaw02_two.f 24).bind fun bt141 => (some (bt139.1 == bt141.1 && (bt139.2 == bt141.2))))) else (some false)) else (some false)) else (some false)) else (some false)) else (some false)) else (some false)) else (some false)) else (some false)))))))
def manorboylaw02_sanity.f (k : Nat)  : Option (Bool) := (manorboylaw02_two.f 0).bind fun bt102 => ((manorboylaw02_two.f (-24)).bind fun bt104 => ((real_Add.f k bt102.1 bt102.2 bt104.1 bt104.2).bind fun bt106 => ((manorboylaw02_two.f 0).bind fun bt110 => ((real_Div.f k bt110.1 bt110.2 12582912 (-22)).bind fun bt112 => ((real_Parse.f k (⟨#[48, 46, 49]⟩ : ByteArray)).bind fun bt116 => ((real_Print.f k bt112.1 bt112.2.1).bind fun bt120 => ((manorboylaw02_two.f 0).bind fun bt122 => ((manorboylaw02_is.f bt106.1 bt106.2.1 bt106.2.2 bt122.1 bt122.2).bind fun t124 => (if t124 = true then ((manorboylaw02_is.f bt112.1 bt112.2.1 bt112.2.2 11184811 (-25)).bind fun t125 => (if t125 = true then ((manorboylaw02_is.f bt116.1 bt116.2.1 bt116.2.2 13421773 (-27)).bind fun t126 => (if t126 = true then (if bt120.2 = 0 then (manorboylaw02_sanity.j0 k (bt120.1.toList != ([48, 46, 51, 51, 51, 51, 51, 51, 51, 52] : List UInt8))) else (manorboylaw02_sanity.j0 k true)) else (manorboylaw02_sanity.j0 k true))) else (manorboylaw02_sanity.j0 k true))) else (manorboylaw02_sanity.j0 k true))))))))))
theorem manorboylaw02_sanity.mono_l : ∀ k, (∀ y0, LeO (manorboylaw02_sanity.j0 k y0) (manorboylaw02_sanity.j0 (k + 1) y0))
 | 0 => fun _ r h => by simp [manorboylaw02_sanity.j0] at h
 | k + 1 => by
  have ih0 := manorboylaw02_sanity.mono_l k
  ·intro y0
   unfold manorboylaw02_sanity.j0
   repeat' first
   | (with_reducible exact ih0 _)
   | (with_reducible exact real_Add.mono _ _ _ _ _)
   | (with_reducible exact real_Div.mono _ _ _ _ _)
   | (with_reducible exact real_FromIntN.mono _ _)
   | (with_reducible exact real_Parse.mono _ _)
   | (with_reducible exact real_Print.mono _ _ _)
   | (with_reducible exact LeO.refl _)
   | (with_reducible exact LeO.none _)
   | (with_reducible refine LeO.ite ?_ ?_)
   | (with_reducible refine LeO.bind ?_ (fun _ => ?_))
   | exact ih0 _
   | exact real_Add.mono _ _ _ _ _
   | exact real_Div.mono _ _ _ _ _
   | exact real_FromIntN.mono _ _
   | exact real_Parse.mono _ _
   | exact real_Print.mono _ _ _
   | exact LeO.none _
   | refine LeO.ite ?_ ?_
   | refine LeO.bind ?_ (fun _ => ?_)
theorem manorboylaw02_sanity.mono : ∀ k, LeO (manorboylaw02_sanity.f k ) (manorboylaw02_sanity.f (k + 1) ) := by
 intro  k
 have ih0 := manorboylaw02_sanity.mono_l k
 unfold manorboylaw02_sanity.f
 repeat' first
   | (with_reducible exact ih0 _)
   | (with_reducible exact real_Add.mono _ _ _ _ _)
   | (with_reducible exact real_Div.mono _ _ _ _ _)
   | (with_reducible exact real_FromIntN.mono _ _)
   | (with_reducible exact real_Parse.mono _ _)
   | (with_reducible exact real_Print.mono _ _ _)
   | (with_reducible exact LeO.refl _)
   | (with_reducible exact LeO.none _)
   | (with_reducible refine LeO.ite ?_ ?_)
   | (with_reducible refine LeO.bind ?_ (fun _ => ?_))
   | exact ih0 _
   | exact real_Add.mono _ _ _ _ _
   | exact real_Div.mono _ _ _ _ _
   | exact real_FromIntN.mono _ _
   | exact real_Parse.mono _ _
   | exact real_Print.mono _ _ _
   | exact LeO.none _
   | refine LeO.ite ?_ ?_
   | refine LeO.bind ?_ (fun _ => ?_)
def manorboylaw02_sanity.T5 : Bool × List (List Nat × List Nat) := (true, [([], []), ([], []), ([], []), ([0, 1, 2, 2], [0, 1, 2]), ([3], [3]), ([4, 3], [4]), ([5], [5]), ([5], [5]), ([5], [5]), ([6, 7, 8, 5, 5], [5, 6, 7, 8]), ([9, 5], [5, 9]), ([5, 10], [5, 10]), ([11, 9], [11]), ([12], [12]), ([12], [12]), ([12], [12]), ([13, 14, 15, 12, 12], [12, 13, 14, 15]), ([16, 12], [12, 16]), ([12, 17], [12, 17]), ([18, 16], [18]), ([19], [19]), ([20, 19], [19, 20]), ([19, 21], [19, 21]), ([22, 19], [22]), ([23], [23]), ([24, 23], [23, 24]), ([23, 25], [23, 25])])
def manorboylaw02_sanity.B5 : List Nat := [0, 0, 0, 7, 15, 31, 63, 63, 63, 511, 1023, 2047, 4095, 8191, 8191, 8191, 65535, 131071, 262143, 524287, 1048575, 2097151, 4194303, 8388607, 16777215, 33554431, 67108863]
theorem manorboylaw02_sanity.tab5 : rtab .any (opsOf Tryz.f19 5) = manorboylaw02_sanity.T5 := by kernel_rfl
theorem manorboylaw02_sanity.bits5 : waitsOk manorboylaw02_sanity.T5.2 manorboylaw02_sanity.B5 = true := by kernel_rfl
theorem manorboylaw02_sanity.no : ∀ k, manorboylaw02_sanity.j0 k true ≠ some true
 | 0, h => by simp [manorboylaw02_sanity.j0] at h
 | k + 1, h => by simp [manorboylaw02_sanity.j0] at h
theorem third_is {k : Nat} {a b c d e : Int} (h1 : manorboylaw02_two.f 0 = some (a, b)) (h2 : real_Div.f k a b 12582912 (-22) = some (c, d, e)) : c = 11184811 ∧ d = -25 ∨ c = 1 ∧ d = -150 := by
 have e1 : manorboylaw02_two.f 0 = some (8388608, -23) := by kernel_rfl
 have e2 := Option.some.inj (h1.symm.trans e1)
 obtain ⟨rfl, rfl⟩ := Prod.mk.inj e2
 have e3 : real_Div.f 400 8388608 (-23) 12582912 (-22) = some (11184811, -25, 0) := by kernel_rfl
 have e4 := at_fixed (fun k => real_Div.mono _ _ _ _ k) h2 e3
 simp only [Prod.mk.injEq] at e4
 exact Or.inl ⟨e4.1, e4.2.1⟩
theorem manorboylaw02_sanity.calls (k : Nat)  (r : Bool) (w : World) (h : manorboylaw02_sanity.f k  = some r) (hr : r = true) (ht : Table w) :
  Calls Tryz.prog 19 #[] w fun e w' => e = .returned (.bool r) ∧ Below w.heap.size w w' := by
 have hu23 := Tryz.underlying23
 have HB := Aside0.mk (Below.refl w.heap.size w)
 have HT := Aside0.mk (Lib.tabBelow_of_tabIs ht)
 clear ht
 have H := h; unfold manorboylaw02_sanity.f at H; clear h
 replace H := Option.bind_eq_some_iff.mp H
 obtain ⟨⟨t102, t103⟩, A10, H⟩ := H
 try dsimp only at H
 have A1 := Aside0.mk A10
 clear A10
 replace H := Option.bind_eq_some_iff.mp H
 obtain ⟨⟨t104, t105⟩, A20, H⟩ := H
 try dsimp only at H
 have A2 := Aside0.mk A20
 clear A20
 replace H := Option.bind_eq_some_iff.mp H
 obtain ⟨⟨t106, t107, t108⟩, A30, H⟩ := H
 try dsimp only at H
 have A3 := Aside0.mk A30
 clear A30
 replace H := Option.bind_eq_some_iff.mp H
 obtain ⟨⟨t110, t111⟩, A40, H⟩ := H
 try dsimp only at H
 have A4 := Aside0.mk A40
 clear A40
 replace H := Option.bind_eq_some_iff.mp H
 obtain ⟨⟨t112, t113, t114⟩, A50, H⟩ := H
 try dsimp only at H
 have A5 := Aside0.mk A50
 clear A50
 replace H := Option.bind_eq_some_iff.mp H
 obtain ⟨⟨t116, t117, t118⟩, A60, H⟩ := H
 try dsimp only at H
 have A6 := Aside0.mk A60
 clear A60
 replace H := Option.bind_eq_some_iff.mp H
 obtain ⟨⟨t120, t121⟩, A70, H⟩ := H
 try dsimp only at H
 have A7 := Aside0.mk A70
 clear A70
 have HC8 := Aside0.mk H
 clear H
 go_enter Tryz.func19, Tryz.ntmps19
 go_upto_region 5 with (first | ((with_reducible refine gate_callee (f := 49) rfl ?_); refine goesL_ (some 14) rfl rfl Tryz.func49 (by kernel_rfl) rfl #[.int .i64 0] rfl az ?_; (with_reducible refine (manorboylaw02_two.calls 0 t102 t103 _ A1.out).mono ?_); rintro e w9 ⟨rfl, hb⟩; refine ⟨_, rfl, ?_⟩; replace HB := bs hb; (try clear hb)) | ((with_reducible refine gate_callee (f := 49) rfl ?_); refine goesL_ (some 15) rfl rfl Tryz.func49 (by kernel_rfl) rfl #[.int .i64 (-24)] rfl az ?_; (with_reducible refine (manorboylaw02_two.calls (-24) t104 t105 _ A2.out).mono ?_); rintro e w10 ⟨rfl, hb⟩; refine ⟨_, rfl, ?_⟩; replace HB := bs hb; (try clear hb)) | ((with_reducible refine gate_callee (f := 33) rfl ?_); refine goesL_ (some 16) rfl rfl Tryz.func33 (by kernel_rfl) rfl #[.agg #[.int .i64 t102, .int .i64 t103], .agg #[.int .i64 t104, .int .i64 t105]] rfl az ?_; (with_reducible refine (real_Add.calls k t102 t103 t104 t105 t106 t107 t108 _ A3.out).mono ?_); rintro e w11 ⟨rfl, hb⟩; refine ⟨_, rfl, ?_⟩; replace HB := bs hb; (try clear hb)) | ((with_reducible refine gate_dst (N := 1) rfl ?_); refine box_event ?hg (N := 1) ?hd (cs := #[.int .i64 0, .int .i64 0]) (t := 23) ?hr ?_; (case hd => rfl); (case hg => rfl); (case hr => first | (go_simp; done) | (go_simp; rfl)); intro gb109 hg w12 hbox hb; have BK109 := Aside0.mk hbox; have GW109 := ge hg; have GE109 := ge hg; replace HB := bs hb; clear hb hbox hg; have hcz13_0 := c20 BK109; have hcz13_1 := c21 BK109; have hfz13_0 := blk_frozen BK109.out 0; have hfz13_1 := blk_frozen BK109.out 1) | ((with_reducible refine gate_callee (f := 49) rfl ?_); refine goesL_ (some 20) rfl rfl Tryz.func49 (by kernel_rfl) rfl #[.int .i64 0] rfl az ?_; (with_reducible refine (manorboylaw02_two.calls 0 t110 t111 _ A4.out).mono ?_); rintro e w14 ⟨rfl, hb⟩; refine ⟨_, rfl, ?_⟩; replace BK109 := Aside0.mk (blk_below (g := gb109) (o := .cells #[.int .i64 t106, .int .i64 t107] 23 (0, 0)) (by (with_reducible repeat (first | refine blk_drewN ?_ _ | refine blk_drew ?_ | refine blk_alloc ?_ _)); refine blk_put (cs := #[.int .i64 t106, .int .i64 0]) ?_ 1 _ rfl; (with_reducible repeat (first | refine blk_drewN ?_ _ | refine blk_drew ?_ | refine blk_alloc ?_ _)); refine blk_put (cs := #[.int .i64 0, .int .i64 0]) ?_ 0 _ rfl; (with_reducible repeat (first | refine blk_drewN ?_ _ | refine blk_drew ?_ | refine blk_alloc ?_ _)); exact BK109.out) hb); replace HB := bs hb; (try clear hb)) | ((with_reducible refine gate_callee (f := 32) rfl ?_); refine goesL_ (some 22) rfl rfl Tryz.func32 (by kernel_rfl) rfl #[.agg #[.int .i64 t110, .int .i64 t111], .agg #[.int .i64 12582912, .int .i64 (-22)]] rfl az ?_; (with_reducible refine (real_Div.calls k t110 t111 12582912 (-22) t112 t113 t114 _ A5.out).mono ?_); rintro e w15 ⟨rfl, hb⟩; refine ⟨_, rfl, ?_⟩; replace BK109 := kb BK109 hb; replace HB := bs hb; (try clear hb)) | ((with_reducible refine gate_dst (N := 3) rfl ?_); refine box_event ?hg (N := 3) ?hd (cs := #[.int .i64 0, .int .i64 0]) (t := 23) ?hr ?_; (case hd => rfl); (case hg => rfl); (case hr => first | (go_simp; done) | (go_simp; rfl)); intro gb115 hg w16 hbox hb; have BK115 := Aside0.mk hbox; have GW115 := ge hg; have GE115 := ge hg; have NB109_115 := nl BK109 hg; have NB115_109 := nr BK109 hg; replace BK109 := kb BK109 hb; replace HB := bs hb; clear hb hbox hg; have hnb17 := NB115_109.out; have hnc17 := NB109_115.out; have hcz18_0 := c20 BK115; have hcz18_1 := c21 BK115; have hfz18_0 := blk_frozen BK115.out 0; have hfz18_1 := blk_frozen BK115.out 1) | ((with_reducible refine gate_callee (f := 25) rfl ?_); refine goesL_ (some 26) rfl rfl Tryz.func25 (by kernel_rfl) rfl #[.string (⟨#[48, 46, 49]⟩ : ByteArray)] rfl az ?_; (with_reducible refine (real_Parse.calls01 k t116 t117 t118 _ A6.out).mono ?_); rintro e w19 ⟨rfl, hb⟩; refine ⟨_, rfl, ?_⟩; replace BK109 := Aside0.mk (blk_below (g := gb109) (o := .cells #[.int .i64 t106, .int .i64 t107] 23 (0, 0)) (by (with_reducible repeat (first | refine blk_drewN ?_ _ | refine blk_drew ?_ | refine blk_alloc ?_ _)); refine blk_far ?_ NB109_115.out _; (with_reducible repeat (first | refine blk_drewN ?_ _ | refine blk_drew ?_ | refine blk_alloc ?_ _)); refine blk_far ?_ NB109_115.out _; (with_reducible repeat (first | refine blk_drewN ?_ _ | refine blk_drew ?_ | refine blk_alloc ?_ _)); exact BK109.out) hb); replace BK115 := Aside0.mk (blk_below (g := gb115) (o := .cells #[.int .i64 t112, .int .i64 t113] 23 (0, 0)) (by (with_reducible repeat (first | refine blk_drewN ?_ _ | refine blk_drew ?_ | refine blk_alloc ?_ _)); refine blk_put (cs := #[.int .i64 t112, .int .i64 0]) ?_ 1 _ rfl; (with_reducible repeat (first | refine blk_drewN ?_ _ | refine blk_drew ?_ | refine blk_alloc ?_ _)); refine blk_put (cs := #[.int .i64 0, .int .i64 0]) ?_ 0 _ rfl; (with_reducible repeat (first | refine blk_drewN ?_ _ | refine blk_drew ?_ | refine blk_alloc ?_ _)); exact BK115.out) hb); replace HB := bs hb; (try clear hb)) | ((with_reducible refine gate_dst (N := 5) rfl ?_); refine box_event ?hg (N := 5) ?hd (cs := #[.int .i64 0, .int .i64 0]) (t := 23) ?hr ?_; (case hd => rfl); (case hg => rfl); (case hr => first | (go_simp; done) | (go_simp; rfl)); intro gb119 hg w20 hbox hb; have BK119 := Aside0.mk hbox; have GW119 := ge hg; have GE119 := ge hg; have NB109_119 := nl BK109 hg; have NB119_109 := nr BK109 hg; have NB115_119 := nl BK115 hg; have NB119_115 := nr BK115 hg; replace BK109 := kb BK109 hb; replace BK115 := kb BK115 hb; replace HB := bs hb; clear hb hbox hg; have hnb21 := NB119_109.out; have hnc21 := NB109_119.out; have hnb22 := NB119_115.out; have hnc22 := NB115_119.out; have hcz23_0 := c20 BK119; have hcz23_1 := c21 BK119; have hfz23_0 := blk_frozen BK119.out 0; have hfz23_1 := blk_frozen BK119.out 1; have hcz24_0 := c20 BK115; have hcz24_1 := c21 BK115; have hfz24_0 := blk_frozen BK115.out 0; have hfz24_1 := blk_frozen BK115.out 1) | ((with_reducible refine gate_callee (f := 27) rfl ?_); refine goesL_ (some 31) rfl rfl Tryz.func27 (by kernel_rfl) rfl #[.agg #[.int .i64 t112, .int .i64 t113]] rfl az ?_; (with_reducible refine (real_Print.calls1 k t112 t113 t120 t121 _ A7.out (third_is A4.out A5.out) (tabAt HT.out bz)).mono ?_); rintro e w25 ⟨rfl, hb⟩; refine ⟨_, rfl, ?_⟩; replace BK109 := Aside0.mk (blk_below (g := gb109) (o := .cells #[.int .i64 t106, .int .i64 t107] 23 (0, 0)) (by (with_reducible repeat (first | refine blk_drewN ?_ _ | refine blk_drew ?_ | refine blk_alloc ?_ _)); refine blk_far ?_ NB109_119.out _; (with_reducible repeat (first | refine blk_drewN ?_ _ | refine blk_drew ?_ | refine blk_alloc ?_ _)); refine blk_far ?_ NB109_119.out _; (with_reducible repeat (first | refine blk_drewN ?_ _ | refine blk_drew ?_ | refine blk_alloc ?_ _)); exact BK109.out) hb); replace BK115 := Aside0.mk (blk_below (g := gb115) (o := .cells #[.int .i64 t112, .int .i64 t113] 23 (0, 0)) (by (with_reducible repeat (first | refine blk_drewN ?_ _ | refine blk_drew ?_ | refine blk_alloc ?_ _)); refine blk_far ?_ NB115_119.out _; (with_reducible repeat (first | refine blk_drewN ?_ _ | refine blk_drew ?_ | refine blk_alloc ?_ _)); refine blk_far ?_ NB115_119.out _; (with_reducible repeat (first | refine blk_drewN ?_ _ | refine blk_drew ?_ | refine blk_alloc ?_ _)); exact BK115.out) hb); replace BK119 := Aside0.mk (blk_below (g := gb119) (o := .cells #[.int .i64 t116, .int .i64 t117] 23 (0, 0)) (by (with_reducible repeat (first | refine blk_drewN ?_ _ | refine blk_drew ?_ | refine blk_alloc ?_ _)); refine blk_put (cs := #[.int .i64 t116, .int .i64 0]) ?_ 1 _ rfl; (with_reducible repeat (first | refine blk_drewN ?_ _ | refine blk_drew ?_ | refine blk_alloc ?_ _)); refine blk_put (cs := #[.int .i64 0, .int .i64 0]) ?_ 0 _ rfl; (with_reducible repeat (first | refine blk_drewN ?_ _ | refine blk_drew ?_ | refine blk_alloc ?_ _)); exact BK119.out) hb); replace HB := bs hb; (try clear hb)))
 (try simp only [Act.put, List.setIfInBounds_toArray, List.set_cons_zero, List.set_cons_succ])
 go_cut [60] (fun v60 wc => ∃ (kq : Nat) (x60_7 : Bool), v60 = .bool x60_7 ∧ Aside0 (manorboylaw02_sanity.j0 kq x60_7 = some r) ∧ Aside0 (kq ≤ k) ∧ Aside0 (wc.heap[gb109]? = some (.cells #[.int .i64 t106, .int .i64 t107] 23 (0, 0))) ∧ Aside0 (wc.heap[gb115]? = some (.cells #[.int .i64 t112, .int .i64 t113] 23 (0, 0))) ∧ Aside0 (wc.heap[gb119]? = some (.cells #[.int .i64 t116, .int .i64 t117] 23 (0, 0))) ∧ Aside0 (Below w.heap.size w wc))
 case first => as_aux_lemma =>
  have H := HC8.out
  clear HC8
  replace H := Option.bind_eq_some_iff.mp H
  obtain ⟨⟨t122, t123⟩, A260, H⟩ := H
  try dsimp only at H
  have A26 := Aside0.mk A260
  clear A260
  replace H := Option.bind_eq_some_iff.mp H
  obtain ⟨t124, A270, H⟩ := H
  try dsimp only at H
  have A27 := Aside0.mk A270
  clear A270
  by_cases c28 : t124 = true
  ·subst c28
   rw [if_pos rfl] at H
   replace H := Option.bind_eq_some_iff.mp H
   obtain ⟨t125, A290, H⟩ := H
   try dsimp only at H
   have A29 := Aside0.mk A290
   clear A290
   by_cases c30 : t125 = true
   ·subst c30
    rw [if_pos rfl] at H
    replace H := Option.bind_eq_some_iff.mp H
    obtain ⟨t126, A310, H⟩ := H
    try dsimp only at H
    have A31 := Aside0.mk A310
    clear A310
    by_cases c32 : t126 = true
    ·subst c32
     rw [if_pos rfl] at H
     by_cases c33 : t121 = 0
     ·rw [if_pos c33] at H
      have c33b0 : (t121 == 0) = true := beq_iff_eq.mpr c33
      have c33b1 : (t121 != 0) = false := bne_eq_false_iff_eq.mpr c33
      clear c33
      (first | rw [c33b0] | (simp only [i64_w, i32_w]; rw [c33b0]) | skip)
      have H' := Aside0.mk H
      clear H
      try go_wp2
      replace BK109 := Aside0.mk (blk_drew BK109.out)
      replace BK115 := Aside0.mk (blk_drew BK115.out)
      replace BK119 := Aside0.mk (blk_drew BK119.out)
      replace HB := Aside0.mk (below_drew1 HB.out)
      refine start_ (n := 27) (S := fun w' => w'.cell? ⟨gb109, 0, none⟩ = some (.int .i64 t106) ∧ w'.cell? ⟨gb109, 1, none⟩ = some (.int .i64 t107) ∧ w'.cell? ⟨gb115, 0, none⟩ = some (.int .i64 t112) ∧ w'.cell? ⟨gb115, 1, none⟩ = some (.int .i64 t113) ∧ w'.cell? ⟨gb119, 0, none⟩ = some (.int .i64 t116) ∧ w'.cell? ⟨gb119, 1, none⟩ = some (.int .i64 t117)) (ds := []) #[false, false, false, false, false, false, false, false, false, false, false, false, false, false, false, false, false, false, false, false, false, false, false, false, false, false, false] (by kernel_rfl) rfl rfl ⟨(blk_cell BK109.out 0).trans rfl, (blk_cell BK109.out 1).trans rfl, (blk_cell BK115.out 0).trans rfl, (blk_cell BK115.out 1).trans rfl, (blk_cell BK119.out 0).trans rfl, (blk_cell BK119.out 1).trans rfl⟩ (fun hHeld => ?_); refine with_tabW manorboylaw02_sanity.tab5 manorboylaw02_sanity.bits5 (fun HT_ HW_ => ?_)
      generalize w25.drew = w34 at BK109 BK115 BK119 HB hHeld ⊢
      refine pur 1 (some 35) #[ff,tt,ff,ff,ff,ff,ff,ff,ff,ff,ff,ff,ff,ff,ff,ff,ff,ff,ff,ff,ff,ff,ff,ff,ff,ff,ff] ?_
      refine take_ (i := 0) (N := some 34) (v := ?_) (a' := ?_) #[true, true, false, false, false, false, false, false, false, false, false, false, false, false, false, false, false, false, false, false, false, false, false, false, false, false, false] rfl rfl (take_ofW HT_.out HW_.out (by kernel_rfl)) (fun _ _ _ h => h) (Or.inl ⟨by rfl, ?_⟩) hHeld ?_ ?_
      rotate_left
      ·rintro w' ⟨s0, s1, s2, s3, s4, s5⟩
       go_simp
       with_reducible rfl
      rotate_left
      ·simp only [Act.put, List.setIfInBounds_toArray, List.set_cons_zero, List.set_cons_succ, i64_w, i32_w]
       rfl
      refine one_ (i := 2) (N := some 36) #[true, true, true, false, false, false, false, false, false, false, false, false, false, false, false, false, false, false, false, false, false, false, false, false, false, false, false] rfl rfl (one_of HT_.out (by kernel_rfl)) (by decide) (fun K hK => ?_)
      refine goes_ Tryz.func49 (by kernel_rfl) rfl #[.int .i64 0] (by rfl) rfl rfl az ?_
      with_reducible refine (manorboylaw02_two.calls 0 t122 t123 _ A26.out).mono ?_
      rintro e w35 ⟨rfl, hb⟩
      refine ⟨_, rfl, ?_⟩
      replace BK109 := kb BK109 hb
      replace BK115 := kb BK115 hb
      replace BK119 := kb BK119 hb
      replace HB := bs hb
      (try clear hb)
      refine hK.out _ _ ⟨(blk_cell BK109.out 0).trans rfl, (blk_cell BK109.out 1).trans rfl, (blk_cell BK115.out 0).trans rfl, (blk_cell BK115.out 1).trans rfl, (blk_cell BK119.out 0).trans rfl, (blk_cell BK119.out 1).trans rfl⟩ (fun hHeld => ?_)
      clear hK K
      refine norm_ (a' := ?_) ?_ ?_
      rotate_left
      ·show Act.put _ (some 36) _ = _
       simp only [Act.put, List.setIfInBounds_toArray, List.set_cons_zero, List.set_cons_succ, i64_w, i32_w]
       rfl
      refine one_ (i := 3) (N := some 37) #[true, true, true, true, false, false, false, false, false, false, false, false, false, false, false, false, false, false, false, false, false, false, false, false, false, false, false] rfl rfl (one_of HT_.out (by kernel_rfl)) (by decide) (fun K hK => ?_)
      refine goes_ Tryz.func39 (by kernel_rfl) rfl #[.agg #[.int .i64 t106, .int .i64 t107], .int .i64 t108, .agg #[.int .i64 t122, .int .i64 t123]] (by rfl) rfl rfl az ?_
      with_reducible refine (manorboylaw02_is.calls t106 t107 t108 t122 t123 true _ A27.out).mono ?_
      rintro e w36 ⟨rfl, hb⟩
      refine ⟨_, rfl, ?_⟩
      replace BK109 := kb BK109 hb
      replace BK115 := kb BK115 hb
      replace BK119 := kb BK119 hb
      replace HB := bs hb
      (try clear hb)
      refine hK.out _ _ ⟨(blk_cell BK109.out 0).trans rfl, (blk_cell BK109.out 1).trans rfl, (blk_cell BK115.out 0).trans rfl, (blk_cell BK115.out 1).trans rfl, (blk_cell BK119.out 0).trans rfl, (blk_cell BK119.out 1).trans rfl⟩ (fun hHeld => ?_)
      clear hK K
      refine norm_ (a' := ?_) ?_ ?_
      rotate_left
      ·show Act.put _ (some 37) _ = _
       simp only [Act.put, List.setIfInBounds_toArray, List.set_cons_zero, List.set_cons_succ, i64_w, i32_w]
       rfl
      refine pur 4 (some 38) #[tt,tt,tt,tt,tt,ff,ff,ff,ff,ff,ff,ff,ff,ff,ff,ff,ff,ff,ff,ff,ff,ff,ff,ff,ff,ff,ff] ?_
      refine pur 5 (some 39) #[tt,tt,tt,tt,tt,tt,ff,ff,ff,ff,ff,ff,ff,ff,ff,ff,ff,ff,ff,ff,ff,ff,ff,ff,ff,ff,ff] ?_
      refine pur 7 (some 41) #[tt,tt,tt,tt,tt,tt,ff,tt,ff,ff,ff,ff,ff,ff,ff,ff,ff,ff,ff,ff,ff,ff,ff,ff,ff,ff,ff] ?_
      refine pur 8 (some 42) #[tt,tt,tt,tt,tt,tt,ff,tt,tt,ff,ff,ff,ff,ff,ff,ff,ff,ff,ff,ff,ff,ff,ff,ff,ff,ff,ff] ?_
      refine take_ (i := 6) (N := some 40) (v := ?_) (a' := ?_) #[true, true, true, true, true, true, true, true, true, false, false, false, false, false, false, false, false, false, false, false, false, false, false, false, false, false, false] rfl rfl (take_ofW HT_.out HW_.out (by kernel_rfl)) (fun _ _ _ h => h) (Or.inl ⟨by rfl, ?_⟩) hHeld ?_ ?_
      rotate_left
      ·rintro w' ⟨s0, s1, s2, s3, s4, s5⟩
       go_simp
       with_reducible rfl
      rotate_left
      ·simp only [Act.put, List.setIfInBounds_toArray, List.set_cons_zero, List.set_cons_succ, i64_w, i32_w]
       rfl
      refine one_ (i := 9) (N := some 43) #[true, true, true, true, true, true, true, true, true, true, false, false, false, false, false, false, false, false, false, false, false, false, false, false, false, false, false] rfl rfl (one_of HT_.out (by kernel_rfl)) (by decide) (fun K hK => ?_)
      refine goes_ Tryz.func39 (by kernel_rfl) rfl #[.agg #[.int .i64 t112, .int .i64 t113], .int .i64 t114, .agg #[.int .i64 11184811, .int .i64 (-25)]] (by rfl) rfl rfl az ?_
      with_reducible refine (manorboylaw02_is.calls t112 t113 t114 11184811 (-25) true _ A29.out).mono ?_
      rintro e w37 ⟨rfl, hb⟩
      refine ⟨_, rfl, ?_⟩
      replace BK109 := kb BK109 hb
      replace BK115 := kb BK115 hb
      replace BK119 := kb BK119 hb
      replace HB := bs hb
      (try clear hb)
      refine hK.out _ _ ⟨(blk_cell BK109.out 0).trans rfl, (blk_cell BK109.out 1).trans rfl, (blk_cell BK115.out 0).trans rfl, (blk_cell BK115.out 1).trans rfl, (blk_cell BK119.out 0).trans rfl, (blk_cell BK119.out 1).trans rfl⟩ (fun hHeld => ?_)
      clear hK K
      refine norm_ (a' := ?_) ?_ ?_
      rotate_left
      ·show Act.put _ (some 43) _ = _
       simp only [Act.put, List.setIfInBounds_toArray, List.set_cons_zero, List.set_cons_succ, i64_w, i32_w]
       rfl
      refine pur 10 (some 44) #[tt,tt,tt,tt,tt,tt,tt,tt,tt,tt,tt,ff,ff,ff,ff,ff,ff,ff,ff,ff,ff,ff,ff,ff,ff,ff,ff] ?_
      refine pur 11 (some 45) #[tt,tt,tt,tt,tt,tt,tt,tt,tt,tt,tt,tt,ff,ff,ff,ff,ff,ff,ff,ff,ff,ff,ff,ff,ff,ff,ff] ?_
      refine pur 12 (some 46) #[tt,tt,tt,tt,tt,tt,tt,tt,tt,tt,tt,tt,tt,ff,ff,ff,ff,ff,ff,ff,ff,ff,ff,ff,ff,ff,ff] ?_
      refine pur 14 (some 48) #[tt,tt,tt,tt,tt,tt,tt,tt,tt,tt,tt,tt,tt,ff,tt,ff,ff,ff,ff,ff,ff,ff,ff,ff,ff,ff,ff] ?_
      refine pur 15 (some 49) #[tt,tt,tt,tt,tt,tt,tt,tt,tt,tt,tt,tt,tt,ff,tt,tt,ff,ff,ff,ff,ff,ff,ff,ff,ff,ff,ff] ?_
      refine take_ (i := 13) (N := some 47) (v := ?_) (a' := ?_) #[true, true, true, true, true, true, true, true, true, true, true, true, true, true, true, true, false, false, false, false, false, false, false, false, false, false, false] rfl rfl (take_ofW HT_.out HW_.out (by kernel_rfl)) (fun _ _ _ h => h) (Or.inl ⟨by rfl, ?_⟩) hHeld ?_ ?_
      rotate_left
      ·rintro w' ⟨s0, s1, s2, s3, s4, s5⟩
       go_simp
       with_reducible rfl
      rotate_left
      ·simp only [Act.put, List.setIfInBounds_toArray, List.set_cons_zero, List.set_cons_succ, i64_w, i32_w]
       rfl
      refine one_ (i := 16) (N := some 50) #[true, true, true, true, true, true, true, true, true, true, true, true, true, true, true, true, true, false, false, false, false, false, false, false, false, false, false] rfl rfl (one_of HT_.out (by kernel_rfl)) (by decide) (fun K hK => ?_)
      refine goes_ Tryz.func39 (by kernel_rfl) rfl #[.agg #[.int .i64 t116, .int .i64 t117], .int .i64 t118, .agg #[.int .i64 13421773, .int .i64 (-27)]] (by rfl) rfl rfl az ?_
      with_reducible refine (manorboylaw02_is.calls t116 t117 t118 13421773 (-27) true _ A31.out).mono ?_
      rintro e w38 ⟨rfl, hb⟩
      refine ⟨_, rfl, ?_⟩
      replace BK109 := kb BK109 hb
      replace BK115 := kb BK115 hb
      replace BK119 := kb BK119 hb
      replace HB := bs hb
      (try clear hb)
      refine hK.out _ _ ⟨(blk_cell BK109.out 0).trans rfl, (blk_cell BK109.out 1).trans rfl, (blk_cell BK115.out 0).trans rfl, (blk_cell BK115.out 1).trans rfl, (blk_cell BK119.out 0).trans rfl, (blk_cell BK119.out 1).trans rfl⟩ (fun hHeld => ?_)
      clear hK K
      refine norm_ (a' := ?_) ?_ ?_
      rotate_left
      ·show Act.put _ (some 50) _ = _
       simp only [Act.put, List.setIfInBounds_toArray, List.set_cons_zero, List.set_cons_succ, i64_w, i32_w]
       rfl
      refine pur 17 (some 51) #[tt,tt,tt,tt,tt,tt,tt,tt,tt,tt,tt,tt,tt,tt,tt,tt,tt,tt,ff,ff,ff,ff,ff,ff,ff,ff,ff] ?_
      refine pur 18 (some 52) #[tt,tt,tt,tt,tt,tt,tt,tt,tt,tt,tt,tt,tt,tt,tt,tt,tt,tt,tt,ff,ff,ff,ff,ff,ff,ff,ff] ?_
      refine pur 19 (some 53) #[tt,tt,tt,tt,tt,tt,tt,tt,tt,tt,tt,tt,tt,tt,tt,tt,tt,tt,tt,tt,ff,ff,ff,ff,ff,ff,ff] ?_
      refine pur 20 (some 54) #[tt,tt,tt,tt,tt,tt,tt,tt,tt,tt,tt,tt,tt,tt,tt,tt,tt,tt,tt,tt,tt,ff,ff,ff,ff,ff,ff] ?_
      refine pur 21 (some 55) #[tt,tt,tt,tt,tt,tt,tt,tt,tt,tt,tt,tt,tt,tt,tt,tt,tt,tt,tt,tt,tt,tt,ff,ff,ff,ff,ff] ?_
      refine pur 22 (some 56) #[tt,tt,tt,tt,tt,tt,tt,tt,tt,tt,tt,tt,tt,tt,tt,tt,tt,tt,tt,tt,tt,tt,tt,ff,ff,ff,ff] ?_
      refine pur 23 (some 57) #[tt,tt,tt,tt,tt,tt,tt,tt,tt,tt,tt,tt,tt,tt,tt,tt,tt,tt,tt,tt,tt,tt,tt,tt,ff,ff,ff] ?_
      refine pur 24 (some 58) #[tt,tt,tt,tt,tt,tt,tt,tt,tt,tt,tt,tt,tt,tt,tt,tt,tt,tt,tt,tt,tt,tt,tt,tt,tt,ff,ff] ?_
      refine pur 25 (some 59) #[tt,tt,tt,tt,tt,tt,tt,tt,tt,tt,tt,tt,tt,tt,tt,tt,tt,tt,tt,tt,tt,tt,tt,tt,tt,tt,ff] ?_
      refine pur 26 (some 60) #[tt,tt,tt,tt,tt,tt,tt,tt,tt,tt,tt,tt,tt,tt,tt,tt,tt,tt,tt,tt,tt,tt,tt,tt,tt,tt,tt] ?_
      refine done_ (done_of HT_.out (by kernel_rfl)) ?_
      try go_wp2
      go_meet
      case rel => exact ⟨_, ((t120.toList != ([48, 46, 51, 51, 51, 51, 51, 51, 51, 52] : List UInt8))), (by first | rfl | (simp; done) | (simp [*]; done)), H', ⟨by first | omega | exact Nat.le_refl _⟩, ⟨kz BK109⟩, ⟨kz BK115⟩, ⟨kz BK119⟩, ⟨bz⟩⟩
     ·rw [if_neg c33] at H
      first | exact absurd (Option.some.inj H) (by rw [hr]; decide) | exact absurd H (by rw [hr]; exact manorboylaw02_sanity.no _)
    ·replace c32 := Bool.eq_false_iff.mpr c32
     subst c32
     rw [if_neg (show ¬ (false = true) by decide)] at H
     first | exact absurd (Option.some.inj H) (by rw [hr]; decide) | exact absurd H (by rw [hr]; exact manorboylaw02_sanity.no _)
   ·replace c30 := Bool.eq_false_iff.mpr c30
    subst c30
    rw [if_neg (show ¬ (false = true) by decide)] at H
    first | exact absurd (Option.some.inj H) (by rw [hr]; decide) | exact absurd H (by rw [hr]; exact manorboylaw02_sanity.no _)
  ·replace c28 := Bool.eq_false_iff.mpr c28
   subst c28
   rw [if_neg (show ¬ (false = true) by decide)] at H
   first | exact absurd (Option.some.inj H) (by rw [hr]; decide) | exact absurd H (by rw [hr]; exact manorboylaw02_sanity.no _)
 case rest => as_aux_lemma =>
  clear HC8
  try clear c28
  try clear c30
  obtain ⟨kq, x60_7, rfl, HA, HJ7, BK109, BK115, BK119, HB⟩ := hcut
  cases kq with
  | zero => exact absurd HA.out (by simp [manorboylaw02_sanity.j0])
  | succ kj7 =>
   have H := HA.out
   clear HA
   simp only [manorboylaw02_sanity.j0] at H
   by_cases c56 : x60_7 = true
   ·subst c56
    rw [if_pos rfl] at H
    first | exact absurd (Option.some.inj H) (by rw [hr]; decide) | exact absurd H (by rw [hr]; exact manorboylaw02_sanity.no _)
   ·replace c56 := Bool.eq_false_iff.mpr c56
    subst c56
    rw [if_neg (show ¬ (false = true) by decide)] at H
    replace H := Option.bind_eq_some_iff.mp H
    obtain ⟨⟨t127, t128⟩, A570, H⟩ := H
    try dsimp only at H
    have A57 := Aside0.mk A570
    clear A570
    replace H := Option.bind_eq_some_iff.mp H
    obtain ⟨⟨t129, t130⟩, A580, H⟩ := H
    try dsimp only at H
    have A58 := Aside0.mk A580
    clear A580
    replace H := Option.bind_eq_some_iff.mp H
    obtain ⟨⟨t131, t132, t133⟩, A590, H⟩ := H
    try dsimp only at H
    have A59 := Aside0.mk A590
    clear A590
    replace H := Option.bind_eq_some_iff.mp H
    obtain ⟨⟨t134, t135, t136⟩, A600, H⟩ := H
    try dsimp only at H
    have A60 := Aside0.mk A600
    clear A600
    replace H := Option.bind_eq_some_iff.mp H
    obtain ⟨⟨t137, t138⟩, A610, H⟩ := H
    try dsimp only at H
    have A61 := Aside0.mk A610
    clear A610
    by_cases c62 : t128 = 0
    ·rw [if_pos c62] at H
     have c62b0 : (t128 == 0) = true := beq_iff_eq.mpr c62
     have c62b1 : (t128 != 0) = false := bne_eq_false_iff_eq.mpr c62
     clear c62
     by_cases c63 : t130 = 0
     ·rw [if_pos c63] at H
      have c63b0 : (t130 == 0) = true := beq_iff_eq.mpr c63
      have c63b1 : (t130 != 0) = false := bne_eq_false_iff_eq.mpr c63
      clear c63
      by_cases c64 : t127 = (-2)
      ·rw [if_pos c64] at H
       have c64b0 : (t127 == (-2)) = true := beq_iff_eq.mpr c64
       have c64b1 : (t127 != (-2)) = false := bne_eq_false_iff_eq.mpr c64
       clear c64
       by_cases c65 : t129 = 3
       ·rw [if_pos c65] at H
        have c65b0 : (t129 == 3) = true := beq_iff_eq.mpr c65
        have c65b1 : (t129 != 3) = false := bne_eq_false_iff_eq.mpr c65
        clear c65
        by_cases c66 : t133 = 3
        ·rw [if_pos c66] at H
         have c66b0 : (t133 == 3) = true := beq_iff_eq.mpr c66
         have c66b1 : (t133 != 3) = false := bne_eq_false_iff_eq.mpr c66
         clear c66
         by_cases c67 : t136 = 5
         ·rw [if_pos c67] at H
          have c67b0 : (t136 == 5) = true := beq_iff_eq.mpr c67
          have c67b1 : (t136 != 5) = false := bne_eq_false_iff_eq.mpr c67
          clear c67
          by_cases c68 : t138 = 0
          ·rw [if_pos c68] at H
           have c68b0 : (t138 == 0) = true := beq_iff_eq.mpr c68
           have c68b1 : (t138 != 0) = false := bne_eq_false_iff_eq.mpr c68
           clear c68
           by_cases c69 : t137.toList = ([55, 46, 48, 101, 45, 52, 54] : List UInt8)
           ·rw [if_pos c69] at H
            have c69b0 : (t137.toList == ([55, 46, 48, 101, 45, 52, 54] : List UInt8)) = true := beq_iff_eq.mpr c69
            have c69b1 : (t137.toList != ([55, 46, 48, 101, 45, 52, 54] : List UInt8)) = false := bne_eq_false_iff_eq.mpr c69
            clear c69
            replace H := Option.bind_eq_some_iff.mp H
            obtain ⟨⟨t139, t140⟩, A700, H⟩ := H
            try dsimp only at H
            have A70 := Aside0.mk A700
            clear A700
            replace H := Option.bind_eq_some_iff.mp H
            obtain ⟨⟨t141, t142⟩, A710, H⟩ := H
            try dsimp only at H
            have A71 := Aside0.mk A710
            clear A710
            obtain rfl := Option.some.inj H
            go_wp2_with (first | ((with_reducible refine gate_callee (f := 21) rfl ?_); refine goesL_ (some 63) rfl rfl Tryz.func21 (by kernel_rfl) rfl #[.agg #[.int .i64 (-12582912), .int .i64 (-23)]] rfl az ?_; (with_reducible refine (real_Entier.calls (-12582912) (-23) t127 t128 _ A57.out).mono ?_); rintro e w72 ⟨rfl, hb⟩; refine ⟨_, rfl, ?_⟩; replace BK109 := kb BK109 hb; replace BK115 := kb BK115 hb; replace BK119 := kb BK119 hb; replace HB := bs hb; (try clear hb)) | ((with_reducible refine gate_callee (f := 22) rfl ?_); refine goesL_ (some 68) rfl rfl Tryz.func22 (by kernel_rfl) rfl #[.agg #[.int .i64 10485760, .int .i64 (-22)]] rfl az ?_; (with_reducible refine (real_Round.calls 10485760 (-22) t129 t130 _ A58.out).mono ?_); rintro e w73 ⟨rfl, hb⟩; refine ⟨_, rfl, ?_⟩; replace BK109 := kb BK109 hb; replace BK115 := kb BK115 hb; replace BK119 := kb BK119 hb; replace HB := bs hb; (try clear hb)) | ((with_reducible refine gate_callee (f := 25) rfl ?_); refine goesL_ (some 72) rfl rfl Tryz.func25 (by kernel_rfl) rfl #[.string (⟨#[49, 101, 54, 48]⟩ : ByteArray)] rfl az ?_; (with_reducible refine (real_Parse.calls1e kj7 t131 t132 t133 _ A59.out).mono ?_); rintro e w74 ⟨rfl, hb⟩; refine ⟨_, rfl, ?_⟩; replace BK109 := kb BK109 hb; replace BK115 := kb BK115 hb; replace BK119 := kb BK119 hb; replace HB := bs hb; (try clear hb)) | ((with_reducible refine gate_callee (f := 17) rfl ?_); refine goesL_ (some 77) rfl rfl Tryz.func17 (by kernel_rfl) rfl #[.agg #[.int .i64 0, .int .i64 0], .int .i64 (-1)] rfl az ?_; (with_reducible refine (real_PowZ.calls 0 0 (-1) t134 t135 t136 _ A60.out).mono ?_); rintro e w75 ⟨rfl, hb⟩; refine ⟨_, rfl, ?_⟩; replace BK109 := kb BK109 hb; replace BK115 := kb BK115 hb; replace BK119 := kb BK119 hb; replace HB := bs hb; (try clear hb)) | ((with_reducible refine gate_callee (f := 27) rfl ?_); refine goesL_ (some 82) rfl rfl Tryz.func27 (by kernel_rfl) rfl #[.agg #[.int .i64 1, .int .i64 (-150)]] rfl az ?_; (with_reducible refine (real_Print.calls1 kj7 1 (-150) t137 t138 _ A61.out (Or.inr ⟨rfl, rfl⟩) (tabAt HT.out bz)).mono ?_); rintro e w76 ⟨rfl, hb⟩; refine ⟨_, rfl, ?_⟩; replace BK109 := kb BK109 hb; replace BK115 := kb BK115 hb; replace BK119 := kb BK119 hb; replace HB := bs hb; (try clear hb)) | (go_at_call 31; (with_reducible refine (real_FromIntN.calls kj7 16777217 t139 t140 _ A70.out).mono ?_); rintro e w77 ⟨rfl, hb⟩; replace BK109 := kb BK109 hb; replace BK115 := kb BK115 hb; replace BK119 := kb BK119 hb; replace HB := bs hb; (try clear hb)) | (go_at_call 49; (with_reducible refine (manorboylaw02_two.calls 24 t141 t142 _ A71.out).mono ?_); rintro e w78 ⟨rfl, hb⟩; replace BK109 := kb BK109 hb; replace BK115 := kb BK115 hb; replace BK119 := kb BK119 hb; replace HB := bs hb; (try clear hb)))
            go_ret
            exact ⟨by first | rfl | (simp [errW_none, errW_some] <;> rfl) | (simp [*, errW_none, errW_some] <;> rfl), bz⟩
           ·rw [if_neg c69] at H
            first | exact absurd (Option.some.inj H) (by rw [hr]; decide) | exact absurd H (by rw [hr]; exact manorboylaw02_sanity.no _)
          ·rw [if_neg c68] at H
           first | exact absurd (Option.some.inj H) (by rw [hr]; decide) | exact absurd H (by rw [hr]; exact manorboylaw02_sanity.no _)
         ·rw [if_neg c67] at H
          first | exact absurd (Option.some.inj H) (by rw [hr]; decide) | exact absurd H (by rw [hr]; exact manorboylaw02_sanity.no _)
        ·rw [if_neg c66] at H
         first | exact absurd (Option.some.inj H) (by rw [hr]; decide) | exact absurd H (by rw [hr]; exact manorboylaw02_sanity.no _)
       ·rw [if_neg c65] at H
        first | exact absurd (Option.some.inj H) (by rw [hr]; decide) | exact absurd H (by rw [hr]; exact manorboylaw02_sanity.no _)
      ·rw [if_neg c64] at H
       first | exact absurd (Option.some.inj H) (by rw [hr]; decide) | exact absurd H (by rw [hr]; exact manorboylaw02_sanity.no _)
     ·rw [if_neg c63] at H
      first | exact absurd (Option.some.inj H) (by rw [hr]; decide) | exact absurd H (by rw [hr]; exact manorboylaw02_sanity.no _)
    ·rw [if_neg c62] at H
     first | exact absurd (Option.some.inj H) (by rw [hr]; decide) | exact absurd H (by rw [hr]; exact manorboylaw02_sanity.no _)
end Go.Proofs.YteigbokklclmbaaGreatDoor.Z.Y
end
section
namespace Go.Proofs.YteigbokklclmbaaGreatDoor.Z.Y
open Go Go.RowKit Go.Proofs.YteigbokklclmbaaGreatDoor.Given Go.Proofs.YteigbokklclmbaaGreatDoorW.PrintWords Go.Proofs.YteigbokklclmbaaGreatDoorW.PrintLast Go.Proofs.YteigbokklclmbaaGreatDoorW.PrintMore
theorem sanity_ok : manorboylaw02_sanity.f 400 = some true := by kernel_rfl
end Go.Proofs.YteigbokklclmbaaGreatDoor.Z.Y
end
section
namespace Go.Proofs.YteigbokklclmbaaGreatDoor.Z.Y.V
open Go.RowKit Go.Proofs.YteigbokklclmbaaGreatDoor.Given Go.Proofs.YteigbokklclmbaaGreatDoorW.PrintWords Go.Proofs.YteigbokklclmbaaGreatDoorW.PrintLast Go.Proofs.YteigbokklclmbaaGreatDoorW.PrintMore
attribute [local go_sem] max2_int min2_int max_two min_two max_three min_three max_four min_four   -- for this text's walks alone



def errW : Option Int → Value
 | none => .nilIface
 | some c => .iface 0 (.int .i64 c)
theorem errW_none : errW none = .nilIface := rfl
theorem errW_some (c : Int) : errW (some c) = .iface 0 (.int .i64 c) := rfl

-- the values' own types


theorem eqA23 (d : Nat) (w : World) (x0 y0 : Int) (x1 y1 : Int) :
  (Op.equalIn (d + 2) 23 (.agg #[.int .i64 x0, .int .i64 x1]) (.agg #[.int .i64 y0, .int .i64 y1])).run Tryz.prog w = .ok (x0 == y0 && (x1 == y1)) w := by
 refine eqA_of Tryz.underlying23 (by kernel_rfl) ?_
 refine eqf_cons (by rfl) (by go_simp; rfl) (by go_simp; rfl) (by go_simp) ?_
 exact eqf_last (by rfl) (by go_simp; rfl) (by go_simp; rfl) (by go_simp)
end Go.Proofs.YteigbokklclmbaaGreatDoor.Z.Y.V
end
section
namespace Go.Proofs.YteigbokklclmbaaGreatDoor.M
open Go Go.RowKit Go.Proofs.YteigbokklclmbaaGreatDoor.Given Go.Proofs.YteigbokklclmbaaGreatDoorW.PrintWords Go.Proofs.YteigbokklclmbaaGreatDoorW.PrintLast Go.Proofs.YteigbokklclmbaaGreatDoorW.PrintMore Go.Proofs.YteigbokklclmbaaGreatDoor.Z Go.Proofs.YteigbokklclmbaaGreatDoor.Z.Y Go.Proofs.YteigbokklclmbaaGreatDoor.Z.Y.V
abbrev B15 : Nat := 32768
abbrev E (n : Nat) : List Int := dg B15 n
theorem C2 : 2 ≤ B15 := by decide
theorem pow15 (n : Nat) : B15 ^ n = 2 ^ (15 * n) := by rw [Nat.pow_mul]
/-- A number of modest size: at most 8000 digits. -/
def Se (n : Nat) : Prop := (E n).length ≤ 8000
theorem Se.of {n : Nat} (h : bl n ≤ 15 * 8000) : Se n := by
  have key : ∀ L : Nat, bl n ≤ 15 * L → (E n).length ≤ L := fun L hL => by
    refine dg_len_le C2 L n ?_
    rw [pow15]
    exact bl_le_iff.1 hL
  exact key 8000 h
end Go.Proofs.YteigbokklclmbaaGreatDoor.M
end
section
namespace Go.Proofs.YteigbokklclmbaaGreatDoor.M
/-- The exponent (above the least one) and the mantissa of the real with an index. -/
def sh (i : Nat) : Nat := i / 8388608 - 1
def man (i : Nat) : Nat := i - sh i * 8388608
/-- The real with an index, in units of 2^-150. -/
def G (i : Nat) : Nat := man i * 2 ^ sh i
/-- The middle of two neighbours, in units of 2^-151. -/
def H (i : Nat) : Nat := G i + G (i + 1)
theorem G_succ (i : Nat) : G (i + 1) = G i + 2 ^ sh i := by
  have hs : (sh (i + 1) = sh i ∧ man (i + 1) = man i + 1) ∨ (sh (i + 1) = sh i + 1 ∧ man i = 16777215 ∧ man (i + 1) = 8388608) := by
    unfold man sh; omega
  unfold G
  rcases hs with ⟨h1, h2⟩ | ⟨h1, h2, h3⟩
  · rw [h1, h2, Nat.add_mul, Nat.one_mul]
  · rw [h1, h2, h3, Nat.pow_succ]; omega
theorem G_zero : G 0 = 0 := by unfold G man sh; rfl
theorem G_lt_succ (i : Nat) : G i < G (i + 1) := by
  rw [G_succ]; have := Nat.two_pow_pos (sh i); omega
theorem G_lt {i j : Nat} (h : i < j) : G i < G j := by
  induction h with
  | refl => exact G_lt_succ i
  | step _ ih => exact Nat.lt_trans ih (G_lt_succ _)
theorem G_le {i j : Nat} (h : i ≤ j) : G i ≤ G j := by
  rcases Nat.lt_or_ge i j with h' | h'
  · exact Nat.le_of_lt (G_lt h')
  · rw [Nat.le_antisymm h h']; exact Nat.le_refl _
theorem H_lt {i j : Nat} (h : i < j) : H i < H j := by
  unfold H; have h1 := G_lt h; have h2 := G_lt (show i + 1 < j + 1 by omega); omega
theorem H_le {i j : Nat} (h : i ≤ j) : H i ≤ H j := by
  rcases Nat.lt_or_ge i j with h' | h'
  · exact Nat.le_of_lt (H_lt h')
  · rw [Nat.le_antisymm h h']; exact Nat.le_refl _
theorem H_inj {i j : Nat} (h : H i = H j) : i = j := by
  rcases Nat.lt_trichotomy i j with h' | h' | h'
  · have := H_lt h'; omega
  · exact h'
  · have := H_lt h'; omega
theorem H_eq (i : Nat) : H i = (2 * man i + 1) * 2 ^ sh i := by
  unfold H; rw [G_succ]; unfold G
  rw [Nat.add_mul, Nat.one_mul, Nat.mul_assoc]; omega
theorem H_pos (i : Nat) : 0 < H i := by
  unfold H; have := G_lt_succ i; omega
/-- A mantissa and an exponent, also where the mantissa is one too great. -/
theorem G_at (m u : Nat) (hm : m ≤ 16777216) (hu : u = 0 ∨ 8388608 ≤ m) : G (m + u * 8388608) = m * 2 ^ u := by
  unfold G
  rcases Nat.lt_or_ge m 16777216 with h | h
  · have h1 : sh (m + u * 8388608) = u := by unfold sh; omega
    have h2 : man (m + u * 8388608) = m := by unfold man; rw [h1]; omega
    rw [h1, h2]
  · have e : m = 16777216 := by omega
    subst e
    have h1 : sh (16777216 + u * 8388608) = u + 1 := by unfold sh; omega
    have h2 : man (16777216 + u * 8388608) = 8388608 := by unfold man; rw [h1]; omega
    rw [h1, h2, Nat.pow_succ]; omega
/-- I is the index of the rounded value of N / D, which is in units of 2^-150: to the nearest, on the middle to the even one. -/
def Rd (N D I : Nat) : Prop := (I = 0 ∨ (H (I - 1) * D ≤ 2 * N ∧ (H (I - 1) * D = 2 * N → I % 2 = 0))) ∧ 2 * N ≤ H I * D ∧ (2 * N = H I * D → I % 2 = 0)
theorem Rd.mono {N D I N' D' J : Nat} (hD : 0 < D) (hD' : 0 < D') (h : Rd N D I) (h' : Rd N' D' J) (hle : N * D' ≤ N' * D) : I ≤ J := by
  rcases Nat.lt_or_ge J I with hlt | hge
  · exfalso
    obtain ⟨h1, _⟩ := h
    obtain ⟨_, h2, h3⟩ := h'
    rcases h1 with h1 | ⟨h1, h4⟩
    · omega
    · have hH : H J ≤ H (I - 1) := H_le (by omega)
      -- H (I-1) * D * D' ≤ 2 N D' ≤ 2 N' D ≤ H J * D' * D
      have a1 : H (I - 1) * D * D' ≤ 2 * N * D' := Nat.mul_le_mul_right _ h1
      have a2 : 2 * N' * D ≤ H J * D' * D := Nat.mul_le_mul_right _ h2
      have a3 : H J * D' * D ≤ H (I - 1) * D' * D := Nat.mul_le_mul_right _ (Nat.mul_le_mul_right _ hH)
      have e1 : H (I - 1) * D' * D = H (I - 1) * D * D' := by rw [Nat.mul_assoc, Nat.mul_comm D' D, ← Nat.mul_assoc]
      have e2 : 2 * N * D' = 2 * (N * D') := Nat.mul_assoc _ _ _
      have e3 : 2 * N' * D = 2 * (N' * D) := Nat.mul_assoc _ _ _
      have b1 : H (I - 1) * D * D' = 2 * N * D' := by omega
      have b2 : 2 * N' * D = H J * D' * D := by omega
      have b3 : H J * D' * D = H (I - 1) * D' * D := by omega
      have c1 := Nat.eq_of_mul_eq_mul_right hD' b1
      have c2 := Nat.eq_of_mul_eq_mul_right hD b2
      have c3 := Nat.eq_of_mul_eq_mul_right hD' (Nat.eq_of_mul_eq_mul_right hD b3)
      have := h4 c1
      have := h3 c2
      have := H_inj c3
      omega
  · exact hge
theorem Rd.only {N D I N' D' J : Nat} (hD : 0 < D) (hD' : 0 < D') (h : Rd N D I) (h' : Rd N' D' J) (he : N * D' = N' * D) : I = J :=
  Nat.le_antisymm (h.mono hD hD' h' (Nat.le_of_eq he)) (h'.mono hD' hD h (Nat.le_of_eq he.symm))
theorem Rd.exact (I D : Nat) (hD : 0 < D) : Rd (G I * D) D I := by
  have h1 : 2 * (G I * D) = 2 * G I * D := (Nat.mul_assoc _ _ _).symm
  refine ⟨?_, ?_, ?_⟩
  · rcases Nat.eq_zero_or_pos I with h | h
    · exact .inl h
    · right
      have : H (I - 1) < 2 * G I := by
        unfold H; rw [show I - 1 + 1 = I by omega]; have := G_lt (show I - 1 < I by omega); omega
      have := Nat.mul_lt_mul_of_pos_right this hD
      rw [h1]
      exact ⟨Nat.le_of_lt this, fun e => by omega⟩
  · rw [h1]; refine Nat.mul_le_mul_right _ ?_
    unfold H; have := G_lt_succ I; omega
  · intro e
    rw [h1] at e
    have := Nat.eq_of_mul_eq_mul_right hD e
    unfold H at this; have := G_lt_succ I; omega
/-- The same fraction, the same index. -/
theorem Rd.congr {N D I N' D' : Nat} (hD : 0 < D) (hD' : 0 < D') (h : Rd N D I) (he : N * D' = N' * D) : Rd N' D' I := by
  have key : ∀ X : Nat, (X * D ≤ 2 * N ↔ X * D' ≤ 2 * N') ∧ (X * D = 2 * N ↔ X * D' = 2 * N') ∧ (2 * N ≤ X * D ↔ 2 * N' ≤ X * D') := by
    intro X
    have e1 : X * D * D' = X * D' * D := by rw [Nat.mul_assoc, Nat.mul_comm D D', ← Nat.mul_assoc]
    have e2 : 2 * N * D' = 2 * N' * D := by rw [Nat.mul_assoc, he, ← Nat.mul_assoc]
    refine ⟨?_, ?_, ?_⟩
    · rw [← Nat.mul_le_mul_right_iff hD', e1, e2, Nat.mul_le_mul_right_iff hD]
    · constructor
      · intro h; exact Nat.eq_of_mul_eq_mul_right hD (by rw [← e1, ← e2, h])
      · intro h; exact Nat.eq_of_mul_eq_mul_right hD' (by rw [e1, e2, h])
    · rw [← Nat.mul_le_mul_right_iff hD', e1, e2, Nat.mul_le_mul_right_iff hD]
  obtain ⟨h1, h2, h3⟩ := h
  refine ⟨?_, (key _).2.2.1 h2, fun e => h3 ((key _).2.1.2 e.symm).symm⟩
  rcases h1 with h1 | ⟨h1, h4⟩
  · exact .inl h1
  · exact .inr ⟨(key _).1.1 h1, fun e => h4 ((key _).2.1.2 e)⟩
/-- What the rounding by hand comes to: of n / d in units of 2^(u - 150), with a quotient of at most 24 bits, is rounded so. -/
theorem Rd.of_quo (n d u : Nat) (hd : 0 < d) (hq : n / d < 16777216) (hu : u = 0 ∨ 8388608 ≤ n / d) :
    Rd (n * 2 ^ u) d ((n / d + if d < 2 * (n % d) ∨ (d = 2 * (n % d) ∧ n / d % 2 = 1) then 1 else 0) + u * 8388608) := by
  have hn := Nat.div_add_mod n d
  have hr := Nat.mod_lt n hd
  generalize n / d = m at *
  generalize n % d = r at *
  have hP := Nat.two_pow_pos u
  have hG := G_at m u (by omega) hu
  have hG1 : G (m + u * 8388608 + 1) = (m + 1) * 2 ^ u := by
    have := G_at (m + 1) u (by omega) (by omega)
    rw [← this]; congr 1; omega
  have hH : H (m + u * 8388608) = (2 * m + 1) * 2 ^ u := by
    unfold H; rw [hG, hG1, ← Nat.add_mul]; congr 1; omega
  have hpar : (m + u * 8388608) % 2 = m % 2 := by omega
  have e1 : 2 * (n * 2 ^ u) = 2 * n * 2 ^ u := (Nat.mul_assoc _ _ _).symm
  have e2 : (2 * m + 1) * 2 ^ u * d = (2 * m + 1) * d * 2 ^ u := by rw [Nat.mul_assoc, Nat.mul_comm (2 ^ u) d, ← Nat.mul_assoc]
  have e3 : (2 * m + 1) * d = 2 * (d * m) + d := by rw [Nat.add_mul, Nat.one_mul, Nat.mul_assoc, Nat.mul_comm m d]
  have hlow : ∀ J, J = m + u * 8388608 → J = 0 ∨ (H (J - 1) * d ≤ 2 * (n * 2 ^ u) ∧ (H (J - 1) * d = 2 * (n * 2 ^ u) → J % 2 = 0)) := by
    intro J hJ
    rcases Nat.eq_zero_or_pos J with h | h
    · exact .inl h
    · right
      have h1 : H (J - 1) < 2 * (m * 2 ^ u) := by
        unfold H; rw [show J - 1 + 1 = J by omega]
        have h2 := G_lt (show J - 1 < J by omega)
        have h3 : G J = m * 2 ^ u := by rw [hJ, hG]
        omega
      have h2 := Nat.mul_lt_mul_of_pos_right h1 hd
      have h3 : 2 * (m * 2 ^ u) * d ≤ 2 * (n * 2 ^ u) := by
        rw [Nat.mul_assoc]
        refine Nat.mul_le_mul_left _ ?_
        rw [Nat.mul_assoc, Nat.mul_comm (2 ^ u) d, ← Nat.mul_assoc]
        refine Nat.mul_le_mul_right _ ?_
        rw [Nat.mul_comm m d]; omega
      exact ⟨by omega, fun e => by omega⟩
  split
  · rename_i hc
    have hI : m + 1 + u * 8388608 = m + u * 8388608 + 1 := by omega
    rw [hI]
    refine ⟨.inr ?_, ?_, ?_⟩
    · rw [Nat.add_sub_cancel, hH, e1, e2]
      constructor
      · refine Nat.mul_le_mul_right _ ?_
        omega
      · intro e
        have := Nat.eq_of_mul_eq_mul_right hP e
        omega
    · have : 2 * ((m + 1) * 2 ^ u) ≤ H (m + u * 8388608 + 1) := by
        unfold H; rw [hG1]; have := G_lt_succ (m + u * 8388608 + 1); rw [hG1] at this; omega
      have h2 := Nat.mul_le_mul_right d this
      have h3 : 2 * (n * 2 ^ u) ≤ 2 * ((m + 1) * 2 ^ u) * d := by
        rw [Nat.mul_assoc]
        refine Nat.mul_le_mul_left _ ?_
        rw [Nat.mul_assoc, Nat.mul_comm (2 ^ u) d, ← Nat.mul_assoc]
        refine Nat.mul_le_mul_right _ ?_
        rw [Nat.add_mul, Nat.one_mul, Nat.mul_comm m d]; omega
      omega
    · intro e
      exfalso
      have : 2 * ((m + 1) * 2 ^ u) < H (m + u * 8388608 + 1) := by
        unfold H; rw [hG1]; have := G_lt_succ (m + u * 8388608 + 1); rw [hG1] at this; omega
      have h2 := Nat.mul_lt_mul_of_pos_right this hd
      have h3 : 2 * (n * 2 ^ u) ≤ 2 * ((m + 1) * 2 ^ u) * d := by
        rw [Nat.mul_assoc]
        refine Nat.mul_le_mul_left _ ?_
        rw [Nat.mul_assoc, Nat.mul_comm (2 ^ u) d, ← Nat.mul_assoc]
        refine Nat.mul_le_mul_right _ ?_
        rw [Nat.add_mul, Nat.one_mul, Nat.mul_comm m d]; omega
      omega
  · rename_i hc
    rw [Nat.add_zero]
    refine ⟨hlow _ rfl, ?_, ?_⟩
    · rw [hH, e1, e2]
      refine Nat.mul_le_mul_right _ ?_
      omega
    · rw [hH, e1, e2]
      intro e
      have := Nat.eq_of_mul_eq_mul_right hP e
      omega
/-- A fraction num * 2^e / den, as a fraction in units of 2^x. -/
def nx (e x : Int) (num : Nat) : Nat := if x ≤ e then num * 2 ^ (e - x).toNat else num
def dx (e x : Int) (den : Nat) : Nat := if x ≤ e then den else den * 2 ^ (x - e).toNat
theorem dx_pos {e x : Int} {den : Nat} (h : 0 < den) : 0 < dx e x den := by
  unfold dx; split
  · exact h
  · exact Nat.mul_pos h (Nat.two_pow_pos _)
theorem frac_step (e x : Int) (num den : Nat) : nx e x num * dx e (x + 1) den = 2 * (nx e (x + 1) num * dx e x den) := by
  unfold nx dx
  rcases Int.lt_trichotomy x e with h | h | h
  · rw [if_pos (by omega), if_pos (by omega), if_pos (by omega), if_pos (by omega), show (e - x).toNat = (e - (x + 1)).toNat + 1 by omega, Nat.pow_succ]
    rw [← Nat.mul_assoc, Nat.mul_comm (num * 2 ^ _) 2, Nat.mul_assoc 2]
  · subst h
    rw [if_pos (by omega), if_neg (by omega), if_neg (by omega), if_pos (by omega), show (x - x).toNat = 0 by omega, show (x + 1 - x).toNat = 1 by omega, Nat.pow_zero, Nat.mul_one, Nat.pow_one]
    rw [← Nat.mul_assoc, Nat.mul_comm _ 2]
  · rw [if_neg (by omega), if_neg (by omega), if_neg (by omega), if_neg (by omega), show (x + 1 - e).toNat = (x - e).toNat + 1 by omega, Nat.pow_succ]
    rw [← Nat.mul_assoc, ← Nat.mul_assoc, Nat.mul_comm _ 2, Nat.mul_assoc]
theorem frac_at (e : Int) (num den : Nat) (hden : 0 < den) : ∀ u : Nat, nx e (-150 + u) num * 2 ^ u * dx e (-150) den = nx e (-150) num * dx e (-150 + u) den
  | 0 => by simp
  | u + 1 => by
    have ih := frac_at e num den hden u
    have hs := frac_step e (-150 + u) num den
    have hx : (-150 + (u : Int) + 1) = (-150 + ((u + 1 : Nat) : Int)) := by omega
    rw [hx] at hs
    have hp : 0 < dx e (-150 + u) den := dx_pos hden
    refine Nat.eq_of_mul_eq_mul_right hp ?_
    -- n' * 2^(u+1) * D * d = N * d' * d ; n * d' = 2 n' d ; n 2^u D = N d
    generalize nx e (-150 + u) num = n at *
    generalize nx e (-150 + ((u + 1 : Nat) : Int)) num = n' at *
    generalize dx e (-150 + u) den = d at *
    generalize dx e (-150 + ((u + 1 : Nat) : Int)) den = d' at *
    generalize nx e (-150) num = N at *
    generalize dx e (-150) den = D at *
    have h1 : n' * 2 ^ (u + 1) * D * d = 2 * (n' * d) * (2 ^ u * D) := by
      rw [Nat.pow_succ]; ac_rfl
    rw [h1, ← hs]
    have h2 : n * d' * (2 ^ u * D) = n * 2 ^ u * D * d' := by ac_rfl
    rw [h2, ih]; ac_rfl
end Go.Proofs.YteigbokklclmbaaGreatDoor.M
end
section
namespace Go.Proofs.YteigbokklclmbaaGreatDoor.M
open Go Go.RowKit Go.Proofs.YteigbokklclmbaaGreatDoor.Given Go.Proofs.YteigbokklclmbaaGreatDoorW.PrintWords Go.Proofs.YteigbokklclmbaaGreatDoorW.PrintLast Go.Proofs.YteigbokklclmbaaGreatDoorW.PrintMore Go.Proofs.YteigbokklclmbaaGreatDoor.Z
/-- The real with an index, and what rounding to it answers (1000 in the exponent's place: it panics). -/
def atI (I : Nat) : Int × Int := if I = 0 then (0, 0) else ((man I : Int), (sh I : Int) - 150)
def rres (I : Nat) : Int × Int := if 2533359615 < I then (0, 1000) else atI I
theorem rounded_j4 (x m : Int) : Ev (fun k => real_rounded.j4 k x m) (if x > 150 then (0, 1000) else if m = 0 then (0, 0) else (m, x)) := by
  refine Ev.step (f := fun _ => some (if x > 150 then (0, 1000) else if m = 0 then (0, 0) else (m, x))) (fun k => ?_) (Ev.now _)
  rw [real_rounded.j4]
  split
  · rfl
  · split <;> rfl
theorem rounded_j3 (u m : Nat) (hu : u ≤ 60000) (hm : m ≤ 16777216) (hc : u = 0 ∨ 8388608 ≤ m) : Ev (fun k => real_rounded.j3 k (-150 + (u : Int)) (m : Int)) (rres (m + u * 8388608)) := by
  have w : wrap64 (-150 + (u : Int) + 1) = -150 + (u : Int) + 1 := w64 _ (by omega) (by omega)
  by_cases h : (m : Int) = 16777216
  · refine Ev.step (f := fun k => real_rounded.j4 k (-150 + (u : Int) + 1) 8388608) (fun k => by rw [real_rounded.j3, if_pos h, w]) ?_
    have := rounded_j4 (-150 + (u : Int) + 1) 8388608
    have e : (if -150 + (u : Int) + 1 > 150 then ((0 : Int), (1000 : Int)) else if (8388608 : Int) = 0 then (0, 0) else (8388608, -150 + (u : Int) + 1)) = rres (m + u * 8388608) := by
      unfold rres atI
      have hs : sh (m + u * 8388608) = u + 1 := by unfold sh; omega
      have hmn : man (m + u * 8388608) = 8388608 := by unfold man; rw [hs]; omega
      rw [hs, hmn]
      by_cases hg : -150 + (u : Int) + 1 > 150
      · rw [if_pos hg, if_pos (by omega)]
      · rw [if_neg hg, if_neg (by omega), if_neg (by omega), if_neg (by omega)]
        congr 1; omega
    rw [← e]; exact this
  · refine Ev.step (f := fun k => real_rounded.j4 k (-150 + (u : Int)) (m : Int)) (fun k => by rw [real_rounded.j3, if_neg h]) ?_
    have := rounded_j4 (-150 + (u : Int)) (m : Int)
    have e : (if -150 + (u : Int) > 150 then ((0 : Int), (1000 : Int)) else if (m : Int) = 0 then (0, 0) else ((m : Int), -150 + (u : Int))) = rres (m + u * 8388608) := by
      unfold rres atI
      have hs : sh (m + u * 8388608) = u := by unfold sh; omega
      have hmn : man (m + u * 8388608) = m := by unfold man; rw [hs]; omega
      rw [hs, hmn]
      by_cases hg : -150 + (u : Int) > 150
      · rw [if_pos hg, if_pos (by omega)]
      · by_cases hz : (m : Int) = 0
        · rw [if_neg hg, if_pos hz, if_neg (by omega), if_pos (by omega)]
        · rw [if_neg hg, if_neg hz, if_neg (by omega), if_neg (by omega)]
          congr 1 <;> omega
    rw [← e]; exact this
theorem rounded_j2 (u m : Nat) (b : Bool) (hu : u ≤ 60000) (hm : m < 16777216) (hc : u = 0 ∨ 8388608 ≤ m) : Ev (fun k => real_rounded.j2 k (-150 + (u : Int)) (m : Int) b) (rres ((m + if b = true then 1 else 0) + u * 8388608)) := by
  by_cases h : b = true
  · have w : wrap64 ((m : Int) + 1) = ((m + 1 : Nat) : Int) := by rw [w64 _ (by omega) (by omega)]; omega
    rw [if_pos h]
    refine Ev.step (fun k => by rw [real_rounded.j2, if_pos h, w]) (rounded_j3 u (m + 1) hu (by omega) (by omega))
  · rw [if_neg h, Nat.add_zero]
    exact Ev.step (fun k => by rw [real_rounded.j2, if_neg h]) (rounded_j3 u m hu (by omega) hc)
/-- Where the quotient has at most 24 bits. -/
theorem rounded_stop (num den n d u : Nat) (e : Int) (hd : 0 < d) (hn : bl n ≤ 30000) (hdd : bl d ≤ 29990) (hu : u ≤ 60000) (hq : n / d < 16777216) (hc : u = 0 ∨ 8388608 ≤ n / d) :
    Ev (fun k => real_rounded.j1 k (D num) e (D den) (-150 + (u : Int)) (D n) (D d)) (rres ((n / d + if d < 2 * (n % d) ∨ (d = 2 * (n % d) ∧ n / d % 2 = 1) then 1 else 0) + u * 8388608)) := by
  have hr := Nat.mod_lt n hd
  have b1 := bl_mono (Nat.le_of_lt hr)
  have b2 := bl_shift (n % d) 1
  rw [Nat.pow_one] at b2
  have b3 : bl (n / d) ≤ 24 := bl_le_iff.2 hq
  have hdiv := div_ev hd hn (show bl d ≤ 30000 by omega)
  clear hn
  generalize n / d = q at *
  generalize n % d = r at *
  have sq : Sm q := Sm.bl (by omega)
  have sr : Sm (r) := Sm.bl (by omega)
  have sr2 : Sm (r * 2) := Sm.bl (by omega)
  have sd : Sm d := Sm.bl (by omega)
  have hsh : Ev (fun k => real_nat_shl.f k (D (r)) 1) (D (r * 2)) := by
    have := shl_ev sr 1 (by decide)
    rw [Nat.pow_one] at this; exact this
  have hbl : ¬ ((bl (q) : Int) > 24) := by
    omega
  have w : wrap64 ((q : Nat) : Int) = ((q : Nat) : Int) := w64 _ (by omega) (by omega)
  refine Ev.step (fun k => by rw [real_rounded.j1]) ?_
  refine Ev.bind hdiv (Ev.bind (bits_ev sq) ?_)
  dsimp only
  refine Ev.congr (f := fun k => (real_nat_small.f k (D (q))).bind fun t195 => (real_nat_shl.f k (D (r)) 1).bind fun t196 => (real_nat_cmp.f k t196 (D d)).bind fun t199 => if t199 > 0 then real_rounded.j2 k (-150 + (u : Int)) (wrap64 t195) true else if t199 = 0 then real_rounded.j2 k (-150 + (u : Int)) (wrap64 t195) ((Int.tmod (wrap64 t195) 2) == 1) else real_rounded.j2 k (-150 + (u : Int)) (wrap64 t195) false) (fun k => by rw [if_neg hbl]) ?_
  refine Ev.bind (small_ev (by omega)) (Ev.bind hsh (Ev.bind (cmp_ev sr2 sd) ?_))
  rw [w]
  by_cases h1 : d < 2 * (r)
  · have e1 : cmpN (r * 2) d = 1 := by unfold cmpN; rw [if_neg (by omega), if_neg (by omega)]
    rw [e1, if_pos (Or.inl h1)]
    have := rounded_j2 u (q) true hu hq hc
    rw [if_pos rfl] at this
    exact Ev.congr (fun k => by rw [if_pos (by omega)]) this
  · by_cases h2 : d = 2 * (r)
    · have e1 : cmpN (r * 2) d = 0 := by unfold cmpN; rw [if_neg (by omega), if_pos (by omega)]
      rw [e1]
      have ht : (Int.tmod ((q : Nat) : Int) 2 == 1) = decide (q % 2 = 1) := by
        rw [Int.tmod_eq_emod_of_nonneg (by omega)]
        by_cases h : q % 2 = 1
        · rw [decide_eq_true h, beq_iff_eq]; omega
        · rw [decide_eq_false h, beq_eq_false_iff_ne]; omega
      have := rounded_j2 u (q) (decide (q % 2 = 1)) hu hq hc
      have e2 : (if decide (q % 2 = 1) = true then 1 else 0) = (if d < 2 * (r) ∨ (d = 2 * (r) ∧ q % 2 = 1) then 1 else 0) := by
        by_cases h : q % 2 = 1
        · rw [if_pos (by simpa using h), if_pos (Or.inr ⟨h2, h⟩)]
        · rw [if_neg (by simpa using h), if_neg (by rintro (h' | h') <;> omega)]
      rw [e2] at this
      exact Ev.congr (fun k => by rw [if_neg (by omega), if_pos rfl, ht]) this
    · have e1 : cmpN (r * 2) d = -1 := by unfold cmpN; rw [if_pos (by omega)]
      rw [e1, if_neg (by rintro (h' | h') <;> omega)]
      have := rounded_j2 u (q) false hu hq hc
      rw [if_neg (by decide)] at this
      exact Ev.congr (fun k => by rw [if_neg (by omega), if_neg (by omega)]) this
/-- The state of a round: how great the fraction's parts are, and how the shifts come to them. -/
theorem go_ (num den : Nat) (e : Int) (hnum : bl num ≤ 10000) (hden : 0 < den) (hden2 : bl den ≤ 10000) (he0 : -10000 ≤ e) (he1 : e ≤ 10000) (u : Nat) (hx : (-150 + (u : Int)) - e ≤ 10100) :
    bl (nx e (-150 + u) num) ≤ 30000 ∧ bl (dx e (-150 + u) den) ≤ 29990 ∧ ∀ r, Ev (fun k => real_rounded.j1 k (D num) e (D den) (-150 + (u : Int)) (D (nx e (-150 + u) num)) (D (dx e (-150 + u) den))) r → Ev (fun k => real_rounded.l0 k (D num) e (D den) (-150 + (u : Int))) r := by
  have sn : Sm num := Sm.bl (by omega)
  have sd : Sm den := Sm.bl (by omega)
  unfold nx dx
  by_cases h : -150 + (u : Int) ≤ e
  · rw [if_pos h, if_pos h]
    refine ⟨?_, by omega, fun r hr => ?_⟩
    · have := bl_shift num (e - (-150 + (u : Int))).toNat; omega
    · have w : wrap64 (e - (-150 + (u : Int))) = ((e - (-150 + (u : Int))).toNat : Int) := by rw [w64 _ (by omega) (by omega)]; omega
      refine Ev.step (f := fun k => (real_nat_shl.f k (D num) ((e - (-150 + (u : Int))).toNat : Int)).bind fun t => real_rounded.j1 k (D num) e (D den) (-150 + (u : Int)) t (D den)) (fun k => by rw [real_rounded.l0, if_pos (by omega), w]) ?_
      exact Ev.bind (shl_ev sn _ (by omega)) hr
  · rw [if_neg h, if_neg h]
    refine ⟨by omega, ?_, fun r hr => ?_⟩
    · have := bl_shift den ((-150 + (u : Int)) - e).toNat; omega
    · have w : wrap64 ((-150 + (u : Int)) - e) = (((-150 + (u : Int)) - e).toNat : Int) := by rw [w64 _ (by omega) (by omega)]; omega
      refine Ev.step (f := fun k => (real_nat_shl.f k (D den) (((-150 + (u : Int)) - e).toNat : Int)).bind fun t => real_rounded.j1 k (D num) e (D den) (-150 + (u : Int)) (D num) t) (fun k => by rw [real_rounded.l0, if_neg (by omega), w]) ?_
      exact Ev.bind (shl_ev sd _ (by omega)) hr
theorem stop_ (num den : Nat) (e : Int) (hnum : bl num ≤ 10000) (hden : 0 < den) (hden2 : bl den ≤ 10000) (he0 : -10000 ≤ e) (he1 : e ≤ 10000) (u : Nat) (hx : (-150 + (u : Int)) - e ≤ 10100)
    (hq : nx e (-150 + u) num / dx e (-150 + u) den < 16777216) (hge : u = 0 ∨ 8388608 * dx e (-150 + u) den ≤ nx e (-150 + u) num) :
    ∃ I, Rd (nx e (-150) num) (dx e (-150) den) I ∧ Ev (fun k => real_rounded.l0 k (D num) e (D den) (-150 + (u : Int))) (rres I) := by
  have hdp : 0 < dx e (-150 + u) den := dx_pos hden
  have hgo := go_ num den e hnum hden hden2 he0 he1 u hx
  have hc : u = 0 ∨ 8388608 ≤ nx e (-150 + u) num / dx e (-150 + u) den := by
    rcases hge with h | h
    · exact .inl h
    · right; rw [Nat.le_div_iff_mul_le hdp]; exact h
  refine ⟨_, Rd.congr hdp (dx_pos hden) (Rd.of_quo _ _ u hdp hq hc) (frac_at e num den hden u), hgo.2.2 _ ?_⟩
  exact rounded_stop num den _ _ u e hdp hgo.1 hgo.2.1 (by omega) hq hc
theorem rounded_l0 (num den : Nat) (e : Int) (hnum : bl num ≤ 10000) (hden : 0 < den) (hden2 : bl den ≤ 10000) (he0 : -10000 ≤ e) (he1 : e ≤ 10000) :
    ∀ (j u : Nat), (-150 + (u : Int)) - e + j ≤ 10100 → nx e (-150 + u) num < 2 ^ (24 + j) * dx e (-150 + u) den → (u = 0 ∨ 8388608 * dx e (-150 + u) den ≤ nx e (-150 + u) num) →
    ∃ I, Rd (nx e (-150) num) (dx e (-150) den) I ∧ Ev (fun k => real_rounded.l0 k (D num) e (D den) (-150 + (u : Int))) (rres I) := by
  intro j
  induction j with
  | zero => 
    intro u hx hlt hge
    rw [show (2 : Nat) ^ (24 + 0) = 16777216 by decide] at hlt
    exact stop_ num den e hnum hden hden2 he0 he1 u (by omega) (by rw [Nat.div_lt_iff_lt_mul (dx_pos hden)]; exact hlt) hge
  | succ j ih =>
    intro u hx hlt hge
    have hdp : 0 < dx e (-150 + u) den := dx_pos hden
    by_cases hq : nx e (-150 + u) num / dx e (-150 + u) den < 16777216
    · exact stop_ num den e hnum hden hden2 he0 he1 u (by omega) hq hge
    · have hq' : 16777216 * dx e (-150 + u) den ≤ nx e (-150 + u) num := by
        rw [← Nat.le_div_iff_mul_le hdp]; omega
      have hs := frac_step e (-150 + u) num den
      have hxx : (-150 + (u : Int) + 1) = (-150 + ((u + 1 : Nat) : Int)) := by omega
      rw [hxx] at hs
      have hdp' : 0 < dx e (-150 + ((u + 1 : Nat) : Int)) den := dx_pos hden
      have up : nx e (-150 + ((u + 1 : Nat) : Int)) num < 2 ^ (24 + j) * dx e (-150 + ((u + 1 : Nat) : Int)) den := by
        have h1 := Nat.mul_lt_mul_of_pos_right hlt hdp'
        rw [hs, show 24 + (j + 1) = (24 + j) + 1 from rfl, Nat.pow_succ] at h1
        clear hlt hge hq hq' hs ih
        generalize (2 : Nat) ^ (24 + j) = P at *
        generalize nx e (-150 + ((u + 1 : Nat) : Int)) num = n' at *
        generalize dx e (-150 + ((u + 1 : Nat) : Int)) den = d' at *
        generalize dx e (-150 + (u : Int)) den = d at *
        have h2 : P * 2 * d * d' = 2 * (P * d' * d) := by ac_rfl
        rw [h2] at h1
        exact Nat.lt_of_mul_lt_mul_right (a := d) (Nat.lt_of_mul_lt_mul_left (a := 2) h1)
      have low : 8388608 * dx e (-150 + ((u + 1 : Nat) : Int)) den ≤ nx e (-150 + ((u + 1 : Nat) : Int)) num := by
        have h1 := Nat.mul_le_mul_right (dx e (-150 + ((u + 1 : Nat) : Int)) den) hq'
        rw [hs] at h1
        clear hlt hge hq hq' hs ih up
        generalize nx e (-150 + ((u + 1 : Nat) : Int)) num = n' at *
        generalize dx e (-150 + ((u + 1 : Nat) : Int)) den = d' at *
        generalize dx e (-150 + (u : Int)) den = d at *
        have h2 : 16777216 * d * d' = 2 * (8388608 * d' * d) := by
          rw [show (16777216 : Nat) = 2 * 8388608 by decide]; ac_rfl
        rw [h2] at h1
        exact Nat.le_of_mul_le_mul_right (Nat.le_of_mul_le_mul_left h1 (by decide)) hdp
      obtain ⟨I, hR, hE⟩ := ih (u + 1) (by omega) up (.inr low)
      refine ⟨I, hR, ?_⟩
      have hgo := go_ num den e hnum hden hden2 he0 he1 u (by omega)
      have sq : Sm (nx e (-150 + u) num / dx e (-150 + u) den) := Sm.bl (by have := bl_mono (Nat.div_le_self (nx e (-150 + u) num) (dx e (-150 + u) den)); have := hgo.1; omega)
      have hbl : (bl (nx e (-150 + u) num / dx e (-150 + u) den) : Int) > 24 := by
        have : ¬ bl (nx e (-150 + u) num / dx e (-150 + u) den) ≤ 24 := fun h => hq (bl_le_iff.1 h)
        omega
      have w : wrap64 (-150 + (u : Int) + 1) = -150 + ((u + 1 : Nat) : Int) := by rw [w64 _ (by omega) (by omega)]; omega
      refine hgo.2.2 _ (Ev.step (fun k => by rw [real_rounded.j1]) ?_)
      refine Ev.bind (div_ev hdp hgo.1 (by have := hgo.2.1; omega)) (Ev.bind (bits_ev sq) ?_)
      dsimp only
      exact Ev.congr (fun k => by rw [if_pos hbl, w]) hE
theorem rounded_ev (num den : Nat) (e : Int) (hnum : bl num ≤ 10000) (hden : 0 < den) (hden2 : bl den ≤ 10000) (he0 : -10000 ≤ e) (he1 : e ≤ 10000) :
    ∃ I, Rd (nx e (-150) num) (dx e (-150) den) I ∧ Ev (fun k => real_rounded.f k (D num) e (D den)) (rres I) := by
  rcases Nat.eq_zero_or_pos num with h0 | h0
  · subst h0
    refine ⟨0, ⟨.inl rfl, ?_, fun _ => rfl⟩, ?_⟩
    · have : nx e (-150) 0 = 0 := by unfold nx; split <;> simp
      rw [this]; omega
    · refine Ev.congr (f := fun _ => some (0, 0)) (fun k => by rw [show D 0 = [] from dg_zero]; rfl) ?_
      exact Ev.now _
  · have sn : Sm num := Sm.bl (by omega)
    have sd : Sm den := Sm.bl (by omega)
    have hne : (D num).length ≠ 0 := fun e => by
      have := (dg_nil (n := num) B2).1 (List.eq_nil_of_length_eq_zero e); omega
    have w1 : wrap64 ((bl num : Int) - (bl den : Int)) = (bl num : Int) - (bl den : Int) := w64 _ (by omega) (by omega)
    have w2 : wrap64 ((bl num : Int) - (bl den : Int) + e) = (bl num : Int) - (bl den : Int) + e := w64 _ (by omega) (by omega)
    have w3 : wrap64 ((bl num : Int) - (bl den : Int) + e - 24) = (bl num : Int) - (bl den : Int) + e - 24 := w64 _ (by omega) (by omega)
    have w4 : wrap64 ((bl num : Int) - (bl den : Int) + e - 24 - 1) = (bl num : Int) - (bl den : Int) + e - 24 - 1 := w64 _ (by omega) (by omega)
    obtain ⟨u, hu⟩ : ∃ u : Nat, mx (-150) ((bl num : Int) - (bl den : Int) + e - 24 - 1) = -150 + (u : Int) := ⟨(mx (-150) ((bl num : Int) - (bl den : Int) + e - 24 - 1) + 150).toNat, by unfold mx; split <;> omega⟩
    have hu1 : (bl num : Int) - (bl den : Int) + e - 25 ≤ -150 + (u : Int) := by unfold mx at hu; split at hu <;> omega
    have hu2 : u = 0 ∨ (bl num : Int) - (bl den : Int) + e - 25 = -150 + (u : Int) := by unfold mx at hu; split at hu <;> omega
    have p1 := bl_pos' h0
    have p2 := bl_pos' hden
    obtain ⟨I, hR, hE⟩ := rounded_l0 num den e hnum hden hden2 he0 he1 2 u (by omega) (by
      have a1 := bl_lt num
      have a2 := bl_ge hden
      unfold nx dx
      by_cases h : -150 + (u : Int) ≤ e
      · rw [if_pos h, if_pos h]
        have c1 := Nat.mul_lt_mul_of_pos_right a1 (Nat.two_pow_pos (e - (-150 + (u : Int))).toNat)
        rw [← Nat.pow_add] at c1
        have c2 := Nat.mul_le_mul_left (2 ^ (24 + 2)) a2
        rw [← Nat.pow_add] at c2
        have c3 : 2 ^ (bl num + (e - (-150 + (u : Int))).toNat) ≤ 2 ^ (24 + 2 + (bl den - 1)) := Nat.pow_le_pow_right (by decide) (by omega)
        exact Nat.lt_of_lt_of_le c1 (Nat.le_trans c3 c2)
      · rw [if_neg h, if_neg h]
        have c2 := Nat.mul_le_mul_left (2 ^ (24 + 2)) (Nat.mul_le_mul_right (2 ^ ((-150 + (u : Int)) - e).toNat) a2)
        rw [← Nat.pow_add, ← Nat.pow_add] at c2
        have c3 : 2 ^ (bl num) ≤ 2 ^ (24 + 2 + (bl den - 1 + ((-150 + (u : Int)) - e).toNat)) := Nat.pow_le_pow_right (by decide) (by omega)
        exact Nat.lt_of_lt_of_le a1 (Nat.le_trans c3 c2)) (by
      rcases hu2 with hu2 | hu2
      · exact .inl hu2
      · right
        have a1 := bl_ge h0
        have a2 := bl_lt den
        unfold nx dx
        by_cases h : -150 + (u : Int) ≤ e
        · rw [if_pos h, if_pos h]
          have c1 := Nat.mul_le_mul_right (2 ^ (e - (-150 + (u : Int))).toNat) a1
          rw [← Nat.pow_add] at c1
          have c2 := Nat.mul_le_mul_left (2 ^ 23) (Nat.le_of_lt a2)
          rw [← Nat.pow_add] at c2
          have c3 : 2 ^ (23 + bl den) ≤ 2 ^ (bl num - 1 + (e - (-150 + (u : Int))).toNat) := Nat.pow_le_pow_right (by decide) (by omega)
          exact Nat.le_trans c2 (Nat.le_trans c3 c1)
        · rw [if_neg h, if_neg h]
          have c2 := Nat.mul_le_mul_left (2 ^ 23) (Nat.mul_le_mul_right (2 ^ ((-150 + (u : Int)) - e).toNat) (Nat.le_of_lt a2))
          rw [← Nat.pow_add, ← Nat.pow_add] at c2
          have c3 : 2 ^ (23 + (bl den + ((-150 + (u : Int)) - e).toNat)) ≤ 2 ^ (bl num - 1) := Nat.pow_le_pow_right (by decide) (by omega)
          exact Nat.le_trans c2 (Nat.le_trans c3 a1))
    refine ⟨I, hR, ?_⟩
    refine Ev.congr (f := fun k => (real_nat_bits.f k (D num)).bind fun t180 => (real_nat_bits.f k (D den)).bind fun t181 => real_rounded.l0 k (D num) e (D den) (mx (-150) (wrap64 (wrap64 (wrap64 (wrap64 (t180 - t181) + e) - 24) - 1)))) (fun k => by unfold real_rounded.f; rw [if_neg (by omega)]) ?_
    refine Ev.bind (bits_ev sn) (Ev.bind (bits_ev sd) ?_)
    rw [w1, w2, w3, w4, hu]
    exact hE
end Go.Proofs.YteigbokklclmbaaGreatDoor.M
end
section
namespace Go.Proofs.YteigbokklclmbaaGreatDoor.Given
open Go
theorem field23_0 (a b : Int) (w : World) : Sem.run Tryz.prog (Instr.field 23 (Value.agg #[Value.int .i64 a, Value.int .i64 b]) 0) w = .ok (Value.int .i64 a) w := by kernel_rfl
theorem field23_1 (a b : Int) (w : World) : Sem.run Tryz.prog (Instr.field 23 (Value.agg #[Value.int .i64 a, Value.int .i64 b]) 1) w = .ok (Value.int .i64 b) w := by kernel_rfl
theorem field50_0 (a b : Int) (c : Bool) (w : World) : Sem.run Tryz.prog (Instr.field 50 (Value.agg #[Value.int .i64 a, Value.int .i64 b, Value.bool c]) 0) w = .ok (Value.agg #[Value.int .i64 a, Value.int .i64 b]) w := by kernel_rfl
theorem field50_1 (a b : Int) (c : Bool) (w : World) : Sem.run Tryz.prog (Instr.field 50 (Value.agg #[Value.int .i64 a, Value.int .i64 b, Value.bool c]) 1) w = .ok (Value.bool c) w := by kernel_rfl
end Go.Proofs.YteigbokklclmbaaGreatDoor.Given
end
section
namespace Go.Proofs.YteigbokklclmbaaGreatDoor.Z.Y.V
open Go.RowKit Go.Proofs.YteigbokklclmbaaGreatDoor.Given Go.Proofs.YteigbokklclmbaaGreatDoorW.PrintWords Go.Proofs.YteigbokklclmbaaGreatDoorW.PrintLast Go.Proofs.YteigbokklclmbaaGreatDoorW.PrintMore
attribute [local go_sem] max2_int min2_int max_two min_two max_three min_three max_four min_four   -- for this text's walks alone
attribute [local go_sem high] field23_0 field23_1

def manorboyref02_Quotient_Round.T6 : Bool × List (List Nat × List Nat) := (true, [([], []), ([0], [0]), ([], []), ([2], [2]), ([1, 3, 1], [1, 3]), ([], []), ([4, 5, 4], [4, 5]), ([6], [6])])
def manorboyref02_Quotient_Round.B6 : List Nat := [0, 1, 0, 4, 15, 0, 63, 127]
theorem manorboyref02_Quotient_Round.tab6 : rtab .any (opsOf Tryz.f88 6) = manorboyref02_Quotient_Round.T6 := by kernel_rfl
theorem manorboyref02_Quotient_Round.bits6 : waitsOk manorboyref02_Quotient_Round.T6.2 manorboyref02_Quotient_Round.B6 = true := by kernel_rfl
def manorboyref02_Quotient_Round.T11 : Bool × List (List Nat × List Nat) := (true, [([], []), ([0], [0]), ([], []), ([2], [2]), ([1, 3, 1], [1, 3]), ([], []), ([4, 5, 4], [4, 5]), ([6], [6]), ([7, 6], [7]), ([8], [8]), ([9, 8, 8], [8, 9]), ([10, 8], [8, 10]), ([11, 8], [8, 11]), ([12, 8], [8, 12]), ([8, 13], [8, 13])])
def manorboyref02_Quotient_Round.B11 : List Nat := [0, 1, 0, 4, 15, 0, 63, 127, 255, 511, 1023, 2047, 4095, 8191, 16383]
theorem manorboyref02_Quotient_Round.tab11 : rtab .any (opsOf Tryz.f88 11) = manorboyref02_Quotient_Round.T11 := by kernel_rfl
theorem manorboyref02_Quotient_Round.bits11 : waitsOk manorboyref02_Quotient_Round.T11.2 manorboyref02_Quotient_Round.B11 = true := by kernel_rfl
end Go.Proofs.YteigbokklclmbaaGreatDoor.Z.Y.V
end
section
namespace Go.Proofs.YteigbokklclmbaaGreatDoor.Z.Y.V
open Go.RowKit Go.Proofs.YteigbokklclmbaaGreatDoor.Given Go.Proofs.YteigbokklclmbaaGreatDoorW.PrintWords Go.Proofs.YteigbokklclmbaaGreatDoorW.PrintLast Go.Proofs.YteigbokklclmbaaGreatDoorW.PrintMore
attribute [local go_sem] max2_int min2_int max_two min_two max_three min_three max_four min_four   -- for this text's walks alone

def manorboyref02_Of.T7 : Bool × List (List Nat × List Nat) := (true, [([], []), ([0], [0]), ([1], [1]), ([], []), ([3], [3]), ([], []), ([5], [5]), ([6, 4], [6]), ([4, 7, 7], [4, 7]), ([8], []), ([2, 8, 9], [2, 8, 9]), ([10, 9, 0, 1, 2, 3, 4, 5, 6, 7, 8, 9, 10], [10])])
def manorboyref02_Of.B7 : List Nat := [0, 1, 3, 0, 8, 0, 32, 120, 248, 504, 1023, 2047]
theorem manorboyref02_Of.tab7 : rtab .any (opsOf Tryz.f102 7) = manorboyref02_Of.T7 := by kernel_rfl
theorem manorboyref02_Of.bits7 : waitsOk manorboyref02_Of.T7.2 manorboyref02_Of.B7 = true := by kernel_rfl
end Go.Proofs.YteigbokklclmbaaGreatDoor.Z.Y.V
end
section
namespace Go.Proofs.YteigbokklclmbaaGreatDoor.M
open Go Go.RowKit Go.Proofs.YteigbokklclmbaaGreatDoor.Given Go.Proofs.YteigbokklclmbaaGreatDoorW.PrintWords Go.Proofs.YteigbokklclmbaaGreatDoorW.PrintLast Go.Proofs.YteigbokklclmbaaGreatDoorW.PrintMore Go.Proofs.YteigbokklclmbaaGreatDoor.Z Go.Proofs.YteigbokklclmbaaGreatDoor.Z.Y Go.Proofs.YteigbokklclmbaaGreatDoor.Z.Y.V
/-- A sign laid on a real. -/
def sgn (neg : Bool) (p : Int × Int) : Int × Int := (if neg = true then -p.1 else p.1, p.2)
theorem man_bd (I : Nat) : man I < 16777216 := by unfold man sh; omega
end Go.Proofs.YteigbokklclmbaaGreatDoor.M
end
section
namespace Go.Proofs.YteigbokklclmbaaGreatDoor.Z.Y
open Go Go.RowKit Go.Proofs.YteigbokklclmbaaGreatDoor.Given Go.Proofs.YteigbokklclmbaaGreatDoorW.PrintWords Go.Proofs.YteigbokklclmbaaGreatDoorW.PrintLast Go.Proofs.YteigbokklclmbaaGreatDoorW.PrintMore
/-- What a valid real is. -/
def VR (a b : Int) : Prop := (a = 0 ∧ b = 0) ∨ (1 ≤ mx a (wrap64 (-a)) ∧ mx a (wrap64 (-a)) < 16777216 ∧ (b = -150 ∨ (8388608 ≤ mx a (wrap64 (-a)) ∧ -150 < b ∧ b ≤ 150)))
instance (a b : Int) : Decidable (VR a b) := by unfold VR; infer_instance
theorem valid_real (a b : Int) : real_Valid.f a b = some (decide (VR a b)) := by
  unfold real_Valid.f
  have hd : ∀ (p q : Prop) [Decidable p] [Decidable q], (p ↔ q) → decide p = decide q := fun p q _ _ h => by simp [h]
  have hv : VR a b ↔ ((a = 0 ∧ b = 0) ∨ (1 ≤ mx a (wrap64 (-a)) ∧ mx a (wrap64 (-a)) < 16777216 ∧ (b = -150 ∨ (8388608 ≤ mx a (wrap64 (-a)) ∧ -150 < b ∧ b ≤ 150)))) := Iff.rfl
  generalize mx a (wrap64 (-a)) = m at *
  by_cases h0 : a = 0 ∧ b = 0
  · have : decide (VR a b) = true := decide_eq_true (hv.2 (.inl h0))
    rw [this, if_pos (by simp [h0.1, h0.2])]
  · have h0' : ¬ ((a == 0 && (b == 0)) = true) := by simpa using h0
    rw [if_neg h0']
    by_cases h1 : m < 1
    · rw [if_pos h1]; congr 1; symm; rw [decide_eq_false_iff_not, hv]; rintro (h | h); exact h0 h; omega
    rw [if_neg h1]
    by_cases h2 : m ≥ 16777216
    · rw [if_pos h2]; congr 1; symm; rw [decide_eq_false_iff_not, hv]; rintro (h | h); exact h0 h; omega
    rw [if_neg h2]
    by_cases h3 : b = -150
    · rw [if_pos h3]; congr 1; symm; rw [decide_eq_true_eq, hv]; exact .inr ⟨by omega, by omega, .inl h3⟩
    rw [if_neg h3]
    by_cases h4 : m ≥ 8388608
    · rw [if_pos h4]
      by_cases h5 : b > -150
      · rw [if_pos h5]; congr 1; apply hd; rw [hv]
        constructor
        · intro h; exact .inr ⟨by omega, by omega, .inr ⟨h4, h5, h⟩⟩
        · rintro (h | h)
          · exact absurd h h0
          · omega
      · rw [if_neg h5]; congr 1; symm; rw [decide_eq_false_iff_not, hv]; rintro (h | h); exact h0 h; omega
    · rw [if_neg h4]; congr 1; symm; rw [decide_eq_false_iff_not, hv]; rintro (h | h); exact h0 h; omega
theorem VR_abs {a b : Int} (hw : -9223372036854775808 ≤ a ∧ a ≤ 9223372036854775807) (h : VR a b) : -16777216 < a ∧ a < 16777216 ∧ -150 ≤ b ∧ b ≤ 150 ∧ (b > -150 → a ≠ 0 → a ≤ -8388608 ∨ 8388608 ≤ a) := by
  unfold VR mx wrap64 at h
  rcases h with ⟨rfl, rfl⟩ | h
  · omega
  · split at h <;> omega
end Go.Proofs.YteigbokklclmbaaGreatDoor.Z.Y
end
section
namespace Go.Proofs.YteigbokklclmbaaGreatDoor.Z.Y.V
open Go.RowKit Go.Proofs.YteigbokklclmbaaGreatDoor.Given Go.Proofs.YteigbokklclmbaaGreatDoorW.PrintWords Go.Proofs.YteigbokklclmbaaGreatDoorW.PrintLast Go.Proofs.YteigbokklclmbaaGreatDoorW.PrintMore
attribute [local go_sem] max2_int min2_int max_two min_two max_three min_three max_four min_four   -- for this text's walks alone

def manorboyref02_Add.T4 : Bool × List (List Nat × List Nat) := (true, [([], []), ([0], [0]), ([], []), ([2], [2]), ([], []), ([4], [4]), ([3, 5], [3, 5]), ([], []), ([7], [7]), ([1, 6, 8], [1, 6, 8]), ([9, 6], [9]), ([10, 10, 0, 1, 2, 3, 4, 5, 6, 7, 8, 9, 10], [10])])
def manorboyref02_Add.B4 : List Nat := [0, 1, 0, 4, 0, 16, 60, 0, 128, 511, 1023, 2047]
theorem manorboyref02_Add.tab4 : rtab .any (opsOf Tryz.f36 4) = manorboyref02_Add.T4 := by kernel_rfl
theorem manorboyref02_Add.bits4 : waitsOk manorboyref02_Add.T4.2 manorboyref02_Add.B4 = true := by kernel_rfl
def manorboyref02_Add.T6 : Bool × List (List Nat × List Nat) := (true, [([], []), ([0], [0]), ([], []), ([2], [2]), ([], []), ([4], [4]), ([3, 5], [3, 5]), ([], []), ([7], [7]), ([1, 6, 8], [1, 6, 8]), ([9, 6], [9]), ([10, 10, 0, 1, 2, 3, 4, 5, 6, 7, 8, 9, 10], [10])])
def manorboyref02_Add.B6 : List Nat := [0, 1, 0, 4, 0, 16, 60, 0, 128, 511, 1023, 2047]
theorem manorboyref02_Add.tab6 : rtab .any (opsOf Tryz.f36 6) = manorboyref02_Add.T6 := by kernel_rfl
theorem manorboyref02_Add.bits6 : waitsOk manorboyref02_Add.T6.2 manorboyref02_Add.B6 = true := by kernel_rfl
def manorboyref02_Add.T7 : Bool × List (List Nat × List Nat) := (true, [([], []), ([0], [0]), ([], []), ([2], [2]), ([], []), ([4], [4]), ([3, 5], [3, 5]), ([], []), ([7], [7]), ([1, 6, 8], [1, 6, 8]), ([9, 6], [9]), ([10, 10, 0, 1, 2, 3, 4, 5, 6, 7, 8, 9, 10], [10])])
def manorboyref02_Add.B7 : List Nat := [0, 1, 0, 4, 0, 16, 60, 0, 128, 511, 1023, 2047]
theorem manorboyref02_Add.tab7 : rtab .any (opsOf Tryz.f36 7) = manorboyref02_Add.T7 := by kernel_rfl
theorem manorboyref02_Add.bits7 : waitsOk manorboyref02_Add.T7.2 manorboyref02_Add.B7 = true := by kernel_rfl
end Go.Proofs.YteigbokklclmbaaGreatDoor.Z.Y.V
end
section
namespace Go.Proofs.YteigbokklclmbaaGreatDoor.M
open Go Go.RowKit Go.Proofs.YteigbokklclmbaaGreatDoor.Given Go.Proofs.YteigbokklclmbaaGreatDoorW.PrintWords Go.Proofs.YteigbokklclmbaaGreatDoorW.PrintLast Go.Proofs.YteigbokklclmbaaGreatDoorW.PrintMore Go.Proofs.YteigbokklclmbaaGreatDoor.Z Go.Proofs.YteigbokklclmbaaGreatDoor.Z.Y Go.Proofs.YteigbokklclmbaaGreatDoor.Z.Y.V
/-- The range of an int. -/
def I64 (a : Int) : Prop := -9223372036854775808 ≤ a ∧ a ≤ 9223372036854775807
/-- What is known of the parts of a real. -/
def RC (a b : Int) : Prop := a.natAbs < 16777216 ∧ -150 ≤ b ∧ b ≤ 150
theorem VR.rc {a b : Int} (hw : I64 a) (h : VR a b) : RC a b := by
  obtain ⟨h1, h2, h3, h4, _⟩ := VR_abs hw h
  exact ⟨by omega, h3, h4⟩
/-- The index of a real's magnitude. -/
def ix (a b : Int) : Nat := if a = 0 then 0 else a.natAbs + (b + 150).toNat * 8388608
theorem VR.norm {a b : Int} (hw : I64 a) (h : VR a b) : (a = 0 ∧ b = 0) ∨ (a ≠ 0 ∧ ((b + 150).toNat = 0 ∨ 8388608 ≤ a.natAbs)) := by
  obtain ⟨h1, h2, h3, h4, h5⟩ := VR_abs hw h
  rcases h with ⟨h6, h7⟩ | h
  · exact .inl ⟨h6, h7⟩
  · right
    have ha : a ≠ 0 := by
      rintro rfl
      have : mx 0 (wrap64 (-0)) = 0 := by unfold mx wrap64; split <;> omega
      omega
    refine ⟨ha, ?_⟩
    by_cases hb : b > -150
    · right; have := h5 hb ha; omega
    · left; omega
theorem ix_G {a b : Int} (hw : I64 a) (h : VR a b) : G (ix a b) = a.natAbs * 2 ^ (b + 150).toNat := by
  unfold ix
  have hr := VR.rc hw h
  rcases VR.norm hw h with ⟨h1, h2⟩ | ⟨h1, h2⟩
  · rw [if_pos h1, G_zero, h1]; simp
  · rw [if_neg h1]; exact G_at _ _ (by have := hr.1; omega) h2
theorem ix_le {a b : Int} (hw : I64 a) (h : VR a b) : ix a b ≤ 2533359615 := by
  unfold ix; have hr := VR.rc hw h; obtain ⟨h1, h2, h3⟩ := hr; split <;> omega
theorem ix_at {a b : Int} (hw : I64 a) (h : VR a b) : atI (ix a b) = ((a.natAbs : Int), b) := by
  have hr := VR.rc hw h
  obtain ⟨r1, r2, r3⟩ := hr
  unfold atI ix
  rcases VR.norm hw h with ⟨h1, h2⟩ | ⟨h1, h2⟩
  · rw [if_pos h1, if_pos rfl, h1, h2]; rfl
  · rw [if_neg h1, if_neg (by omega)]
    have e1 : sh (a.natAbs + (b + 150).toNat * 8388608) = (b + 150).toNat := by unfold sh; omega
    have e2 : man (a.natAbs + (b + 150).toNat * 8388608) = a.natAbs := by unfold man; rw [e1]; omega
    rw [e1, e2]; congr 1; omega
theorem sgn_ix {a b : Int} (hw : I64 a) (h : VR a b) : sgn (decide (a < 0)) (atI (ix a b)) = (a, b) := by
  rw [ix_at hw h]
  unfold sgn
  by_cases hn : a < 0
  · rw [if_pos (decide_eq_true hn)]; congr 1; show -((a.natAbs : Nat) : Int) = a; omega
  · rw [if_neg (by simpa using hn)]; congr 1; omega
/-- What an operation of the program answers: a real, or overflow. -/
def res3 (neg : Bool) (I : Nat) : Int × Int × Int := if 2533359615 < I then (0, 0, 3) else ((sgn neg (atI I)).1, (sgn neg (atI I)).2, 0)
/-- The same ahead of 'caught'. -/
def sgnr (neg : Bool) (I : Nat) : Int × Int := (if neg = true then wrap64 (-(rres I).1) else (rres I).1, (rres I).2)
theorem signed_is (neg : Bool) (p : Int × Int) : real_signed.f neg p.1 p.2 = some (if neg = true then wrap64 (-p.1) else p.1, p.2) := by
  unfold real_signed.f; split <;> rfl
theorem signed_back (neg : Bool) (I : Nat) : ((real_signed.f neg (rres I).1 (rres I).2).bind fun bt => some (bt.1, bt.2)) = some (sgnr neg I) := by
  rw [signed_is]; rfl
theorem atI_bd (I : Nat) (h : I ≤ 2533359615) : 0 ≤ (atI I).1 ∧ (atI I).1 < 16777216 ∧ -150 ≤ (atI I).2 ∧ (atI I).2 ≤ 150 := by
  have hm := man_bd I
  unfold atI
  split
  · show (0 : Int) ≤ 0 ∧ (0 : Int) < 16777216 ∧ -150 ≤ (0 : Int) ∧ (0 : Int) ≤ 150; omega
  · show (0 : Int) ≤ ((man I : Nat) : Int) ∧ ((man I : Nat) : Int) < 16777216 ∧ -150 ≤ ((sh I : Nat) : Int) - 150 ∧ ((sh I : Nat) : Int) - 150 ≤ 150
    unfold sh; omega
theorem rres_in {I : Nat} (h : I ≤ 2533359615) : rres I = atI I := by unfold rres; rw [if_neg (by omega)]
theorem sgnr_in {neg : Bool} {I : Nat} (h : I ≤ 2533359615) : sgnr neg I = sgn neg (atI I) := by
  have hb := atI_bd I h
  have hw : wrap64 (-(atI I).1) = -(atI I).1 := w64 _ (by omega) (by omega)
  unfold sgnr sgn
  rw [rres_in h, hw]
theorem caught_is (neg : Bool) (I : Nat) : caughtS (sgnr neg I).1 (sgnr neg I).2 = res3 neg I := by
  unfold caughtS res3
  by_cases h : 2533359615 < I
  · rw [if_pos h, if_pos]
    unfold sgnr rres; rw [if_pos h]
  · rw [if_neg h, sgnr_in (by omega), if_neg]
    have := atI_bd I (by omega)
    show ¬ (atI I).2 = 1000
    omega
theorem one_D : D 1 = [1] := dg_small B2 (by decide) (by decide)
theorem nx_at (e : Int) (h : -150 ≤ e) (n : Nat) : nx e (-150) n = n * 2 ^ (e + 150).toNat := by
  unfold nx; rw [if_pos h]; congr 2
theorem dx_at (e : Int) (h : -150 ≤ e) (n : Nat) : dx e (-150) n = n := by unfold dx; rw [if_pos h]
/-- The program's rounding of a whole number times a power of two. -/
theorem rounded_one (n : Nat) (e : Int) (hn : bl n ≤ 10000) (h0 : -150 ≤ e) (h1 : e ≤ 10000) : ∃ I, Rd (n * 2 ^ (e + 150).toNat) 1 I ∧ Ev (fun k => real_rounded.f k (D n) e [1]) (rres I) := by
  obtain ⟨I, hR, hE⟩ := rounded_ev n 1 e hn (by decide) (by rw [bl_one]; decide) (by omega) h1
  rw [nx_at e h0, dx_at e h0] at hR
  rw [one_D] at hE
  exact ⟨I, hR, hE⟩
theorem neg_VR {y0 y1 : Int} (wy : I64 y0) (hy : VR y0 y1) : VR (-y0) y1 ∧ I64 (-y0) ∧ wrap64 (-y0) = -y0 ∧ ix (-y0) y1 = ix y0 y1 := by
  have hr := VR.rc wy hy
  obtain ⟨h1, h2, h3⟩ := hr
  have hw : wrap64 (-y0) = -y0 := w64 _ (by omega) (by omega)
  refine ⟨?_, ⟨by omega, by omega⟩, hw, ?_⟩
  · unfold VR at hy ⊢
    rcases hy with ⟨h4, h5⟩ | h4
    · left; omega
    · right
      have e : mx (-y0) (wrap64 (- -y0)) = mx y0 (wrap64 (-y0)) := by
        rw [hw, w64 (- -y0) (by omega) (by omega)]; unfold mx; split <;> split <;> omega
      rw [e]; exact h4
  · unfold ix
    by_cases h : y0 = 0
    · rw [if_pos h, if_pos (by omega)]
    · rw [if_neg h, if_neg (by omega), Int.natAbs_neg]
theorem sanity_ev : Ev (fun k => manorboylaw02_sanity.f k) true := Ev.of (fun k => manorboylaw02_sanity.mono k) sanity_ok
theorem nx_prod (a b : Nat) (x y : Int) (hx : -150 ≤ x) (hy : -150 ≤ y) : nx (x + y) (-150) (a * b) * 2 ^ 150 = a * 2 ^ (x + 150).toNat * (b * 2 ^ (y + 150).toNat) * dx (x + y) (-150) 1 := by
  have e0 : a * 2 ^ (x + 150).toNat * (b * 2 ^ (y + 150).toNat) = a * b * 2 ^ ((x + 150).toNat + (y + 150).toNat) := by rw [Nat.pow_add]; ac_rfl
  rw [e0]
  unfold nx dx
  by_cases h : (-150 : Int) ≤ x + y
  · rw [if_pos h, if_pos h, Nat.mul_one, Nat.mul_assoc, ← Nat.pow_add]; congr 2; omega
  · rw [if_neg h, if_neg h, Nat.one_mul, Nat.mul_assoc (a * b), ← Nat.pow_add]; congr 2; omega
theorem nx_quo (a b : Nat) (x y : Int) (hx : -150 ≤ x) (hy : -150 ≤ y) : nx (x - y) (-150) a * (b * 2 ^ (y + 150).toNat) = a * 2 ^ (x + 150).toNat * 2 ^ 150 * dx (x - y) (-150) b := by
  unfold nx dx
  by_cases h : (-150 : Int) ≤ x - y
  · rw [if_pos h, if_pos h]
    have e : 2 ^ (x - y - -150).toNat * 2 ^ (y + 150).toNat = 2 ^ (x + 150).toNat * 2 ^ 150 := by rw [← Nat.pow_add, ← Nat.pow_add]; congr 1; omega
    calc a * 2 ^ (x - y - -150).toNat * (b * 2 ^ (y + 150).toNat) = a * b * (2 ^ (x - y - -150).toNat * 2 ^ (y + 150).toNat) := by ac_rfl
      _ = a * b * (2 ^ (x + 150).toNat * 2 ^ 150) := by rw [e]
      _ = _ := by ac_rfl
  · rw [if_neg h, if_neg h]
    have e : 2 ^ (y + 150).toNat = 2 ^ (x + 150).toNat * 2 ^ 150 * 2 ^ (-150 - (x - y)).toNat := by rw [← Nat.pow_add, ← Nat.pow_add]; congr 1; omega
    rw [e]; ac_rfl
theorem real_product_ev {x0 x1 y0 y1 : Int} (hx : RC x0 x1) (hy : RC y0 y1) :
    ∃ I, Rd (x0.natAbs * 2 ^ (x1 + 150).toNat * (y0.natAbs * 2 ^ (y1 + 150).toNat)) (2 ^ 150) I ∧ Ev (fun k => real_product.f k x0 x1 y0 y1) (sgnr ((decide (x0 < 0)) != (decide (y0 < 0))) I) := by
  obtain ⟨hx1, hx2, hx3⟩ := hx
  obtain ⟨hy1, hy2, hy3⟩ := hy
  have bx : bl x0.natAbs ≤ 24 := bl_le_iff.2 hx1
  have by_ : bl y0.natAbs ≤ 24 := bl_le_iff.2 hy1
  have bp := bl_mul x0.natAbs y0.natAbs
  have we : wrap64 (x1 + y1) = x1 + y1 := w64 _ (by omega) (by omega)
  obtain ⟨I, hR, hE⟩ := rounded_ev (x0.natAbs * y0.natAbs) 1 (x1 + y1) (by omega) (by decide) (by rw [bl_one]; decide) (by omega) (by omega)
  refine ⟨I, Rd.congr (dx_pos (by decide)) (Nat.two_pow_pos _) hR (nx_prod _ _ _ _ hx2 hy2), ?_⟩
  rw [one_D] at hE
  refine Ev.congr (f := fun k => (real_magnitude.f k x0).bind fun t223 => ((real_magnitude.f k y0).bind fun t226 => ((real_nat_mul.f k t223 t226).bind fun t229 => ((real_rounded.f k t229 (x1 + y1) (([1] : List Int))).bind fun bt235 => _)))) (fun k => by unfold real_product.f; rw [we]) ?_
  refine Ev.bind (magnitude_ev x0 (by omega) (by omega)) (Ev.bind (magnitude_ev y0 (by omega) (by omega)) (Ev.bind (mul_ev (Sm.bl (by omega)) (Sm.bl (by omega))) (Ev.bind hE ?_)))
  exact Ev.congr (fun k => signed_back _ I) (Ev.now _)
theorem real_quotient_ev {x0 x1 y0 y1 : Int} (hx : RC x0 x1) (hy : RC y0 y1) (hy0 : y0 ≠ 0) :
    ∃ I, Rd (x0.natAbs * 2 ^ (x1 + 150).toNat * 2 ^ 150) (y0.natAbs * 2 ^ (y1 + 150).toNat) I ∧ Ev (fun k => real_quotient.f k x0 x1 y0 y1) (sgnr ((decide (x0 < 0)) != (decide (y0 < 0))) I) := by
  obtain ⟨hx1, hx2, hx3⟩ := hx
  obtain ⟨hy1, hy2, hy3⟩ := hy
  have bx : bl x0.natAbs ≤ 24 := bl_le_iff.2 hx1
  have by_ : bl y0.natAbs ≤ 24 := bl_le_iff.2 hy1
  have hyp : 0 < y0.natAbs := by omega
  have we : wrap64 (x1 - y1) = x1 - y1 := w64 _ (by omega) (by omega)
  obtain ⟨I, hR, hE⟩ := rounded_ev x0.natAbs y0.natAbs (x1 - y1) (by omega) hyp (by omega) (by omega) (by omega)
  refine ⟨I, Rd.congr (dx_pos hyp) (Nat.mul_pos hyp (Nat.two_pow_pos _)) hR (nx_quo _ _ _ _ hx2 hy2), ?_⟩
  refine Ev.congr (f := fun k => (real_magnitude.f k x0).bind fun t305 => ((real_magnitude.f k y0).bind fun t308 => ((real_rounded.f k t305 (x1 - y1) t308).bind fun bt311 => _))) (fun k => by unfold real_quotient.f; rw [we]) ?_
  refine Ev.bind (magnitude_ev x0 (by omega) (by omega)) (Ev.bind (magnitude_ev y0 (by omega) (by omega)) (Ev.bind hE ?_))
  exact Ev.congr (fun k => signed_back _ I) (Ev.now _)
/-- The program's Mul of two reals. -/
theorem real_Mul_ev {x0 x1 y0 y1 : Int} (wx : I64 x0) (wy : I64 y0) (hx : VR x0 x1) (hy : VR y0 y1) :
    ∃ I, Rd (G (ix x0 x1) * G (ix y0 y1)) (2 ^ 150) I ∧ Ev (fun k => real_Mul.f k x0 x1 y0 y1) (res3 ((decide (x0 < 0)) != (decide (y0 < 0))) I) := by
  obtain ⟨I, hR, hE⟩ := real_product_ev (VR.rc wx hx) (VR.rc wy hy)
  rw [← ix_G wx hx, ← ix_G wy hy] at hR
  refine ⟨I, hR, ?_⟩
  rw [← caught_is]
  refine Ev.congr (f := fun k => (real_product.f k x0 x1 y0 y1).bind fun r => some (caughtS r.1 r.2)) (fun k => by
    unfold real_Mul.f; rw [valid_real, valid_real, decide_eq_true hx, decide_eq_true hy]; rfl) ?_
  exact Ev.bind hE (Ev.now _)
/-- The program's Div of two reals. -/
theorem real_Div_ev {x0 x1 y0 y1 : Int} (wx : I64 x0) (wy : I64 y0) (hx : VR x0 x1) (hy : VR y0 y1) (hy0 : y0 ≠ 0) :
    ∃ I, Rd (G (ix x0 x1) * 2 ^ 150) (G (ix y0 y1)) I ∧ Ev (fun k => real_Div.f k x0 x1 y0 y1) (res3 ((decide (x0 < 0)) != (decide (y0 < 0))) I) := by
  obtain ⟨I, hR, hE⟩ := real_quotient_ev (VR.rc wx hx) (VR.rc wy hy) hy0
  rw [← ix_G wx hx, ← ix_G wy hy] at hR
  refine ⟨I, hR, ?_⟩
  rw [← caught_is]
  refine Ev.congr (f := fun k => (real_quotient.f k x0 x1 y0 y1).bind fun r => some (caughtS r.1 r.2)) (fun k => by
    unfold real_Div.f; rw [valid_real, valid_real, decide_eq_true hx, decide_eq_true hy]; simp only [Option.bind_some, Bool.and_self, if_true, if_neg hy0]) ?_
  exact Ev.bind hE (Ev.now _)
end Go.Proofs.YteigbokklclmbaaGreatDoor.M
end
section
namespace Go.Proofs.YteigbokklclmbaaGreatDoor.Z
open Go Go.RowKit Go.Proofs.YteigbokklclmbaaGreatDoor.Given Go.Proofs.YteigbokklclmbaaGreatDoorW.PrintWords Go.Proofs.YteigbokklclmbaaGreatDoorW.PrintLast Go.Proofs.YteigbokklclmbaaGreatDoorW.PrintMore
theorem cell_below {w W : World} {a : Addr} {v : Value} (hB : Below w.heap.size w W) (h : w.cell? a = some v) : W.cell? a = some v := (hB.cell (World.block_lt_of_cell? w _ h)).trans h
theorem index2g_c (ad : Addr) (c : Nat) (m0 e0 m1 e1 : Int) (v0 v1 : Bool) (h0 : real_Valid.f m0 e0 = some v0) (h1 : real_Valid.f m1 e1 = some v1) (w : World)
    (hb : w.cell? (ad.add 0) = some (.int .i64 m0) ∧ w.cell? (ad.add 1) = some (.int .i64 e0) ∧ w.cell? (ad.add 2) = some (.int .i64 m1) ∧ w.cell? (ad.add 3) = some (.int .i64 e1)) :
    Calls Tryz.prog 163 #[.slice (some ad) 2 c, .func (.func 144) #[] #[]] w fun en w' => en = .returned (.int .i64 (if v0 then (if v1 then -1 else 1) else 0)) ∧ Below w.heap.size w w' := by
  have H0 := Lib.hid h0
  have H1 := Lib.hid h1
  have HB := Lib.hid hb
  clear h0 h1 hb
  go_enter Tryz.func163, Tryz.ntmps163
  go_wp2
  go_loopg [5, 8] (3 : Nat) (fun kq v5 v8 wr => ∃ j : Nat, kq + j = 3 ∧ v8 = .int .i64 (j : Int) ∧ Below w.heap.size w wr ∧ (1 ≤ j → v0 = true) ∧ (2 ≤ j → v1 = true))
  case atStart => exact ⟨0, rfl, rfl, Below.refl _ w, by omega, by omega⟩
  case round =>
    obtain ⟨j, hj, rfl, hB, hv0, hv1⟩ := hrel
    have HB2 := Lib.hid hB
    have hbr : wr.cell? (ad.add 0) = some (.int .i64 m0) ∧ wr.cell? (ad.add 1) = some (.int .i64 e0) ∧ wr.cell? (ad.add 2) = some (.int .i64 m1) ∧ wr.cell? (ad.add 3) = some (.int .i64 e1) :=
      ⟨cell_below hB HB.out.1, cell_below hB HB.out.2.1, cell_below hB HB.out.2.2.1, cell_below hB HB.out.2.2.2⟩
    rcases (by omega : j = 0 ∨ j = 1 ∨ j = 2 ∨ j = 3) with h | h | h | h
    · subst h
      have c0 := hbr.1
      have c0' : wr.cell? ad = some (.int .i64 m0) := c0
      have c1 : wr.cell? ⟨ad.block, ad.off + 1, none⟩ = some (.int .i64 e0) := hbr.2.1
      clear hB hbr hv0 hv1
      cases v0
      · go_wp2_with fail
        refine (notValid_c m0 e0 _ H0.out _).mono ?_
        rintro en w1 ⟨rfl, hb⟩
        have hB : Below w.heap.size w w1 := HB2.out.trans (hb.mono HB2.out.size)
        clear hb
        go_wp2
        go_ret
        exact ⟨rfl, hB⟩
      · go_wp2_with fail
        refine (notValid_c m0 e0 _ H0.out _).mono ?_
        rintro en w1 ⟨rfl, hb⟩
        have hB : Below w.heap.size w w1 := HB2.out.trans (hb.mono HB2.out.size)
        clear hb
        go_wp2
        go_roundg (gk - 1)
        case measure => omega
        case rel => exact ⟨1, by omega, rfl, hB, fun _ => trivial, by omega⟩
    · subst h
      have c0 : wr.cell? ⟨ad.block, ad.off + 2, none⟩ = some (.int .i64 m1) := hbr.2.2.1
      have c1 : wr.cell? ⟨ad.block, ad.off + 2 + 1, none⟩ = some (.int .i64 e1) := hbr.2.2.2
      have hv := hv0 (Nat.le_refl _)
      subst hv
      clear hB hbr hv0 hv1
      cases v1
      · go_wp2_with fail
        refine (notValid_c m1 e1 _ H1.out _).mono ?_
        rintro en w1 ⟨rfl, hb⟩
        have hB : Below w.heap.size w w1 := HB2.out.trans (hb.mono HB2.out.size)
        clear hb
        go_wp2
        go_ret
        exact ⟨rfl, hB⟩
      · go_wp2_with fail
        refine (notValid_c m1 e1 _ H1.out _).mono ?_
        rintro en w1 ⟨rfl, hb⟩
        have hB : Below w.heap.size w w1 := HB2.out.trans (hb.mono HB2.out.size)
        clear hb
        go_wp2
        go_roundg (gk - 1)
        case measure => omega
        case rel => exact ⟨2, by omega, rfl, hB, fun _ => trivial, fun _ => trivial⟩
    · subst h
      have hva := hv0 (by omega)
      have hvb := hv1 (by omega)
      subst hva hvb
      clear hbr hv0 hv1
      go_wp2
      go_ret
      exact ⟨rfl, hB⟩
    · subst h
      have hva := hv0 (by omega)
      have hvb := hv1 (by omega)
      subst hva hvb
      clear hbr hv0 hv1
      go_wp2
      go_ret
      exact ⟨rfl, hB⟩
theorem contains2g_c (ad : Addr) (c : Nat) (m0 e0 m1 e1 : Int) (v0 v1 : Bool) (h0 : real_Valid.f m0 e0 = some v0) (h1 : real_Valid.f m1 e1 = some v1) (w : World)
    (hb : w.cell? (ad.add 0) = some (.int .i64 m0) ∧ w.cell? (ad.add 1) = some (.int .i64 e0) ∧ w.cell? (ad.add 2) = some (.int .i64 m1) ∧ w.cell? (ad.add 3) = some (.int .i64 e1)) :
    Calls Tryz.prog 143 #[.slice (some ad) 2 c, .func (.func 144) #[] #[]] w fun en w' => en = .returned (.bool (!(v0 && v1))) ∧ Below w.heap.size w w' := by
  have H := Lib.hid (index2g_c ad c m0 e0 m1 e1 v0 v1 h0 h1 w hb)
  clear h0 h1 hb
  go_enter Tryz.func143, Tryz.ntmps143
  go_wp2_with fail
  refine H.out.mono ?_
  rintro en w1 ⟨rfl, hB⟩
  clear H
  rcases v0 with _ | _ <;> rcases v1 with _ | _ <;> (go_wp2; go_ret; exact ⟨rfl, hB⟩)
theorem all2g_c (ad : Addr) (c : Nat) (m0 e0 m1 e1 : Int) (v0 v1 : Bool) (h0 : real_Valid.f m0 e0 = some v0) (h1 : real_Valid.f m1 e1 = some v1) (w : World)
    (hb : w.cell? (ad.add 0) = some (.int .i64 m0) ∧ w.cell? (ad.add 1) = some (.int .i64 e0) ∧ w.cell? (ad.add 2) = some (.int .i64 m1) ∧ w.cell? (ad.add 3) = some (.int .i64 e1)) :
    Calls Tryz.prog 99 #[.slice (some ad) 2 c] w fun en w' => en = .returned (.bool (v0 && v1)) ∧ Below w.heap.size w w' := by
  have H := Lib.hid (contains2g_c ad c m0 e0 m1 e1 v0 v1 h0 h1 w hb)
  clear h0 h1 hb
  go_enter Tryz.func99, Tryz.ntmps99
  go_wp2_with fail
  refine H.out.mono ?_
  rintro en w1 ⟨rfl, hB⟩
  clear H
  rcases v0 with _ | _ <;> rcases v1 with _ | _ <;> (go_wp2; go_ret; exact ⟨rfl, hB⟩)
end Go.Proofs.YteigbokklclmbaaGreatDoor.Z
end
section
namespace Go.Proofs.YteigbokklclmbaaGreatDoor.Z.Y.Q
open Go.RowKit Go.Proofs.YteigbokklclmbaaGreatDoor.Given Go.Proofs.YteigbokklclmbaaGreatDoorW.PrintWords Go.Proofs.YteigbokklclmbaaGreatDoorW.PrintLast Go.Proofs.YteigbokklclmbaaGreatDoorW.PrintMore
attribute [local go_sem] max2_int min2_int max_two min_two max_three min_three max_four min_four   -- for this text's walks alone



def errW : Option Int → Value
  | none => .nilIface
  | some c => .iface 0 (.int .i64 c)
theorem errW_none : errW none = .nilIface := rfl
theorem errW_some (c : Int) : errW (some c) = .iface 0 (.int .i64 c) := rfl

-- the values' own types
structure S23 where
  f0 : Int
  f1 : Int
def z23 : S23 := ⟨(0 : Int), (0 : Int)⟩
def k23 : Kd S23 := Kd.iso (Kd.pair (Kd.int .i64) (Kd.int .i64)) (fun x : S23 => (x.f0, x.f1))
theorem k23_open {w : World} {x : S23} {cs : List Value} (h : k23.K w x cs) : cs = [.int .i64 x.f0, .int .i64 x.f1] := by
  obtain ⟨_, _, rfl, rfl, rfl⟩ := h
  exact rfl
theorem k23_mkM (w : World) (base : Nat) (ok : Nat → Prop) (x : S23)  : k23.M w base ok x [.int .i64 x.f0, .int .i64 x.f1] := ⟨[.int .i64 x.f0], [.int .i64 x.f1], rfl, rfl, rfl⟩
def rd_T23 (xs : List S23) (i : Int) : S23 := xs.getD i.toNat z23
theorem at_T23 {w : World} {A : Option Addr} {n : Nat} {xs : List S23} (h : Kd.C k23 w A n xs) (i : Int) (h0 : 0 ≤ i) (h1 : i < n) : ∃ ad , A = some ad ∧ w.cell? (ad.add (i.toNat * 2)) = some (.int .i64 (rd_T23 xs i).f0) ∧ w.cell? ⟨(ad.add (i.toNat * 2)).block, (ad.add (i.toNat * 2)).off + 1, none⟩ = some (.int .i64 (rd_T23 xs i).f1) := by
  obtain ⟨ad, c, e, _, hK, hc0⟩ := Kd.C_get h z23 i h0 h1
  have hc : ∀ j u, c[j]? = some u → w.cell? (ad.add (i.toNat * 2 + j)) = some u := hc0
  obtain rfl := k23_open hK
  exact ⟨ad, e, hc 0 _ rfl, by rw [← add_field _ _ 1 (by omega)]; exact hc 1 _ rfl⟩

end Go.Proofs.YteigbokklclmbaaGreatDoor.Z.Y.Q
end
section
namespace Go.Proofs.YteigbokklclmbaaGreatDoor.Z.Y.Q
open Go Go.RowKit Go.Proofs.YteigbokklclmbaaGreatDoor.Given Go.Proofs.YteigbokklclmbaaGreatDoorW.PrintWords Go.Proofs.YteigbokklclmbaaGreatDoorW.PrintLast Go.Proofs.YteigbokklclmbaaGreatDoorW.PrintMore
def real_all.f : List S23 → Option Bool
  | [a, b] => (real_Valid.f a.f0 a.f1).bind fun v0 => (real_Valid.f b.f0 b.f1).bind fun v1 => some (v0 && v1)
  | _ => none
theorem real_all.calls (A : Option Addr) (c : Nat) (xs : List S23) (r : Bool) (w : World) (HC : Kd.C k23 w A xs.length xs) (hc : xs.length ≤ c) (h : real_all.f xs = some r) :
    Calls Tryz.prog 99 #[.slice A xs.length c] w fun e w' => e = .returned (.bool r) ∧ Below w.heap.size w w' := by
  match xs, HC, hc, h with
  | [a, b], HC, hc, h =>
    obtain ⟨v0, h0, h⟩ := Option.bind_eq_some_iff.mp h
    obtain ⟨v1, h1, h⟩ := Option.bind_eq_some_iff.mp h
    obtain ⟨ad, e, c0, c1⟩ := at_T23 HC 0 (by decide) (by simp)
    obtain ⟨ad', e', c2, c3⟩ := at_T23 HC 1 (by decide) (by simp)
    subst e
    cases e'
    cases h
    exact all2g_c ad c a.f0 a.f1 b.f0 b.f1 v0 v1 h0 h1 w ⟨c0, c1, c2, c3⟩
  | [], _, _, h => cases h
  | [_], _, _, h => cases h
  | _ :: _ :: _ :: _, _, _, h => cases h
end Go.Proofs.YteigbokklclmbaaGreatDoor.Z.Y.Q
end
section
namespace Go.Proofs.YteigbokklclmbaaGreatDoor.Z.Y.Q
open Go.RowKit Go.Proofs.YteigbokklclmbaaGreatDoor.Given Go.Proofs.YteigbokklclmbaaGreatDoorW.PrintWords Go.Proofs.YteigbokklclmbaaGreatDoorW.PrintLast Go.Proofs.YteigbokklclmbaaGreatDoorW.PrintMore
attribute [local go_sem] max2_int min2_int max_two min_two max_three min_three max_four min_four   -- for this text's walks alone

def real_Cmp.f (a0_0 : Int) (a0_1 : Int) (a1_0 : Int) (a1_1 : Int) : Option (Int × Int) := (real_all.f (([(⟨a0_0, a0_1⟩ : S23), (⟨a1_0, a1_1⟩ : S23)] : List (S23)))).bind fun t106 => (if t106 = true then ((real_index.f a0_0 a0_1).bind fun t107 => ((real_index.f a1_0 a1_1).bind fun t108 => ((real_sign.f (wrap64 (t107 - t108))).bind fun t109 => (some (t109, 0))))) else (some (0, 1)))
def real_Cmp.T3 : Bool × List (List Nat × List Nat) := (true, [([], []), ([0], [0]), ([], []), ([2, 1], [2]), ([1, 3], [1, 3]), ([4, 3], [4]), ([5, 5, 0, 1, 2, 3, 4, 5], [5]), ([6, 0, 1, 2, 3, 4, 5, 6], [])])
def real_Cmp.B3 : List Nat := [0, 1, 0, 7, 15, 31, 63, 127]
theorem real_Cmp.tab3 : rtab .any (opsOf Tryz.f48 3) = real_Cmp.T3 := by kernel_rfl
theorem real_Cmp.bits3 : waitsOk real_Cmp.T3.2 real_Cmp.B3 = true := by kernel_rfl
theorem real_Cmp.calls (a0_0 : Int) (a0_1 : Int) (a1_0 : Int) (a1_1 : Int) (r1 : Int) (r2 : Int) (w : World) (h : real_Cmp.f a0_0 a0_1 a1_0 a1_1 = some (r1, r2)) :
  Calls Tryz.prog 48 #[.agg #[.int .i64 a0_0, .int .i64 a0_1], .agg #[.int .i64 a1_0, .int .i64 a1_1]] w fun e w' => e = .returned (.tuple #[.int .i64 r1, .int .i64 r2]) ∧ Below w.heap.size w w' := by
 have hu23 := Tryz.underlying23
 have HB := Aside0.mk (Below.refl w.heap.size w)
 have H := h; unfold real_Cmp.f at H; clear h
 obtain ⟨y103, hy103⟩ : ∃ y_ : List (S23), y_ = (([(⟨a0_0, a0_1⟩ : S23), (⟨a1_0, a1_1⟩ : S23)] : List (S23))) := ⟨_, rfl⟩
 replace H : ((real_all.f y103).bind fun t106 => (if t106 = true then ((real_index.f a0_0 a0_1).bind fun t107 => ((real_index.f a1_0 a1_1).bind fun t108 => ((real_sign.f (wrap64 (t107 - t108))).bind fun t109 => (some (t109, 0))))) else (some (0, 1)))) = some (r1, r2) := by first | (rw [hy103]; with_reducible exact H) | (have H2_ := (Option.bind_some _ _).symm.trans H; rw [hy103]; with_reducible exact H2_) | (have H2_ := (Option.bind_some _ _).symm.trans H; with_reducible exact H2_) | with_reducible exact H | (rw [hy103]; exact H) | exact H
 have Ny103 := Aside0.mk hy103
 clear hy103
 replace H := Option.bind_eq_some_iff.mp H
 obtain ⟨t106, A30, H⟩ := H
 try dsimp only at H
 have A3 := Aside0.mk A30
 clear A30
 by_cases c4 : t106 = true
 ·subst c4
  rw [if_pos rfl] at H
  replace H := Option.bind_eq_some_iff.mp H
  obtain ⟨t107, A50, H⟩ := H
  try dsimp only at H
  have A5 := Aside0.mk A50
  clear A50
  replace H := Option.bind_eq_some_iff.mp H
  obtain ⟨t108, A60, H⟩ := H
  try dsimp only at H
  have A6 := Aside0.mk A60
  clear A60
  replace H := Option.bind_eq_some_iff.mp H
  obtain ⟨t109, A70, H⟩ := H
  try dsimp only at H
  have A7 := Aside0.mk A70
  clear A70
  simp only [Option.some.injEq, Prod.mk.injEq] at H
  obtain ⟨rfl, rfl⟩ := H
  go_enter Tryz.func48, Tryz.ntmps48
  try go_wp2_with (first | ((with_reducible refine gate_dst (N := 2) rfl ?_); refine box_event ?hg (N := 2) ?hd (cs := #[.int .i64 a0_0, .int .i64 a0_1]) (t := 23) ?hr ?_; (case hd => rfl); (case hg => rfl); (case hr => first | (go_simp; done) | (go_simp; rfl)); intro gb101 hg w8 hbox hb; have BK101 := Aside0.mk hbox; have GW101 := ge hg; have GE101 := ge hg; replace HB := bs hb; clear hb hbox hg) | ((with_reducible refine gate_dst (N := 3) rfl ?_); refine box_event ?hg (N := 3) ?hd (cs := #[.int .i64 a1_0, .int .i64 a1_1]) (t := 23) ?hr ?_; (case hd => rfl); (case hg => rfl); (case hr => first | (go_simp; done) | (go_simp; rfl)); intro gb102 hg w9 hbox hb; have BK102 := Aside0.mk hbox; have GW102 := ge hg; have GE102 := ge hg; have NB101_102 := nl BK101 hg; have NB102_101 := nr BK101 hg; replace BK101 := kb BK101 hb; replace HB := bs hb; clear hb hbox hg; have hnb10 := NB101_102.out; have hnc10 := NB102_101.out; have hcz11_0 := Given.c20 BK101; have hcz11_1 := Given.c21 BK101; have hfz11_0 := blk_frozen BK101.out 0; have hfz11_1 := blk_frozen BK101.out 1; have hcz12_0 := Given.c20 BK102; have hcz12_1 := Given.c21 BK102; have hfz12_0 := blk_frozen BK102.out 0; have hfz12_1 := blk_frozen BK102.out 1) | ((with_reducible refine gate_dst (N := 8) rfl ?_); refine Kd.R_lit k23 _ 23 ?hg (N := 8) ?hd (xs := ([(⟨a0_0, a0_1⟩ : S23), (⟨a1_0, a1_1⟩ : S23)] : List (S23))) (inner := [.int .i64 a0_0, .int .i64 a0_1, .int .i64 a1_0, .int .i64 a1_1]) (ok := fun _ => True) (okp := fun _ => True) ?hr ?hp (fun _ hk => hk) trivial (Below.refl _ _) (Nat.le_refl _) (by simp) ?_; (case hd => rfl); (case hg => rfl); (case hr => first | (go_simp; done) | (go_simp; rfl)); (case hp => exact (Reps.c2 (show Kd.M k23 _ _ _ (⟨a0_0, a0_1⟩ : S23) [.int .i64 a0_0, .int .i64 a0_1] from (k23_mkM _ _ _ (⟨a0_0, a0_1⟩ : S23) )) (Reps.c2 (show Kd.M k23 _ _ _ (⟨a1_0, a1_1⟩ : S23) [.int .i64 a1_0, .int .i64 a1_1] from (k23_mkM _ _ _ (⟨a1_0, a1_1⟩ : S23) )) (Reps.none _ _)))); intro v104 w13 ho14 hb hg_ hnew_; clear hg_ hnew_; (first | rw [← Ny103.out] at ho14 | (simp only [Int.reduceToNat] at ho14; rw [← Ny103.out] at ho14)); have HO105 := Aside0.mk (Kd.R_lower (Kd.R_newB (Kd.R_newB ho14 (g := gb101) (o := .cells #[.int .i64 a0_0, .int .i64 a0_1] 23 (0, 0)) (kz BK101)) (g := gb102) (o := .cells #[.int .i64 a1_0, .int .i64 a1_1] 23 (0, 0)) (kz BK102)) (below_size bz)); replace BK101 := kb BK101 hb; replace BK102 := kb BK102 hb; replace HB := bs hb; clear hb ho14; obtain ⟨Ao15, co15, eo15⟩ := Kd.R_slice HO105.out; subst eo15) | ((with_reducible refine gate_callee (f := 99) rfl ?_); refine goesL_ (some 9) rfl rfl Tryz.func99 (by kernel_rfl) rfl #[.slice Ao15 y103.length co15] rfl az ?_; (with_reducible refine (real_all.calls _ _ y103 true _ ?side1 ?side2 A3.out).mono ?_); (case side1 => exact ccz (Kd.R_reads' HO105.out).2.2); (case side2 => exact (Kd.R_reads' HO105.out).2.1); rintro e w16 ⟨rfl, hb⟩; refine ⟨_, rfl, ?_⟩; replace HO105 := rb HO105 hb; replace BK101 := kb BK101 hb; replace BK102 := kb BK102 hb; replace HB := bs hb; (try clear hb); (try clear hk)))
  replace HO105 := Aside0.mk (Kd.R_drew HO105.out)
  replace BK101 := Aside0.mk (blk_drew BK101.out)
  replace BK102 := Aside0.mk (blk_drew BK102.out)
  replace HB := Aside0.mk (below_drew1 HB.out)
  refine start_ (n := 8) (S := fun w' => w'.cell? ⟨gb101, 0, none⟩ = some (.int .i64 a0_0) ∧ w'.cell? ⟨gb101, 1, none⟩ = some (.int .i64 a0_1) ∧ w'.cell? ⟨gb102, 0, none⟩ = some (.int .i64 a1_0) ∧ w'.cell? ⟨gb102, 1, none⟩ = some (.int .i64 a1_1)) (ds := []) #[false, false, false, false, false, false, false, false] (by kernel_rfl) rfl rfl ⟨(blk_cell BK101.out 0).trans rfl, (blk_cell BK101.out 1).trans rfl, (blk_cell BK102.out 0).trans rfl, (blk_cell BK102.out 1).trans rfl⟩ (fun hHeld => ?_); refine with_tabW real_Cmp.tab3 real_Cmp.bits3 (fun HT_ HW_ => ?_)
  generalize w16.drew = w17 at HO105 BK101 BK102 HB hHeld ⊢
  refine tk4 0 (some 11) #[tt,ff,ff,ff,ff,ff,ff,ff] ?_
  refine tk4 2 (some 13) #[tt,ff,tt,ff,ff,ff,ff,ff] ?_
  refine one_ (i := 1) (N := some 12) #[true, true, true, false, false, false, false, false] rfl rfl (one_of HT_.out (by kernel_rfl)) (by decide) (fun K hK => ?_)
  refine goes_ Tryz.func110 (by kernel_rfl) rfl #[.agg #[.int .i64 a0_0, .int .i64 a0_1]] (by rfl) rfl rfl az ?_
  with_reducible refine (real_index.calls a0_0 a0_1 t107 _ A5.out).mono ?_
  rintro e w18 ⟨rfl, hb⟩
  refine ⟨_, rfl, ?_⟩
  replace HO105 := rb HO105 hb
  replace BK101 := kb BK101 hb
  replace BK102 := kb BK102 hb
  replace HB := bs hb
  (try clear hb)
  (try clear hk)
  refine hK.out _ _ ⟨(blk_cell BK101.out 0).trans rfl, (blk_cell BK101.out 1).trans rfl, (blk_cell BK102.out 0).trans rfl, (blk_cell BK102.out 1).trans rfl⟩ (fun hHeld => ?_)
  clear hK K
  refine norm_ (a' := ?_) ?_ ?_
  rotate_left
  ·show Act.put _ (some 12) _ = _
   simp only [Act.put, List.setIfInBounds_toArray, List.set_cons_zero, List.set_cons_succ, i64_w, i32_w]
   rfl
  refine one_ (i := 3) (N := some 14) #[true, true, true, true, false, false, false, false] rfl rfl (one_of HT_.out (by kernel_rfl)) (by decide) (fun K hK => ?_)
  refine goes_ Tryz.func110 (by kernel_rfl) rfl #[.agg #[.int .i64 a1_0, .int .i64 a1_1]] (by rfl) rfl rfl az ?_
  with_reducible refine (real_index.calls a1_0 a1_1 t108 _ A6.out).mono ?_
  rintro e w19 ⟨rfl, hb⟩
  refine ⟨_, rfl, ?_⟩
  replace HO105 := rb HO105 hb
  replace BK101 := kb BK101 hb
  replace BK102 := kb BK102 hb
  replace HB := bs hb
  (try clear hb)
  (try clear hk)
  refine hK.out _ _ ⟨(blk_cell BK101.out 0).trans rfl, (blk_cell BK101.out 1).trans rfl, (blk_cell BK102.out 0).trans rfl, (blk_cell BK102.out 1).trans rfl⟩ (fun hHeld => ?_)
  clear hK K
  refine norm_ (a' := ?_) ?_ ?_
  rotate_left
  ·show Act.put _ (some 14) _ = _
   simp only [Act.put, List.setIfInBounds_toArray, List.set_cons_zero, List.set_cons_succ, i64_w, i32_w]
   rfl
  refine pur 4 (some 15) #[tt,tt,tt,tt,tt,ff,ff,ff] ?_
  refine one_ (i := 5) (N := some 16) #[true, true, true, true, true, true, false, false] rfl rfl (one_of HT_.out (by kernel_rfl)) (by decide) (fun K hK => ?_)
  refine goes_ Tryz.func109 (by kernel_rfl) rfl #[.int .i64 (wrap64 (t107 - t108))] (by rfl) rfl rfl az ?_
  with_reducible refine (real_sign.calls (wrap64 (t107 - t108)) t109 _ A7.out).mono ?_
  rintro e w' ⟨rfl, ⟨nd, rfl⟩⟩
  refine ⟨_, rfl, ?_⟩
  refine hK.out _ _ ⟨(blk_cell BK101.out 0).trans rfl, (blk_cell BK101.out 1).trans rfl, (blk_cell BK102.out 0).trans rfl, (blk_cell BK102.out 1).trans rfl⟩ (fun hHeld => ?_)
  clear hK K
  refine norm_ (a' := ?_) ?_ ?_
  rotate_left
  ·show Act.put _ (some 16) _ = _
   simp only [Act.put, List.setIfInBounds_toArray, List.set_cons_zero, List.set_cons_succ, i64_w, i32_w]
   rfl
  refine pur 6 (some 4) #[tt,tt,tt,tt,tt,tt,tt,ff] ?_
  refine pur 7 (some 5) #[tt,tt,tt,tt,tt,tt,tt,tt] ?_
  refine done_ (done_of HT_.out (by kernel_rfl)) ?_
  try go_wp2
  go_ret2
  exact ⟨by first | rfl | (simp [errW_none, errW_some] <;> rfl) | (simp [*, errW_none, errW_some] <;> rfl), bz⟩
 ·replace c4 := Bool.eq_false_iff.mpr c4
  subst c4
  rw [if_neg (show ¬ (false = true) by decide)] at H
  simp only [Option.some.injEq, Prod.mk.injEq] at H
  obtain ⟨rfl, rfl⟩ := H
  go_enter Tryz.func48, Tryz.ntmps48
  go_wp2_with (first | ((with_reducible refine gate_dst (N := 2) rfl ?_); refine box_event ?hg (N := 2) ?hd (cs := #[.int .i64 a0_0, .int .i64 a0_1]) (t := 23) ?hr ?_; (case hd => rfl); (case hg => rfl); (case hr => first | (go_simp; done) | (go_simp; rfl)); intro gb101 hg w20 hbox hb; have BK101 := Aside0.mk hbox; have GW101 := ge hg; have GE101 := ge hg; replace HB := bs hb; clear hb hbox hg) | ((with_reducible refine gate_dst (N := 3) rfl ?_); refine box_event ?hg (N := 3) ?hd (cs := #[.int .i64 a1_0, .int .i64 a1_1]) (t := 23) ?hr ?_; (case hd => rfl); (case hg => rfl); (case hr => first | (go_simp; done) | (go_simp; rfl)); intro gb102 hg w21 hbox hb; have BK102 := Aside0.mk hbox; have GW102 := ge hg; have GE102 := ge hg; have NB101_102 := nl BK101 hg; have NB102_101 := nr BK101 hg; replace BK101 := kb BK101 hb; replace HB := bs hb; clear hb hbox hg; have hnb22 := NB101_102.out; have hnc22 := NB102_101.out; have hcz23_0 := Given.c20 BK101; have hcz23_1 := Given.c21 BK101; have hfz23_0 := blk_frozen BK101.out 0; have hfz23_1 := blk_frozen BK101.out 1; have hcz24_0 := Given.c20 BK102; have hcz24_1 := Given.c21 BK102; have hfz24_0 := blk_frozen BK102.out 0; have hfz24_1 := blk_frozen BK102.out 1) | ((with_reducible refine gate_dst (N := 8) rfl ?_); refine Kd.R_lit k23 _ 23 ?hg (N := 8) ?hd (xs := ([(⟨a0_0, a0_1⟩ : S23), (⟨a1_0, a1_1⟩ : S23)] : List (S23))) (inner := [.int .i64 a0_0, .int .i64 a0_1, .int .i64 a1_0, .int .i64 a1_1]) (ok := fun _ => True) (okp := fun _ => True) ?hr ?hp (fun _ hk => hk) trivial (Below.refl _ _) (Nat.le_refl _) (by simp) ?_; (case hd => rfl); (case hg => rfl); (case hr => first | (go_simp; done) | (go_simp; rfl)); (case hp => exact (Reps.c2 (show Kd.M k23 _ _ _ (⟨a0_0, a0_1⟩ : S23) [.int .i64 a0_0, .int .i64 a0_1] from (k23_mkM _ _ _ (⟨a0_0, a0_1⟩ : S23) )) (Reps.c2 (show Kd.M k23 _ _ _ (⟨a1_0, a1_1⟩ : S23) [.int .i64 a1_0, .int .i64 a1_1] from (k23_mkM _ _ _ (⟨a1_0, a1_1⟩ : S23) )) (Reps.none _ _)))); intro v104 w25 ho26 hb hg_ hnew_; clear hg_ hnew_; (first | rw [← Ny103.out] at ho26 | (simp only [Int.reduceToNat] at ho26; rw [← Ny103.out] at ho26)); have HO105 := Aside0.mk (Kd.R_lower (Kd.R_newB (Kd.R_newB ho26 (g := gb101) (o := .cells #[.int .i64 a0_0, .int .i64 a0_1] 23 (0, 0)) (kz BK101)) (g := gb102) (o := .cells #[.int .i64 a1_0, .int .i64 a1_1] 23 (0, 0)) (kz BK102)) (below_size bz)); replace BK101 := kb BK101 hb; replace BK102 := kb BK102 hb; replace HB := bs hb; clear hb ho26; obtain ⟨Ao27, co27, eo27⟩ := Kd.R_slice HO105.out; subst eo27) | ((with_reducible refine gate_callee (f := 99) rfl ?_); refine goesL_ (some 9) rfl rfl Tryz.func99 (by kernel_rfl) rfl #[.slice Ao27 y103.length co27] rfl az ?_; (with_reducible refine (real_all.calls _ _ y103 false _ ?side1 ?side2 A3.out).mono ?_); (case side1 => exact ccz (Kd.R_reads' HO105.out).2.2); (case side2 => exact (Kd.R_reads' HO105.out).2.1); rintro e w28 ⟨rfl, hb⟩; refine ⟨_, rfl, ?_⟩; replace HO105 := rb HO105 hb; replace BK101 := kb BK101 hb; replace BK102 := kb BK102 hb; replace HB := bs hb; (try clear hb); (try clear hk)))
  go_ret2
  exact ⟨by first | rfl | (simp [errW_none, errW_some] <;> rfl) | (simp [*, errW_none, errW_some] <;> rfl), bz⟩

end Go.Proofs.YteigbokklclmbaaGreatDoor.Z.Y.Q
end
section
namespace Go.Proofs.YteigbokklclmbaaGreatDoor.M
open Go Go.RowKit Go.Proofs.YteigbokklclmbaaGreatDoor.Given Go.Proofs.YteigbokklclmbaaGreatDoorW.PrintWords Go.Proofs.YteigbokklclmbaaGreatDoorW.PrintLast Go.Proofs.YteigbokklclmbaaGreatDoorW.PrintMore Go.Proofs.YteigbokklclmbaaGreatDoor.Z Go.Proofs.YteigbokklclmbaaGreatDoor.Z.Y Go.Proofs.YteigbokklclmbaaGreatDoor.Z.Y.Q
/-- The range of the indices. -/
def IR (n : Int) : Prop := -2533359615 ≤ n ∧ n ≤ 2533359615
/-- The real with a signed index. -/
def rl (n : Int) : Int × Int := sgn (decide (n < 0)) (atI n.natAbs)
/-- The signed index of a real. -/
def sx (a b : Int) : Int := if a < 0 then -((ix a b : Nat) : Int) else ((ix a b : Nat) : Int)
theorem abs_mx (n : Int) (h : IR n) : mx n (wrap64 (-n)) = ((n.natAbs : Nat) : Int) := mag_abs n (by have := h.1; omega) (by have := h.2; omega)
theorem at_ev {n : Int} (h : IR n) : real_at.f n = some (rl n) := by
  obtain ⟨h0, h1⟩ := h
  have hm := abs_mx n ⟨h0, h1⟩
  unfold real_at.f rl
  rw [hm]
  generalize hN : n.natAbs = N at *
  have hb := atI_bd N (by omega)
  by_cases hs : ((N : Nat) : Int) < 16777216
  · rw [if_pos hs]
    by_cases hz : ((N : Nat) : Int) = 0
    · rw [if_pos hz]
      have : N = 0 := by omega
      subst this
      unfold sgn atI; rw [if_pos rfl]
      split <;> rfl
    · rw [if_neg hz, signed_is (decide (n < 0)) (((N : Nat) : Int), -150)]
      have e1 : sh N = 0 := by unfold sh; omega
      have e2 : man N = N := by unfold man; rw [e1]; omega
      have e3 : atI N = (((N : Nat) : Int), -150) := by unfold atI; rw [if_neg (by omega), e1, e2]; rfl
      rw [e3]
      unfold sgn
      show some ((if decide (n < 0) = true then wrap64 (-((N : Nat) : Int)) else ((N : Nat) : Int)), (-150 : Int)) = _
      rw [w64 (-((N : Nat) : Int)) (by omega) (by omega)]
  · rw [if_neg hs]
    have e1 : Int.tmod ((N : Nat) : Int) 8388608 = ((N % 8388608 : Nat) : Int) := by rw [Int.tmod_eq_emod_of_nonneg (by omega)]; omega
    have e2 : Int.tdiv ((N : Nat) : Int) 8388608 = ((N / 8388608 : Nat) : Int) := by rw [Int.tdiv_eq_ediv_of_nonneg (by omega)]; omega
    have e3 : wrap64 (((N % 8388608 : Nat) : Int) + 8388608) = ((man N : Nat) : Int) := by
      rw [w64 _ (by omega) (by omega)]; unfold man sh; omega
    have e4 : wrap64 (wrap64 (wrap64 ((N / 8388608 : Nat) : Int) - 1) + -150) = ((sh N : Nat) : Int) - 150 := by
      rw [w64 ((N / 8388608 : Nat) : Int) (by omega) (by omega), w64 (((N / 8388608 : Nat) : Int) - 1) (by omega) (by omega), w64 _ (by omega) (by omega)]
      unfold sh; omega
    rw [e1, e2, e3, e4, signed_is (decide (n < 0)) (((man N : Nat) : Int), ((sh N : Nat) : Int) - 150)]
    have e5 : atI N = (((man N : Nat) : Int), ((sh N : Nat) : Int) - 150) := by unfold atI; rw [if_neg (by omega)]
    have hmb := man_bd N
    rw [e5]
    unfold sgn
    show some ((if decide (n < 0) = true then wrap64 (-((man N : Nat) : Int)) else ((man N : Nat) : Int)), ((sh N : Nat) : Int) - 150) = _
    rw [w64 (-((man N : Nat) : Int)) (by omega) (by omega)]
theorem At_ev {n : Int} (h : IR n) : real_At.f n = some ((rl n).1, (rl n).2, 0) := by
  unfold real_At.f; rw [if_neg (by have := h.1; omega), if_neg (by have := h.2; omega), at_ev h]; rfl
theorem tmod_IR (i : Int) : IR (Int.tmod i 2533359616) := by
  have h1 := Int.tmod_lt_of_pos i (show (0 : Int) < 2533359616 by decide)
  have h2 : -2533359616 < Int.tmod i 2533359616 := by
    rcases Int.lt_or_le i 0 with h | h
    · have e : i = -(-i) := by omega
      rw [e, Int.neg_tmod]
      have := Int.tmod_lt_of_pos (-i) (show (0 : Int) < 2533359616 by decide)
      omega
    · have := Int.tmod_nonneg 2533359616 h; omega
  exact ⟨by omega, by omega⟩
theorem law_at_ev (i : Int) : manorboylaw02_at.f i = some (rl (Int.tmod i 2533359616)) := by
  unfold manorboylaw02_at.f; rw [At_ev (tmod_IR i)]; rfl
theorem rl_bd {n : Int} (h : IR n) : -16777216 < (rl n).1 ∧ (rl n).1 < 16777216 ∧ -150 ≤ (rl n).2 ∧ (rl n).2 ≤ 150 := by
  obtain ⟨h0, h1⟩ := h
  have := atI_bd n.natAbs (by omega)
  unfold rl sgn; split <;> (dsimp only; omega)
theorem rl_64 {n : Int} (h : IR n) : I64 (rl n).1 := by have := rl_bd h; exact ⟨by omega, by omega⟩
theorem rl_abs {n : Int} (h : IR n) : ((rl n).1.natAbs : Int) = (atI n.natAbs).1 ∧ (rl n).2 = (atI n.natAbs).2 := by
  obtain ⟨h0, h1⟩ := h
  have := atI_bd n.natAbs (by omega)
  unfold rl sgn; split <;> (dsimp only; omega)
theorem rl_VR {n : Int} (h : IR n) : VR (rl n).1 (rl n).2 := by
  have hb := rl_bd h
  have ha := rl_abs h
  obtain ⟨h0, h1⟩ := h
  unfold VR
  rw [mag_abs (rl n).1 (by omega) (by omega), ha.1, ha.2]
  unfold atI
  have hm := man_bd n.natAbs
  by_cases hz : n.natAbs = 0
  · left
    have hn : n = 0 := by omega
    subst hn
    exact ⟨rfl, rfl⟩
  · right
    rw [if_neg hz]
    show 1 ≤ ((man n.natAbs : Nat) : Int) ∧ ((man n.natAbs : Nat) : Int) < 16777216 ∧ (((sh n.natAbs : Nat) : Int) - 150 = -150 ∨ (8388608 ≤ ((man n.natAbs : Nat) : Int) ∧ -150 < ((sh n.natAbs : Nat) : Int) - 150 ∧ ((sh n.natAbs : Nat) : Int) - 150 ≤ 150))
    have hN : n.natAbs ≤ 2533359615 := by omega
    clear ha
    generalize n.natAbs = N at *
    unfold man sh
    omega
theorem ix_rl {n : Int} (h : IR n) : ix (rl n).1 (rl n).2 = n.natAbs := by
  have hb := rl_bd h
  have ha := rl_abs h
  obtain ⟨h0, h1⟩ := h
  unfold ix
  by_cases hz : n.natAbs = 0
  · have hn : n = 0 := by omega
    subst hn; rfl
  · have e5 : atI n.natAbs = (((man n.natAbs : Nat) : Int), ((sh n.natAbs : Nat) : Int) - 150) := by unfold atI; rw [if_neg hz]
    rw [e5] at ha
    obtain ⟨h2, h3⟩ := ha
    have h2 : ((rl n).1.natAbs : Int) = ((man n.natAbs : Nat) : Int) := h2
    have h3 : (rl n).2 = ((sh n.natAbs : Nat) : Int) - 150 := h3
    have hm : man n.natAbs ≠ 0 := by unfold man sh; omega
    rw [if_neg (by omega), h3]
    have : man n.natAbs + sh n.natAbs * 8388608 = n.natAbs := by unfold man sh; omega
    omega
theorem sx_IR {a b : Int} (hw : I64 a) (h : VR a b) : IR (sx a b) := by
  have := ix_le hw h
  unfold sx; exact ⟨by split <;> omega, by split <;> omega⟩
theorem index_ev {a b : Int} (hw : I64 a) (h : VR a b) : real_index.f a b = some (sx a b) := by
  obtain ⟨h1, h2, h3⟩ := VR.rc hw h
  have hm := mag_abs a (by omega) (by omega)
  unfold real_index.f sx ix
  by_cases h0 : a = 0
  · rw [if_pos h0, if_pos h0, if_neg (by omega)]; rfl
  · rw [if_neg h0, if_neg h0, hm, w64 (b - -150) (by omega) (by omega), w64 ((b - -150) * 8388608) (by omega) (by omega), w64 (((a.natAbs : Nat) : Int) + (b - -150) * 8388608) (by omega) (by omega)]
    by_cases hn : a < 0
    · rw [if_pos hn, if_pos hn, w64 _ (by omega) (by omega)]; congr 1; omega
    · rw [if_neg hn, if_neg hn]; congr 1; omega
/-- The comparison of two whole numbers. -/
def cmpI (x y : Int) : Int := if x < y then -1 else if x > y then 1 else 0
theorem Cmp_ev {a b c d : Int} (wa : I64 a) (wc : I64 c) (h : VR a b) (h' : VR c d) : real_Cmp.f a b c d = some (cmpI (sx a b) (sx c d), 0) := by
  obtain ⟨h0, h1⟩ := sx_IR wa h
  obtain ⟨h2, h3⟩ := sx_IR wc h'
  unfold real_Cmp.f
  show (((real_Valid.f a b).bind fun v0 => (real_Valid.f c d).bind fun v1 => some (v0 && v1)).bind _) = _
  rw [valid_real, valid_real, decide_eq_true h, decide_eq_true h']
  simp only [Option.bind_some, Bool.and_true]
  rw [if_pos trivial, index_ev wa h, index_ev wc h']
  simp only [Option.bind_some]
  rw [w64 _ (by omega) (by omega)]
  unfold real_sign.f cmpI
  by_cases hl : sx a b - sx c d < 0
  · rw [if_pos hl, if_pos (show sx a b < sx c d by omega)]; rfl
  · by_cases hg : sx a b - sx c d > 0
    · rw [if_neg hl, if_pos hg, if_neg (show ¬ sx a b < sx c d by omega), if_pos (show sx a b > sx c d by omega)]; rfl
    · rw [if_neg hl, if_neg hg, if_neg (show ¬ sx a b < sx c d by omega), if_neg (show ¬ sx a b > sx c d by omega)]; rfl
theorem Valid_ev {a b : Int} (h : VR a b) : real_Valid.f a b = some true := by rw [valid_real, decide_eq_true h]
/-- A signed number. -/
def sval (neg : Bool) (n : Nat) : Int := if neg = true then -(n : Int) else (n : Int)
/-- The value of a real in units of 2^-150. -/
def vv (p q : Int) : Int := p * 2 ^ (q + 150).toNat
theorem vv_sval {a b : Int} (hw : I64 a) (h : VR a b) : vv a b = sval (decide (a < 0)) (G (ix a b)) := by
  rw [ix_G hw h]
  unfold vv sval
  by_cases hn : a < 0
  · rw [if_pos (decide_eq_true hn), Int.natCast_mul, Int.natCast_pow]
    have : ((a.natAbs : Nat) : Int) = -a := by omega
    rw [this, Int.neg_mul, Int.neg_neg]; rfl
  · rw [if_neg (by simpa using hn), Int.natCast_mul, Int.natCast_pow]
    have : ((a.natAbs : Nat) : Int) = a := by omega
    rw [this]; rfl
/-- The value of a rounded result. -/
theorem vv_sgn (neg : Bool) (I : Nat) (h : I ≤ 2533359615) : vv (sgn neg (atI I)).1 (sgn neg (atI I)).2 = sval neg (G I) := by
  unfold vv sgn sval
  have e : (atI I).1 * 2 ^ ((atI I).2 + 150).toNat = ((G I : Nat) : Int) := by
    unfold atI
    by_cases h0 : I = 0
    · rw [if_pos h0, h0, G_zero]; simp
    · rw [if_neg h0]
      show ((man I : Nat) : Int) * 2 ^ (((sh I : Nat) : Int) - 150 + 150).toNat = _
      have : (((sh I : Nat) : Int) - 150 + 150).toNat = sh I := by omega
      rw [this]; unfold G; rw [Int.natCast_mul, Int.natCast_pow]; rfl
  split
  · rw [Int.neg_mul, e]
  · exact e
theorem H_two (I : Nat) : H I = G I + G (I + 1) := rfl
/-- The rounded value is a nearest one among those above 0. -/
theorem Rd.near {N I : Nat} (h : Rd N 1 I) (K : Nat) : ((G I : Int) - N).natAbs ≤ ((G K : Int) - N).natAbs := by
  obtain ⟨h1, h2, h3⟩ := h
  rw [Nat.mul_one] at h2 h3
  rcases Nat.lt_trichotomy K I with hk | hk | hk
  · rcases h1 with h1 | ⟨h1, _⟩
    · omega
    · rw [Nat.mul_one] at h1
      have h4 := G_le (show K ≤ I - 1 by omega)
      have h5 := H_two (I - 1)
      rw [show I - 1 + 1 = I by omega] at h5
      have h6 := G_lt (show I - 1 < I by omega)
      omega
  · rw [hk]; exact Nat.le_refl _
  · have h4 := G_le (show I + 1 ≤ K by omega)
    have h5 := H_two I
    have h6 := G_lt_succ I
    omega
/-- .. and among all. -/
theorem Rd.nearest {N I : Nat} (h : Rd N 1 I) (neg σ : Bool) (K : Nat) : (sval neg (G I) - sval neg N).natAbs ≤ (sval σ (G K) - sval neg N).natAbs := by
  have h1 := Rd.near h K
  have h0 := Rd.near h 0
  rw [G_zero] at h0
  unfold sval
  cases neg <;> cases σ <;> simp only [if_true, if_false, Bool.false_eq_true] <;> omega
end Go.Proofs.YteigbokklclmbaaGreatDoor.M
end
section
namespace Go.Proofs.YteigbokklclmbaaGreatDoor.Z.Y.V
open Go.RowKit Go.Proofs.YteigbokklclmbaaGreatDoor.Given Go.Proofs.YteigbokklclmbaaGreatDoorW.PrintWords Go.Proofs.YteigbokklclmbaaGreatDoorW.PrintLast Go.Proofs.YteigbokklclmbaaGreatDoorW.PrintMore
attribute [local go_sem] max2_int min2_int max_two min_two max_three min_three max_four min_four   -- for this text's walks alone

attribute [local go_sem high] eqA23
def manorboylaw02_equal.f (a0_0 : Int) (a0_1 : Int) (a1 : Int) (a2_0 : Int) (a2_1 : Int) (a3 : Int) : Option (Bool) := if a1 = a3 then (some (a0_0 == a2_0 && (a0_1 == a2_1))) else (some false)
theorem manorboylaw02_equal.calls (a0_0 : Int) (a0_1 : Int) (a1 : Int) (a2_0 : Int) (a2_1 : Int) (a3 : Int) (r : Bool) (w : World) (h : manorboylaw02_equal.f a0_0 a0_1 a1 a2_0 a2_1 a3 = some r) :
  Calls Tryz.prog 50 #[.agg #[.int .i64 a0_0, .int .i64 a0_1], .int .i64 a1, .agg #[.int .i64 a2_0, .int .i64 a2_1], .int .i64 a3] w fun e w' => e = .returned (.bool r) ∧ Below w.heap.size w w' := by
 have hu23 := Tryz.underlying23
 have HB := Aside0.mk (Below.refl w.heap.size w)
 have H := h; unfold manorboylaw02_equal.f at H; clear h
 by_cases c5 : a1 = a3
 ·rw [if_pos c5] at H
  have c5b0 : (a1 == a3) = true := beq_iff_eq.mpr c5
  have c5b1 : (a1 != a3) = false := bne_eq_false_iff_eq.mpr c5
  clear c5
  obtain rfl := Option.some.inj H
  go_enter Tryz.func50, Tryz.ntmps50
  go_wp2_with (first | ((with_reducible refine gate_dst (N := 4) rfl ?_); refine box_event ?hg (N := 4) ?hd (cs := #[.int .i64 a0_0, .int .i64 a0_1]) (t := 23) ?hr ?_; (case hd => rfl); (case hg => rfl); (case hr => first | (go_simp; done) | (go_simp; rfl)); intro gb575 hg w6 hbox hb; have BK575 := Aside0.mk hbox; have GW575 := ge hg; have GE575 := ge hg; replace HB := bs hb; clear hb hbox hg) | ((with_reducible refine gate_dst (N := 6) rfl ?_); refine box_event ?hg (N := 6) ?hd (cs := #[.int .i64 a2_0, .int .i64 a2_1]) (t := 23) ?hr ?_; (case hd => rfl); (case hg => rfl); (case hr => first | (go_simp; done) | (go_simp; rfl)); intro gb576 hg w7 hbox hb; have BK576 := Aside0.mk hbox; have GW576 := ge hg; have GE576 := ge hg; have NB575_576 := nl BK575 hg; have NB576_575 := nr BK575 hg; replace BK575 := kb BK575 hb; replace HB := bs hb; clear hb hbox hg; have hnb8 := NB575_576.out; have hnc8 := NB576_575.out; have hcz9_0 := c20 BK575; have hcz9_1 := c21 BK575; have hfz9_0 := blk_frozen BK575.out 0; have hfz9_1 := blk_frozen BK575.out 1; have hcz10_0 := c20 BK576; have hcz10_1 := c21 BK576; have hfz10_0 := blk_frozen BK576.out 0; have hfz10_1 := blk_frozen BK576.out 1))
  go_ret
  exact ⟨by first | rfl | (simp [errW_none, errW_some] <;> rfl) | (simp [*, errW_none, errW_some] <;> rfl), bz⟩
 ·rw [if_neg c5] at H
  have c5b0 : (a1 == a3) = false := beq_eq_false_iff_ne.mpr c5
  have c5b1 : (a1 != a3) = true := bne_iff_ne.mpr c5
  obtain rfl := Option.some.inj H
  go_enter Tryz.func50, Tryz.ntmps50
  go_wp2_with (first | ((with_reducible refine gate_dst (N := 4) rfl ?_); refine box_event ?hg (N := 4) ?hd (cs := #[.int .i64 a0_0, .int .i64 a0_1]) (t := 23) ?hr ?_; (case hd => rfl); (case hg => rfl); (case hr => first | (go_simp; done) | (go_simp; rfl)); intro gb575 hg w11 hbox hb; have BK575 := Aside0.mk hbox; have GW575 := ge hg; have GE575 := ge hg; replace HB := bs hb; clear hb hbox hg) | ((with_reducible refine gate_dst (N := 6) rfl ?_); refine box_event ?hg (N := 6) ?hd (cs := #[.int .i64 a2_0, .int .i64 a2_1]) (t := 23) ?hr ?_; (case hd => rfl); (case hg => rfl); (case hr => first | (go_simp; done) | (go_simp; rfl)); intro gb576 hg w12 hbox hb; have BK576 := Aside0.mk hbox; have GW576 := ge hg; have GE576 := ge hg; have NB575_576 := nl BK575 hg; have NB576_575 := nr BK575 hg; replace BK575 := kb BK575 hb; replace HB := bs hb; clear hb hbox hg))
  go_ret
  exact ⟨by first | rfl | (simp [errW_none, errW_some] <;> rfl) | (simp [*, errW_none, errW_some] <;> rfl), bz⟩

-- NOT PRINTED: function 12 (manorboylaw02_RealAlgebra)

end Go.Proofs.YteigbokklclmbaaGreatDoor.Z.Y.V
end
section
namespace Go.Proofs.YteigbokklclmbaaGreatDoor.M
open Go Go.RowKit Go.Proofs.YteigbokklclmbaaGreatDoor.Given Go.Proofs.YteigbokklclmbaaGreatDoorW.PrintWords Go.Proofs.YteigbokklclmbaaGreatDoorW.PrintLast Go.Proofs.YteigbokklclmbaaGreatDoorW.PrintMore Go.Proofs.YteigbokklclmbaaGreatDoor.Z Go.Proofs.YteigbokklclmbaaGreatDoor.Z.Y Go.Proofs.YteigbokklclmbaaGreatDoor.Z.Y.V Go.Proofs.YteigbokklclmbaaGreatDoor.Z.Y.Q
theorem sgn_zero (b : Bool) : sgn b (atI 0) = (0, 0) := by cases b <;> rfl
end Go.Proofs.YteigbokklclmbaaGreatDoor.M
end
section
namespace Go.Proofs.YteigbokklclmbaaGreatDoor.M
open Go Go.RowKit Go.Proofs.YteigbokklclmbaaGreatDoor.Given Go.Proofs.YteigbokklclmbaaGreatDoorW.PrintWords Go.Proofs.YteigbokklclmbaaGreatDoorW.PrintLast Go.Proofs.YteigbokklclmbaaGreatDoorW.PrintMore Go.Proofs.YteigbokklclmbaaGreatDoor.Z Go.Proofs.YteigbokklclmbaaGreatDoor.Z.Y Go.Proofs.YteigbokklclmbaaGreatDoor.Z.Y.Q
/-- A mantissa times a power of two is a real. -/
theorem repr_ : ∀ (u m : Nat), m ≤ 16777216 → ∃ I, G I = m * 2 ^ u
  | 0, m, h => ⟨_, G_at m 0 h (.inl rfl)⟩
  | u + 1, m, h => by
    by_cases hm : 8388608 ≤ m
    · exact ⟨_, G_at m (u + 1) h (.inr hm)⟩
    · obtain ⟨I, hI⟩ := repr_ u (2 * m) (by omega)
      exact ⟨I, by rw [hI, Nat.pow_succ]; ac_rfl⟩
theorem sgn_rl (neg : Bool) (I : Nat) : sgn neg (atI I) = rl (if neg = true then -((I : Nat) : Int) else ((I : Nat) : Int)) := by
  unfold rl
  rcases Nat.eq_zero_or_pos I with h | h
  · subst h; cases neg <;> rfl
  · cases neg
    · simp only [if_false, Bool.false_eq_true, Int.natAbs_natCast]; rw [decide_eq_false (by omega)]
    · simp only [if_true, Int.natAbs_neg, Int.natAbs_natCast]; rw [decide_eq_true (by omega)]
theorem res_VR {neg : Bool} {I : Nat} (h : I ≤ 2533359615) : VR (sgn neg (atI I)).1 (sgn neg (atI I)).2 ∧ I64 (sgn neg (atI I)).1 := by
  rw [sgn_rl]
  have : IR (if neg = true then -((I : Nat) : Int) else ((I : Nat) : Int)) := ⟨by split <;> omega, by split <;> omega⟩
  exact ⟨rl_VR this, rl_64 this⟩
/-- The value of a signed index. -/
def vI (n : Int) : Int := if n < 0 then -((G n.natAbs : Nat) : Int) else ((G n.natAbs : Nat) : Int)
theorem vI_lt {n m : Int} (h : n < m) : vI n < vI m := by
  unfold vI
  by_cases hn : n < 0
  · rw [if_pos hn]
    have h1 := G_lt (show 0 < n.natAbs by omega)
    by_cases hm : m < 0
    · rw [if_pos hm]; have := G_lt (show m.natAbs < n.natAbs by omega); omega
    · rw [if_neg hm]; omega
  · rw [if_neg hn, if_neg (by omega)]
    have := G_lt (show n.natAbs < m.natAbs by omega); omega
theorem vv_vI {a b : Int} (hw : I64 a) (h : VR a b) : vv a b = vI (sx a b) := by
  rw [vv_sval hw h]
  unfold sval vI sx
  by_cases hn : a < 0
  · rw [if_pos (decide_eq_true hn), if_pos hn]
    rcases Nat.eq_zero_or_pos (ix a b) with h0 | h0
    · rw [h0, G_zero]; rfl
    · rw [if_pos (by omega), Int.natAbs_neg, Int.natAbs_natCast]
  · rw [if_neg (by simpa using hn), if_neg hn, if_neg (by omega)]; congr 1
theorem cmp_vv {a b c d : Int} (wa : I64 a) (wc : I64 c) (h : VR a b) (h' : VR c d) : cmpI (sx a b) (sx c d) = cmpI (vv a b) (vv c d) := by
  rw [vv_vI wa h, vv_vI wc h']
  unfold cmpI
  rcases Int.lt_trichotomy (sx a b) (sx c d) with hlt | heq | hgt
  · rw [if_pos hlt, if_pos (vI_lt hlt)]
  · rw [heq, if_neg (by omega), if_neg (by omega), if_neg (by omega), if_neg (by omega)]
  · have := vI_lt hgt
    rw [if_neg (by omega), if_pos hgt, if_neg (by omega), if_pos this]
theorem CmpV_ev {a b c d : Int} (wa : I64 a) (wc : I64 c) (h : VR a b) (h' : VR c d) : real_Cmp.f a b c d = some (cmpI (vv a b) (vv c d), 0) := by
  rw [Cmp_ev wa wc h h', cmp_vv wa wc h h']
end Go.Proofs.YteigbokklclmbaaGreatDoor.M
end
section
namespace Go.Proofs.YteigbokklclmbaaGreatDoor.M
open Go Go.RowKit Go.Proofs.YteigbokklclmbaaGreatDoor.Given Go.Proofs.YteigbokklclmbaaGreatDoorW.PrintWords Go.Proofs.YteigbokklclmbaaGreatDoorW.PrintLast Go.Proofs.YteigbokklclmbaaGreatDoorW.PrintMore Go.Proofs.YteigbokklclmbaaGreatDoor.Z Go.Proofs.YteigbokklclmbaaGreatDoor.Z.Y Go.Proofs.YteigbokklclmbaaGreatDoor.Z.Y.V
theorem G_top : G 2533359615 = 16777215 * 2 ^ 300 := by kernel_rfl
theorem res3_in {neg : Bool} {J : Nat} (h : J ≤ 2533359615) : res3 neg J = ((sgn neg (atI J)).1, (sgn neg (atI J)).2, 0) := by unfold res3; rw [if_neg (by omega)]
end Go.Proofs.YteigbokklclmbaaGreatDoor.M
end
section
namespace Go.Proofs.YteigbokklclmbaaGreatDoor.Z
open Go Go.RowKit Go.Proofs.YteigbokklclmbaaGreatDoor.Given Go.Proofs.YteigbokklclmbaaGreatDoorW.PrintWords Go.Proofs.YteigbokklclmbaaGreatDoorW.PrintLast Go.Proofs.YteigbokklclmbaaGreatDoorW.PrintMore
def Sq4 (w : World) (br bm be : Nat) (r s e : Int) (bz : Nat) (w' : World) : Prop := w'.heap[br]? = some (.cells #[.int .u64 r] 72 (0, 0)) ∧ w'.heap[bm]? = some (.cells #[.int .u64 s] 72 (0, 0)) ∧ w'.heap[be]? = some (.cells #[.int .i64 e] 3 (0, 0)) ∧ w'.heap[bz]? = some (.cells #[.int .i64 0, .int .i64 0] 23 (0, 0)) ∧ Below w.heap.size w w'
theorem sq4 {w : World} {br bm be : Nat} {r s e : Int} {bz : Nat} {w' w'' : World} (h : Sq4 w br bm be r s e bz w') (hb : Below w'.heap.size w' w'') : Sq4 w br bm be r s e bz w'' :=
  ⟨blk_below h.1 hb, blk_below h.2.1 hb, blk_below h.2.2.1 hb, blk_below h.2.2.2.1 hb, h.2.2.2.2.trans (hb.mono h.2.2.2.2.size)⟩
theorem fresh_ne {w : World} {b : Nat} {o : Obj} (h : w.heap[b]? = some o) {k : Nat} (hk : w.heap.size ≤ k) : k ≠ b := by have := blk_lt h; omega
def sqT1 : Bool × List (List Nat × List Nat) := (true, [([], []), ([0], [0]), ([], []), ([1, 2], [1, 2]), ([3], [3]), ([], []), ([5], [5]), ([6], [6]), ([], []), ([4, 7, 8, 4], [4, 7, 8]), ([9, 9, 0, 1, 2, 3, 4, 5, 6, 7, 8, 9], [9])])
def sqB1 : List Nat := [0, 1, 0, 7, 15, 0, 32, 96, 0, 511, 1023]
theorem sqTab1 : rtab .any (opsOf Tryz.f106 1) = sqT1 := by kernel_rfl
theorem sqBits1 : waitsOk sqT1.2 sqB1 = true := by kernel_rfl
theorem sqrt1_c (k : Nat) (br bm be : Nat) (r s e m x : Int) (t y : List Int) (hy : y = [1]) (hr0 : 0 ≤ r) (hr1 : r ≤ 4294967296) (hs : s = 0 ∨ s = 1) (hn : real_natOf.f k (2 * r + s) = some t) (hd : real_rounded.f k t (wrap64 (wrap64 (Int.tdiv e 2) - 1)) y = some (m, x)) (w : World)
    (hbr : w.heap[br]? = some (.cells #[.int .u64 r] 72 (0, 0))) (hbm : w.heap[bm]? = some (.cells #[.int .u64 s] 72 (0, 0))) (hbe : w.heap[be]? = some (.cells #[.int .i64 e] 3 (0, 0))) :
    Calls Tryz.prog 106 #[.pointer (some ⟨br, 0, none⟩), .pointer (some ⟨bm, 0, none⟩), .pointer (some ⟨be, 0, none⟩)] w fun e' w' => e' = ending m x ∧ Below w.heap.size w w' := by
  have NY := Aside0.mk hy
  have HN := Lib.hid hn
  have HD := Lib.hid hd
  have HBR := Lib.hid hbr
  have HBM := Lib.hid hbm
  have HBE := Lib.hid hbe
  have hu1 : IntKind.u64.wrap (2 * r) = 2 * r := by simp [IntKind.wrap, IntKind.bits, IntKind.signed]; omega
  have hu2 : IntKind.u64.wrap (2 * r + s) = 2 * r + s := by simp [IntKind.wrap, IntKind.bits, IntKind.signed]; omega
  clear hn hd hbr hbm hbe hs hy
  go_enter Tryz.func106, Tryz.ntmps106
  go_wp2_with fail
  have hk : Sq4 w br bm be r s e w.heap.size (w.alloc (.cells #[.int .i64 0, .int .i64 0] 23)).drew := ⟨blk_drew (blk_alloc HBR.out _), blk_drew (blk_alloc HBM.out _), blk_drew (blk_alloc HBE.out _), blk_drew (blk_new _ _), below_drew1 ((Below.refl _ w).alloc (Nat.le_refl _) _)⟩
  refine start_ (n := 11) (S := fun w' => w'.cell? ⟨br, 0, none⟩ = some (.int .u64 r) ∧ w'.cell? ⟨bm, 0, none⟩ = some (.int .u64 s) ∧ w'.cell? ⟨be, 0, none⟩ = some (.int .i64 e) ∧ True) (ds := []) #[false, false, false, false, false, false, false, false, false, false, false] (by kernel_rfl) rfl rfl ⟨(blk_cell hk.1 0).trans rfl, (blk_cell hk.2.1 0).trans rfl, (blk_cell hk.2.2.1 0).trans rfl, trivial⟩ (fun hHeld => ?_); refine with_tabW sqTab1 sqBits1 (fun HT_ HW_ => ?_)
  generalize (w.alloc (.cells #[.int .i64 0, .int .i64 0] 23)).drew = w0 at hk hHeld ⊢
  have lr := blk_lt HBR.out
  have lm := blk_lt HBM.out
  have le := blk_lt HBE.out
  have nr : br ≠ w.heap.size := by omega
  have nm : bm ≠ w.heap.size := by omega
  have ne : be ≠ w.heap.size := by omega
  generalize hbz : w.heap.size = bz at hk nr nm ne ⊢
  have HK := Aside0.mk hk
  clear hk lr lm le HBR HBM HBE
  refine tk4 0 (some 4) #[tt,ff,ff,ff,ff,ff,ff,ff,ff,ff,ff] ?_
  refine tk4 2 (some 6) #[tt,ff,tt,ff,ff,ff,ff,ff,ff,ff,ff] ?_
  refine tk4 5 (some 9) #[tt,ff,tt,ff,ff,tt,ff,ff,ff,ff,ff] ?_
  refine pur 1 (some 5) #[tt,tt,tt,ff,ff,tt,ff,ff,ff,ff,ff] ?_
  refine pur 3 (some 7) #[tt,tt,tt,tt,ff,tt,ff,ff,ff,ff,ff] ?_
  refine pur 6 (some 10) #[tt,tt,tt,tt,ff,tt,tt,ff,ff,ff,ff] ?_
  refine pur 7 (some 11) #[tt,tt,tt,tt,ff,tt,tt,tt,ff,ff,ff] ?_
  refine join_ (σ := Value × Value) 2 #[true, true, true, true, true, true, true, true, true, false, false] (fun s_ => [(8, s_.1), (12, s_.2)]) (fun s_ w' => (w'.cell? ⟨br, 0, none⟩ = some (.int .u64 r) ∧ w'.cell? ⟨bm, 0, none⟩ = some (.int .u64 s) ∧ w'.cell? ⟨be, 0, none⟩ = some (.int .i64 e) ∧ True) ∧ Kd.V (Kd.int .u32) 115 w' w.heap.size (fun k_ => some k_ ≠ (s_.2 : Value).ownBlock ∧ k_ ≠ bz) s_.1 t ∧ Kd.R (Kd.int .u32) 115 w' w.heap.size (fun _ => True) s_.2 y ∧ Sq4 w br bm be r s e bz w') ?_ ?_
  rotate_left
  · intro hCont
    refine two_ (i := 4) (j := 8) (Ni := some 8) (Nj := some 12) #[true, true, true, true, true, true, true, true, false, false, false] #[true, true, true, true, false, true, true, true, true, false, false] rfl rfl rfl rfl (two_of HT_.out (by kernel_rfl)) (by decide) (by decide) (fun K hK => ?_) (fun K hK => ?_)
    · skip
      refine gsz Tryz.func98 #[.int .u64 (2 * r + s)] ?_
      with_reducible refine (real_natOf.calls k (2 * r + s) t _ HN.out).mono ?_
      rintro _ w' ⟨v8, rfl, ho, hb⟩
      refine ⟨_, rfl, ?_⟩
      have HV := Aside0.mk (Kd.V_lower (Kd.V_mono (ok' := fun k_ => k_ ≠ bz) ho (fun k_ hk_ => fresh_ne HK.out.2.2.2.1 hk_)) HK.out.2.2.2.2.size)
      replace HK := Aside0.mk (sq4 HK.out hb)
      clear hb ho
      refine hK.out _ _ ⟨(blk_cell HK.out.1 0).trans rfl, (blk_cell HK.out.2.1 0).trans rfl, (blk_cell HK.out.2.2.1 0).trans rfl, trivial⟩ (fun hHeld => ?_)
      clear hK K
      refine norm_ (a' := ?_) ?_ ?_
      rotate_left
      · show Act.put _ (some 8) _ = _
        simp only [Act.put, List.setIfInBounds_toArray, List.set_cons_zero, List.set_cons_succ, i64_w, i32_w]
        rfl
      refine one_ (i := 8) (N := some 12) #[true, true, true, true, true, true, true, true, true, false, false] rfl rfl (one_of HT_.out (by kernel_rfl)) (by decide) (fun K hK => ?_)
      refine Kd.R_lit_step (Kd.int .u32) _ 115 ?hg (N := 12) ?hd (xs := ([1] : List Int)) (inner := [.int .u32 1]) (ok := fun _ => True) (okp := fun _ => True) ?hr ?hp (fun _ hk => hk) trivial (Below.refl _ _) (Nat.le_refl _) (by simp) ?_; (case hd => rfl); (case hg => rfl); (case hr => first | (go_simp; done) | (go_simp; rfl)); (case hp => exact (Reps.one (show Kd.M (Kd.int .u32) _ _ _ 1 [.int .u32 1] from rfl) (Reps.none _ _)))
      intro v12 w' ho hb hg_ hnew_
      clear hg_ hnew_
      (first | rw [← NY.out] at ho | (simp only [Int.reduceToNat] at ho; rw [← NY.out] at ho))
      have HR := Aside0.mk (Kd.R_lower ho HK.out.2.2.2.2.size)
      replace HV := Aside0.mk (Kd.V_elder' HV.out (Kd.R_base ho) hb)
      replace HK := Aside0.mk (sq4 HK.out hb)
      clear hb ho
      refine hK.out _ _ ⟨(blk_cell HK.out.1 0).trans rfl, (blk_cell HK.out.2.1 0).trans rfl, (blk_cell HK.out.2.2.1 0).trans rfl, trivial⟩ (fun hHeld => ?_)
      clear hK K
      refine norm_ (a' := ?_) ?_ ?_
      rotate_left
      · show Act.put _ (some 12) _ = _
        simp only [Act.put, List.setIfInBounds_toArray, List.set_cons_zero, List.set_cons_succ, i64_w, i32_w]
        rfl
      exact norm_ (by simp only [putAll, Act.put, List.setIfInBounds_toArray, List.set_cons_zero, List.set_cons_succ]) (hCont (v8, v12) _ ⟨hHeld, Kd.V_mono HV.out (fun _ hk => ⟨hk.2, hk.1⟩), HR.out, HK.out⟩)
    · skip
      refine Kd.R_lit_step (Kd.int .u32) _ 115 ?hg (N := 12) ?hd (xs := ([1] : List Int)) (inner := [.int .u32 1]) (ok := fun _ => True) (okp := fun _ => True) ?hr ?hp (fun _ hk => hk) trivial (Below.refl _ _) (Nat.le_refl _) (by simp) ?_; (case hd => rfl); (case hg => rfl); (case hr => first | (go_simp; done) | (go_simp; rfl)); (case hp => exact (Reps.one (show Kd.M (Kd.int .u32) _ _ _ 1 [.int .u32 1] from rfl) (Reps.none _ _)))
      intro v12 w' ho hb hg_ hnew_
      clear hg_ hnew_
      (first | rw [← NY.out] at ho | (simp only [Int.reduceToNat] at ho; rw [← NY.out] at ho))
      have HR := Aside0.mk (Kd.R_lower ho HK.out.2.2.2.2.size)
      replace HK := Aside0.mk (sq4 HK.out hb)
      clear hb ho
      refine hK.out _ _ ⟨(blk_cell HK.out.1 0).trans rfl, (blk_cell HK.out.2.1 0).trans rfl, (blk_cell HK.out.2.2.1 0).trans rfl, trivial⟩ (fun hHeld => ?_)
      clear hK K
      refine norm_ (a' := ?_) ?_ ?_
      rotate_left
      · show Act.put _ (some 12) _ = _
        simp only [Act.put, List.setIfInBounds_toArray, List.set_cons_zero, List.set_cons_succ, i64_w, i32_w]
        rfl
      refine one_ (i := 4) (N := some 8) #[true, true, true, true, true, true, true, true, true, false, false] rfl rfl (one_of HT_.out (by kernel_rfl)) (by decide) (fun K hK => ?_)
      refine gsz Tryz.func98 #[.int .u64 (2 * r + s)] ?_
      with_reducible refine (real_natOf.calls k (2 * r + s) t _ HN.out).mono ?_
      rintro _ w' ⟨v8, rfl, ho, hb⟩
      refine ⟨_, rfl, ?_⟩
      have HV := Aside0.mk (Kd.V_lower (Kd.V_mono (ok' := fun k_ => some k_ ≠ (v12 : Value).ownBlock ∧ k_ ≠ bz) ho (fun k_ hk_ => ⟨Kd.fresh' (Kd.R_lt HR.out) k_ hk_, fresh_ne HK.out.2.2.2.1 hk_⟩)) HK.out.2.2.2.2.size)
      replace HR := Aside0.mk (Kd.R_below HR.out hb)
      replace HK := Aside0.mk (sq4 HK.out hb)
      clear hb ho
      refine hK.out _ _ ⟨(blk_cell HK.out.1 0).trans rfl, (blk_cell HK.out.2.1 0).trans rfl, (blk_cell HK.out.2.2.1 0).trans rfl, trivial⟩ (fun hHeld => ?_)
      clear hK K
      refine norm_ (a' := ?_) ?_ ?_
      rotate_left
      · show Act.put _ (some 8) _ = _
        simp only [Act.put, List.setIfInBounds_toArray, List.set_cons_zero, List.set_cons_succ, i64_w, i32_w]
        rfl
      exact norm_ (by simp only [putAll, Act.put, List.setIfInBounds_toArray, List.set_cons_zero, List.set_cons_succ]) (hCont (v8, v12) _ ⟨hHeld, HV.out, HR.out, HK.out⟩)
  clear HK hHeld
  rintro ⟨v8, v12⟩ w5 ⟨hHeld, hv, hr, hk⟩
  have HV := Aside0.mk hv
  have HR := Aside0.mk hr
  have HK := Aside0.mk hk
  clear hv hr hk
  obtain ⟨A8, c8, e8⟩ := Kd.V_slice HV.out
  subst e8
  obtain ⟨A12, c12, e12⟩ := Kd.R_slice HR.out
  subst e12
  refine norm_ (a' := ?_) ?_ ?_
  rotate_left
  · simp only [putAll, Act.put, List.setIfInBounds_toArray, List.set_cons_zero, List.set_cons_succ]
    rfl
  refine one_ (i := 9) (N := some 13) #[true, true, true, true, true, true, true, true, true, true, false] rfl rfl (one_of HT_.out (by kernel_rfl)) (by decide) (fun K hK => ?_)
  refine goesP_ Tryz.func97 (by kernel_rfl) rfl #[.slice A8 t.length c8, .int .i64 (wrap64 (wrap64 (Int.tdiv e 2) - 1)), .slice A12 y.length c12] (by rfl) rfl rfl ay ?_
  with_reducible refine (real_rounded.calls k ?pred3_ _ _ t (wrap64 (wrap64 (Int.tdiv e 2) - 1)) (fun k_ => some k_ = (.slice A12 y.length c12 : Value).ownBlock) _ _ y m x _ ?side1 ?side2 HD.out).mono ?_
  (case side1 => exact HV.out)
  (case side2 => exact Kd.R_V (Kd.R_tight rfl HR.out))
  rintro _ w6 ⟨he_, hb⟩
  refine ends_ he_ (fun p1_ => And.intro rfl (And.intro (code_direct p1_) (HK.out.2.2.2.2.trans (hb.mono HK.out.2.2.2.2.size)))) (fun hpn_ => ?_)
  replace HK := Aside0.mk (sq4 HK.out hb)
  clear hb HV HR
  refine hK.out _ _ ⟨(blk_cell HK.out.1 0).trans rfl, (blk_cell HK.out.2.1 0).trans rfl, (blk_cell HK.out.2.2.1 0).trans rfl, trivial⟩ (fun hHeld => ?_)
  clear hK K
  refine norm_ (a' := ?_) ?_ ?_
  rotate_left
  · show Act.put _ (some 13) _ = _
    simp only [Act.put, List.setIfInBounds_toArray, List.set_cons_zero, List.set_cons_succ, i64_w, i32_w]
    rfl
  refine one_ (i := 10) (N := none) #[true, true, true, true, true, true, true, true, true, true, true] rfl rfl (one_of HT_.out (by kernel_rfl)) (by decide) (fun K hK => ?_)
  have z0 : w6.cell? ⟨bz, 0, none⟩ = some (.int .i64 0) := (blk_cell HK.out.2.2.2.1 0).trans rfl
  have z1 : w6.cell? ⟨bz, 1, none⟩ = some (.int .i64 0) := (blk_cell HK.out.2.2.2.1 1).trans rfl
  have f0 := blk_frozen HK.out.2.2.2.1 0
  have f1 := blk_frozen HK.out.2.2.2.1 1
  refine skip_ (w1 := ?_) (by rfl) rfl ?_ ?_
  rotate_left
  · go_simp
    rfl
  refine hK.out _ _ ⟨((cell_far (p := ⟨bz, _, none⟩) nr _).trans ((cell_far (p := ⟨bz, _, none⟩) nr _).trans hHeld.1)), ((cell_far (p := ⟨bz, _, none⟩) nm _).trans ((cell_far (p := ⟨bz, _, none⟩) nm _).trans hHeld.2.1)), ((cell_far (p := ⟨bz, _, none⟩) ne _).trans ((cell_far (p := ⟨bz, _, none⟩) ne _).trans hHeld.2.2.1)), trivial⟩ (fun hHeld => ?_)
  clear hK K
  refine done_ (done_of HT_.out (by kernel_rfl)) ?_
  try go_wp2
  have fz := heap_setCell_same (w6.setCell ⟨bz, 0, none⟩ (.int .i64 m)) bz 1 _ _ (.int .i64 x) (heap_setCell_same w6 bz 0 _ _ (.int .i64 m) HK.out.2.2.2.1)
  refine bodyPost_ret (results_cell_row rfl _ _ bz 23 #[.int .i64 m, .int .i64 x] (0, 0) _ rfl fz Tryz.underlying23 rfl (by kernel_rfl)) rfl ?_
  exact ⟨(ending_at hpn_).symm, (HK.out.2.2.2.2.setCell (by simp only; omega) _).setCell (by simp only; omega) _⟩
def normF : Nat → Int → Int → Option (Int × Int)
  | 0, _, _ => none
  | k + 1, m, e => if 0 < m ∧ m < 288230376151711744 then normF k (4 * m) (e - 2) else some (m, e)
def bitF (m : Int) : Nat → Int → Int → Option Int
  | 0, _, _ => none
  | k + 1, r, b => if 0 < b then bitF m k (if (r + b) * (r + b) ≤ m then r + b else r) (b / 2) else some r
/-- The blocks of the walk: e, the result; below them all is as it was. -/
structure SqI (w : World) (be bz : Nat) (e : Int) (w' : World) : Prop where
  ke : w'.heap[be]? = some (.cells #[.int .i64 e] 3 (0, 0))
  kz : w'.heap[bz]? = some (.cells #[.int .i64 0, .int .i64 0] 23 (0, 0))
  hB : Below w.heap.size w w'
  le : w.heap.size ≤ be
  lz : w.heap.size ≤ bz
  ne : bz ≠ be
theorem SqI.step {w : World} {be bz : Nat} {e : Int} {w' w'' : World} (h : SqI w be bz e w') (hb : Below w'.heap.size w' w'') : SqI w be bz e w'' :=
  { ke := blk_below h.ke hb, kz := blk_below h.kz hb, hB := h.hB.trans (hb.mono h.hB.size), le := h.le, lz := h.lz, ne := h.ne }
theorem SqI.put {w : World} {be bz : Nat} {e : Int} {w' : World} (h : SqI w be bz e w') (e' : Int) : SqI w be bz e' (w'.setCell ⟨be, 0, none⟩ (.int .i64 e')) :=
  { ke := heap_setCell_same w' be 0 _ _ (.int .i64 e') h.ke, kz := (heap_setCell_other _ _ _ _ h.ne).trans h.kz, hB := h.hB.setCell h.le _, le := h.le, lz := h.lz, ne := h.ne }
theorem SqI.drew {w : World} {be bz : Nat} {e : Int} {w' : World} (h : SqI w be bz e w') : SqI w be bz e w'.drew := h.step (below_drew1 (Below.refl _ _))
structure SqJ (w : World) (be bz : Nat) (e : Int) (br : Nat) (r : Int) (w' : World) : Prop extends SqI w be bz e w' where
  kr : w'.heap[br]? = some (.cells #[.int .u64 r] 72 (0, 0))
  lr : w.heap.size ≤ br
  n1 : be ≠ br
  n2 : bz ≠ br
theorem SqJ.step {w : World} {be bz : Nat} {e : Int} {br : Nat} {r : Int} {w' w'' : World} (h : SqJ w be bz e br r w') (hb : Below w'.heap.size w' w'') : SqJ w be bz e br r w'' :=
  { h.toSqI.step hb with kr := blk_below h.kr hb, lr := h.lr, n1 := h.n1, n2 := h.n2 }
theorem SqJ.put {w : World} {be bz : Nat} {e : Int} {br : Nat} {r : Int} {w' : World} (h : SqJ w be bz e br r w') (r' : Int) : SqJ w be bz e br r' (w'.setCell ⟨br, 0, none⟩ (.int .u64 r')) :=
  { ke := (heap_setCell_other _ _ _ _ h.n1).trans h.ke, kz := (heap_setCell_other _ _ _ _ h.n2).trans h.kz, hB := h.hB.setCell h.lr _, le := h.le, lz := h.lz, ne := h.ne, kr := heap_setCell_same w' br 0 _ _ (.int .u64 r') h.kr, lr := h.lr, n1 := h.n1, n2 := h.n2 }
theorem SqI.box {w : World} {be bz : Nat} {e : Int} {w' : World} (h : SqI w be bz e w') (r : Int) : SqJ w be bz e w'.heap.size r (w'.alloc (.cells #[.int .u64 r] 72)) :=
  { h.step ((Below.refl _ w').alloc (Nat.le_refl _) _) with kr := blk_new _ _, lr := h.hB.size, n1 := by have := blk_lt h.ke; omega, n2 := by have := blk_lt h.kz; omega }
theorem sqrt_c (k : Nat) (x0 x1 m1 e1 M E R s m' x' t0 t1 t2 : Int) (t y : List Int) (hy : y = [1]) (hs : (R * R = M ∧ s = 0) ∨ (¬ R * R = M ∧ s = 1)) (hnat : real_natOf.f k (2 * R + s) = some t) (hrd : real_rounded.f k t (wrap64 (wrap64 (Int.tdiv E 2) - 1)) y = some (m', x')) (hcs : caughtS m' x' = (t0, t1, t2)) (hv : real_Valid.f x0 x1 = some true) (h0 : 0 ≤ x0) (hm : x0 < 16777216) (he1 : -150 ≤ x1) (he2 : x1 ≤ 150) (hodd : (Int.tmod x1 2 = 0 ∧ m1 = x0 ∧ e1 = x1) ∨ (¬ Int.tmod x1 2 = 0 ∧ m1 = 2 * x0 ∧ e1 = x1 - 1))
    (hM1 : 0 ≤ m1 ∧ m1 < 1152921504606846976) (hE1 : -320 ≤ e1 - 2 * 40 ∧ e1 ≤ 150) (hn : normF 40 m1 e1 = some (M, E)) (hr : bitF M 40 0 2147483648 = some R) (w : World) :
    Calls Tryz.prog 43 #[.agg #[.int .i64 x0, .int .i64 x1]] w fun e w' => e = .returned (.tuple #[.agg #[.int .i64 t0, .int .i64 t1], .int .i64 t2]) ∧ Below w.heap.size w w' := by
  have NY := Lib.hid hy
  have HS := Lib.hid hs
  have HNAT := Lib.hid hnat
  have HRD := Lib.hid hrd
  have HCS := Lib.hid hcs
  have HV := Lib.hid hv
  have HN := Lib.hid hn
  have HR := Lib.hid hr
  have HO := Lib.hid hodd
  have hu : IntKind.u64.wrap x0 = x0 := by simp [IntKind.wrap, IntKind.bits, IntKind.signed]; omega
  have hx : ¬ x0 < 0 := by omega
  clear hv hn hr hodd hy hs hnat hrd hcs
  go_enter Tryz.func43, Tryz.ntmps43
  go_wp2_with fail
  refine (real_Valid.calls x0 x1 true _ HV.out).mono ?_
  rintro _ w1 ⟨rfl, hb⟩
  have kx := blk_below (blk_alloc (new_at w (.cells #[.int .i64 x0, .int .i64 x1] 23) w.heap.size rfl) (.cells #[.int .i64 0, .int .i64 0] 23)) hb
  have kz := blk_below (new_at (w.alloc (.cells #[.int .i64 x0, .int .i64 x1] 23)) (.cells #[.int .i64 0, .int .i64 0] 23) (w.heap.size + 1) (by simp only [World.size_alloc])) hb
  have hB : Below w.heap.size w w1 := ((((Below.refl _ w).alloc (Nat.le_refl _) _).alloc (by simp only [World.size_alloc]; omega) _)).trans (hb.mono (by simp only [World.size_alloc]; omega))
  have c0 : w1.cell? ⟨w.heap.size, 0, none⟩ = some (.int .i64 x0) := (blk_cell kx 0).trans rfl
  have c1 : w1.cell? ⟨w.heap.size, 1, none⟩ = some (.int .i64 x1) := (blk_cell kx 1).trans rfl
  have lx := blk_lt kx
  have lz := blk_lt kz
  have hI : SqI w w1.heap.size (w.heap.size + 1) x1 (w1.alloc (.cells #[.int .i64 x1] 3)).drew :=
    { ke := blk_drew (blk_new _ _), kz := blk_drew (blk_alloc kz _), hB := below_drew1 (hB.alloc hB.size _), le := hB.size, lz := by omega, ne := by omega }
  have HI := Lib.hid hI
  clear hb kx kz hB hI
  go_wp2_with fail
  go_region
  generalize (w1.alloc (.cells #[.int .i64 x1] 3)).drew = w2 at HI ⊢
  generalize w1.heap.size = be at HI ⊢
  have d0 : w2.cell? ⟨be, 0, none⟩ = some (.int .i64 x1) := (blk_cell HI.out.ke 0).trans rfl
  have f0 := blk_frozen HI.out.ke 0
  clear c0 c1
  go_upto_if 24 with fail
  go_cut [4] (fun v4 wc => v4 = .int .u64 m1 ∧ Aside0 (SqI w be (w.heap.size + 1) e1 wc))
  case first =>
    rcases HO.out with ⟨ho, hm1, he3⟩ | ⟨ho, hm1, he3⟩
    · have hob : (Int.tmod x1 2 != 0) = false := by simp [ho]
      (first | rw [hob] | skip)
      go_wp2_with fail
      go_meet
      case rel => exact ⟨by rw [hm1], ⟨by rw [he3]; exact HI.out⟩⟩
    · have hob : (Int.tmod x1 2 != 0) = true := by simp [ho]
      have hu2 : IntKind.u64.wrap (2 * x0) = 2 * x0 := by simp [IntKind.wrap, IntKind.bits, IntKind.signed]; omega
      have hw1 : wrap64 (x1 - 1) = x1 - 1 := by unfold wrap64; omega
      (first | rw [hob] | skip)
      go_wp2_with fail
      go_region
      go_wp2_with fail
      go_meet
      case rel => exact ⟨by rw [hm1], ⟨by rw [he3]; exact HI.out.drew.put (x1 - 1)⟩⟩
  case rest =>
    obtain ⟨rfl, HJ⟩ := hcut
    have HB0 := Lib.hid HJ.out
    clear HJ HI HO d0 f0 hu hx
    go_step
    go_step
    go_cut [4] (fun v4 wd => v4 = .int .u64 M ∧ Aside0 (SqI w be (w.heap.size + 1) E wd) ∧ Aside0 (0 ≤ M ∧ M < 1152921504606846976) ∧ Aside0 (-320 ≤ E ∧ E ≤ 150))
    case first =>
      go_wp2_with fail
      have HT := Lib.hid (⟨m1, e1, rfl, HN.out, hM1, hE1, HB0.out⟩ : ∃ m e : Int, Value.int .u64 m1 = .int .u64 m ∧ normF 40 m e = some (M, E) ∧ (0 ≤ m ∧ m < 1152921504606846976) ∧ (-320 ≤ e - 2 * 40 ∧ e ≤ 150) ∧ SqI w be (w.heap.size + 1) e wc)
      clear HB0 HN hM1 hE1
      go_loopg [4] (40 : Nat) (fun kq v4 wr => ∃ m e : Int, v4 = .int .u64 m ∧ normF kq m e = some (M, E) ∧ (0 ≤ m ∧ m < 1152921504606846976) ∧ (-320 ≤ e - 2 * kq ∧ e ≤ 150) ∧ SqI w be (w.heap.size + 1) e wr)
      case atStart =>
        exact HT.out
      case round =>
        obtain ⟨m, e, rfl, hF, hmb, heb, hI⟩ := hrel
        have HI := Lib.hid hI
        have d0 : wr.cell? ⟨be, 0, none⟩ = some (.int .i64 e) := (blk_cell hI.ke 0).trans rfl
        have f0 := blk_frozen hI.ke 0
        have lb := blk_lt hI.ke
        clear hI
        obtain ⟨hmb1, hmb2⟩ := hmb
        obtain ⟨heb1, heb2⟩ := heb
        rcases gk with _ | gk
        · exact absurd hF (by simp [normF])
        · rw [normF] at hF
          by_cases hc : 0 < m ∧ m < 288230376151711744
          · rw [if_pos hc] at hF
            obtain ⟨hc1, hc2⟩ := hc
            have HF := Lib.hid hF
            have hu4 : IntKind.u64.wrap (4 * m) = 4 * m := by simp [IntKind.wrap, IntKind.bits, IntKind.signed]; omega
            have hw2 : wrap64 (e - 2) = e - 2 := by unfold wrap64; omega
            clear hF
            go_wp2_with fail
            go_region
            go_wp2_with fail
            go_roundg gk
            case measure => omega
            case rel => exact ⟨4 * m, e - 2, rfl, HF.out, ⟨by omega, by omega⟩, ⟨by omega, by omega⟩, HI.out.drew.put (e - 2)⟩
          · rw [if_neg hc] at hF
            simp only [Option.some.injEq, Prod.mk.injEq] at hF
            obtain ⟨rfl, rfl⟩ := hF
            rcases Int.lt_or_le 0 m with hm0 | hm0
            · have hm5 : ¬ m < 288230376151711744 := fun h => hc ⟨hm0, h⟩
              go_wp2_with fail
              go_meet
              case rel => exact ⟨rfl, ⟨HI.out⟩, ⟨hmb1, hmb2⟩, ⟨by omega, heb2⟩⟩
            · have hm5 : ¬ 0 < m := by omega
              go_wp2_with fail
              go_meet
              case rel => exact ⟨rfl, ⟨HI.out⟩, ⟨hmb1, hmb2⟩, ⟨by omega, heb2⟩⟩
    case rest =>
      obtain ⟨rfl, HJ, HM, HE⟩ := hcut
      clear HB0 HN hM1 hE1
      have HK := Lib.hid (HJ.out.box 0)
      go_wp2_with fail
      have HT := Lib.hid (⟨0, 2147483648, rfl, HR.out, by omega, by omega, by omega, by have := HM.out; omega, HK.out⟩ : ∃ r b : Int, Value.int .u64 2147483648 = .int .u64 b ∧ bitF M 40 r b = some R ∧ 0 ≤ r ∧ 0 ≤ b ∧ r + 2 * b ≤ 4294967296 ∧ r * r ≤ M ∧ SqJ w be (w.heap.size + 1) E wc.heap.size r (wc.alloc (.cells #[.int .u64 0] 72)))
      clear HK HR HJ
      go_loopg [7] (40 : Nat) (fun kq v7 wr => ∃ r b : Int, v7 = .int .u64 b ∧ bitF M kq r b = some R ∧ 0 ≤ r ∧ 0 ≤ b ∧ r + 2 * b ≤ 4294967296 ∧ r * r ≤ M ∧ SqJ w be (w.heap.size + 1) E wc.heap.size r wr)
      case atStart => exact HT.out
      case round =>
        obtain ⟨r, b, rfl, hF, hr0, hb0, hrb, hrm, hI⟩ := hrel
        clear HT
        have HI := Lib.hid hI
        have q0 : wr.cell? ⟨wc.heap.size, 0, none⟩ = some (.int .u64 r) := (blk_cell hI.kr 0).trans rfl
        have f0 := blk_frozen hI.kr 0
        have lb := blk_lt hI.kr
        clear hI
        rcases gk with _ | gk
        · exact absurd hF (by simp [bitF])
        · rw [bitF] at hF
          by_cases hc : 0 < b
          · rw [if_pos hc] at hF
            have hu1 : IntKind.u64.wrap (r + b) = r + b := by simp [IntKind.wrap, IntKind.bits, IntKind.signed]; omega
            have hsq : (r + b) * (r + b) ≤ 4294967295 * 4294967295 := Int.mul_le_mul (by omega) (by omega) (by omega) (by omega)
            have hsq0 : 0 ≤ (r + b) * (r + b) := Int.mul_nonneg (by omega) (by omega)
            have hu2 : IntKind.u64.wrap ((r + b) * (r + b)) = (r + b) * (r + b) := by simp [IntKind.wrap, IntKind.bits, IntKind.signed]; omega
            clear hsq hsq0
            by_cases hle : (r + b) * (r + b) ≤ M
            · rw [if_pos hle] at hF
              have HF := Lib.hid hF
              clear hF
              go_wp2_with fail
              go_roundg gk
              case measure => omega
              case rel => exact ⟨r + b, b / 2, rfl, HF.out, by omega, by omega, by omega, hle, HI.out.put (r + b)⟩
            · rw [if_neg hle] at hF
              have HF := Lib.hid hF
              clear hF
              go_wp2_with fail
              go_roundg gk
              case measure => omega
              case rel => exact ⟨r, b / 2, rfl, HF.out, hr0, by omega, by omega, hrm, HI.out⟩
          · rw [if_neg hc] at hF
            obtain rfl := Option.some.inj hF
            have hMM := HM.out
            have hr3 : r ≤ 4294967296 := by omega
            have hsq0 : 0 ≤ r * r := Int.mul_nonneg hr0 hr0
            have hu5 : IntKind.u64.wrap (r * r) = r * r := by simp [IntKind.wrap, IntKind.bits, IntKind.signed]; omega
            have hmf : ∀ (fn : Fn) (first cap : Array Value) (w : World), (Instr.makeFunc fn first cap).run Tryz.prog w = .ok (.func fn first cap) w := fun _ _ _ _ => rfl
            have kn := HI.out.n1
            have kn2 := HI.out.n2
            clear hMM hsq0
            rcases HS.out with ⟨hq, hs0⟩ | ⟨hq, hs0⟩
            · have hqb : (r * r != M) = false := bne_eq_false_iff_eq.mpr hq
              have hqe : (r * r == M) = true := beq_iff_eq.mpr hq
              clear hq
              go_wp2_with fail
              have hS := HI.out.toSqI.step ((Below.refl _ wr).alloc (Nat.le_refl _) (.cells #[.int .u64 0] 72))
              have hkr := blk_alloc HI.out.kr (.cells #[.int .u64 0] 72)
              have hkm : (wr.alloc (.cells #[.int .u64 0] 72)).heap[wr.heap.size]? = some (.cells #[.int .u64 0] 72 (0, 0)) := blk_new wr _
              generalize wr.alloc (.cells #[.int .u64 0] 72) = w7 at hS hkr hkm ⊢
              have hS7 := Lib.hid hS
              have hkr7 := Lib.hid hkr
              have hkm7 := Lib.hid hkm
              clear hS hkr hkm
              subst hs0
              refine (caught_t 106 _ m' x' t0 t1 t2 HCS.out w7 (fun args w => enters_ Tryz.func106 (by kernel_rfl) rfl args w) (fun w8 h8 => sqrt1_c k _ _ _ r 0 E m' x' t y NY.out hr0 hr3 (by omega) HNAT.out HRD.out w8 (blk_below hkr7.out h8) (blk_below hkm7.out h8) (blk_below hS7.out.ke h8))).mono ?_
              rintro _ w9 ⟨rfl, hb⟩
              have hz := blk_below hS7.out.kz hb
              have hB := hS7.out.hB.trans (hb.mono hS7.out.hB.size)
              have z0 : w9.cell? ⟨w.heap.size + 1, 0, none⟩ = some (.int .i64 0) := (blk_cell hz 0).trans rfl
              have z1 : w9.cell? ⟨w.heap.size + 1, 1, none⟩ = some (.int .i64 0) := (blk_cell hz 1).trans rfl
              have g0 := blk_frozen hz 0
              have g1 := blk_frozen hz 1
              have lz9 := blk_lt hz
              clear hb q0 f0
              go_wp2
              have fz := heap_setCell_same (w9.setCell ⟨w.heap.size + 1, 0, none⟩ (.int .i64 t0)) (w.heap.size + 1) 1 _ _ (.int .i64 t1) (heap_setCell_same w9 (w.heap.size + 1) 0 _ _ (.int .i64 t0) hz)
              refine bodyPost_ret (results_ct rfl _ _ (w.heap.size + 1) 23 #[.int .i64 t0, .int .i64 t1] (0, 0) _ rfl fz Tryz.underlying23 rfl (by kernel_rfl)) rfl ?_
              exact ⟨rfl, (hB.setCell (by simp only; omega) _).setCell (by simp only; omega) _⟩
            · have hqb : (r * r != M) = true := bne_iff_ne.mpr hq
              have hqe : (r * r == M) = false := beq_eq_false_iff_ne.mpr hq
              go_wp2_with fail
              have hS := HI.out.toSqI.step ((Below.refl _ wr).alloc (Nat.le_refl _) (.cells #[.int .u64 1] 72))
              have hkr := blk_alloc HI.out.kr (.cells #[.int .u64 1] 72)
              have hkm : (wr.alloc (.cells #[.int .u64 1] 72)).heap[wr.heap.size]? = some (.cells #[.int .u64 1] 72 (0, 0)) := blk_new wr _
              generalize wr.alloc (.cells #[.int .u64 1] 72) = w7 at hS hkr hkm ⊢
              have hS7 := Lib.hid hS
              have hkr7 := Lib.hid hkr
              have hkm7 := Lib.hid hkm
              clear hS hkr hkm
              subst hs0
              refine (caught_t 106 _ m' x' t0 t1 t2 HCS.out w7 (fun args w => enters_ Tryz.func106 (by kernel_rfl) rfl args w) (fun w8 h8 => sqrt1_c k _ _ _ r 1 E m' x' t y NY.out hr0 hr3 (by omega) HNAT.out HRD.out w8 (blk_below hkr7.out h8) (blk_below hkm7.out h8) (blk_below hS7.out.ke h8))).mono ?_
              rintro _ w9 ⟨rfl, hb⟩
              have hz := blk_below hS7.out.kz hb
              have hB := hS7.out.hB.trans (hb.mono hS7.out.hB.size)
              have z0 : w9.cell? ⟨w.heap.size + 1, 0, none⟩ = some (.int .i64 0) := (blk_cell hz 0).trans rfl
              have z1 : w9.cell? ⟨w.heap.size + 1, 1, none⟩ = some (.int .i64 0) := (blk_cell hz 1).trans rfl
              have g0 := blk_frozen hz 0
              have g1 := blk_frozen hz 1
              have lz9 := blk_lt hz
              clear hb q0 f0
              go_wp2
              have fz := heap_setCell_same (w9.setCell ⟨w.heap.size + 1, 0, none⟩ (.int .i64 t0)) (w.heap.size + 1) 1 _ _ (.int .i64 t1) (heap_setCell_same w9 (w.heap.size + 1) 0 _ _ (.int .i64 t0) hz)
              refine bodyPost_ret (results_ct rfl _ _ (w.heap.size + 1) 23 #[.int .i64 t0, .int .i64 t1] (0, 0) _ rfl fz Tryz.underlying23 rfl (by kernel_rfl)) rfl ?_
              exact ⟨rfl, (hB.setCell (by simp only; omega) _).setCell (by simp only; omega) _⟩
end Go.Proofs.YteigbokklclmbaaGreatDoor.Z
end
section
namespace Go.Proofs.YteigbokklclmbaaGreatDoor.M
open Go Go.RowKit Go.Proofs.YteigbokklclmbaaGreatDoor.Given Go.Proofs.YteigbokklclmbaaGreatDoorW.PrintWords Go.Proofs.YteigbokklclmbaaGreatDoorW.PrintLast Go.Proofs.YteigbokklclmbaaGreatDoorW.PrintMore Go.Proofs.YteigbokklclmbaaGreatDoor.Z Go.Proofs.YteigbokklclmbaaGreatDoor.Z.Y Go.Proofs.YteigbokklclmbaaGreatDoor.Z.Y.V Go.Proofs.YteigbokklclmbaaGreatDoor.Z.Y.Q
theorem Rd.nil {D I : Nat} (hD : 0 < D) (h : Rd 0 D I) : I = 0 := by
  rcases h.1 with h | ⟨h, _⟩
  · exact h
  · have := Nat.mul_pos (H_pos (I - 1)) hD
    omega
/-- Sqrt's loops. -/
theorem normF_zero (k : Nat) (e : Int) : normF (k + 1) 0 e = some (0, e) := by rw [normF, if_neg (by omega)]
theorem normF_ok : ∀ (k m : Nat) (e : Int), 1 ≤ m → m < 2 ^ 60 → 2 ^ 58 ≤ m * 4 ^ k → ∃ j, j ≤ k ∧ normF (k + 1) m e = some (((m * 4 ^ j : Nat) : Int), e - 2 * j) ∧ 2 ^ 58 ≤ m * 4 ^ j ∧ m * 4 ^ j < 2 ^ 60
  | k, m, e, h1, h2, h3 => by
    by_cases hc : m < 2 ^ 58
    · rcases k with _ | k
      · omega
      · obtain ⟨j, hj, hE, hb⟩ := normF_ok k (m * 4) (e - 2) (by omega) (by omega) (by rw [Nat.mul_assoc, ← Nat.pow_succ']; exact h3)
        have e : m * 4 ^ (j + 1) = m * 4 * 4 ^ j := by rw [Nat.pow_succ', Nat.mul_assoc]
        refine ⟨j + 1, by omega, ?_, by rw [e]; exact hb⟩
        rw [normF, if_pos ⟨by omega, by omega⟩]
        rw [show (4 * (m : Int)) = ((m * 4 : Nat) : Int) by omega, hE, e]
        congr 2; omega
    · refine ⟨0, by omega, ?_, by simpa using hc, by simpa using h2⟩
      rw [normF, if_neg (by omega)]; simp
theorem bitF_ok (m : Int) : ∀ (i k : Nat) (r : Int), i + 2 ≤ k → 0 ≤ r → r * r ≤ m → m < (r + 2 * 2 ^ i) * (r + 2 * 2 ^ i) → ∃ R, bitF m k r (2 ^ i) = some R ∧ 0 ≤ R ∧ R * R ≤ m ∧ m < (R + 1) * (R + 1)
  | i, 0, r, hk, _, _, _ => by omega
  | i, k + 1, r, hk, h0, h1, h2 => by
    have hp : (0 : Int) < 2 ^ i := Int.pow_pos (by decide)
    rw [bitF, if_pos hp]
    rcases i with _ | i
    · -- the last bit
      obtain ⟨k', rfl⟩ : ∃ k', k = k' + 1 := ⟨k - 1, by omega⟩
      have e0 : (2 : Int) ^ 0 = 1 := rfl
      rw [e0] at h2 ⊢
      rw [bitF, show (1 : Int) / 2 = 0 by decide, if_neg (by omega)]
      by_cases hle : (r + 1) * (r + 1) ≤ m
      · rw [if_pos hle]
        exact ⟨_, rfl, by omega, hle, by rw [show r + 1 + 1 = r + 2 * 1 by omega]; exact h2⟩
      · rw [if_neg hle]
        exact ⟨_, rfl, h0, h1, by omega⟩
    · have e1 : (2 : Int) ^ (i + 1) / 2 = 2 ^ i := by rw [Int.pow_succ]; omega
      have e2 : (2 : Int) ^ (i + 1) = 2 * 2 ^ i := by rw [Int.pow_succ]; omega
      rw [e1]
      by_cases hle : (r + 2 ^ (i + 1)) * (r + 2 ^ (i + 1)) ≤ m
      · rw [if_pos hle]
        refine bitF_ok m i k _ (by omega) (by omega) hle ?_
        rw [show r + 2 ^ (i + 1) + 2 * 2 ^ i = r + 2 * 2 ^ (i + 1) by omega]; exact h2
      · rw [if_neg hle]
        refine bitF_ok m i k _ (by omega) h0 h1 ?_
        rw [← e2]; omega
/-- What Sqrt comes to: M times a power of four, its whole root, and a bit for the rest. -/
structure SqR (V : Int) (M R s a I : Nat) : Prop where
  hV : V * 2 ^ 150 = ((4 * M * 4 ^ a : Nat) : Int)
  hM : M = 0 ∨ (2 ^ 58 ≤ M ∧ M < 2 ^ 60)
  hR : R * R ≤ M ∧ M < (R + 1) * (R + 1)
  hs : (R * R = M ∧ s = 0) ∨ (¬ R * R = M ∧ s = 1)
  hI : Rd ((2 * R + s) * 2 ^ a) 1 I
theorem SqR.mono {V W : Int} {M R s a I N S t b J : Nat} (h : SqR V M R s a I) (h' : SqR W N S t b J) (hle : V ≤ W) : I ≤ J := by
  refine h.hI.mono (by decide) (by decide) h'.hI ?_
  rw [Nat.mul_one, Nat.mul_one]
  have hle2 : 4 * M * 4 ^ a ≤ 4 * N * 4 ^ b := by
    have h1 : V * 2 ^ 150 ≤ W * 2 ^ 150 := Int.mul_le_mul_of_nonneg_right hle (Int.le_of_lt (Int.pow_pos (by decide)))
    rw [h.hV, h'.hV] at h1
    exact Int.ofNat_le.1 h1
  rw [Nat.mul_assoc, Nat.mul_assoc] at hle2
  have hle3 : M * 4 ^ a ≤ N * 4 ^ b := Nat.le_of_mul_le_mul_left hle2 (by decide)
  have pa : 0 < 4 ^ a := Nat.pow_pos (by decide)
  have pb : 0 < 4 ^ b := Nat.pow_pos (by decide)
  have hs := h.hs
  have ht := h'.hs
  have hR := h.hR
  have hS := h'.hR
  rcases h.hM with hM | ⟨hM1, hM2⟩
  · have hR0 : R = 0 := by
      rcases Nat.eq_zero_or_pos R with h | h
      · exact h
      · have := Nat.mul_pos h h; omega
    subst hR0 hM
    rcases hs with ⟨_, rfl⟩ | ⟨h, _⟩
    · simp
    · exact absurd rfl h
  · rcases h'.hM with hN | ⟨hN1, hN2⟩
    · rw [hN, Nat.zero_mul] at hle3
      have := Nat.mul_pos (show 0 < M by omega) pa
      omega
    · have big : ∀ {M R : Nat}, 2 ^ 58 ≤ M → M < 2 ^ 60 → R * R ≤ M → M < (R + 1) * (R + 1) → 2 ^ 29 ≤ R ∧ R < 2 ^ 30 := by
        intro M R h1 h2 h3 h4
        constructor
        · rcases Nat.lt_or_ge R (2 ^ 29) with h | h
          · have : (R + 1) * (R + 1) ≤ 2 ^ 29 * 2 ^ 29 := Nat.mul_le_mul h h
            omega
          · exact h
        · rcases Nat.lt_or_ge R (2 ^ 30) with h | h
          · exact h
          · have : 2 ^ 30 * 2 ^ 30 ≤ R * R := Nat.mul_le_mul h h
            omega
      obtain ⟨r1, r2⟩ := big hM1 hM2 hR.1 hR.2
      obtain ⟨s1, s2⟩ := big hN1 hN2 hS.1 hS.2
      rcases Nat.lt_trichotomy a b with hab | hab | hab
      · have e1 : 2 ^ (a + 1) ≤ 2 ^ b := Nat.pow_le_pow_right (by decide) hab
        calc (2 * R + s) * 2 ^ a ≤ 2 ^ 31 * 2 ^ a := Nat.mul_le_mul_right _ (by omega)
          _ = 2 ^ 30 * 2 ^ (a + 1) := by rw [Nat.pow_succ 2 a]; omega
          _ ≤ 2 ^ 30 * 2 ^ b := Nat.mul_le_mul_left _ e1
          _ ≤ (2 * S + t) * 2 ^ b := Nat.mul_le_mul_right _ (by omega)
      · subst hab
        have hMN : M ≤ N := Nat.le_of_mul_le_mul_right hle3 pa
        refine Nat.mul_le_mul_right _ ?_
        rcases Nat.lt_trichotomy R S with hRS | hRS | hRS
        · omega
        · subst hRS
          rcases hs with ⟨_, rfl⟩ | ⟨h1, rfl⟩ <;> rcases ht with ⟨h2, rfl⟩ | ⟨h2, rfl⟩ <;> omega
        · have : (S + 1) * (S + 1) ≤ R * R := Nat.mul_le_mul hRS hRS
          omega
      · exfalso
        have e1 : 4 ^ (b + 1) ≤ 4 ^ a := Nat.pow_le_pow_right (by decide) hab
        have e2 : 2 ^ 58 * 4 ^ (b + 1) ≤ M * 4 ^ a := Nat.mul_le_mul hM1 e1
        have e3 : N * 4 ^ b < 2 ^ 60 * 4 ^ b := Nat.mul_lt_mul_of_pos_right hN2 pb
        rw [Nat.pow_succ] at e2
        omega
end Go.Proofs.YteigbokklclmbaaGreatDoor.M
end
section
namespace Go.Proofs.YteigbokklclmbaaGreatDoor.Z.Y.V
open Go.RowKit Go.Proofs.YteigbokklclmbaaGreatDoor.Given Go.Proofs.YteigbokklclmbaaGreatDoorW.PrintWords Go.Proofs.YteigbokklclmbaaGreatDoorW.PrintLast Go.Proofs.YteigbokklclmbaaGreatDoorW.PrintMore
attribute [local go_sem] max2_int min2_int max_two min_two max_three min_three max_four min_four   -- for this text's walks alone
attribute [local go_sem high] field23_0 field23_1 field50_0 field50_1

def real_Neg.f (a0_0 : Int) (a0_1 : Int) : Option (Int × Int × Int) := (real_Valid.f a0_0 a0_1).bind fun t286 => (if t286 = true then ((real_signed.f true a0_0 a0_1).bind fun bt287 => (some (bt287.1, bt287.2, 0))) else (some (0, 0, 1)))
theorem real_Neg.calls (a0_0 : Int) (a0_1 : Int) (r1 : Int) (r2 : Int) (r3 : Int) (w : World) (h : real_Neg.f a0_0 a0_1 = some (r1, r2, r3)) :
  Calls Tryz.prog 47 #[.agg #[.int .i64 a0_0, .int .i64 a0_1]] w fun e w' => e = .returned (.tuple #[.agg #[.int .i64 r1, .int .i64 r2], .int .i64 r3]) ∧ Below w.heap.size w w' := by
 have hu23 := Tryz.underlying23
 have HB := Aside0.mk (Below.refl w.heap.size w)
 have H := h; unfold real_Neg.f at H; clear h
 replace H := Option.bind_eq_some_iff.mp H
 obtain ⟨t286, A20, H⟩ := H
 try dsimp only at H
 have A2 := Aside0.mk A20
 clear A20
 by_cases c3 : t286 = true
 ·subst c3
  rw [if_pos rfl] at H
  replace H := Option.bind_eq_some_iff.mp H
  obtain ⟨⟨t287, t288⟩, A40, H⟩ := H
  try dsimp only at H
  have A4 := Aside0.mk A40
  clear A40
  simp only [Option.some.injEq, Prod.mk.injEq] at H
  obtain ⟨rfl, rfl, rfl⟩ := H
  go_enter Tryz.func47, Tryz.ntmps47
  go_wp2_with (first | ((with_reducible refine gate_dst (N := 1) rfl ?_); refine box_event ?hg (N := 1) ?hd (cs := #[.int .i64 a0_0, .int .i64 a0_1]) (t := 23) ?hr ?_; (case hd => rfl); (case hg => rfl); (case hr => first | (go_simp; done) | (go_simp; rfl)); intro gb284 hg w5 hbox hb; have BK284 := Aside0.mk hbox; have GW284 := ge hg; have GE284 := ge hg; replace HB := bs hb; clear hb hbox hg) | ((with_reducible refine gate_dst (N := 2) rfl ?_); refine box_event ?hg (N := 2) ?hd (cs := #[.int .i64 0, .int .i64 0]) (t := 23) ?hr ?_; (case hd => rfl); (case hg => rfl); (case hr => first | (go_simp; done) | (go_simp; rfl)); intro gb285 hg w6 hbox hb; have BK285 := Aside0.mk hbox; have GW285 := ge hg; have GE285 := ge hg; have NB284_285 := nl BK284 hg; have NB285_284 := nr BK284 hg; replace BK284 := kb BK284 hb; replace HB := bs hb; clear hb hbox hg; have hnb7 := NB284_285.out; have hnc7 := NB285_284.out; have hcz8_0 := c20 BK284; have hcz8_1 := c21 BK284; have hfz8_0 := blk_frozen BK284.out 0; have hfz8_1 := blk_frozen BK284.out 1) | ((with_reducible refine gate_callee (f := 53) rfl ?_); refine goesL_ (some 5) rfl rfl Tryz.func53 (by kernel_rfl) rfl #[.agg #[.int .i64 a0_0, .int .i64 a0_1]] rfl az ?_; (with_reducible refine (real_Valid.calls a0_0 a0_1 true _ A2.out).mono ?_); rintro e w9 ⟨rfl, hb⟩; refine ⟨_, rfl, ?_⟩; replace BK284 := kb BK284 hb; replace BK285 := kb BK285 hb; replace HB := bs hb; (try clear hb); have hcz10_0 := c20 BK284; have hcz10_1 := c21 BK284; have hfz10_0 := blk_frozen BK284.out 0; have hfz10_1 := blk_frozen BK284.out 1) | ((with_reducible refine gate_callee (f := 80) rfl ?_); refine goesL_ (some 9) rfl rfl Tryz.func80 (by kernel_rfl) rfl #[.bool true, .agg #[.int .i64 a0_0, .int .i64 a0_1]] rfl az ?_; (with_reducible refine (real_signed.calls true a0_0 a0_1 t287 t288 _ A4.out).mono ?_); rintro e w11 ⟨rfl, hb⟩; refine ⟨_, rfl, ?_⟩; replace BK284 := kb BK284 hb; replace BK285 := kb BK285 hb; replace HB := bs hb; (try clear hb); have hcz12_0 := c20 BK285; have hcz12_1 := c21 BK285; have hfz12_0 := blk_frozen BK285.out 0; have hfz12_1 := blk_frozen BK285.out 1))
  refine bodyPost_ret (results_ct rfl _ _ gb285 23 #[.int .i64 t287, .int .i64 t288] (0, 0) _ rfl (by (with_reducible repeat (first | refine blk_drewN ?_ _ | refine blk_drew ?_ | refine blk_alloc ?_ _)); refine blk_put (cs := #[.int .i64 t287, .int .i64 0]) ?_ 1 _ rfl; (with_reducible repeat (first | refine blk_drewN ?_ _ | refine blk_drew ?_ | refine blk_alloc ?_ _)); refine blk_put (cs := #[.int .i64 0, .int .i64 0]) ?_ 0 _ rfl; (with_reducible repeat (first | refine blk_drewN ?_ _ | refine blk_drew ?_ | refine blk_alloc ?_ _)); exact BK285.out) Tryz.underlying23 rfl (by kernel_rfl)) rfl ?_
  exact ⟨by first | rfl | (simp [errW_none, errW_some] <;> rfl) | (simp [*, errW_none, errW_some] <;> rfl), bz⟩
 ·replace c3 := Bool.eq_false_iff.mpr c3
  subst c3
  rw [if_neg (show ¬ (false = true) by decide)] at H
  simp only [Option.some.injEq, Prod.mk.injEq] at H
  obtain ⟨rfl, rfl, rfl⟩ := H
  go_enter Tryz.func47, Tryz.ntmps47
  go_wp2_with (first | ((with_reducible refine gate_dst (N := 1) rfl ?_); refine box_event ?hg (N := 1) ?hd (cs := #[.int .i64 a0_0, .int .i64 a0_1]) (t := 23) ?hr ?_; (case hd => rfl); (case hg => rfl); (case hr => first | (go_simp; done) | (go_simp; rfl)); intro gb284 hg w13 hbox hb; have BK284 := Aside0.mk hbox; have GW284 := ge hg; have GE284 := ge hg; replace HB := bs hb; clear hb hbox hg) | ((with_reducible refine gate_dst (N := 2) rfl ?_); refine box_event ?hg (N := 2) ?hd (cs := #[.int .i64 0, .int .i64 0]) (t := 23) ?hr ?_; (case hd => rfl); (case hg => rfl); (case hr => first | (go_simp; done) | (go_simp; rfl)); intro gb285 hg w14 hbox hb; have BK285 := Aside0.mk hbox; have GW285 := ge hg; have GE285 := ge hg; have NB284_285 := nl BK284 hg; have NB285_284 := nr BK284 hg; replace BK284 := kb BK284 hb; replace HB := bs hb; clear hb hbox hg; have hnb15 := NB284_285.out; have hnc15 := NB285_284.out; have hcz16_0 := c20 BK284; have hcz16_1 := c21 BK284; have hfz16_0 := blk_frozen BK284.out 0; have hfz16_1 := blk_frozen BK284.out 1) | ((with_reducible refine gate_callee (f := 53) rfl ?_); refine goesL_ (some 5) rfl rfl Tryz.func53 (by kernel_rfl) rfl #[.agg #[.int .i64 a0_0, .int .i64 a0_1]] rfl az ?_; (with_reducible refine (real_Valid.calls a0_0 a0_1 false _ A2.out).mono ?_); rintro e w17 ⟨rfl, hb⟩; refine ⟨_, rfl, ?_⟩; replace BK284 := kb BK284 hb; replace BK285 := kb BK285 hb; replace HB := bs hb; (try clear hb); have hcz18_0 := c20 BK285; have hcz18_1 := c21 BK285; have hfz18_0 := blk_frozen BK285.out 0; have hfz18_1 := blk_frozen BK285.out 1))
  refine bodyPost_ret (results_ct rfl _ _ gb285 23 #[.int .i64 0, .int .i64 0] (0, 0) _ rfl (by (with_reducible repeat (first | refine blk_drewN ?_ _ | refine blk_drew ?_ | refine blk_alloc ?_ _)); refine blk_put (cs := #[.int .i64 0, .int .i64 0]) ?_ 1 _ rfl; (with_reducible repeat (first | refine blk_drewN ?_ _ | refine blk_drew ?_ | refine blk_alloc ?_ _)); refine blk_put (cs := #[.int .i64 0, .int .i64 0]) ?_ 0 _ rfl; (with_reducible repeat (first | refine blk_drewN ?_ _ | refine blk_drew ?_ | refine blk_alloc ?_ _)); exact BK285.out) Tryz.underlying23 rfl (by kernel_rfl)) rfl ?_
  exact ⟨by first | rfl | (simp [errW_none, errW_some] <;> rfl) | (simp [*, errW_none, errW_some] <;> rfl), bz⟩

def real_Abs.f (a0_0 : Int) (a0_1 : Int) : Option (Int × Int × Int) := (real_Valid.f a0_0 a0_1).bind fun t316 => (if t316 = true then ((real_signed.f (decide (a0_0 < 0)) a0_0 a0_1).bind fun bt317 => (some (bt317.1, bt317.2, 0))) else (some (0, 0, 1)))
theorem real_Abs.calls (a0_0 : Int) (a0_1 : Int) (r1 : Int) (r2 : Int) (r3 : Int) (w : World) (h : real_Abs.f a0_0 a0_1 = some (r1, r2, r3)) :
  Calls Tryz.prog 58 #[.agg #[.int .i64 a0_0, .int .i64 a0_1]] w fun e w' => e = .returned (.tuple #[.agg #[.int .i64 r1, .int .i64 r2], .int .i64 r3]) ∧ Below w.heap.size w w' := by
 have hu23 := Tryz.underlying23
 have HB := Aside0.mk (Below.refl w.heap.size w)
 have H := h; unfold real_Abs.f at H; clear h
 replace H := Option.bind_eq_some_iff.mp H
 obtain ⟨t316, A20, H⟩ := H
 try dsimp only at H
 have A2 := Aside0.mk A20
 clear A20
 by_cases c3 : t316 = true
 ·subst c3
  rw [if_pos rfl] at H
  replace H := Option.bind_eq_some_iff.mp H
  obtain ⟨⟨t317, t318⟩, A40, H⟩ := H
  try dsimp only at H
  have A4 := Aside0.mk A40
  clear A40
  simp only [Option.some.injEq, Prod.mk.injEq] at H
  obtain ⟨rfl, rfl, rfl⟩ := H
  go_enter Tryz.func58, Tryz.ntmps58
  go_wp2_with (first | ((with_reducible refine gate_dst (N := 1) rfl ?_); refine box_event ?hg (N := 1) ?hd (cs := #[.int .i64 a0_0, .int .i64 a0_1]) (t := 23) ?hr ?_; (case hd => rfl); (case hg => rfl); (case hr => first | (go_simp; done) | (go_simp; rfl)); intro gb314 hg w5 hbox hb; have BK314 := Aside0.mk hbox; have GW314 := ge hg; have GE314 := ge hg; replace HB := bs hb; clear hb hbox hg) | ((with_reducible refine gate_dst (N := 2) rfl ?_); refine box_event ?hg (N := 2) ?hd (cs := #[.int .i64 0, .int .i64 0]) (t := 23) ?hr ?_; (case hd => rfl); (case hg => rfl); (case hr => first | (go_simp; done) | (go_simp; rfl)); intro gb315 hg w6 hbox hb; have BK315 := Aside0.mk hbox; have GW315 := ge hg; have GE315 := ge hg; have NB314_315 := nl BK314 hg; have NB315_314 := nr BK314 hg; replace BK314 := kb BK314 hb; replace HB := bs hb; clear hb hbox hg; have hnb7 := NB314_315.out; have hnc7 := NB315_314.out; have hcz8_0 := c20 BK314; have hcz8_1 := c21 BK314; have hfz8_0 := blk_frozen BK314.out 0; have hfz8_1 := blk_frozen BK314.out 1) | ((with_reducible refine gate_callee (f := 53) rfl ?_); refine goesL_ (some 5) rfl rfl Tryz.func53 (by kernel_rfl) rfl #[.agg #[.int .i64 a0_0, .int .i64 a0_1]] rfl az ?_; (with_reducible refine (real_Valid.calls a0_0 a0_1 true _ A2.out).mono ?_); rintro e w9 ⟨rfl, hb⟩; refine ⟨_, rfl, ?_⟩; replace BK314 := kb BK314 hb; replace BK315 := kb BK315 hb; replace HB := bs hb; (try clear hb); have hcz10_0 := c20 BK314; have hcz10_1 := c21 BK314; have hfz10_0 := blk_frozen BK314.out 0; have hfz10_1 := blk_frozen BK314.out 1) | ((with_reducible refine gate_callee (f := 80) rfl ?_); refine goesL_ (some 12) rfl rfl Tryz.func80 (by kernel_rfl) rfl #[.bool (decide (a0_0 < 0)), .agg #[.int .i64 a0_0, .int .i64 a0_1]] rfl az ?_; (with_reducible refine (real_signed.calls (decide (a0_0 < 0)) a0_0 a0_1 t317 t318 _ A4.out).mono ?_); rintro e w11 ⟨rfl, hb⟩; refine ⟨_, rfl, ?_⟩; replace BK314 := kb BK314 hb; replace BK315 := kb BK315 hb; replace HB := bs hb; (try clear hb); have hcz12_0 := c20 BK315; have hcz12_1 := c21 BK315; have hfz12_0 := blk_frozen BK315.out 0; have hfz12_1 := blk_frozen BK315.out 1))
  refine bodyPost_ret (results_ct rfl _ _ gb315 23 #[.int .i64 t317, .int .i64 t318] (0, 0) _ rfl (by (with_reducible repeat (first | refine blk_drewN ?_ _ | refine blk_drew ?_ | refine blk_alloc ?_ _)); refine blk_put (cs := #[.int .i64 t317, .int .i64 0]) ?_ 1 _ rfl; (with_reducible repeat (first | refine blk_drewN ?_ _ | refine blk_drew ?_ | refine blk_alloc ?_ _)); refine blk_put (cs := #[.int .i64 0, .int .i64 0]) ?_ 0 _ rfl; (with_reducible repeat (first | refine blk_drewN ?_ _ | refine blk_drew ?_ | refine blk_alloc ?_ _)); exact BK315.out) Tryz.underlying23 rfl (by kernel_rfl)) rfl ?_
  exact ⟨by first | rfl | (simp [errW_none, errW_some] <;> rfl) | (simp [*, errW_none, errW_some] <;> rfl), bz⟩
 ·replace c3 := Bool.eq_false_iff.mpr c3
  subst c3
  rw [if_neg (show ¬ (false = true) by decide)] at H
  simp only [Option.some.injEq, Prod.mk.injEq] at H
  obtain ⟨rfl, rfl, rfl⟩ := H
  go_enter Tryz.func58, Tryz.ntmps58
  go_wp2_with (first | ((with_reducible refine gate_dst (N := 1) rfl ?_); refine box_event ?hg (N := 1) ?hd (cs := #[.int .i64 a0_0, .int .i64 a0_1]) (t := 23) ?hr ?_; (case hd => rfl); (case hg => rfl); (case hr => first | (go_simp; done) | (go_simp; rfl)); intro gb314 hg w13 hbox hb; have BK314 := Aside0.mk hbox; have GW314 := ge hg; have GE314 := ge hg; replace HB := bs hb; clear hb hbox hg) | ((with_reducible refine gate_dst (N := 2) rfl ?_); refine box_event ?hg (N := 2) ?hd (cs := #[.int .i64 0, .int .i64 0]) (t := 23) ?hr ?_; (case hd => rfl); (case hg => rfl); (case hr => first | (go_simp; done) | (go_simp; rfl)); intro gb315 hg w14 hbox hb; have BK315 := Aside0.mk hbox; have GW315 := ge hg; have GE315 := ge hg; have NB314_315 := nl BK314 hg; have NB315_314 := nr BK314 hg; replace BK314 := kb BK314 hb; replace HB := bs hb; clear hb hbox hg; have hnb15 := NB314_315.out; have hnc15 := NB315_314.out; have hcz16_0 := c20 BK314; have hcz16_1 := c21 BK314; have hfz16_0 := blk_frozen BK314.out 0; have hfz16_1 := blk_frozen BK314.out 1) | ((with_reducible refine gate_callee (f := 53) rfl ?_); refine goesL_ (some 5) rfl rfl Tryz.func53 (by kernel_rfl) rfl #[.agg #[.int .i64 a0_0, .int .i64 a0_1]] rfl az ?_; (with_reducible refine (real_Valid.calls a0_0 a0_1 false _ A2.out).mono ?_); rintro e w17 ⟨rfl, hb⟩; refine ⟨_, rfl, ?_⟩; replace BK314 := kb BK314 hb; replace BK315 := kb BK315 hb; replace HB := bs hb; (try clear hb); have hcz18_0 := c20 BK315; have hcz18_1 := c21 BK315; have hfz18_0 := blk_frozen BK315.out 0; have hfz18_1 := blk_frozen BK315.out 1))
  refine bodyPost_ret (results_ct rfl _ _ gb315 23 #[.int .i64 0, .int .i64 0] (0, 0) _ rfl (by (with_reducible repeat (first | refine blk_drewN ?_ _ | refine blk_drew ?_ | refine blk_alloc ?_ _)); refine blk_put (cs := #[.int .i64 0, .int .i64 0]) ?_ 1 _ rfl; (with_reducible repeat (first | refine blk_drewN ?_ _ | refine blk_drew ?_ | refine blk_alloc ?_ _)); refine blk_put (cs := #[.int .i64 0, .int .i64 0]) ?_ 0 _ rfl; (with_reducible repeat (first | refine blk_drewN ?_ _ | refine blk_drew ?_ | refine blk_alloc ?_ _)); exact BK315.out) Tryz.underlying23 rfl (by kernel_rfl)) rfl ?_
  exact ⟨by first | rfl | (simp [errW_none, errW_some] <;> rfl) | (simp [*, errW_none, errW_some] <;> rfl), bz⟩

-- NOT PRINTED: function 15 (manorboylaw02_RealNumbers)

end Go.Proofs.YteigbokklclmbaaGreatDoor.Z.Y.V
end
section
namespace Go.Proofs.YteigbokklclmbaaGreatDoor.M
open Go Go.RowKit Go.Proofs.YteigbokklclmbaaGreatDoor.Given Go.Proofs.YteigbokklclmbaaGreatDoorW.PrintWords Go.Proofs.YteigbokklclmbaaGreatDoorW.PrintLast Go.Proofs.YteigbokklclmbaaGreatDoorW.PrintMore Go.Proofs.YteigbokklclmbaaGreatDoor.Z Go.Proofs.YteigbokklclmbaaGreatDoor.Z.Y Go.Proofs.YteigbokklclmbaaGreatDoor.Z.Y.V Go.Proofs.YteigbokklclmbaaGreatDoor.Z.Y.Q
theorem sval_opp {a b : Bool} {g h : Nat} (e : sval a g = -sval b h) : g = h ∧ (g = 0 ∨ a = !b) := by
  cases a <;> cases b <;> simp [sval] at e ⊢ <;> omega
theorem res3_zero (n : Bool) : res3 n 0 = (0, 0, 0) := by cases n <;> rfl
theorem Neg_ev {a b : Int} (hw : I64 a) (h : VR a b) : real_Neg.f a b = some (-a, b, 0) := by
  obtain ⟨_, _, hw', _⟩ := neg_VR hw h
  rw [real_Neg.f, Valid_ev h, Option.bind_some, if_pos rfl, signed_is true (a, b), Option.bind_some]
  rw [if_pos rfl]
  show some (wrap64 (-a), b, 0) = _
  rw [hw']
theorem zero_VR : VR 0 0 := .inl ⟨rfl, rfl⟩
theorem Neg_zero : real_Neg.f 0 0 = some (0, 0, 0) := by rw [Neg_ev ⟨by decide, by decide⟩ zero_VR]; rfl
/-- The opposite value, the opposite result. -/
theorem res_opp {n n' : Bool} {N N' D I I' : Nat} (hD : 0 < D) (h : Rd N D I) (h' : Rd N' D I') (e : sval n' N' = -sval n N) :
    (res3 n' I').2.2 = (res3 n I).2.2 ∧ real_Neg.f (res3 n' I').1 (res3 n' I').2.1 = some ((res3 n I).1, (res3 n I).2.1, 0) := by
  obtain ⟨rfl, hs⟩ := sval_opp e
  have hI := Rd.only hD hD h h' rfl
  subst hI
  by_cases hI : 2533359615 < I
  · unfold res3; rw [if_pos hI, if_pos hI]; exact ⟨rfl, Neg_zero⟩
  · obtain ⟨v1, w1⟩ := res_VR (neg := n') (Nat.not_lt.1 hI)
    rw [res3_in (Nat.not_lt.1 hI), res3_in (Nat.not_lt.1 hI)]
    refine ⟨rfl, ?_⟩
    dsimp only
    rw [Neg_ev w1 v1]
    rcases hs with rfl | rfl
    · rw [h.nil hD, sgn_zero, sgn_zero]; rfl
    · cases n
      · simp only [sgn, Bool.not_false, if_true, Bool.false_eq_true, if_false, Int.neg_neg]
      · simp only [sgn, Bool.not_true, if_true, Bool.false_eq_true, if_false]
theorem sh_le {i j : Nat} (h : i ≤ j) : sh i ≤ sh j := by
  unfold sh
  have := Nat.div_le_div_right (c := 8388608) h
  omega
end Go.Proofs.YteigbokklclmbaaGreatDoor.M
end
section
namespace Go.Proofs.YteigbokklclmbaaGreatDoor.Z
open Go Go.RowKit Go.Proofs.YteigbokklclmbaaGreatDoor.Given Go.Proofs.YteigbokklclmbaaGreatDoorW.PrintWords Go.Proofs.YteigbokklclmbaaGreatDoorW.PrintLast Go.Proofs.YteigbokklclmbaaGreatDoorW.PrintMore
theorem real_one.calls (w : World) : Calls Tryz.prog 69 #[] w fun e w' => e = .returned (.agg #[.int .i64 8388608, .int .i64 (-23)]) ∧ Below w.heap.size w w' := by
  go_enter Tryz.func69, Tryz.ntmps69
  go_wp2_with fail
  refine (real_FromIntN.calls 60 1 8388608 (-23) _ (by kernel_rfl)).mono ?_
  rintro e w1 ⟨rfl, hb⟩
  have hz : w1.heap[w.heap.size]? = some (.cells #[.int .i64 0, .int .i64 0] 23 (0, 0)) := blk_below (new_at _ _ _ rfl) hb
  have hB : Below w.heap.size w w1 := ((Below.refl _ w).alloc (Nat.le_refl _) _).trans (hb.mono (by simp))
  have z0 : w1.cell? ⟨w.heap.size, 0, none⟩ = some (.int .i64 0) := (blk_cell hz 0).trans rfl
  have z1 : w1.cell? ⟨w.heap.size, 1, none⟩ = some (.int .i64 0) := (blk_cell hz 1).trans rfl
  have f0 := blk_frozen hz 0
  have f1 := blk_frozen hz 1
  have lz := blk_lt hz
  clear hb
  go_wp2
  have fz := heap_setCell_same (w1.setCell ⟨w.heap.size, 0, none⟩ (.int .i64 8388608)) w.heap.size 1 _ _ (.int .i64 (-23)) (heap_setCell_same w1 w.heap.size 0 _ _ (.int .i64 8388608) hz)
  refine bodyPost_ret (results_cell_row rfl _ _ w.heap.size 23 #[.int .i64 8388608, .int .i64 (-23)] (0, 0) _ rfl fz Tryz.underlying23 rfl (by kernel_rfl)) rfl ?_
  exact ⟨rfl, (hB.setCell (Nat.le_refl _) _).setCell (Nat.le_refl _) _⟩
def real_power.f : Nat → Int → Int → Int → Option (Int × Int)
  | 0, _, _, _ => none
  | k + 1, x0, x1, n => if n = 0 then some (8388608, -23) else if n % 2 = 1 then (real_power.f k x0 x1 (n - 1)).bind fun y => if y.2 = 1000 then some y else real_product.f k x0 x1 y.1 y.2
    else (real_power.f k x0 x1 (n / 2)).bind fun y => if y.2 = 1000 then some y else real_product.f k y.1 y.2 y.1 y.2
def real_power.T4 : Bool × List (List Nat × List Nat) := (true, [([], []), ([], []), ([], []), ([2], [2]), ([1, 3], [1, 3]), ([0, 4, 4], [0, 4]), ([5, 5, 0, 1, 2, 3, 4, 5], [5])])
def real_power.B4 : List Nat := [0, 0, 0, 4, 14, 31, 63]
theorem real_power.tab4 : rtab .any (opsOf Tryz.f66 4) = real_power.T4 := by kernel_rfl
theorem real_power.bits4 : waitsOk real_power.T4.2 real_power.B4 = true := by kernel_rfl
theorem real_power.calls : ∀ (k : Nat) (x0 x1 n r1 r2 : Int) (w : World), real_power.f k x0 x1 n = some (r1, r2) → 0 ≤ n → n < 18446744073709551616 →
    Calls Tryz.prog 66 #[.agg #[.int .i64 x0, .int .i64 x1], .int .u64 n] w fun e w' => e = ending r1 r2 ∧ Below w.heap.size w w' := by
  intro k
  induction k with
  | zero => intro x0 x1 n r1 r2 w h; exact absurd h (by simp [real_power.f])
  | succ k ih =>
    intro x0 x1 n r1 r2 w h hn hn2
    have IH := Lib.hid ih
    clear ih
    rw [real_power.f] at h
    by_cases c0 : n = 0
    · rw [if_pos c0] at h
      cases h
      subst c0
      go_enter Tryz.func66, Tryz.ntmps66
      go_wp2_with fail
      refine (real_one.calls _).mono ?_
      rintro e w1 ⟨rfl, hb⟩
      have hz : w1.heap[w.heap.size + 1]? = some (.cells #[.int .i64 0, .int .i64 0] 23 (0, 0)) := blk_below (new_at _ _ _ (by simp only [World.size_alloc])) hb
      have hB : Below w.heap.size w w1 := (((Below.refl _ w).alloc (Nat.le_refl _) _).alloc (by simp only [World.size_alloc]; omega) _).trans (hb.mono (by simp only [World.size_alloc]; omega))
      have z0 : w1.cell? ⟨w.heap.size + 1, 0, none⟩ = some (.int .i64 0) := (blk_cell hz 0).trans rfl
      have z1 : w1.cell? ⟨w.heap.size + 1, 1, none⟩ = some (.int .i64 0) := (blk_cell hz 1).trans rfl
      have f0 := blk_frozen hz 0
      have f1 := blk_frozen hz 1
      have lz := blk_lt hz
      clear hb
      go_wp2
      have fz := heap_setCell_same (w1.setCell ⟨w.heap.size + 1, 0, none⟩ (.int .i64 8388608)) (w.heap.size + 1) 1 _ _ (.int .i64 (-23)) (heap_setCell_same w1 (w.heap.size + 1) 0 _ _ (.int .i64 8388608) hz)
      refine bodyPost_ret (results_cell_row rfl _ _ (w.heap.size + 1) 23 #[.int .i64 8388608, .int .i64 (-23)] (0, 0) _ rfl fz Tryz.underlying23 rfl (by kernel_rfl)) rfl ?_
      exact ⟨rfl, (hB.setCell (by simp only; omega) _).setCell (by simp only; omega) _⟩
    · rw [if_neg c0] at h
      have c0b : (n == 0) = false := beq_eq_false_iff_ne.mpr c0
      by_cases c1 : n % 2 = 1
      · rw [if_pos c1] at h
        obtain ⟨⟨y1, y2⟩, hy, h⟩ := Option.bind_eq_some_iff.mp h
        have HY := Lib.hid hy
        have H := Lib.hid h
        clear h hy
        have hn1 : 0 ≤ n - 1 := by omega
        have hn3 : n - 1 < 18446744073709551616 := by omega
        have u1 : IntKind.u64.wrap (n - 1) = n - 1 := by simp [IntKind.wrap, IntKind.bits, IntKind.signed]; omega
        go_enter Tryz.func66, Tryz.ntmps66
        go_wp2_with fail
        have kx : ((w.alloc (.cells #[.int .i64 x0, .int .i64 x1] 23)).alloc (.cells #[.int .i64 0, .int .i64 0] 23)).drew.heap[w.heap.size]? = some (.cells #[.int .i64 x0, .int .i64 x1] 23 (0, 0)) := blk_drew (blk_alloc (new_at _ _ _ rfl) _)
        have kz : ((w.alloc (.cells #[.int .i64 x0, .int .i64 x1] 23)).alloc (.cells #[.int .i64 0, .int .i64 0] 23)).drew.heap[w.heap.size + 1]? = some (.cells #[.int .i64 0, .int .i64 0] 23 (0, 0)) := blk_drew (new_at _ _ _ (by simp only [World.size_alloc]))
        have hB := below_drew1 (((Below.refl _ w).alloc (Nat.le_refl _) (.cells #[.int .i64 x0, .int .i64 x1] 23)).alloc (by simp only [World.size_alloc]; omega) (.cells #[.int .i64 0, .int .i64 0] 23))
        refine start_ (n := 7) (S := fun w' => w'.cell? ⟨w.heap.size, 0, none⟩ = some (.int .i64 x0) ∧ w'.cell? ⟨w.heap.size, 1, none⟩ = some (.int .i64 x1)) (ds := []) #[false, false, false, false, false, false, false] (by kernel_rfl) rfl rfl ⟨(blk_cell kx 0).trans rfl, (blk_cell kx 1).trans rfl⟩ (fun hHeld => ?_); refine with_tabW real_power.tab4 real_power.bits4 (fun HT_ HW_ => ?_)
        generalize ((w.alloc (.cells #[.int .i64 x0, .int .i64 x1] 23)).alloc (.cells #[.int .i64 0, .int .i64 0] 23)).drew = w1 at kx kz hB hHeld ⊢
        have KX := Lib.hid kx
        have KZ := Lib.hid kz
        have HB := Lib.hid hB
        clear kx kz hB
        refine pur 2 (some 14) #[ff,ff,tt,ff,ff,ff,ff] ?_
        refine pur 3 (some 15) #[ff,ff,tt,tt,ff,ff,ff] ?_
        refine tk2 0 (some 12) #[tt,ff,tt,tt,ff,ff,ff] ?_
        refine tk2 1 (some 13) #[tt,tt,tt,tt,ff,ff,ff] ?_
        refine one_ (i := 4) (N := some 16) #[true, true, true, true, true, false, false] rfl rfl (one_of HT_.out (by kernel_rfl)) (by decide) (fun K hK => ?_)
        refine goesP_ Tryz.func66 (by kernel_rfl) rfl #[.agg #[.int .i64 x0, .int .i64 x1], .int .u64 (n - 1)] (by rfl) rfl rfl ay ?_
        with_reducible refine (IH.out x0 x1 (n - 1) y1 y2 _ HY.out hn1 hn3).mono ?_
        rintro e w3 ⟨he_, hb⟩
        refine ends_ he_ (fun p1_ => And.intro rfl (And.intro ?_ (HB.out.trans (hb.mono HB.out.size)))) (fun hpn_ => ?_)
        · have h := H.out
          simp only [if_pos p1_, Option.some.injEq, Prod.mk.injEq] at h
          exact code_direct (h.2 ▸ p1_)
        have h := H.out
        simp only [if_neg hpn_] at h
        have kx := blk_below KX.out hb
        have kz := blk_below KZ.out hb
        have hB := HB.out.trans (hb.mono HB.out.size)
        refine hK.out _ _ ⟨(blk_cell kx 0).trans rfl, (blk_cell kx 1).trans rfl⟩ (fun hHeld => ?_)
        clear hK K H HB KX KZ hb
        refine norm_ (a' := ?_) ?_ ?_
        rotate_left
        · show Act.put _ (some 16) _ = _
          simp only [Act.put, List.setIfInBounds_toArray, List.set_cons_zero, List.set_cons_succ, i64_w, i32_w]
          rfl
        refine one_ (i := 5) (N := some 17) #[true, true, true, true, true, true, false] rfl rfl (one_of HT_.out (by kernel_rfl)) (by decide) (fun K hK => ?_)
        refine goesP_ Tryz.func96 (by kernel_rfl) rfl #[.agg #[.int .i64 x0, .int .i64 x1], .agg #[.int .i64 y1, .int .i64 y2]] (by rfl) rfl rfl ay ?_
        with_reducible refine (real_product.calls k x0 x1 y1 y2 r1 r2 _ h).mono ?_
        rintro e w4 ⟨he_, hb⟩
        refine ends_ he_ (fun p1_ => And.intro rfl (And.intro (code_direct p1_) (hB.trans (hb.mono hB.size)))) (fun hpn2_ => ?_)
        replace kx := blk_below kx hb
        replace kz := blk_below kz hb
        replace hB := hB.trans (hb.mono hB.size)
        refine hK.out _ _ ⟨(blk_cell kx 0).trans rfl, (blk_cell kx 1).trans rfl⟩ (fun hHeld => ?_)
        clear hK K hb
        refine norm_ (a' := ?_) ?_ ?_
        rotate_left
        · show Act.put _ (some 17) _ = _
          simp only [Act.put, List.setIfInBounds_toArray, List.set_cons_zero, List.set_cons_succ, i64_w, i32_w]
          rfl
        refine one_ (i := 6) (N := none) #[true, true, true, true, true, true, true] rfl rfl (one_of HT_.out (by kernel_rfl)) (by decide) (fun K hK => ?_)
        have z0 : w4.cell? ⟨w.heap.size + 1, 0, none⟩ = some (.int .i64 0) := (blk_cell kz 0).trans rfl
        have z1 : w4.cell? ⟨w.heap.size + 1, 1, none⟩ = some (.int .i64 0) := (blk_cell kz 1).trans rfl
        have f0 := blk_frozen kz 0
        have f1 := blk_frozen kz 1
        have hne : w.heap.size ≠ w.heap.size + 1 := by omega
        refine skip_ (w1 := ?_) (by rfl) rfl ?_ ?_
        rotate_left
        · go_simp
          rfl
        refine hK.out _ _ ⟨((cell_far (p := ⟨w.heap.size + 1, _, none⟩) hne _).trans ((cell_far (p := ⟨w.heap.size + 1, _, none⟩) hne _).trans hHeld.1)), ((cell_far (p := ⟨w.heap.size + 1, _, none⟩) hne _).trans ((cell_far (p := ⟨w.heap.size + 1, _, none⟩) hne _).trans hHeld.2))⟩ (fun hHeld => ?_)
        clear hK K
        refine done_ (done_of HT_.out (by kernel_rfl)) ?_
        try go_wp2
        have fz := heap_setCell_same (w4.setCell ⟨w.heap.size + 1, 0, none⟩ (.int .i64 r1)) (w.heap.size + 1) 1 _ _ (.int .i64 r2) (heap_setCell_same w4 (w.heap.size + 1) 0 _ _ (.int .i64 r1) kz)
        refine bodyPost_ret (results_cell_row rfl _ _ (w.heap.size + 1) 23 #[.int .i64 r1, .int .i64 r2] (0, 0) _ rfl fz Tryz.underlying23 rfl (by kernel_rfl)) rfl ?_
        exact ⟨(ending_at hpn2_).symm, (hB.setCell (by simp only; omega) _).setCell (by simp only; omega) _⟩
      · rw [if_neg c1] at h
        obtain ⟨⟨y1, y2⟩, hy, h⟩ := Option.bind_eq_some_iff.mp h
        have HY := Lib.hid hy
        have H := Lib.hid h
        clear h hy
        have hn1 : 0 ≤ n / 2 := by omega
        have hn3 : n / 2 < 18446744073709551616 := by omega
        by_cases hp : y2 = 1000
        · have e1 : ending y1 y2 = .panicked chain := by unfold ending; rw [if_pos hp]
          have e2 : y1 = r1 ∧ y2 = r2 := by have h := H.out; rw [if_pos hp] at h; simpa using h
          obtain ⟨rfl, rfl⟩ := e2
          go_enter Tryz.func66, Tryz.ntmps66
          go_wp2_with fail
          refine (IH.out x0 x1 (n / 2) y1 y2 _ HY.out hn1 hn3).mono ?_
          rintro e w3 ⟨rfl, hb⟩
          have hB : Below w.heap.size w w3 := (((Below.refl _ w).alloc (Nat.le_refl _) _).alloc (by simp only [World.size_alloc]; omega) _).trans (hb.mono (by simp only [World.size_alloc]; omega))
          rw [e1]
          exact ⟨rfl, by rw [e1], hB⟩
        · have e1 : ending y1 y2 = .returned (.agg #[.int .i64 y1, .int .i64 y2]) := ending_at hp
          have h := H.out
          simp only [if_neg hp] at h
          have H2 := Lib.hid h
          clear h H
          go_enter Tryz.func66, Tryz.ntmps66
          go_wp2_with fail
          refine (IH.out x0 x1 (n / 2) y1 y2 _ HY.out hn1 hn3).mono ?_
          rintro e w3 ⟨rfl, hb⟩
          have hz : w3.heap[w.heap.size + 1]? = some (.cells #[.int .i64 0, .int .i64 0] 23 (0, 0)) := blk_below (new_at _ _ _ (by simp only [World.size_alloc])) hb
          have hB : Below w.heap.size w w3 := (((Below.refl _ w).alloc (Nat.le_refl _) _).alloc (by simp only [World.size_alloc]; omega) _).trans (hb.mono (by simp only [World.size_alloc]; omega))
          have HZ := Lib.hid hz
          have HB := Lib.hid hB
          clear hb hz hB
          rw [e1]
          go_wp2_with fail
          refine (real_product.calls k y1 y2 y1 y2 r1 r2 _ H2.out).mono ?_
          rintro e w4 ⟨rfl, hb⟩
          have hz := blk_below (blk_alloc HZ.out (.cells #[.int .i64 y1, .int .i64 y2] 23)) hb
          have hB : Below w.heap.size w w4 := (HB.out.alloc HB.out.size _).trans (hb.mono (by simp only [World.size_alloc]; exact Nat.le_succ_of_le HB.out.size))
          by_cases hq : r2 = 1000
          · have e2 : ending r1 r2 = .panicked chain := by unfold ending; rw [if_pos hq]
            rw [e2]
            exact ⟨rfl, by rw [e2], hB⟩
          · have e2 : ending r1 r2 = .returned (.agg #[.int .i64 r1, .int .i64 r2]) := ending_at hq
            rw [e2]
            have z0 : w4.cell? ⟨w.heap.size + 1, 0, none⟩ = some (.int .i64 0) := (blk_cell hz 0).trans rfl
            have z1 : w4.cell? ⟨w.heap.size + 1, 1, none⟩ = some (.int .i64 0) := (blk_cell hz 1).trans rfl
            have f0 := blk_frozen hz 0
            have f1 := blk_frozen hz 1
            have lz := blk_lt hz
            clear hb
            go_wp2
            have fz := heap_setCell_same (w4.setCell ⟨w.heap.size + 1, 0, none⟩ (.int .i64 r1)) (w.heap.size + 1) 1 _ _ (.int .i64 r2) (heap_setCell_same w4 (w.heap.size + 1) 0 _ _ (.int .i64 r1) hz)
            refine bodyPost_ret (results_cell_row rfl _ _ (w.heap.size + 1) 23 #[.int .i64 r1, .int .i64 r2] (0, 0) _ rfl fz Tryz.underlying23 rfl (by kernel_rfl)) rfl ?_
            exact ⟨e2.symm, (hB.setCell (by simp only; omega) _).setCell (by simp only; omega) _⟩
theorem u64_of {n : Int} (h0 : 0 ≤ n) (h1 : n < 9223372036854775808) : IntKind.u64.wrap n = n := by simp [IntKind.wrap, IntKind.bits, IntKind.signed]; omega
theorem u64_neg {n : Int} (h0 : n < 0) (h1 : -9223372036854775808 ≤ n) : IntKind.u64.wrap (-(IntKind.u64.wrap n)) = -n := by simp [IntKind.wrap, IntKind.bits, IntKind.signed]; omega
theorem pow1_c (k : Nat) (b c : Nat) (x0 x1 n m x : Int) (hp : real_power.f k x0 x1 n = some (m, x)) (hn : 0 ≤ n) (hn2 : n < 9223372036854775808) (w : World)
    (hb : w.heap[b]? = some (.cells #[.int .i64 x0, .int .i64 x1] 23 (0, 0))) (hc : w.heap[c]? = some (.cells #[.int .i64 n] 3 (0, 0))) :
    Calls Tryz.prog 65 #[.pointer (some ⟨b, 0, none⟩), .pointer (some ⟨c, 0, none⟩)] w fun e w' => e = ending m x ∧ Below w.heap.size w w' := by
  have HP := Lib.hid hp
  have b0 : w.cell? ⟨b, 0, none⟩ = some (.int .i64 x0) := (blk_cell hb 0).trans rfl
  have b1 : w.cell? ⟨b, 1, none⟩ = some (.int .i64 x1) := (blk_cell hb 1).trans rfl
  have c0 : w.cell? ⟨c, 0, none⟩ = some (.int .i64 n) := (blk_cell hc 0).trans rfl
  have lb := blk_lt hb
  have lc := blk_lt hc
  have hu := u64_of hn hn2
  have hn3 : n < 18446744073709551616 := by omega
  clear hp hb hc
  by_cases hx : x = 1000
  · have e1 : ending m x = .panicked chain := by unfold ending; rw [if_pos hx]
    go_enter Tryz.func65, Tryz.ntmps65
    go_wp2_with fail
    refine (real_power.calls k x0 x1 n m x _ HP.out hn hn3).mono ?_
    rintro e w3 ⟨rfl, hb⟩
    have hB : Below w.heap.size w w3 := ((Below.refl _ w).alloc (Nat.le_refl _) _).trans (hb.mono (by simp))
    rw [e1]
    exact ⟨rfl, by rw [e1], hB⟩
  · have e1 : ending m x = .returned (.agg #[.int .i64 m, .int .i64 x]) := ending_at hx
    rw [e1]
    go_enter Tryz.func65, Tryz.ntmps65
    go_wp2_with fail
    refine (real_power.calls k x0 x1 n m x _ HP.out hn hn3).mono ?_
    rintro e w3 ⟨rfl, hb⟩
    have hB : Below w.heap.size w w3 := ((Below.refl _ w).alloc (Nat.le_refl _) _).trans (hb.mono (by simp))
    have hz : w3.heap[w.heap.size]? = some (.cells #[.int .i64 0, .int .i64 0] 23 (0, 0)) := blk_below (blk_new _ _) hb
    have z0 : w3.cell? ⟨w.heap.size, 0, none⟩ = some (.int .i64 0) := (blk_cell hz 0).trans rfl
    have z1 : w3.cell? ⟨w.heap.size, 1, none⟩ = some (.int .i64 0) := (blk_cell hz 1).trans rfl
    have f0 := blk_frozen hz 0
    have f1 := blk_frozen hz 1
    have lz := blk_lt hz
    clear hb
    rw [e1]
    go_wp2
    have fz := heap_setCell_same (w3.setCell ⟨w.heap.size, 0, none⟩ (.int .i64 m)) w.heap.size 1 _ _ (.int .i64 x) (heap_setCell_same w3 w.heap.size 0 _ _ (.int .i64 m) hz)
    refine bodyPost_ret (results_cell_row rfl _ _ w.heap.size 23 #[.int .i64 m, .int .i64 x] (0, 0) _ rfl fz Tryz.underlying23 rfl (by kernel_rfl)) rfl ?_
    exact ⟨rfl, (hB.setCell (Nat.le_refl _) _).setCell (Nat.le_refl _) _⟩
def real_pow2.f (k : Nat) (x0 x1 n : Int) : Option (Int × Int) := (real_power.f k x0 x1 (-n)).bind fun y => if y.2 = 1000 then some y else if y.1 = 0 then some (0, 1000) else real_quotient.f k 8388608 (-23) y.1 y.2
def real_pow2.T4 : Bool × List (List Nat × List Nat) := (true, [([], []), ([], []), ([0, 1, 0], [0, 1]), ([2, 2, 0, 1, 2], [2])])
def real_pow2.B4 : List Nat := [0, 0, 3, 7]
theorem real_pow2.tab4 : rtab .any (opsOf Tryz.f67 4) = real_pow2.T4 := by kernel_rfl
theorem real_pow2.bits4 : waitsOk real_pow2.T4.2 real_pow2.B4 = true := by kernel_rfl
theorem pow2_c (k : Nat) (b c : Nat) (x0 x1 n m x : Int) (hp : real_pow2.f k x0 x1 n = some (m, x)) (hn : n < 0) (hn2 : -9223372036854775808 ≤ n) (w : World)
    (hb : w.heap[b]? = some (.cells #[.int .i64 x0, .int .i64 x1] 23 (0, 0))) (hc : w.heap[c]? = some (.cells #[.int .i64 n] 3 (0, 0))) :
    Calls Tryz.prog 67 #[.pointer (some ⟨b, 0, none⟩), .pointer (some ⟨c, 0, none⟩)] w fun e w' => e = ending m x ∧ Below w.heap.size w w' := by
  unfold real_pow2.f at hp
  obtain ⟨⟨y1, y2⟩, hy, hp⟩ := Option.bind_eq_some_iff.mp hp
  have HY := Lib.hid hy
  have HP := Lib.hid hp
  have b0 : w.cell? ⟨b, 0, none⟩ = some (.int .i64 x0) := (blk_cell hb 0).trans rfl
  have b1 : w.cell? ⟨b, 1, none⟩ = some (.int .i64 x1) := (blk_cell hb 1).trans rfl
  have c0 : w.cell? ⟨c, 0, none⟩ = some (.int .i64 n) := (blk_cell hc 0).trans rfl
  have lb := blk_lt hb
  have lc := blk_lt hc
  have hu := u64_neg hn hn2
  have hn3 : -n < 18446744073709551616 := by omega
  have hn4 : 0 ≤ -n := by omega
  clear hp hy hb hc
  by_cases hx : y2 = 1000
  · have e1 : ending y1 y2 = .panicked chain := by unfold ending; rw [if_pos hx]
    have e2 : y1 = m ∧ y2 = x := by have h := HP.out; simp only [if_pos hx] at h; simpa using h
    obtain ⟨rfl, rfl⟩ := e2
    go_enter Tryz.func67, Tryz.ntmps67
    go_wp2_with fail
    refine (real_power.calls k x0 x1 (-n) y1 y2 _ HY.out hn4 hn3).mono ?_
    rintro e w3 ⟨rfl, hb⟩
    have hB : Below w.heap.size w w3 := ((Below.refl _ w).alloc (Nat.le_refl _) _).trans (hb.mono (by simp))
    rw [e1]
    exact ⟨rfl, by rw [e1], hB⟩
  · have e1 : ending y1 y2 = .returned (.agg #[.int .i64 y1, .int .i64 y2]) := ending_at hx
    have h := HP.out
    simp only [if_neg hx] at h
    have H := Lib.hid h
    clear HP h
    by_cases hy0 : y1 = 0
    · have e2 : 0 = m ∧ 1000 = x := by have h := H.out; rw [if_pos hy0] at h; simpa using h
      obtain ⟨rfl, rfl⟩ := e2
      subst hy0
      go_enter Tryz.func67, Tryz.ntmps67
      go_wp2_with fail
      refine (real_power.calls k x0 x1 (-n) 0 y2 _ HY.out hn4 hn3).mono ?_
      rintro e w3 ⟨rfl, hb⟩
      have hB : Below w.heap.size w w3 := ((Below.refl _ w).alloc (Nat.le_refl _) _).trans (hb.mono (by simp))
      rw [e1]
      clear hb
      go_wp2_with fail
      rw [panics77]
      exact ⟨rfl, rfl, hB.alloc hB.size _⟩
    · have h := H.out
      simp only [if_neg hy0] at h
      have HQ := Lib.hid h
      clear H h
      have y0b : (y1 == 0) = false := beq_eq_false_iff_ne.mpr hy0
      go_enter Tryz.func67, Tryz.ntmps67
      go_wp2_with fail
      refine (real_power.calls k x0 x1 (-n) y1 y2 _ HY.out hn4 hn3).mono ?_
      rintro e w3 ⟨rfl, hb⟩
      have hB : Below w.heap.size w w3 := ((Below.refl _ w).alloc (Nat.le_refl _) _).trans (hb.mono (by simp))
      have hz : w3.heap[w.heap.size]? = some (.cells #[.int .i64 0, .int .i64 0] 23 (0, 0)) := blk_below (blk_new _ _) hb
      rw [e1]
      have lz := blk_lt hz
      have HZ := Lib.hid hz
      have HB := Lib.hid hB
      clear hb hz hB
      go_wp2_with fail
      have ky : (w3.alloc (.cells #[.int .i64 y1, .int .i64 y2] 23)).drew.heap[w3.heap.size]? = some (.cells #[.int .i64 y1, .int .i64 y2] 23 (0, 0)) := blk_drew (blk_new _ _)
      have kz : (w3.alloc (.cells #[.int .i64 y1, .int .i64 y2] 23)).drew.heap[w.heap.size]? = some (.cells #[.int .i64 0, .int .i64 0] 23 (0, 0)) := blk_drew (blk_alloc HZ.out _)
      have hB := below_drew1 (HB.out.alloc HB.out.size (.cells #[.int .i64 y1, .int .i64 y2] 23))
      refine start_ (n := 4) (S := fun w' => w'.cell? ⟨w3.heap.size, 0, none⟩ = some (.int .i64 y1) ∧ w'.cell? ⟨w3.heap.size, 1, none⟩ = some (.int .i64 y2)) (ds := []) #[false, false, false, false] (by kernel_rfl) rfl rfl ⟨(blk_cell ky 0).trans rfl, (blk_cell ky 1).trans rfl⟩ (fun hHeld => ?_); refine with_tabW real_pow2.tab4 real_pow2.bits4 (fun HT_ HW_ => ?_)
      clear HB HZ
      generalize (w3.alloc (.cells #[.int .i64 y1, .int .i64 y2] 23)).drew = w4 at ky kz hB hHeld ⊢
      refine tk2 1 (some 15) #[ff,tt,ff,ff] ?_
      refine one_ (i := 0) (N := some 14) #[true, true, false, false] rfl rfl (one_of HT_.out (by kernel_rfl)) (by decide) (fun K hK => ?_)
      refine gsz Tryz.func69 #[] ?_
      with_reducible refine (real_one.calls _).mono ?_
      rintro e w5 ⟨rfl, hb⟩
      refine ⟨_, rfl, ?_⟩
      replace ky := blk_below ky hb
      replace kz := blk_below kz hb
      replace hB := hB.trans (hb.mono hB.size)
      refine hK.out _ _ ⟨(blk_cell ky 0).trans rfl, (blk_cell ky 1).trans rfl⟩ (fun hHeld => ?_)
      clear hK K hb
      refine norm_ (a' := ?_) ?_ ?_
      rotate_left
      · show Act.put _ (some 14) _ = _
        simp only [Act.put, List.setIfInBounds_toArray, List.set_cons_zero, List.set_cons_succ, i64_w, i32_w]
        rfl
      refine one_ (i := 2) (N := some 16) #[true, true, true, false] rfl rfl (one_of HT_.out (by kernel_rfl)) (by decide) (fun K hK => ?_)
      refine goesP_ Tryz.func68 (by kernel_rfl) rfl #[.agg #[.int .i64 8388608, .int .i64 (-23)], .agg #[.int .i64 y1, .int .i64 y2]] (by rfl) rfl rfl ay ?_
      with_reducible refine (real_quotient.calls k 8388608 (-23) y1 y2 m x _ HQ.out).mono ?_
      rintro e w6 ⟨he_, hb⟩
      refine ends_ he_ (fun p1_ => And.intro rfl (And.intro (code_direct p1_) (hB.trans (hb.mono hB.size)))) (fun hpn2_ => ?_)
      replace ky := blk_below ky hb
      replace kz := blk_below kz hb
      replace hB := hB.trans (hb.mono hB.size)
      refine hK.out _ _ ⟨(blk_cell ky 0).trans rfl, (blk_cell ky 1).trans rfl⟩ (fun hHeld => ?_)
      clear hK K hb
      refine norm_ (a' := ?_) ?_ ?_
      rotate_left
      · show Act.put _ (some 16) _ = _
        simp only [Act.put, List.setIfInBounds_toArray, List.set_cons_zero, List.set_cons_succ, i64_w, i32_w]
        rfl
      refine one_ (i := 3) (N := none) #[true, true, true, true] rfl rfl (one_of HT_.out (by kernel_rfl)) (by decide) (fun K hK => ?_)
      have z0 : w6.cell? ⟨w.heap.size, 0, none⟩ = some (.int .i64 0) := (blk_cell kz 0).trans rfl
      have z1 : w6.cell? ⟨w.heap.size, 1, none⟩ = some (.int .i64 0) := (blk_cell kz 1).trans rfl
      have f0 := blk_frozen kz 0
      have f1 := blk_frozen kz 1
      have hne : w3.heap.size ≠ w.heap.size := by omega
      refine skip_ (w1 := ?_) (by rfl) rfl ?_ ?_
      rotate_left
      · go_simp
        rfl
      refine hK.out _ _ ⟨((cell_far (p := ⟨w.heap.size, _, none⟩) hne _).trans ((cell_far (p := ⟨w.heap.size, _, none⟩) hne _).trans hHeld.1)), ((cell_far (p := ⟨w.heap.size, _, none⟩) hne _).trans ((cell_far (p := ⟨w.heap.size, _, none⟩) hne _).trans hHeld.2))⟩ (fun hHeld => ?_)
      clear hK K
      refine done_ (done_of HT_.out (by kernel_rfl)) ?_
      try go_wp2
      have fz := heap_setCell_same (w6.setCell ⟨w.heap.size, 0, none⟩ (.int .i64 m)) w.heap.size 1 _ _ (.int .i64 x) (heap_setCell_same w6 w.heap.size 0 _ _ (.int .i64 m) kz)
      refine bodyPost_ret (results_cell_row rfl _ _ w.heap.size 23 #[.int .i64 m, .int .i64 x] (0, 0) _ rfl fz Tryz.underlying23 rfl (by kernel_rfl)) rfl ?_
      exact ⟨(ending_at hpn2_).symm, (hB.setCell (Nat.le_refl _) _).setCell (Nat.le_refl _) _⟩
def real_Pow.f (k : Nat) (x0 x1 n : Int) : Option (Int × Int × Int) := (real_Valid.f x0 x1).bind fun v => if v = true then (if x0 = 0 ∧ n < 0 then some (0, 0, 5) else if 0 ≤ n then (real_power.f k x0 x1 n).bind fun r => some (caughtS r.1 r.2) else (real_pow2.f k x0 x1 n).bind fun r => some (caughtS r.1 r.2)) else some (0, 0, 1)
theorem real_Pow.calls (k : Nat) (a0_0 a0_1 a1 r1 r2 r3 : Int) (w : World) (h : real_Pow.f k a0_0 a0_1 a1 = some (r1, r2, r3)) (hlo : -9223372036854775808 ≤ a1) (hhi : a1 < 9223372036854775808) :
    Calls Tryz.prog 17 #[.agg #[.int .i64 a0_0, .int .i64 a0_1], .int .i64 a1] w fun e w' => e = .returned (.tuple #[.agg #[.int .i64 r1, .int .i64 r2], .int .i64 r3]) ∧ Below w.heap.size w w' := by
  unfold real_Pow.f at h
  obtain ⟨v, hv, h⟩ := Option.bind_eq_some_iff.mp h
  have HV := Lib.hid hv
  have H := Lib.hid h
  clear hv h
  go_enter Tryz.func17, Tryz.ntmps17
  go_wp2_with fail
  refine (real_Valid.calls a0_0 a0_1 v _ HV.out).mono ?_
  rintro e w1 ⟨rfl, hb⟩
  have hz : w1.heap[w.heap.size + 1 + 1]? = some (.cells #[.int .i64 0, .int .i64 0] 23 (0, 0)) := blk_below (new_at _ _ _ (by simp only [World.size_alloc])) hb
  have kx : w1.heap[w.heap.size]? = some (.cells #[.int .i64 a0_0, .int .i64 a0_1] 23 (0, 0)) := blk_below (blk_alloc (blk_alloc (new_at _ _ _ rfl) _) _) hb
  have kn : w1.heap[w.heap.size + 1]? = some (.cells #[.int .i64 a1] 3 (0, 0)) := blk_below (blk_alloc (new_at _ _ _ (by simp only [World.size_alloc])) _) hb
  have hB : Below w.heap.size w w1 := ((((Below.refl _ w).alloc (Nat.le_refl _) _).alloc (by simp only [World.size_alloc]; omega) _).alloc (by simp only [World.size_alloc]; omega) _).trans (hb.mono (by simp only [World.size_alloc]; omega))
  have x0 : w1.cell? ⟨w.heap.size, 0, none⟩ = some (.int .i64 a0_0) := (blk_cell kx 0).trans rfl
  have x1 : w1.cell? ⟨w.heap.size, 1, none⟩ = some (.int .i64 a0_1) := (blk_cell kx 1).trans rfl
  have n0 : w1.cell? ⟨w.heap.size + 1, 0, none⟩ = some (.int .i64 a1) := (blk_cell kn 0).trans rfl
  have z0 : w1.cell? ⟨w.heap.size + 1 + 1, 0, none⟩ = some (.int .i64 0) := (blk_cell hz 0).trans rfl
  have z1 : w1.cell? ⟨w.heap.size + 1 + 1, 1, none⟩ = some (.int .i64 0) := (blk_cell hz 1).trans rfl
  have f0 := blk_frozen hz 0
  have f1 := blk_frozen hz 1
  have lz := blk_lt hz
  have lx := blk_lt kx
  have ln := blk_lt kn
  have HZ := Lib.hid hz
  have KX := Lib.hid kx
  have KN := Lib.hid kn
  have HB := Lib.hid hB
  clear hb hz kx kn hB
  have h := H.out
  clear H
  by_cases c1 : v = true
  · subst c1
    rw [if_pos rfl] at h
    by_cases c2 : a0_0 = 0 ∧ a1 < 0
    · rw [if_pos c2] at h
      cases h
      obtain ⟨rfl, hn⟩ := c2
      go_wp2
      have fz := heap_setCell_same (w1.setCell ⟨w.heap.size + 1 + 1, 0, none⟩ (.int .i64 0)) (w.heap.size + 1 + 1) 1 _ _ (.int .i64 0) (heap_setCell_same w1 (w.heap.size + 1 + 1) 0 _ _ (.int .i64 0) HZ.out)
      refine bodyPost_ret (results_ct rfl _ _ (w.heap.size + 1 + 1) 23 #[.int .i64 0, .int .i64 0] (0, 0) _ rfl fz Tryz.underlying23 rfl (by kernel_rfl)) rfl ?_
      exact ⟨rfl, (HB.out.setCell (by simp only; omega) _).setCell (by simp only; omega) _⟩
    · rw [if_neg c2] at h
      by_cases c3 : 0 ≤ a1
      · rw [if_pos c3] at h
        obtain ⟨⟨m, x⟩, hp, h⟩ := Option.bind_eq_some_iff.mp h
        have hcs := Option.some.inj h
        have HP := Lib.hid hp
        clear h hp
        have hmf : ∀ (fn : Fn) (first cap : Array Value) (w : World), (Instr.makeFunc fn first cap).run Tryz.prog w = .ok (.func fn first cap) w := fun _ _ _ _ => rfl
        have c3b : ¬ a1 < 0 := by omega
        by_cases c4 : a0_0 = 0
        · have c4b : (a0_0 == 0) = true := beq_iff_eq.mpr c4
          go_wp2_with fail
          refine (caught_t 65 _ m x r1 r2 r3 hcs w1 (fun args w => enters_ Tryz.func65 (by kernel_rfl) rfl args w) (fun w2 h2 => pow1_c k _ _ a0_0 a0_1 a1 m x HP.out c3 hhi w2 (blk_below KX.out h2) (blk_below KN.out h2))).mono ?_
          rintro e w3 ⟨rfl, hb⟩
          have hz : w3.heap[w.heap.size + 1 + 1]? = some (.cells #[.int .i64 0, .int .i64 0] 23 (0, 0)) := blk_below HZ.out hb
          have hB : Below w.heap.size w w3 := HB.out.trans (hb.mono HB.out.size)
          have z0 : w3.cell? ⟨w.heap.size + 1 + 1, 0, none⟩ = some (.int .i64 0) := (blk_cell hz 0).trans rfl
          have z1 : w3.cell? ⟨w.heap.size + 1 + 1, 1, none⟩ = some (.int .i64 0) := (blk_cell hz 1).trans rfl
          have f0 := blk_frozen hz 0
          have f1 := blk_frozen hz 1
          have lz := blk_lt hz
          clear hb
          go_wp2
          have fz := heap_setCell_same (w3.setCell ⟨w.heap.size + 1 + 1, 0, none⟩ (.int .i64 r1)) (w.heap.size + 1 + 1) 1 _ _ (.int .i64 r2) (heap_setCell_same w3 (w.heap.size + 1 + 1) 0 _ _ (.int .i64 r1) hz)
          refine bodyPost_ret (results_ct rfl _ _ (w.heap.size + 1 + 1) 23 #[.int .i64 r1, .int .i64 r2] (0, 0) _ rfl fz Tryz.underlying23 rfl (by kernel_rfl)) rfl ?_
          exact ⟨rfl, (hB.setCell (by simp only; omega) _).setCell (by simp only; omega) _⟩
        · have c4b : (a0_0 == 0) = false := beq_eq_false_iff_ne.mpr c4
          go_wp2_with fail
          refine (caught_t 65 _ m x r1 r2 r3 hcs w1 (fun args w => enters_ Tryz.func65 (by kernel_rfl) rfl args w) (fun w2 h2 => pow1_c k _ _ a0_0 a0_1 a1 m x HP.out c3 hhi w2 (blk_below KX.out h2) (blk_below KN.out h2))).mono ?_
          rintro e w3 ⟨rfl, hb⟩
          have hz : w3.heap[w.heap.size + 1 + 1]? = some (.cells #[.int .i64 0, .int .i64 0] 23 (0, 0)) := blk_below HZ.out hb
          have hB : Below w.heap.size w w3 := HB.out.trans (hb.mono HB.out.size)
          have z0 : w3.cell? ⟨w.heap.size + 1 + 1, 0, none⟩ = some (.int .i64 0) := (blk_cell hz 0).trans rfl
          have z1 : w3.cell? ⟨w.heap.size + 1 + 1, 1, none⟩ = some (.int .i64 0) := (blk_cell hz 1).trans rfl
          have f0 := blk_frozen hz 0
          have f1 := blk_frozen hz 1
          have lz := blk_lt hz
          clear hb
          go_wp2
          have fz := heap_setCell_same (w3.setCell ⟨w.heap.size + 1 + 1, 0, none⟩ (.int .i64 r1)) (w.heap.size + 1 + 1) 1 _ _ (.int .i64 r2) (heap_setCell_same w3 (w.heap.size + 1 + 1) 0 _ _ (.int .i64 r1) hz)
          refine bodyPost_ret (results_ct rfl _ _ (w.heap.size + 1 + 1) 23 #[.int .i64 r1, .int .i64 r2] (0, 0) _ rfl fz Tryz.underlying23 rfl (by kernel_rfl)) rfl ?_
          exact ⟨rfl, (hB.setCell (by simp only; omega) _).setCell (by simp only; omega) _⟩
      · rw [if_neg c3] at h
        obtain ⟨⟨m, x⟩, hp, h⟩ := Option.bind_eq_some_iff.mp h
        have hcs := Option.some.inj h
        have HP := Lib.hid hp
        clear h hp
        have hmf : ∀ (fn : Fn) (first cap : Array Value) (w : World), (Instr.makeFunc fn first cap).run Tryz.prog w = .ok (.func fn first cap) w := fun _ _ _ _ => rfl
        have c3b : a1 < 0 := by omega
        have c2b : a0_0 ≠ 0 := fun he => c2 ⟨he, c3b⟩
        have c2d : (a0_0 == 0) = false := beq_eq_false_iff_ne.mpr c2b
        go_wp2_with fail
        refine (caught_t 67 _ m x r1 r2 r3 hcs w1 (fun args w => enters_ Tryz.func67 (by kernel_rfl) rfl args w) (fun w2 h2 => pow2_c k _ _ a0_0 a0_1 a1 m x HP.out c3b hlo w2 (blk_below KX.out h2) (blk_below KN.out h2))).mono ?_
        rintro e w3 ⟨rfl, hb⟩
        have hz : w3.heap[w.heap.size + 1 + 1]? = some (.cells #[.int .i64 0, .int .i64 0] 23 (0, 0)) := blk_below HZ.out hb
        have hB : Below w.heap.size w w3 := HB.out.trans (hb.mono HB.out.size)
        have z0 : w3.cell? ⟨w.heap.size + 1 + 1, 0, none⟩ = some (.int .i64 0) := (blk_cell hz 0).trans rfl
        have z1 : w3.cell? ⟨w.heap.size + 1 + 1, 1, none⟩ = some (.int .i64 0) := (blk_cell hz 1).trans rfl
        have f0 := blk_frozen hz 0
        have f1 := blk_frozen hz 1
        have lz := blk_lt hz
        clear hb
        go_wp2
        have fz := heap_setCell_same (w3.setCell ⟨w.heap.size + 1 + 1, 0, none⟩ (.int .i64 r1)) (w.heap.size + 1 + 1) 1 _ _ (.int .i64 r2) (heap_setCell_same w3 (w.heap.size + 1 + 1) 0 _ _ (.int .i64 r1) hz)
        refine bodyPost_ret (results_ct rfl _ _ (w.heap.size + 1 + 1) 23 #[.int .i64 r1, .int .i64 r2] (0, 0) _ rfl fz Tryz.underlying23 rfl (by kernel_rfl)) rfl ?_
        exact ⟨rfl, (hB.setCell (by simp only; omega) _).setCell (by simp only; omega) _⟩
  · replace c1 : v = false := by simpa using c1
    subst c1
    rw [if_neg (by decide)] at h
    cases h
    go_wp2
    have fz := heap_setCell_same (w1.setCell ⟨w.heap.size + 1 + 1, 0, none⟩ (.int .i64 0)) (w.heap.size + 1 + 1) 1 _ _ (.int .i64 0) (heap_setCell_same w1 (w.heap.size + 1 + 1) 0 _ _ (.int .i64 0) HZ.out)
    refine bodyPost_ret (results_ct rfl _ _ (w.heap.size + 1 + 1) 23 #[.int .i64 0, .int .i64 0] (0, 0) _ rfl fz Tryz.underlying23 rfl (by kernel_rfl)) rfl ?_
    exact ⟨rfl, (HB.out.setCell (by simp only; omega) _).setCell (by simp only; omega) _⟩
end Go.Proofs.YteigbokklclmbaaGreatDoor.Z
end
section
namespace Go.Proofs.YteigbokklclmbaaGreatDoor.M
open Go Go.RowKit Go.Proofs.YteigbokklclmbaaGreatDoor.Given Go.Proofs.YteigbokklclmbaaGreatDoorW.PrintWords Go.Proofs.YteigbokklclmbaaGreatDoorW.PrintLast Go.Proofs.YteigbokklclmbaaGreatDoorW.PrintMore Go.Proofs.YteigbokklclmbaaGreatDoor.Z Go.Proofs.YteigbokklclmbaaGreatDoor.Z.Y Go.Proofs.YteigbokklclmbaaGreatDoor.Z.Y.V Go.Proofs.YteigbokklclmbaaGreatDoor.Z.Y.Q
theorem IR_nat {a : Nat} (h : a ≤ 2533359615) : IR (a : Int) := ⟨by omega, by omega⟩
theorem ix_nat {a : Nat} (h : a ≤ 2533359615) : ix (rl (a : Int)).1 (rl (a : Int)).2 = a := by rw [ix_rl (IR_nat h)]; omega
theorem ix_sgn {s : Bool} {a : Nat} (h : a ≤ 2533359615) : ix (sgn s (atI a)).1 (sgn s (atI a)).2 = a := by
  rw [sgn_rl]
  have hi : IR (if s = true then -((a : Nat) : Int) else ((a : Nat) : Int)) := ⟨by split <;> omega, by split <;> omega⟩
  rw [ix_rl hi]; split <;> omega
theorem rd_ex {a b : Nat} (ha : a ≤ 2533359615) (hb : b ≤ 2533359615) : ∃ I, Rd (G a * G b) (2 ^ 150) I := by
  obtain ⟨I, h, _⟩ := real_Mul_ev (rl_64 (IR_nat ha)) (rl_64 (IR_nat hb)) (rl_VR (IR_nat ha)) (rl_VR (IR_nat hb))
  rw [ix_nat ha, ix_nat hb] at h
  exact ⟨I, h⟩
theorem ix_pos {a b : Int} (hw : I64 a) (h : VR a b) (hx : 0 < ix a b) : a ≠ 0 := by
  intro h0
  unfold ix at hx
  rw [if_pos h0] at hx
  omega
theorem rdq_ex {a b : Nat} (ha : a ≤ 2533359615) (hb : b ≤ 2533359615) (h0 : 0 < b) : ∃ I, Rd (G a * 2 ^ 150) (G b) I := by
  have hz : (rl (b : Int)).1 ≠ 0 := ix_pos (rl_64 (IR_nat hb)) (rl_VR (IR_nat hb)) (by rw [ix_nat hb]; exact h0)
  obtain ⟨I, h, _⟩ := real_Div_ev (rl_64 (IR_nat ha)) (rl_64 (IR_nat hb)) (rl_VR (IR_nat ha)) (rl_VR (IR_nat hb)) hz
  rw [ix_nat ha, ix_nat hb] at h
  exact ⟨I, h⟩
theorem product_ev2 {x0 x1 y0 y1 : Int} (wx : I64 x0) (wy : I64 y0) (vx : VR x0 x1) (vy : VR y0 y1) {I : Nat} (hI : Rd (G (ix x0 x1) * G (ix y0 y1)) (2 ^ 150) I) :
    Ev (fun k => real_product.f k x0 x1 y0 y1) (sgnr ((decide (x0 < 0)) != (decide (y0 < 0))) I) := by
  obtain ⟨J, hJ, hE⟩ := real_product_ev (VR.rc wx vx) (VR.rc wy vy)
  rw [← ix_G wx vx, ← ix_G wy vy] at hJ
  have := Rd.only (Nat.two_pow_pos _) (Nat.two_pow_pos _) hJ hI rfl
  subst this
  exact hE
theorem quotient_ev2 {x0 x1 y0 y1 : Int} (wx : I64 x0) (wy : I64 y0) (vx : VR x0 x1) (vy : VR y0 y1) (hy0 : y0 ≠ 0) {I : Nat} (hI : Rd (G (ix x0 x1) * 2 ^ 150) (G (ix y0 y1)) I) :
    Ev (fun k => real_quotient.f k x0 x1 y0 y1) (sgnr ((decide (x0 < 0)) != (decide (y0 < 0))) I) := by
  obtain ⟨J, hJ, hE⟩ := real_quotient_ev (VR.rc wx vx) (VR.rc wy vy) hy0
  rw [← ix_G wx vx, ← ix_G wy vy] at hJ
  have hp : 0 < G (ix y0 y1) := by rw [ix_G wy vy]; exact Nat.mul_pos (by omega) (Nat.two_pow_pos _)
  have := Rd.only hp hp hJ hI rfl
  subst this
  exact hE
theorem sgnr_over {s : Bool} {P : Nat} (h : 2533359615 < P) : sgnr s P = (0, 1000) := by
  unfold sgnr rres
  rw [if_pos h]
  cases s
  · rfl
  · show (wrap64 (-0), (1000 : Int)) = _
    rw [w64 _ (by decide) (by decide)]; rfl
theorem sgn_exp {s : Bool} {P : Nat} (h : P ≤ 2533359615) : (sgn s (atI P)).2 ≠ 1000 := by
  have := atI_bd P h
  unfold sgn
  dsimp only
  omega
theorem sgn_lt {P : Nat} (h : P ≤ 2533359615) : decide ((sgn false (atI P)).1 < 0) = false := by
  have := atI_bd P h
  unfold sgn
  refine decide_eq_false ?_
  simp; omega
theorem one_sgnr : sgnr false 1073741824 = (8388608, -23) := by kernel_rfl
def PowR (X n I : Nat) : Prop := ∀ x0 x1, I64 x0 → VR x0 x1 → ix x0 x1 = X → Ev (fun k => real_power.f k x0 x1 (n : Int)) (sgnr (decide (x0 < 0) && decide (n % 2 = 1)) I)
theorem power_zero (x0 x1 : Int) : Ev (fun k => real_power.f k x0 x1 0) (8388608, -23) :=
  Ev.step (f := fun _ => some (8388608, -23)) (fun k => by rw [real_power.f, if_pos rfl]) (Ev.now _)
theorem power_ex {X : Nat} (hX : X ≤ 2533359615) : ∀ n : Nat, ∃ I, PowR X n I ∧ (n = 0 → I = 1073741824) ∧ (X = 0 → 0 < n → I = 0)
  | 0 => ⟨1073741824, fun x0 x1 _ _ _ => by
      rw [show (decide (x0 < 0) && decide (0 % 2 = 1)) = false by simp, one_sgnr]
      exact power_zero x0 x1, fun _ => rfl, fun _ h => absurd h (by decide)⟩
  | n + 1 => by
    by_cases ho : (n + 1) % 2 = 1
    · obtain ⟨P, hP, h0, hz⟩ := power_ex hX n
      have hs : ∀ x0 : Int, (decide (x0 < 0) && decide (n % 2 = 1)) = false := fun x0 => by rw [decide_eq_false (show ¬ n % 2 = 1 by omega), Bool.and_false]
      have hd : ∀ x0 : Int, (decide (x0 < 0) && decide ((n + 1) % 2 = 1)) = decide (x0 < 0) := fun x0 => by rw [decide_eq_true ho, Bool.and_true]
      have st : ∀ x0 x1, ∀ k, real_power.f (k + 1) x0 x1 ((n + 1 : Nat) : Int) = (real_power.f k x0 x1 (n : Int)).bind fun y => if y.2 = 1000 then some y else real_product.f k x0 x1 y.1 y.2 := by
        intro x0 x1 k
        rw [real_power.f, if_neg (by omega), if_pos (by omega), show (((n + 1 : Nat) : Int) - 1) = (n : Int) by omega]
      by_cases hov : 2533359615 < P
      · refine ⟨P, fun x0 x1 wx vx hx => ?_, fun h => absurd h (by omega), fun hX0 _ => ?_⟩
        · have h := hP x0 x1 wx vx hx
          rw [hd, sgnr_over hov]
          rw [sgnr_over hov] at h
          exact Ev.step (f := fun k => (real_power.f k x0 x1 (n : Int)).bind fun y => if y.2 = 1000 then some y else real_product.f k x0 x1 y.1 y.2) (st x0 x1) (Ev.bind h (Ev.congr (f := fun _ => some ((0, 1000) : Int × Int)) (fun k => by rw [if_pos rfl]) (Ev.now _)))
        · rcases Nat.eq_zero_or_pos n with h | h
          · have := h0 h; omega
          · have := hz hX0 h; omega
      · have hov := Nat.not_lt.1 hov
        obtain ⟨I, hI⟩ := rd_ex hX hov
        refine ⟨I, fun x0 x1 wx vx hx => ?_, fun h => absurd h (by omega), fun hX0 _ => ?_⟩
        · have h := hP x0 x1 wx vx hx
          rw [hs, sgnr_in hov] at h
          obtain ⟨vy, wy⟩ := res_VR (neg := false) hov
          have hp := product_ev2 wx wy vx vy (by rw [hx, ix_sgn hov]; exact hI)
          rw [sgn_lt hov, Bool.bne_false] at hp
          rw [hd]
          exact Ev.step (f := fun k => (real_power.f k x0 x1 (n : Int)).bind fun y => if y.2 = 1000 then some y else real_product.f k x0 x1 y.1 y.2) (st x0 x1) (Ev.bind h (Ev.congr (fun k => by rw [if_neg (sgn_exp hov)]) hp))
        · subst hX0
          rw [G_zero, Nat.zero_mul] at hI
          exact hI.nil (Nat.two_pow_pos _)
    · obtain ⟨P, hP, h0, hz⟩ := power_ex hX ((n + 1) / 2)
      have hd : ∀ x0 : Int, (decide (x0 < 0) && decide ((n + 1) % 2 = 1)) = false := fun x0 => by rw [decide_eq_false ho, Bool.and_false]
      have st : ∀ x0 x1, ∀ k, real_power.f (k + 1) x0 x1 ((n + 1 : Nat) : Int) = (real_power.f k x0 x1 (((n + 1) / 2 : Nat) : Int)).bind fun y => if y.2 = 1000 then some y else real_product.f k y.1 y.2 y.1 y.2 := by
        intro x0 x1 k
        rw [real_power.f, if_neg (by omega), if_neg (by omega), show (((n + 1 : Nat) : Int) / 2) = (((n + 1) / 2 : Nat) : Int) by omega]
      by_cases hov : 2533359615 < P
      · refine ⟨P, fun x0 x1 wx vx hx => ?_, fun h => absurd h (by omega), fun hX0 _ => ?_⟩
        · have h := hP x0 x1 wx vx hx
          rw [hd, sgnr_over hov]
          rw [sgnr_over hov] at h
          exact Ev.step (f := fun k => (real_power.f k x0 x1 (((n + 1) / 2 : Nat) : Int)).bind fun y => if y.2 = 1000 then some y else real_product.f k y.1 y.2 y.1 y.2) (st x0 x1) (Ev.bind h (Ev.congr (f := fun _ => some ((0, 1000) : Int × Int)) (fun k => by rw [if_pos rfl]) (Ev.now _)))
        · have := hz hX0 (by omega); omega
      · have hov := Nat.not_lt.1 hov
        obtain ⟨I, hI⟩ := rd_ex hov hov
        refine ⟨I, fun x0 x1 wx vx hx => ?_, fun h => absurd h (by omega), fun hX0 _ => ?_⟩
        · have h := hP x0 x1 wx vx hx
          rw [sgnr_in hov] at h
          obtain ⟨vy, wy⟩ := res_VR (neg := decide (x0 < 0) && decide ((n + 1) / 2 % 2 = 1)) hov
          have hp := product_ev2 wy wy vy vy (by rw [ix_sgn hov]; exact hI)
          rw [bne_self_eq_false] at hp
          rw [hd]
          exact Ev.step (f := fun k => (real_power.f k x0 x1 (((n + 1) / 2 : Nat) : Int)).bind fun y => if y.2 = 1000 then some y else real_product.f k y.1 y.2 y.1 y.2) (st x0 x1) (Ev.bind h (Ev.congr (fun k => by rw [if_neg (sgn_exp hov)]) hp))
        · have := hz hX0 (by omega)
          subst this
          rw [G_zero, Nat.zero_mul] at hI
          exact hI.nil (Nat.two_pow_pos _)
  termination_by n => n
/-- Pow of a real and an int: nothing to a negative power is an error; else a magnitude that hangs on the magnitude alone, with the sign of an odd power. -/
theorem Pow_ex {X : Nat} (hX : X ≤ 2533359615) (n : Int) : (X = 0 ∧ n < 0 ∧ ∀ x0 x1, I64 x0 → VR x0 x1 → ix x0 x1 = X → Ev (fun k => real_Pow.f k x0 x1 n) (0, 0, 5)) ∨
    (∃ I, (X = 0 → n ≠ 0 → I = 0) ∧ ∀ x0 x1, I64 x0 → VR x0 x1 → ix x0 x1 = X → Ev (fun k => real_Pow.f k x0 x1 n) (res3 (decide (x0 < 0) && decide (n.natAbs % 2 = 1)) I)) := by
  have z0 : ∀ x0 x1, ix x0 x1 = 0 → I64 x0 → VR x0 x1 → x0 = 0 := by
    intro x0 x1 h wx vx
    rcases VR.norm wx vx with ⟨h0, _⟩ | ⟨h0, _⟩
    · exact h0
    · unfold ix at h; rw [if_neg h0] at h; omega
  by_cases hn : 0 ≤ n
  · right
    obtain ⟨I, hI, h0, hz⟩ := power_ex hX n.natAbs
    have en : ((n.natAbs : Nat) : Int) = n := by omega
    refine ⟨I, fun hX0 hn0 => hz hX0 (by omega), fun x0 x1 wx vx hx => ?_⟩
    have h := hI x0 x1 wx vx hx
    rw [en] at h
    rw [← caught_is]
    exact Ev.congr (f := fun k => (real_power.f k x0 x1 n).bind fun r => some (caughtS r.1 r.2)) (fun k => by
      unfold real_Pow.f; rw [Valid_ev vx, Option.bind_some, if_pos rfl, if_neg (by omega), if_pos hn]) (Ev.bind h (Ev.now _))
  · by_cases hX0 : X = 0
    · left
      refine ⟨hX0, by omega, fun x0 x1 wx vx hx => ?_⟩
      have hx0 := z0 x0 x1 (hx.trans hX0) wx vx
      exact Ev.congr (f := fun _ => some ((0, 0, 5) : Int × Int × Int)) (fun k => by
        unfold real_Pow.f; rw [Valid_ev vx, Option.bind_some, if_pos rfl, if_pos ⟨hx0, by omega⟩]) (Ev.now _)
    · right
      obtain ⟨P, hP, h0, hz⟩ := power_ex hX n.natAbs
      have en : ((n.natAbs : Nat) : Int) = -n := by omega
      have st : ∀ x0 x1, I64 x0 → VR x0 x1 → ix x0 x1 = X → ∀ k, real_Pow.f k x0 x1 n = (real_pow2.f k x0 x1 n).bind fun r => some (caughtS r.1 r.2) := by
        intro x0 x1 wx vx hx k
        have hx0 : x0 ≠ 0 := ix_pos wx vx (by omega)
        unfold real_Pow.f; rw [Valid_ev vx, Option.bind_some, if_pos rfl, if_neg (fun h => hx0 h.1), if_neg hn]
      by_cases hov : 2533359615 < P
      · refine ⟨P, fun h => absurd h hX0, fun x0 x1 wx vx hx => ?_⟩
        have h := hP x0 x1 wx vx hx
        rw [en] at h
        rw [← caught_is, sgnr_over hov]
        rw [sgnr_over hov] at h
        have h2 : Ev (fun k => real_pow2.f k x0 x1 n) (0, 1000) := Ev.bind h (Ev.congr (f := fun _ => some ((0, 1000) : Int × Int)) (fun k => by rw [if_pos rfl]) (Ev.now _))
        exact Ev.congr (st x0 x1 wx vx hx) (Ev.bind h2 (Ev.now _))
      · have hov := Nat.not_lt.1 hov
        by_cases hP0 : P = 0
        · refine ⟨2533359616, fun h => absurd h hX0, fun x0 x1 wx vx hx => ?_⟩
          have h := hP x0 x1 wx vx hx
          rw [en, hP0, sgnr_in (by decide), sgn_zero] at h
          rw [← caught_is, sgnr_over (by decide)]
          have h2 : Ev (fun k => real_pow2.f k x0 x1 n) (0, 1000) := Ev.bind h (Ev.congr (f := fun _ => some ((0, 1000) : Int × Int)) (fun k => by rw [if_neg (by decide), if_pos rfl]) (Ev.now _))
          exact Ev.congr (st x0 x1 wx vx hx) (Ev.bind h2 (Ev.now _))
        · obtain ⟨I, hI⟩ := rdq_ex (a := 1073741824) (by decide) hov (Nat.pos_of_ne_zero hP0)
          refine ⟨I, fun h => absurd h hX0, fun x0 x1 wx vx hx => ?_⟩
          have h := hP x0 x1 wx vx hx
          rw [en, sgnr_in hov] at h
          obtain ⟨vy, wy⟩ := res_VR (neg := decide (x0 < 0) && decide (n.natAbs % 2 = 1)) hov
          have hy0 := ix_pos wy vy (by rw [ix_sgn hov]; omega)
          have v1 : VR 8388608 (-23) := by have h := res_VR (neg := false) (I := 1073741824) (by decide); rw [show sgn false (atI 1073741824) = (8388608, -23) by kernel_rfl] at h; exact h.1
          have w1 : I64 8388608 := ⟨by decide, by decide⟩
          have i1 : ix 8388608 (-23) = 1073741824 := by kernel_rfl
          have hq := quotient_ev2 w1 wy v1 vy hy0 (by rw [i1, ix_sgn hov]; exact hI)
          have hsg : ((decide ((8388608 : Int) < 0)) != decide ((sgn (decide (x0 < 0) && decide (n.natAbs % 2 = 1)) (atI P)).1 < 0)) = (decide (x0 < 0) && decide (n.natAbs % 2 = 1)) := by
            rw [decide_eq_false (by decide), Bool.false_bne]
            have hb := atI_bd P hov
            generalize (decide (x0 < 0) && decide (n.natAbs % 2 = 1)) = s at hy0 ⊢
            cases s
            · exact sgn_lt hov
            · unfold sgn at hy0 ⊢
              simp only [if_true] at hy0 ⊢
              exact decide_eq_true (by omega)
          rw [hsg] at hq
          rw [← caught_is]
          have h2 : Ev (fun k => real_pow2.f k x0 x1 n) (sgnr (decide (x0 < 0) && decide (n.natAbs % 2 = 1)) I) := Ev.bind h (Ev.congr (fun k => by rw [if_neg (sgn_exp hov), if_neg hy0]) hq)
          exact Ev.congr (st x0 x1 wx vx hx) (Ev.bind h2 (Ev.now _))
theorem Neg_res3 (s : Bool) (I : Nat) : real_Neg.f (res3 (!s) I).1 (res3 (!s) I).2.1 = some ((res3 s I).1, (res3 s I).2.1, 0) :=
  (res_opp (by decide) (Rd.exact I 1 (by decide)) (Rd.exact I 1 (by decide)) (by cases s <;> simp [sval])).2
/-- The sign comes out of an odd power and vanishes in an even one. -/
theorem pow_sign {x0 x1 : Int} (wx : I64 x0) (vx : VR x0 x1) (n : Int) : ∃ a b : Int × Int × Int, Ev (fun k => real_Pow.f k x0 x1 n) a ∧ Ev (fun k => real_Pow.f k (-x0) x1 n) b ∧ b.2.2 = a.2.2 ∧
    (¬ Int.tmod n 2 = 0 → real_Neg.f b.1 b.2.1 = some (a.1, a.2.1, 0)) ∧ (Int.tmod n 2 = 0 → b.1 = a.1 ∧ b.2.1 = a.2.1) := by
  obtain ⟨vn, wn, _, hi⟩ := neg_VR wx vx
  have hm : Int.tmod n 2 = 0 ↔ n.natAbs % 2 = 0 := by
    rcases Int.le_total 0 n with h | h
    · rw [Int.tmod_eq_emod_of_nonneg h]; omega
    · have e : n = -(-n) := by omega
      rw [e, Int.neg_tmod, Int.tmod_eq_emod_of_nonneg (by omega)]; omega
  rcases Pow_ex (ix_le wx vx) n with ⟨_, _, h⟩ | ⟨I, hz, h⟩
  · exact ⟨_, _, h x0 x1 wx vx rfl, h (-x0) x1 wn vn hi, rfl, fun _ => Neg_zero, fun _ => ⟨rfl, rfl⟩⟩
  · refine ⟨_, _, h x0 x1 wx vx rfl, h (-x0) x1 wn vn hi, ?_, fun ho => ?_, fun he => ?_⟩
    · unfold res3; split <;> rfl
    · have ho : n.natAbs % 2 = 1 := by omega
      rw [decide_eq_true ho, Bool.and_true, Bool.and_true]
      by_cases h0 : x0 = 0
      · have hX : ix x0 x1 = 0 := by unfold ix; rw [if_pos h0]
        have := hz hX (by omega)
        subst this
        rw [res3_zero, res3_zero]; exact Neg_zero
      · rw [show decide (-x0 < 0) = !decide (x0 < 0) by rcases Int.lt_or_le x0 0 with h | h; (rw [decide_eq_true h, decide_eq_false (by omega)]; rfl); (rw [decide_eq_false (show ¬ x0 < 0 by omega), decide_eq_true (by omega)]; rfl)]
        exact Neg_res3 _ I
    · have he : ¬ n.natAbs % 2 = 1 := by omega
      rw [decide_eq_false he, Bool.and_false, Bool.and_false]; exact ⟨rfl, rfl⟩
/-- The first power. -/
theorem power_one {x0 x1 : Int} (wx : I64 x0) (vx : VR x0 x1) : Ev (fun k => real_power.f k x0 x1 1) (x0, x1) := by
  have hX := ix_le wx vx
  have v1 : VR 8388608 (-23) := by have h := res_VR (neg := false) (I := 1073741824) (by decide); rw [show sgn false (atI 1073741824) = (8388608, -23) by kernel_rfl] at h; exact h.1
  have w1 : I64 8388608 := ⟨by decide, by decide⟩
  have hp := product_ev2 wx w1 vx v1 (I := ix x0 x1) (by rw [show G (ix 8388608 (-23)) = 2 ^ 150 by rw [ix_G w1 v1]; decide +kernel]; exact Rd.exact _ _ (Nat.two_pow_pos _))
  rw [decide_eq_false (show ¬ (8388608 : Int) < 0 by decide), Bool.bne_false, sgnr_in hX, sgn_ix wx vx] at hp
  refine Ev.step (f := fun k => (real_power.f k x0 x1 0).bind fun y => if y.2 = 1000 then some y else real_product.f k x0 x1 y.1 y.2) (fun k => by rw [real_power.f, if_neg (by decide), if_pos (by decide)]; rfl) ?_
  exact Ev.bind (power_zero x0 x1) (Ev.congr (fun k => by rw [if_neg (by decide)]) hp)
theorem Pow_one {x0 x1 : Int} (wx : I64 x0) (vx : VR x0 x1) : Ev (fun k => real_Pow.f k x0 x1 1) (x0, x1, 0) := by
  have hX := ix_le wx vx
  have e : caughtS x0 x1 = (x0, x1, 0) := by
    have h := caught_is (decide (x0 < 0)) (ix x0 x1)
    rw [sgnr_in hX, sgn_ix wx vx, res3_in hX, sgn_ix wx vx] at h
    exact h
  rw [← e]
  exact Ev.congr (f := fun k => (real_power.f k x0 x1 1).bind fun r => some (caughtS r.1 r.2)) (fun k => by
    unfold real_Pow.f; rw [Valid_ev vx, Option.bind_some, if_pos rfl, if_neg (by omega), if_pos (by decide)]) (Ev.bind (power_one wx vx) (Ev.now _))
/-- The second power is the product. -/
theorem Pow_two {x0 x1 : Int} (wx : I64 x0) (vx : VR x0 x1) {I : Nat} (hI : Rd (G (ix x0 x1) * G (ix x0 x1)) (2 ^ 150) I) : Ev (fun k => real_Pow.f k x0 x1 2) (res3 false I) ∧ Ev (fun k => real_Mul.f k x0 x1 x0 x1) (res3 false I) := by
  have hc := VR.rc wx vx
  have hp := product_ev2 wx wx vx vx hI
  rw [bne_self_eq_false] at hp
  constructor
  · rw [← caught_is]
    have h2 : Ev (fun k => real_power.f k x0 x1 2) (sgnr false I) := Ev.step (f := fun k => (real_power.f k x0 x1 1).bind fun y => if y.2 = 1000 then some y else real_product.f k y.1 y.2 y.1 y.2) (fun k => by rw [real_power.f, if_neg (by decide), if_neg (by decide)]; rfl) (Ev.bind (power_one wx vx) (Ev.congr (fun k => by rw [if_neg (by unfold RC at hc; dsimp only; omega)]) hp))
    exact Ev.congr (f := fun k => (real_power.f k x0 x1 2).bind fun r => some (caughtS r.1 r.2)) (fun k => by
      unfold real_Pow.f; rw [Valid_ev vx, Option.bind_some, if_pos rfl, if_neg (by omega), if_pos (by decide)]) (Ev.bind h2 (Ev.now _))
  · obtain ⟨J, hJ, hE⟩ := real_Mul_ev wx wx vx vx
    have := Rd.only (Nat.two_pow_pos _) (Nat.two_pow_pos _) hJ hI rfl
    subst this
    rw [bne_self_eq_false] at hE
    exact hE
theorem H_prev {i : Nat} (h : 0 < i) : H (i - 1) + 2 ^ sh (i - 1) = 2 * G i := by
  obtain ⟨j, rfl⟩ : ∃ j, i = j + 1 := ⟨i - 1, by omega⟩
  rw [Nat.add_sub_cancel]
  have := G_succ j
  unfold H
  omega
theorem H_self (i : Nat) : H i = 2 * G i + 2 ^ sh i := by have := G_succ i; unfold H; omega
theorem man_big {i : Nat} (h : 8388608 ≤ i) : 8388608 ≤ man i ∧ man i ≤ 16777215 := by unfold man sh; omega
theorem G_small {i : Nat} (h : i < 8388608) : G i = i := by
  unfold G man
  have : sh i = 0 := by unfold sh; omega
  rw [this]; omega
theorem sh_prev {i : Nat} (h : 8388608 ≤ i) (hm : man i ≠ 8388608) : sh (i - 1) = sh i := by unfold man sh at hm; unfold sh; omega
theorem sq_bounds {X I D : Nat} (hD : D = 2 ^ 150) (hI : Rd (G X * G X) D I) (hbig : 2 ^ 50 ≤ G I) :
    H (X - 1) * H (X - 1) < 4 * (G I * D) ∧ 4 * (G I * D) < H X * H X ∧ 8388608 ≤ X ∧ G I * D < 562949953421312 * (2 ^ sh X * 2 ^ sh X) := by
  have hDp : 0 < D := by rw [hD]; exact Nat.two_pow_pos _
  have hI0 : 8388608 ≤ I := by
    rcases Nat.lt_or_ge I 8388608 with h | h
    · rw [G_small h] at hbig; omega
    · exact h
  obtain ⟨mI1, mI2⟩ := man_big hI0
  have hU : 2 * (G X * G X) ≤ 2 * (G I * D) + 2 ^ sh I * D := by
    have h := hI.2.1
    rw [H_self, Nat.add_mul, Nat.mul_assoc] at h
    exact h
  have hL : 2 * (G I * D) ≤ 2 * (G X * G X) + 2 ^ sh I * D := by
    have h := hI.1.resolve_left (by omega)
    have h1 := h.1
    have h2 := H_prev (i := I) (by omega)
    have h3 : 2 ^ sh (I - 1) ≤ 2 ^ sh I := Nat.pow_le_pow_right (by decide) (sh_le (by omega))
    have h4 : H (I - 1) * D + 2 ^ sh (I - 1) * D = 2 * (G I * D) := by rw [← Nat.add_mul, h2, Nat.mul_assoc]
    have h5 : 2 ^ sh (I - 1) * D ≤ 2 ^ sh I * D := Nat.mul_le_mul_right _ h3
    omega
  have hG : G I * D = man I * (2 ^ sh I * D) := by show man I * 2 ^ sh I * D = _; rw [Nat.mul_assoc]
  have hf : 16777215 * (2 ^ sh I * D) ≤ 2 * (G X * G X) := by
    have : 8388608 * (2 ^ sh I * D) ≤ man I * (2 ^ sh I * D) := Nat.mul_le_mul_right _ mI1
    omega
  have hfD : D ≤ 2 ^ sh I * D := by have := Nat.mul_le_mul_right D (Nat.one_le_two_pow (n := sh I)); omega
  have hX0 : 8388608 ≤ X := by
    rcases Nat.lt_or_ge X 8388608 with h | h
    · exfalso
      have h1 : G X * G X ≤ 8388608 * 8388608 := Nat.mul_le_mul (by rw [G_small h]; omega) (by rw [G_small h]; omega)
      have h2 : 2 ^ 60 ≤ D := by rw [hD]; exact Nat.pow_le_pow_right (by decide) (by decide)
      omega
    · exact h
  obtain ⟨m1, m2⟩ := man_big hX0
  obtain ⟨m, hm⟩ : ∃ m, m = man X := ⟨_, rfl⟩
  obtain ⟨u, hu⟩ : ∃ u, u = sh X := ⟨_, rfl⟩
  obtain ⟨q, hq⟩ : ∃ q, q = 2 ^ u * 2 ^ u := ⟨_, rfl⟩
  obtain ⟨f, hf'⟩ : ∃ f, f = 2 ^ sh I * D := ⟨_, rfl⟩
  have hGX : G X = m * 2 ^ u := by rw [hm, hu]; rfl
  have hN : G X * G X = m * m * q := by rw [hGX, hq]; ac_rfl
  have eq2 : q = 2 ^ (u + u) := by rw [hq, Nat.pow_add]
  have ef2 : f = 2 ^ (sh I + 150) := by rw [hf', hD, Nat.pow_add]
  have hqp : 0 < q := by rw [eq2]; exact Nat.two_pow_pos _
  rw [← hm] at m1 m2
  rw [← hu, ← hq]
  rw [← hf'] at hU hL hf hfD
  rw [hN] at hU hL hf
  have mm : m * m ≤ 16777215 * 16777215 := Nat.mul_le_mul m2 m2
  have mmq : m * m * q ≤ 281474943156225 * q := Nat.mul_le_mul_right _ mm
  -- how long the last place is
  have hcase : f ≤ 8388608 * q ∨ (f = 16777216 * q ∧ 11863283 ≤ m) := by
    rcases Nat.lt_or_ge (sh I + 150) (u + u + 24) with h | h
    · left
      rw [ef2, eq2, show (8388608 : Nat) = 2 ^ 23 by decide, ← Nat.pow_add]
      exact Nat.pow_le_pow_right (by decide) (by omega)
    · right
      have h1 : 16777216 * q ≤ f := by
        rw [ef2, eq2, show (16777216 : Nat) = 2 ^ 24 by decide, ← Nat.pow_add]
        exact Nat.pow_le_pow_right (by decide) (by omega)
      rcases Nat.lt_or_ge (u + u + 24) (sh I + 150) with h2 | h2
      · exfalso
        have h3 : 33554432 * q ≤ f := by
          rw [ef2, eq2, show (33554432 : Nat) = 2 ^ 25 by decide, ← Nat.pow_add]
          exact Nat.pow_le_pow_right (by decide) (by omega)
        omega
      · have e : sh I + 150 = 24 + (u + u) := by omega
        have h3 : f = 16777216 * q := by rw [ef2, eq2, e, Nat.pow_add]
        refine ⟨h3, ?_⟩
        rcases Nat.lt_or_ge m 11863283 with h4 | h4
        · exfalso
          have h5 : m * m ≤ 11863282 * 11863282 := Nat.mul_le_mul (by omega) (by omega)
          have h6 : m * m * q ≤ 11863282 * 11863282 * q := Nat.mul_le_mul_right _ h5
          omega
        · exact h4
  have hmq1 : 8388608 * q ≤ m * q := Nat.mul_le_mul_right _ m1
  have h2f : 2 * f + 2 * q ≤ 4 * (m * q) := by
    rcases hcase with h | ⟨h, h'⟩
    · omega
    · have : 11863283 * q ≤ m * q := Nat.mul_le_mul_right _ h'
      omega
  refine ⟨?_, ?_, hX0, by omega⟩
  · -- the lower half way mark
    by_cases hm0 : man X = 8388608
    · have hm8 : m = 8388608 := hm.trans hm0
      have hlt : H (X - 1) < 2 * G X := by have := H_prev (i := X) (by omega); have := Nat.two_pow_pos (sh (X - 1)); omega
      have hsq : H (X - 1) * H (X - 1) < 2 * G X * (2 * G X) := Nat.mul_lt_mul_of_lt_of_lt hlt hlt
      have e4 : 2 * G X * (2 * G X) = 4 * (m * m * q) := by rw [← hN]; rw [Nat.mul_mul_mul_comm]
      rw [e4] at hsq
      -- the square is a real
      have hge : 150 ≤ u + u + 46 := by
        rcases Nat.lt_or_ge (u + u + 46) 150 with h | h
        · exfalso
          have h1 : m * m * q = 2 ^ (46 + (u + u)) := by rw [hm8, eq2, Nat.pow_add 2 46 (u + u), show (2 : Nat) ^ 46 = 8388608 * 8388608 by decide]
          have h2 : 2 ^ (46 + (u + u)) ≤ D := by rw [hD]; exact Nat.pow_le_pow_right (by decide) (by omega)
          omega
        · exact h
      obtain ⟨K, hK⟩ := repr_ (u + u + 46 - 150) 1 (by decide)
      have hKD : G K * D = m * m * q := by
        have e1 : 2 ^ (u + u + 46 - 150) * 2 ^ 150 = 2 ^ (46 + (u + u)) := by rw [← Nat.pow_add 2 (u + u + 46 - 150) 150, Nat.sub_add_cancel hge, Nat.add_comm]
        rw [hK, hD, Nat.one_mul, e1, hm8, eq2, Nat.pow_add 2 46 (u + u), show (2 : Nat) ^ 46 = 8388608 * 8388608 by decide]
      have hR := Rd.exact K D hDp
      rw [hKD, ← hN] at hR
      have hKI : K = I := Rd.only hDp hDp hR hI rfl
      rw [← hKI, hKD]
      exact hsq
    · have e1 := H_prev (i := X) (by omega)
      rw [sh_prev hX0 hm0, ← hu] at e1
      have e2 : H (X - 1) = (2 * m - 1) * 2 ^ u := by
        rw [Nat.sub_mul, Nat.mul_assoc, ← hGX]; omega
      have e3 : H (X - 1) * H (X - 1) = (2 * m - 1) * (2 * m - 1) * q := by rw [e2, hq]; ac_rfl
      have e4 : (2 * m - 1) * (2 * m - 1) + 4 * m = 4 * (m * m) + 1 := by
        obtain ⟨j, rfl⟩ : ∃ j, m = j + 1 := ⟨m - 1, by omega⟩
        rw [show 2 * (j + 1) - 1 = 2 * j + 1 by omega]
        simp only [Nat.mul_add, Nat.add_mul]
        have : 2 * j * (2 * j) = 4 * (j * j) := by rw [Nat.mul_mul_mul_comm]
        omega
      have e5 : (2 * m - 1) * (2 * m - 1) * q + 4 * (m * q) = 4 * (m * m * q) + q := by
        have h := congrArg (· * q) e4
        simp only [Nat.add_mul, Nat.one_mul] at h
        rw [Nat.mul_assoc 4 m q, Nat.mul_assoc 4 (m * m) q] at h
        exact h
      rw [e3]
      omega
  · have e1 : H X = (2 * m + 1) * 2 ^ u := by rw [H_eq, ← hm, ← hu]
    have e3 : H X * H X = (2 * m + 1) * (2 * m + 1) * q := by rw [e1, hq]; ac_rfl
    have e4 : (2 * m + 1) * (2 * m + 1) = 4 * (m * m) + 4 * m + 1 := by
      simp only [Nat.mul_add, Nat.add_mul]
      have : 2 * m * (2 * m) = 4 * (m * m) := by rw [Nat.mul_mul_mul_comm]
      omega
    have e5 : (2 * m + 1) * (2 * m + 1) * q = 4 * (m * m * q) + 4 * (m * q) + q := by
      rw [e4, Nat.add_mul, Nat.add_mul, Nat.one_mul, Nat.mul_assoc 4 m q, Nat.mul_assoc 4 (m * m) q]
    rw [e3, e5]
    omega
/-- A half way mark as a multiple of a lesser power of two. -/
theorem H_mult {i s : Nat} (h : s ≤ sh i) : ∃ t, H i = t * 2 ^ s := by
  refine ⟨(2 * man i + 1) * 2 ^ (sh i - s), ?_⟩
  rw [H_eq, Nat.mul_assoc, ← Nat.pow_add]
  congr 2; omega
theorem sq_root {X I M R s a J : Nat} (hI : Rd (G X * G X) (2 ^ 150) I) (hbig : 2 ^ 50 ≤ G I) (hS : SqR ((G I : Nat) : Int) M R s a J) : J = X := by
  obtain ⟨D, hD⟩ : ∃ D, D = 2 ^ 150 := ⟨_, rfl⟩
  have hV : G I * D = 4 * M * 4 ^ a := by
    have h := hS.hV
    rw [hD]
    have h2 : ((G I * 2 ^ 150 : Nat) : Int) = ((4 * M * 4 ^ a : Nat) : Int) := by rw [← h, Int.natCast_mul, Int.natCast_pow]; rfl
    exact Int.ofNat_inj.1 h2
  rw [← hD] at hI
  obtain ⟨b1, b2, hX0, b3⟩ := sq_bounds hD hI hbig
  have hGp : 0 < G I * D := Nat.mul_pos (by have := Nat.two_pow_pos 50; omega) (by rw [hD]; exact Nat.two_pow_pos _)
  have hM : 2 ^ 58 ≤ M := by
    rcases hS.hM with h | h
    · rw [hV, h, Nat.mul_zero, Nat.zero_mul] at hGp; omega
    · exact h.1
  have e4 : 4 ^ a = 2 ^ a * 2 ^ a := by rw [← Nat.mul_pow]
  have hlast := hS.hI
  have hR := hS.hR
  have hs := hS.hs
  clear hS
  rw [hV, e4] at b1 b2 b3
  -- the last place of X is far above that of the root
  have hua : a + 6 ≤ sh X := by
    rcases Nat.lt_or_ge (sh X) (a + 6) with h | h
    · exfalso
      have h1 : 2 ^ sh X ≤ 2 ^ 5 * 2 ^ a := by rw [← Nat.pow_add]; exact Nat.pow_le_pow_right (by decide) (by omega)
      have h2 : 2 ^ sh X * 2 ^ sh X ≤ 2 ^ 5 * 2 ^ a * (2 ^ 5 * 2 ^ a) := Nat.mul_le_mul h1 h1
      have h3 : 2 ^ 5 * 2 ^ a * (2 ^ 5 * 2 ^ a) = 1024 * (2 ^ a * 2 ^ a) := by rw [Nat.mul_mul_mul_comm]
      have h4 : 4 * 2 ^ 58 * (2 ^ a * 2 ^ a) ≤ 4 * M * (2 ^ a * 2 ^ a) := Nat.mul_le_mul_right _ (by omega)
      have h5 := Nat.mul_pos (Nat.two_pow_pos a) (Nat.two_pow_pos a)
      generalize 2 ^ a * 2 ^ a = e at *
      generalize 2 ^ sh X * 2 ^ sh X = g at *
      omega
    · exact h
  have hup : a + 2 ≤ sh (X - 1) := by
    have : sh X ≤ sh (X - 1) + 1 := by unfold sh; omega
    omega
  obtain ⟨tU, hU⟩ := H_mult (i := X) (s := a + 2) (by omega)
  obtain ⟨tL, hL⟩ := H_mult (i := X - 1) (s := a + 2) hup
  have ea : 2 ^ (a + 2) = 4 * 2 ^ a := by rw [Nat.pow_add]; omega
  rw [ea] at hU hL
  have hep : 0 < 2 ^ a := Nat.two_pow_pos a
  obtain ⟨e, he⟩ : ∃ e, e = 2 ^ a := ⟨_, rfl⟩
  rw [← he] at hU hL hep b1 b2 hlast
  have hee : 0 < e * e := Nat.mul_pos hep hep
  have k1 : tL * tL < M := by
    rw [hL] at b1
    have x1 : tL * (4 * e) * (tL * (4 * e)) = 16 * (tL * tL) * (e * e) := by
      rw [show (16 : Nat) = 4 * 4 by decide]; ac_rfl
    have x2 : 4 * (4 * M * (e * e)) = 16 * M * (e * e) := by rw [Nat.mul_assoc 4 M, Nat.mul_assoc 16 M]; omega
    rw [x1, x2] at b1
    have := Nat.lt_of_mul_lt_mul_right b1
    omega
  have k2 : M < tU * tU := by
    rw [hU] at b2
    have x1 : tU * (4 * e) * (tU * (4 * e)) = 16 * (tU * tU) * (e * e) := by
      rw [show (16 : Nat) = 4 * 4 by decide]; ac_rfl
    have x2 : 4 * (4 * M * (e * e)) = 16 * M * (e * e) := by rw [Nat.mul_assoc 4 M, Nat.mul_assoc 16 M]; omega
    rw [x1, x2] at b2
    have := Nat.lt_of_mul_lt_mul_right b2
    omega
  have k3 : R < tU := Nat.mul_self_lt_mul_self_iff.1 (Nat.lt_of_le_of_lt hR.1 k2)
  have k4 : tL < R + 1 := Nat.mul_self_lt_mul_self_iff.1 (Nat.lt_trans k1 hR.2)
  have k5 : 2 * tL < 2 * R + s := by
    rcases hs with ⟨h1, h2⟩ | ⟨h1, h2⟩
    · have : tL < R := Nat.mul_self_lt_mul_self_iff.1 (by rw [h1]; exact k1)
      omega
    · omega
  have k6 : 2 * R + s < 2 * tU := by rcases hs with ⟨_, h2⟩ | ⟨_, h2⟩ <;> omega
  have c1 : H (X - 1) < 2 * ((2 * R + s) * e) := by
    rw [hL]
    have := Nat.mul_lt_mul_of_pos_right k5 hep
    have x1 : tL * (4 * e) = 2 * (2 * tL * e) := by rw [← Nat.mul_assoc, ← Nat.mul_assoc, ← Nat.mul_assoc, Nat.mul_comm tL 4]
    rw [x1]; omega
  have c2 : 2 * ((2 * R + s) * e) < H X := by
    rw [hU]
    have := Nat.mul_lt_mul_of_pos_right k6 hep
    have x1 : tU * (4 * e) = 2 * (2 * tU * e) := by rw [← Nat.mul_assoc, ← Nat.mul_assoc, ← Nat.mul_assoc, Nat.mul_comm tU 4]
    rw [x1]; omega
  have hRX : Rd ((2 * R + s) * e) 1 X := ⟨.inr ⟨by omega, by omega⟩, by omega, by omega⟩
  exact Rd.only (by decide) (by decide) hlast hRX rfl
theorem le_tr {x a b p : Nat} (h : x = a * p) (h' : a ≤ b) : x ≤ b * p := by subst h; exact Nat.mul_le_mul_right _ h'
/-- A root never overflows. -/
theorem root_in {I M R s a J : Nat} (hI : I ≤ 2533359615) (hS : SqR ((G I : Nat) : Int) M R s a J) : J ≤ 2533359615 := by
  have hV : G I * 2 ^ 150 = 4 * M * 4 ^ a := by
    have h := hS.hV
    have h2 : ((G I * 2 ^ 150 : Nat) : Int) = ((4 * M * 4 ^ a : Nat) : Int) := by rw [← h, Int.natCast_mul, Int.natCast_pow]; rfl
    exact Int.ofNat_inj.1 h2
  obtain ⟨P, hP⟩ : ∃ P : Nat, P = 2 ^ 300 := ⟨_, rfl⟩
  have hG : G I ≤ 2 ^ 24 * P := Nat.le_trans (G_le hI) (le_tr (by rw [hP]; exact G_top) (by decide))
  have e : ∀ x y z v : Nat, x + y + z = 2 + (v + v) → 2 ^ x * 2 ^ y * 2 ^ z = 4 * (2 ^ v * 2 ^ v) := by
    intro x y z v h
    rw [← Nat.pow_add, ← Nat.pow_add, ← Nat.pow_add, h]
    exact Nat.pow_add 2 2 (v + v)
  have h1 : 4 * M * 4 ^ a ≤ 4 * (2 ^ 236 * 2 ^ 236) := by
    rw [← hV, ← e 24 300 150 236 (by decide), ← hP]
    exact Nat.mul_le_mul_right _ hG
  have h2 : R * 2 ^ a ≤ 2 ^ 236 := by
    refine Nat.mul_self_le_mul_self_iff.1 ?_
    rw [Nat.mul_mul_mul_comm, ← Nat.mul_pow]
    have h3 : R * R * 4 ^ a ≤ M * 4 ^ a := Nat.mul_le_mul_right _ hS.hR.1
    rw [Nat.mul_assoc] at h1
    exact Nat.le_trans h3 (Nat.le_of_mul_le_mul_left h1 (by decide))
  have hT : (2 * R + s) * 2 ^ a ≤ 1 * 2 ^ 240 := by
    rw [Nat.one_mul]
    rcases Nat.eq_zero_or_pos R with h0 | h0
    · have hM0 : M = 0 ∧ s = 0 := by
        have hb := hS.hR.2
        subst h0
        rcases hS.hM with h | h
        · refine ⟨h, ?_⟩
          rcases hS.hs with ⟨_, h⟩ | ⟨h', _⟩
          · exact h
          · exact absurd (by rw [h]) h'
        · have := h.1; have h58 := Nat.two_pow_pos 58; omega
      rw [h0, hM0.2]; simp
    · have h5 : s * 2 ^ a ≤ R * 2 ^ a := Nat.mul_le_mul_right _ (by rcases hS.hs with ⟨_, h⟩ | ⟨_, h⟩ <;> omega)
      rw [Nat.add_mul, Nat.mul_assoc]
      refine Nat.le_trans (show 2 * (R * 2 ^ a) + s * 2 ^ a ≤ 2 ^ 4 * 2 ^ 236 from ?_) (by rw [← Nat.pow_add]; exact Nat.le_refl _)
      generalize R * 2 ^ a = x at *
      generalize s * 2 ^ a = y at *
      generalize (2 : Nat) ^ 236 = z at *
      omega
  have hK := G_at 8388608 217 (by decide) (.inr (by decide))
  have hJK : J ≤ 8388608 + 217 * 8388608 := hS.hI.mono (by decide) (by decide) (Rd.exact (8388608 + 217 * 8388608) 1 (by decide)) (by
    rw [hK, Nat.mul_one, Nat.mul_one, Nat.mul_one]
    refine Nat.le_trans hT (Nat.le_of_eq ?_)
    rw [Nat.one_mul])
  omega
end Go.Proofs.YteigbokklclmbaaGreatDoor.M
end
section
namespace Go.Proofs.YteigbokklclmbaaGreatDoor.Z
open Go Go.RowKit Go.Proofs.YteigbokklclmbaaGreatDoor.Given Go.Proofs.YteigbokklclmbaaGreatDoorW.PrintWords Go.Proofs.YteigbokklclmbaaGreatDoorW.PrintLast Go.Proofs.YteigbokklclmbaaGreatDoorW.PrintMore Go.Proofs.YteigbokklclmbaaGreatDoor.Z.Y.Q
/-- The blocks l lie in w', made since w; all elder memory is as it was. -/
def Bs (w : World) (l : List (Nat × Int × Int)) (w' : World) : Prop :=
  Below w.heap.size w w' ∧ (∀ p, p ∈ l → w'.heap[p.1]? = some (.cells #[.int .i64 p.2.1, .int .i64 p.2.2] 23 (0, 0)) ∧ w.heap.size ≤ p.1) ∧ (l.map Prod.fst).Nodup
theorem Bs.nil (w : World) : Bs w [] w := ⟨Below.refl _ _, fun _ h => (by cases h), List.nodup_nil⟩
theorem Bs.step {w w' w'' : World} {l : List (Nat × Int × Int)} (h : Bs w l w') (hb : Below w'.heap.size w' w'') : Bs w l w'' :=
  ⟨h.1.trans (hb.mono h.1.size), fun p hp => ⟨blk_below (h.2.1 p hp).1 hb, (h.2.1 p hp).2⟩, h.2.2⟩
theorem Bs.box {w w' : World} {l : List (Nat × Int × Int)} (h : Bs w l w') (m e : Int) : Bs w ((w'.heap.size, m, e) :: l) (w'.alloc (.cells #[.int .i64 m, .int .i64 e] 23)) := by
  refine ⟨h.1.alloc h.1.size _, fun p hp => ?_, ?_⟩
  · rcases List.mem_cons.1 hp with rfl | hp
    · exact ⟨blk_new _ _, h.1.size⟩
    · exact ⟨blk_alloc (h.2.1 p hp).1 _, (h.2.1 p hp).2⟩
  · rw [List.map_cons, List.nodup_cons]
    refine ⟨fun hm => ?_, h.2.2⟩
    obtain ⟨p, hp, he⟩ := List.mem_map.1 hm
    have := blk_lt (h.2.1 p hp).1
    omega
theorem Bs.put {w w' : World} (l1 l2 : List (Nat × Int × Int)) (b : Nat) (m0 e0 : Int) (h : Bs w (l1 ++ (b, m0, e0) :: l2) w') (m e : Int) :
    Bs w (l1 ++ (b, m, e) :: l2) ((w'.setCell ⟨b, 0, none⟩ (.int .i64 m)).setCell ⟨b, 1, none⟩ (.int .i64 e)) := by
  have hb := h.2.1 (b, m0, e0) (by simp)
  have hn := h.2.2
  rw [List.map_append, List.map_cons] at hn
  have far : ∀ p, p ∈ l1 ∨ p ∈ l2 → p.1 ≠ b := by
    intro p hp he
    rw [List.nodup_append] at hn
    rcases hp with hp | hp
    · exact hn.2.2 p.1 (List.mem_map_of_mem hp) b (by simp) he
    · have hm := List.mem_map_of_mem (f := Prod.fst) hp
      rw [he] at hm
      exact (List.nodup_cons.1 hn.2.1).1 hm
  refine ⟨(h.1.setCell hb.2 _).setCell hb.2 _, fun p hp => ?_, by rw [List.map_append, List.map_cons]; exact hn⟩
  by_cases hpb : p ∈ l1 ∨ p ∈ l2
  · have hf := far p hpb
    have h0 := h.2.1 p (by rcases hpb with h | h <;> simp [h])
    exact ⟨(heap_setCell_other _ _ _ _ hf).trans ((heap_setCell_other _ _ _ _ hf).trans h0.1), h0.2⟩
  · have he : p = (b, m, e) := by
      rcases List.mem_append.1 hp with hp | hp
      · exact absurd (.inl hp) hpb
      · rcases List.mem_cons.1 hp with hp | hp
        · exact hp
        · exact absurd (.inr hp) hpb
    subst he
    exact ⟨heap_setCell_same (w'.setCell ⟨b, 0, none⟩ (.int .i64 m)) b 1 _ _ (.int .i64 e) (heap_setCell_same w' b 0 _ _ (.int .i64 m) hb.1), hb.2⟩
/-- What the walk asks of each block. -/
def BsAll (w : World) : List (Nat × Int × Int) → Prop
  | [] => True
  | p :: l => (w.cell? ⟨p.1, 0, none⟩ = some (.int .i64 p.2.1) ∧ w.cell? ⟨p.1, 1, none⟩ = some (.int .i64 p.2.2) ∧ w.frozen? ⟨p.1, 0, none⟩ = false ∧ w.frozen? ⟨p.1, 1, none⟩ = false ∧ p.1 < w.heap.size) ∧ BsAll w l
theorem bs_all {w : World} : ∀ (l : List (Nat × Int × Int)), (∀ p, p ∈ l → w.heap[p.1]? = some (.cells #[.int .i64 p.2.1, .int .i64 p.2.2] 23 (0, 0))) → BsAll w l
  | [], _ => trivial
  | p :: l, h => ⟨⟨(blk_cell (h p (by simp)) 0).trans rfl, (blk_cell (h p (by simp)) 1).trans rfl, blk_frozen (h p (by simp)) 0, blk_frozen (h p (by simp)) 1, blk_lt (h p (by simp))⟩, bs_all l (fun q hq => h q (by simp [hq]))⟩
theorem Bs.all {w w' : World} {l : List (Nat × Int × Int)} (h : Bs w l w') : BsAll w' l := bs_all l (fun p hp => (h.2.1 p hp).1)
end Go.Proofs.YteigbokklclmbaaGreatDoor.Z
end
section
namespace Go.Proofs.YteigbokklclmbaaGreatDoor.M
open Go Go.RowKit Go.Proofs.YteigbokklclmbaaGreatDoor.Given Go.Proofs.YteigbokklclmbaaGreatDoorW.PrintWords Go.Proofs.YteigbokklclmbaaGreatDoorW.PrintLast Go.Proofs.YteigbokklclmbaaGreatDoorW.PrintMore Go.Proofs.YteigbokklclmbaaGreatDoor.Z Go.Proofs.YteigbokklclmbaaGreatDoor.Z.Y Go.Proofs.YteigbokklclmbaaGreatDoor.Z.Y.V Go.Proofs.YteigbokklclmbaaGreatDoor.Z.Y.Q
theorem vv_nat {x0 x1 : Int} (h0 : 0 ≤ x0) : vv x0 x1 = ((x0.natAbs * 2 ^ (x1 + 150).toNat : Nat) : Int) := by
  unfold vv
  rw [Int.natCast_mul, Int.natCast_pow, show ((x0.natAbs : Nat) : Int) = x0 by omega]; rfl
theorem sqrt_ev {x0 x1 : Int} (wx : I64 x0) (hx : VR x0 x1) (h0 : 0 ≤ x0) : ∃ M R s a I, SqR (vv x0 x1) M R s a I ∧ ∀ w : World, Calls Tryz.prog 43 #[.agg #[.int .i64 x0, .int .i64 x1]] w fun e w' => e = .returned (.tuple #[.agg #[.int .i64 (res3 false I).1, .int .i64 (res3 false I).2.1], .int .i64 (res3 false I).2.2]) ∧ Below w.heap.size w w' := by
  obtain ⟨b1, b2, b3⟩ := VR.rc wx hx
  obtain ⟨m, e, hm, he1, he2, hodd, hval⟩ : ∃ (m : Nat) (e : Int), m < 33554432 ∧ -150 ≤ e ∧ e ≤ 150 ∧ ((Int.tmod x1 2 = 0 ∧ (m : Int) = x0 ∧ e = x1) ∨ (¬ Int.tmod x1 2 = 0 ∧ (m : Int) = 2 * x0 ∧ e = x1 - 1)) ∧ (∃ h : Int, e = 2 * h) ∧ x0.natAbs * 2 ^ (x1 + 150).toNat = m * 2 ^ (e + 150).toNat := by
    have ht : Int.tmod x1 2 = 0 ↔ x1 % 2 = 0 := by
      rw [Int.tmod_eq_emod]; split <;> omega
    by_cases h : x1 % 2 = 0
    · exact ⟨x0.natAbs, x1, by omega, b2, b3, .inl ⟨ht.2 h, by omega, rfl⟩, ⟨x1 / 2, by omega⟩, rfl⟩
    · refine ⟨2 * x0.natAbs, x1 - 1, by omega, by omega, by omega, .inr ⟨fun h' => h (ht.1 h'), by omega, rfl⟩, ⟨x1 / 2, by omega⟩, ?_⟩
      rw [show (x1 + 150).toNat = (x1 - 1 + 150).toNat + 1 by omega, Nat.pow_succ]; ac_rfl
  obtain ⟨⟨h, hh⟩, hval⟩ := hval
  obtain ⟨M, j, hj, hM, hn, hval2⟩ : ∃ (M j : Nat), j ≤ 39 ∧ (M = 0 ∨ (2 ^ 58 ≤ M ∧ M < 2 ^ 60)) ∧ normF 40 (m : Int) e = some ((M : Int), e - 2 * j) ∧ M = m * 4 ^ j ∧ (M = 0 ∨ j ≤ 29) := by
    rcases Nat.eq_zero_or_pos m with h | h
    · exact ⟨0, 0, by omega, .inl rfl, by rw [h]; exact (normF_zero 39 e).trans (by simp), by rw [h], .inl rfl⟩
    · obtain ⟨j, h1, h2, h3, h4⟩ := normF_ok 39 m e h (by omega) (Nat.le_trans (by decide) (Nat.mul_le_mul_right (4 ^ 39) h))
      refine ⟨m * 4 ^ j, j, h1, .inr ⟨h3, h4⟩, h2, rfl, .inr ?_⟩
      rcases Nat.lt_or_ge 29 j with h' | h'
      · have : 4 ^ 30 ≤ 4 ^ j := Nat.pow_le_pow_right (by decide) h'
        have := Nat.mul_le_mul h this
        omega
      · exact h'
  obtain ⟨hMm, hj2⟩ := hval2
  obtain ⟨R, hbR, hR0, hR1, hR2⟩ := bitF_ok (M : Int) 31 40 0 (by omega) (by omega) (by omega) (by
    have : ((0 : Int) + 2 * 2 ^ 31) * (0 + 2 * 2 ^ 31) = 18446744073709551616 := by decide
    omega)
  obtain ⟨r, rfl⟩ : ∃ r : Nat, R = (r : Int) := ⟨R.toNat, by omega⟩
  have hr1 : r * r ≤ M := by have := hR1; rw [← Int.natCast_mul] at this; omega
  have hr2 : M < (r + 1) * (r + 1) := by
    have := hR2; rw [show ((r : Int) + 1) = ((r + 1 : Nat) : Int) by omega, ← Int.natCast_mul] at this; omega
  have hrb : r < 2 ^ 30 := by
    rcases Nat.lt_or_ge r (2 ^ 30) with h | h
    · exact h
    · have : 2 ^ 30 * 2 ^ 30 ≤ r * r := Nat.mul_le_mul h h
      omega
  obtain ⟨s, hs⟩ : ∃ s : Nat, (r * r = M ∧ s = 0) ∨ (¬ r * r = M ∧ s = 1) := by
    by_cases h : r * r = M
    · exact ⟨0, .inl ⟨h, rfl⟩⟩
    · exact ⟨1, .inr ⟨h, rfl⟩⟩
  have hsI : ((r : Int) * r = M ∧ (s : Int) = 0) ∨ (¬ (r : Int) * r = M ∧ (s : Int) = 1) := by
    rcases hs with ⟨h1, h2⟩ | ⟨h1, h2⟩
    · left; rw [← Int.natCast_mul]; omega
    · right; rw [← Int.natCast_mul]; omega
  obtain ⟨E2, hE2⟩ : ∃ E2, E2 = h - j := ⟨_, rfl⟩
  have hdiv : Int.tdiv (e - 2 * (j : Int)) 2 = E2 := by
    rw [show e - 2 * (j : Int) = 2 * E2 by omega]; exact Int.mul_tdiv_cancel_left _ (by decide)
  have hlow : -140 ≤ E2 - 1 ∧ E2 - 1 ≤ 100 ∨ M = 0 := by
    rcases hj2 with h | h
    · exact .inr h
    · left; omega
  have hlow2 : -140 ≤ E2 - 1 ∧ E2 - 1 ≤ 100 := by omega
  have hwr : wrap64 (wrap64 (Int.tdiv (e - 2 * (j : Int)) 2) - 1) = E2 - 1 := by
    rw [hdiv, w64 E2 (by omega) (by omega), w64 _ (by omega) (by omega)]
  have hbl : bl (2 * r + s) ≤ 10000 := Nat.le_trans (bl_le_iff.2 (show 2 * r + s < 2 ^ 40 by rcases hs with ⟨_, h⟩ | ⟨_, h⟩ <;> omega)) (by decide)
  obtain ⟨I, hRd, hEr⟩ := rounded_one (2 * r + s) (E2 - 1) hbl (by omega) (by omega)
  have hEn := natOf_ev (2 * r + s) (by rcases hs with ⟨_, h⟩ | ⟨_, h⟩ <;> omega)
  have hca := caught_is false I
  have hsg : sgnr false I = rres I := rfl
  rw [hsg] at hca
  obtain ⟨k1, hk1⟩ := hEr
  obtain ⟨k2, hk2⟩ := hEn
  refine ⟨M, r, s, (E2 - 1 + 150).toNat, I, ⟨?_, hM, ⟨hr1, hr2⟩, hs, hRd⟩, fun w => ?_⟩
  · rw [vv_nat h0, hval, hMm]
    have : (4 : Nat) = 2 ^ 2 := rfl
    show ((_ : Nat) : Int) * ((2 ^ 150 : Nat) : Int) = _
    rw [← Int.natCast_mul]
    congr 1
    have e4 : ∀ n : Nat, 4 ^ n = 2 ^ (2 * n) := fun n => by rw [Nat.pow_mul]
    rw [e4, e4, Nat.mul_assoc, ← Nat.pow_add]
    calc m * 2 ^ ((e + 150).toNat + 150) = m * 2 ^ (2 + 2 * j + 2 * (E2 - 1 + 150).toNat) := by congr 2; omega
      _ = 4 * (m * 2 ^ (2 * j)) * 2 ^ (2 * (E2 - 1 + 150).toNat) := by rw [Nat.pow_add, Nat.pow_add]; ac_rfl
  · exact sqrt_c (k1 + k2) x0 x1 m e M (e - 2 * j) r s (rres I).1 (rres I).2 _ _ _ (D (2 * r + s)) [1] rfl hsI (by have := hk2 (k1 + k2) (by omega); rw [← this]; congr 1) (by rw [hwr]; exact hk1 (k1 + k2) (by omega)) hca (Valid_ev hx) h0 (by omega) b2 b3 hodd ⟨by omega, by omega⟩ ⟨by omega, he2⟩ hn hbR w
end Go.Proofs.YteigbokklclmbaaGreatDoor.M
end
section
namespace Go.Proofs.YteigbokklclmbaaGreatDoor.Z
open Go Go.RowKit Go.Proofs.YteigbokklclmbaaGreatDoor.Given Go.Proofs.YteigbokklclmbaaGreatDoorW.PrintWords Go.Proofs.YteigbokklclmbaaGreatDoorW.PrintLast Go.Proofs.YteigbokklclmbaaGreatDoorW.PrintMore Go.Proofs.YteigbokklclmbaaGreatDoor.Z.Y.Q Go.Proofs.YteigbokklclmbaaGreatDoor.Z.Y.V
theorem Bs.drew {w w' : World} {l : List (Nat × Int × Int)} (h : Bs w l w') : Bs w l w'.drew := h.step (below_drew1 (Below.refl _ _))
theorem Bs.ne {w w' : World} {l : List (Nat × Int × Int)} (h : Bs w l w') {i j : Nat} (hij : i < j) (hj : j < l.length) : (l[i]'(by omega)).1 ≠ l[j].1 := by
  have hp := h.2.2
  rw [List.Nodup, List.pairwise_map] at hp
  exact List.pairwise_iff_getElem.1 hp i j (by omega) hj hij
end Go.Proofs.YteigbokklclmbaaGreatDoor.Z
namespace Go.Proofs.YteigbokklclmbaaGreatDoor.Z.Y
open Go Go.RowKit Go.Proofs.YteigbokklclmbaaGreatDoor.Given Go.Proofs.YteigbokklclmbaaGreatDoorW.PrintWords Go.Proofs.YteigbokklclmbaaGreatDoorW.PrintLast Go.Proofs.YteigbokklclmbaaGreatDoorW.PrintMore Go.Proofs.YteigbokklclmbaaGreatDoor.Z.Y.Q Go.Proofs.YteigbokklclmbaaGreatDoor.Z.Y.V
end Go.Proofs.YteigbokklclmbaaGreatDoor.Z.Y
end
section
namespace Go.Proofs.YteigbokklclmbaaGreatDoor.Z.Y
open Go Go.RowKit Go.Proofs.YteigbokklclmbaaGreatDoor.Given Go.Proofs.YteigbokklclmbaaGreatDoorW.PrintWords Go.Proofs.YteigbokklclmbaaGreatDoorW.PrintLast Go.Proofs.YteigbokklclmbaaGreatDoorW.PrintMore Go.Proofs.YteigbokklclmbaaGreatDoor.Z.Y.Q
def SqrtIs (x0 x1 r0 r1 r2 : Int) : Prop := ∀ w : World, Calls Tryz.prog 43 #[.agg #[.int .i64 x0, .int .i64 x1]] w fun e w' => e = .returned (.tuple #[.agg #[.int .i64 r0, .int .i64 r1], .int .i64 r2]) ∧ Below w.heap.size w w'
end Go.Proofs.YteigbokklclmbaaGreatDoor.Z.Y
end
