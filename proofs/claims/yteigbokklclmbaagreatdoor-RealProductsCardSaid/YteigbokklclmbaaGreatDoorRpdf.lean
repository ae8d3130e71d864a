/- Contracts and lemmas that the law's row leans on, joined by program (pack.py) out of the session's texts; no condition of its own. -/
import Derived.Deep.DeepCutAuto
import Derived.Deep.Cut
import Derived.Test.YteigbokklclmbaaGreatDoorRows
import Derived.Laws.BitsLemmas
import Derived.Test.YteigbokklclmbaaGreatDoorRpda
import Derived.Test.YteigbokklclmbaaGreatDoorRpdb
import Derived.Test.YteigbokklclmbaaGreatDoorRpdc
import Derived.Test.YteigbokklclmbaaGreatDoorRpdd
import Derived.Test.YteigbokklclmbaaGreatDoorRpde
set_option linter.unusedVariables false
set_option linter.unusedSimpArgs false
set_option maxRecDepth 100000
set_option maxHeartbeats 8000000
section
namespace Go.Proofs.YteigbokklclmbaaGreatDoor.Z.Y.V
open Go.RowKit Go.Proofs.YteigbokklclmbaaGreatDoor.Given Go.Proofs.YteigbokklclmbaaGreatDoorW.PrintWords Go.Proofs.YteigbokklclmbaaGreatDoorW.PrintLast Go.Proofs.YteigbokklclmbaaGreatDoorW.PrintMore
attribute [local go_sem] max2_int min2_int max_two min_two max_three min_three max_four min_four
attribute [local go_sem high] field23_0 field23_1

def manorboyref02_Sqrt.l0 : Nat → List Int → Int → Int → Option (Int × Int)
 | 0, _, _, _ => none
 | k + 1, x4, x5, x6 => if x5 < x6 then ((manorboyref02_half.f k (wrap64 (Int.tdiv (wrap64 (x5 + x6)) 2))).bind fun t399 => ((manorboyref02_Nat_Mul.f k t399 t399).bind fun t402 => ((manorboyref02_Nat_Cmp.f k t402 x4).bind fun t405 => (if t405 ≥ 0 then (manorboyref02_Sqrt.l0 k x4 x5 (wrap64 (Int.tdiv (wrap64 (x5 + x6)) 2))) else (manorboyref02_Sqrt.l0 k x4 (wrap64 ((wrap64 (Int.tdiv (wrap64 (x5 + x6)) 2)) + 1)) x6))))) else ((manorboyref02_half.f k x5).bind fun t406 => ((manorboyref02_Nat_Mul.f k t406 t406).bind fun t409 => ((manorboyref02_Nat_Cmp.f k t409 x4).bind fun t412 => (if t412 = 0 then ((manorboyref02_At.f k x5).bind fun bt413 => (if (Int.tmod bt413.1 2) = 0 then ((manorboyref02_At.f k x5).bind fun bt415 => (some (bt415.1, bt415.2))) else ((manorboyref02_At.f k (wrap64 (x5 + 1))).bind fun bt417 => (some (bt417.1, bt417.2))))) else ((manorboyref02_At.f k x5).bind fun bt419 => (some (bt419.1, bt419.2)))))))
def manorboyref02_Sqrt.f (k : Nat) (a0_0 : Int) (a0_1 : Int) : Option (Int × Int) := (manorboyref02_Of.f k a0_0 a0_1).bind fun bt385 => ((manorboyref02_Two.f 152).bind fun t393 => ((manorboyref02_Nat_Mul.f k bt385.2.1 t393).bind fun t396 => (manorboyref02_Sqrt.l0 k t396 0 2533359615)))
theorem manorboyref02_Sqrt.calls (k : Nat) (a0_0 : Int) (a0_1 : Int) (r1 : Int) (r2 : Int) (w : World) (h : manorboyref02_Sqrt.f k a0_0 a0_1 = some (r1, r2)) :
  Calls Tryz.prog 44 #[.agg #[.int .i64 a0_0, .int .i64 a0_1]] w fun e w' => e = .returned (.agg #[.int .i64 r1, .int .i64 r2]) ∧ Below w.heap.size w w' := by
 have hu23 := Tryz.underlying23
 have hu102 := Tryz.underlying102
 have HB := Aside0.mk (Below.refl w.heap.size w)
 have H := h; unfold manorboyref02_Sqrt.f at H; clear h
 replace H := Option.bind_eq_some_iff.mp H
 obtain ⟨⟨t385, t386, t389⟩, A20, H⟩ := H
 try dsimp only at H
 have A2 := Aside0.mk A20
 clear A20
 replace H := Option.bind_eq_some_iff.mp H
 obtain ⟨t393, A30, H⟩ := H
 try dsimp only at H
 have A3 := Aside0.mk A30
 clear A30
 replace H := Option.bind_eq_some_iff.mp H
 obtain ⟨t396, A40, H⟩ := H
 try dsimp only at H
 have A4 := Aside0.mk A40
 clear A40
 have H' := Aside0.mk H
 clear H
 go_enter Tryz.func44, Tryz.ntmps44
 try go_wp2_with (first | ((with_reducible refine gate_dst (N := 1) rfl ?_); refine bxe 1 #[.int .i64 a0_0, .int .i64 a0_1] 23 ?_; intro gb383 hg w5 hbox hb; have BK383 := Aside0.mk hbox; have GW383 := ge hg; have GE383 := ge hg; replace HB := bs hb; clear hb hbox hg) | ((with_reducible refine gate_dst (N := 2) rfl ?_); refine bxe 2 #[.int .i64 0, .int .i64 0] 23 ?_; intro gb384 hg w6 hbox hb; have BK384 := Aside0.mk hbox; have GW384 := ge hg; have GE384 := ge hg; have NB383_384 := nl BK383 hg; have NB384_383 := nr BK383 hg; replace BK383 := kb BK383 hb; replace HB := bs hb; clear hb hbox hg; have hnb7 := NB383_384.out; have hnc7 := NB384_383.out; have hcz8_0 := c20 BK383; have hcz8_1 := c21 BK383; have hfz8_0 := blk_frozen BK383.out 0; have hfz8_1 := blk_frozen BK383.out 1) | ((with_reducible refine gate_callee (f := 102) rfl ?_); refine gL 11 Tryz.func102 #[.agg #[.int .i64 a0_0, .int .i64 a0_1]] ?_; (with_reducible refine (manorboyref02_Of.calls k a0_0 a0_1 t385 t386 t389 _ A2.out).mono ?_); rintro e w9 ⟨v387, v390, rfl, ho0, ho1, hb⟩; refine ⟨_, rfl, ?_⟩; have HO388 := Aside0.mk (Kd.R_lower ho0 (below_size bz)); have HO391 := Aside0.mk (Kd.R_lower ho1 (below_size bz)); replace BK383 := kb BK383 hb; replace BK384 := kb BK384 hb; replace HB := bs hb; (try clear hb); (try clear hk); (try clear ho0); (try clear ho1)) | ((with_reducible refine gate_dst (N := 3) rfl ?_); refine bxe 3 #[.bool false, .slice none 0 0, .slice none 0 0] 102 ?_; intro gb392 hg w10 hbox hb; have BK392 := Aside0.mk hbox; have GW392 := ge hg; have GE392 := ge hg; have NB383_392 := nl BK383 hg; have NB392_383 := nr BK383 hg; have NB384_392 := nl BK384 hg; have NB392_384 := nr BK384 hg; replace HO388 := rb HO388 hb; replace HO391 := rb HO391 hb; replace BK383 := kb BK383 hb; replace BK384 := kb BK384 hb; replace HB := bs hb; clear hb hbox hg; have hnb11 := NB392_383.out; have hnc11 := NB383_392.out; have hnb12 := NB392_384.out; have hnc12 := NB384_392.out; have hcz13_0 : w10.cell? ⟨gb392, 0, none⟩ = some (.bool false) := (blk_cell BK392.out 0).trans rfl; have hcz13_1 : w10.cell? ⟨gb392, 1, none⟩ = some (.slice none 0 0) := (blk_cell BK392.out 1).trans rfl; have hcz13_2 : w10.cell? ⟨gb392, 2, none⟩ = some (.slice none 0 0) := (blk_cell BK392.out 2).trans rfl; have hfz13_0 := blk_frozen BK392.out 0; have hfz13_1 := blk_frozen BK392.out 1; have hfz13_2 := blk_frozen BK392.out 2; obtain ⟨Ao14, co14, eo14⟩ := Kd.R_slice HO388.out; subst eo14; obtain ⟨Ao15, co15, eo15⟩ := Kd.R_slice HO391.out; subst eo15))
 have n0_ : Aside0 (Kd.R (Kd.int .i64) 3 (((w10.setCell ⟨gb392, 0, none⟩ (.bool t385)).setCell ⟨gb392, 1, none⟩ (.slice Ao14 t386.length co14)).setCell ⟨gb392, 2, none⟩ (.slice Ao15 t389.length co15)) w.heap.size (fun k_ => some k_ ≠ (.slice Ao15 t389.length co15 : Value).ownBlock) (.slice Ao14 t386.length co14) t386) := ⟨by (with_reducible repeat (first | apply Kd.R_alloc | apply Kd.R_drewN | apply Kd.R_drew)); exact Kd.R_mono (Kd.R_far (p := ⟨gb392, 2, none⟩) (Kd.R_far (p := ⟨gb392, 1, none⟩) (Kd.R_far (p := ⟨gb392, 0, none⟩) (Kd.R_types HO388.out BK392.out (by decide)) (fun _ hk => hk.2) (.bool t385)) (fun _ hk => hk.2) (.slice Ao14 t386.length co14)) (fun _ hk => hk.2) (.slice Ao15 t389.length co15)) (fun _ hk => hk.1)⟩
 have n1_ : Aside0 (Kd.R (Kd.int .i64) 3 (((w10.setCell ⟨gb392, 0, none⟩ (.bool t385)).setCell ⟨gb392, 1, none⟩ (.slice Ao14 t386.length co14)).setCell ⟨gb392, 2, none⟩ (.slice Ao15 t389.length co15)) w.heap.size (fun k_ => some k_ ≠ (.slice Ao14 t386.length co14 : Value).ownBlock) (.slice Ao15 t389.length co15) t389) := ⟨by (with_reducible repeat (first | apply Kd.R_alloc | apply Kd.R_drewN | apply Kd.R_drew)); exact Kd.R_mono (Kd.R_far (p := ⟨gb392, 2, none⟩) (Kd.R_far (p := ⟨gb392, 1, none⟩) (Kd.R_far (p := ⟨gb392, 0, none⟩) (Kd.R_types HO391.out BK392.out (by decide)) (fun _ hk => hk.2) (.bool t385)) (fun _ hk => hk.2) (.slice Ao14 t386.length co14)) (fun _ hk => hk.2) (.slice Ao15 t389.length co15)) (fun _ hk => hk.1)⟩
 have n2_ : Aside0 ((((w10.setCell ⟨gb392, 0, none⟩ (.bool t385)).setCell ⟨gb392, 1, none⟩ (.slice Ao14 t386.length co14)).setCell ⟨gb392, 2, none⟩ (.slice Ao15 t389.length co15)).heap[gb383]? = some (.cells #[.int .i64 a0_0, .int .i64 a0_1] 23 (0, 0))) := ⟨by (with_reducible repeat (first | refine blk_drewN ?_ _ | refine blk_drew ?_ | refine blk_alloc ?_ _)); refine blk_far ?_ NB383_392.out _; (with_reducible repeat (first | refine blk_drewN ?_ _ | refine blk_drew ?_ | refine blk_alloc ?_ _)); refine blk_far ?_ NB383_392.out _; (with_reducible repeat (first | refine blk_drewN ?_ _ | refine blk_drew ?_ | refine blk_alloc ?_ _)); refine blk_far ?_ NB383_392.out _; (with_reducible repeat (first | refine blk_drewN ?_ _ | refine blk_drew ?_ | refine blk_alloc ?_ _)); exact BK383.out⟩
 have n3_ : Aside0 ((((w10.setCell ⟨gb392, 0, none⟩ (.bool t385)).setCell ⟨gb392, 1, none⟩ (.slice Ao14 t386.length co14)).setCell ⟨gb392, 2, none⟩ (.slice Ao15 t389.length co15)).heap[gb384]? = some (.cells #[.int .i64 0, .int .i64 0] 23 (0, 0))) := ⟨by (with_reducible repeat (first | refine blk_drewN ?_ _ | refine blk_drew ?_ | refine blk_alloc ?_ _)); refine blk_far ?_ NB384_392.out _; (with_reducible repeat (first | refine blk_drewN ?_ _ | refine blk_drew ?_ | refine blk_alloc ?_ _)); refine blk_far ?_ NB384_392.out _; (with_reducible repeat (first | refine blk_drewN ?_ _ | refine blk_drew ?_ | refine blk_alloc ?_ _)); refine blk_far ?_ NB384_392.out _; (with_reducible repeat (first | refine blk_drewN ?_ _ | refine blk_drew ?_ | refine blk_alloc ?_ _)); exact BK384.out⟩
 have n4_ : Aside0 ((((w10.setCell ⟨gb392, 0, none⟩ (.bool t385)).setCell ⟨gb392, 1, none⟩ (.slice Ao14 t386.length co14)).setCell ⟨gb392, 2, none⟩ (.slice Ao15 t389.length co15)).heap[gb392]? = some (.cells #[.bool t385, .slice Ao14 t386.length co14, .slice Ao15 t389.length co15] 102 (0, 0))) := ⟨by (with_reducible repeat (first | refine blk_drewN ?_ _ | refine blk_drew ?_ | refine blk_alloc ?_ _)); refine blk_put (cs := #[.bool t385, .slice Ao14 t386.length co14, .slice none 0 0]) ?_ 2 _ rfl; (with_reducible repeat (first | refine blk_drewN ?_ _ | refine blk_drew ?_ | refine blk_alloc ?_ _)); refine blk_put (cs := #[.bool t385, .slice none 0 0, .slice none 0 0]) ?_ 1 _ rfl; (with_reducible repeat (first | refine blk_drewN ?_ _ | refine blk_drew ?_ | refine blk_alloc ?_ _)); refine blk_put (cs := #[.bool false, .slice none 0 0, .slice none 0 0]) ?_ 0 _ rfl; (with_reducible repeat (first | refine blk_drewN ?_ _ | refine blk_drew ?_ | refine blk_alloc ?_ _)); exact BK392.out⟩
 have n5_ : Aside0 (Below w.heap.size w (((w10.setCell ⟨gb392, 0, none⟩ (.bool t385)).setCell ⟨gb392, 1, none⟩ (.slice Ao14 t386.length co14)).setCell ⟨gb392, 2, none⟩ (.slice Ao15 t389.length co15))) := ⟨bz⟩
 (try clear HO388)
 (try clear HO391)
 (try clear BK383)
 (try clear BK384)
 (try clear BK392)
 (try clear HB)
 generalize (((w10.setCell ⟨gb392, 0, none⟩ (.bool t385)).setCell ⟨gb392, 1, none⟩ (.slice Ao14 t386.length co14)).setCell ⟨gb392, 2, none⟩ (.slice Ao15 t389.length co15)) = w16 at n0_ n1_ n2_ n3_ n4_ n5_ ⊢
 have HO388 := n0_
 have HO391 := n1_
 have BK383 := n2_
 have BK384 := n3_
 have BK392 := n4_
 have HB := n5_
 clear n0_ n1_ n2_ n3_ n4_ n5_
 replace HO388 := Aside0.mk (Kd.R_drew HO388.out)
 replace HO391 := Aside0.mk (Kd.R_drew HO391.out)
 replace BK383 := Aside0.mk (blk_drew BK383.out)
 replace BK384 := Aside0.mk (blk_drew BK384.out)
 replace BK392 := Aside0.mk (blk_drew BK392.out)
 replace HB := Aside0.mk (below_drew1 HB.out)
 refine start_ (n := 5) (S := fun w' => w'.cell? ⟨gb392, 0, none⟩ = some (.bool t385) ∧ w'.cell? ⟨gb392, 1, none⟩ = some (.slice Ao14 t386.length co14) ∧ w'.cell? ⟨gb392, 2, none⟩ = some (.slice Ao15 t389.length co15)) (ds := []) #[ff,ff,ff,ff,ff] (by kernel_rfl) rfl rfl ⟨bc 0 BK392, bc 1 BK392, bc 2 BK392⟩ (fun hHeld => ?_)
 generalize w16.drew = w17 at HO388 HO391 BK383 BK384 BK392 HB hHeld ⊢
 refine pure_ (i := 0) (N := some 12) (v := ?_) (a' := ?_) #[true, false, false, false, false] rfl rfl (by kernel_rfl) (fun _ _ _ h => h) (Or.inl ⟨by rfl, ?_⟩) ?_ ?_
 rotate_left
 ·intro w'
  go_simp
  with_reducible rfl
 rotate_left
 ·simp only [Act.put, List.setIfInBounds_toArray, List.set_cons_zero, List.set_cons_succ, i64_w, i32_w]
  rfl
 refine take_ (i := 1) (N := some 13) (v := ?_) (a' := ?_) #[true, true, false, false, false] rfl rfl (by kernel_rfl) (fun _ _ _ h => h) (Or.inl ⟨by rfl, ?_⟩) hHeld ?_ ?_
 rotate_left
 ·rintro w' ⟨s0, s1, s2⟩
  go_simp
  with_reducible rfl
 rotate_left
 ·simp only [Act.put, List.setIfInBounds_toArray, List.set_cons_zero, List.set_cons_succ, i64_w, i32_w]
  rfl
 refine one_ (i := 2) (N := some 14) #[true, true, true, false, false] rfl rfl (by kernel_rfl) (by decide) (fun K hK => ?_)
 refine goes_ Tryz.func107 (by kernel_rfl) rfl #[.int .i64 152] (by rfl) rfl rfl az ?_
 with_reducible refine (manorboyref02_Two.calls 152 t393 _ A3.out).mono ?_
 rintro e w18 ⟨v394, rfl, ho0, hb⟩
 refine ⟨_, rfl, ?_⟩
 have HO395 := Aside0.mk (Kd.R_lower (Kd.R_new' (Kd.R_new' ho0 (Kd.R_lt (rz HO388))) (Kd.R_lt (rz HO391))) (below_size bz))
 replace HO388 := Aside0.mk (Kd.R_elder' (rz HO388) (Kd.R_base ho0) hb)
 replace HO391 := Aside0.mk (Kd.R_elder' (rz HO391) (Kd.R_base ho0) hb)
 replace BK383 := kb BK383 hb
 replace BK384 := kb BK384 hb
 replace BK392 := kb BK392 hb
 replace HB := bs hb
 (try clear hb)
 (try clear hk)
 (try clear ho0)
 obtain ⟨Ao19, co19, eo19⟩ := Kd.R_slice HO395.out
 (first | subst eo19 | (injection eo19 with f1_ f2_ f3_; have f4_ := f1_.symm; have f5_ := f3_.symm; clear f1_ f2_ f3_; subst f4_; subst f5_))
 refine hK.out _ _ ⟨bc 0 BK392, bc 1 BK392, bc 2 BK392⟩ (fun hHeld => ?_)
 clear hK K
 refine nrm (some 14) ?_
 refine one_ (i := 3) (N := some 15) #[true, true, true, true, false] rfl rfl (by kernel_rfl) (by decide) (fun K hK => ?_)
 refine goes_ Tryz.func86 (by kernel_rfl) rfl #[.slice Ao14 t386.length co14, .slice Ao19 t393.length co19] (by rfl) rfl rfl az ?_
 with_reducible refine (manorboyref02_Nat_Mul.calls k _ _ t386 _ _ t393 t396 _ ?side1 ?side2 ?side3 ?side4 A4.out).mono ?_
 (case side1 => exact ccz (Kd.R_reads' HO388.out).2.2)
 (case side2 => exact (Kd.R_reads' HO388.out).2.1)
 (case side3 => exact ccz (Kd.R_reads' HO395.out).2.2)
 (case side4 => exact (Kd.R_reads' HO395.out).2.1)
 rintro e w20 ⟨v397, rfl, ho0, hb⟩
 refine ⟨_, rfl, ?_⟩
 have HO398 := Aside0.mk (Kd.R_lower (Kd.R_new' (Kd.R_new' (Kd.R_new' ho0 (Kd.R_lt (rz HO388))) (Kd.R_lt (rz HO391))) (Kd.R_lt (rz HO395))) (below_size bz))
 replace HO388 := Aside0.mk (Kd.R_elder' (rz HO388) (Kd.R_base ho0) hb)
 replace HO391 := Aside0.mk (Kd.R_elder' (rz HO391) (Kd.R_base ho0) hb)
 replace HO395 := Aside0.mk (Kd.R_elder' (rz HO395) (Kd.R_base ho0) hb)
 replace BK383 := kb BK383 hb
 replace BK384 := kb BK384 hb
 replace BK392 := kb BK392 hb
 replace HB := bs hb
 (try clear hb)
 (try clear hk)
 (try clear ho0)
 refine hK.out _ _ ⟨bc 0 BK392, bc 1 BK392, bc 2 BK392⟩ (fun hHeld => ?_)
 clear hK K
 refine nrm (some 15) ?_
 refine pure_ (i := 4) (N := some 4) (v := ?_) (a' := ?_) #[true, true, true, true, true] rfl rfl (by kernel_rfl) (fun _ _ _ h => h) (Or.inl ⟨by rfl, ?_⟩) ?_ ?_
 rotate_left
 ·intro w'
  go_simp
  with_reducible rfl
 rotate_left
 ·simp only [Act.put, List.setIfInBounds_toArray, List.set_cons_zero, List.set_cons_succ, i64_w, i32_w]
  rfl
 refine done_ (by kernel_rfl) ?_
 try go_wp2
 go_loopg [5, 6] k (fun kq v5 v6 w' => ∃ (x5_1 : Int) (x6_1 : Int), v5 = .int .i64 x5_1 ∧ v6 = .int .i64 x6_1 ∧ Aside0 (manorboyref02_Sqrt.l0 kq t396 x5_1 x6_1 = some (r1, r2)) ∧ Aside0 (kq ≤ k) ∧ Aside0 (Kd.R (Kd.int .i64) 3 w' w.heap.size (fun k_ => some k_ ≠ ((.slice Ao14 t386.length co14) : Value).ownBlock ∧ some k_ ≠ ((.slice Ao15 t389.length co15) : Value).ownBlock) v397 t396) ∧ Aside0 (Kd.R (Kd.int .i64) 3 w' w.heap.size (fun k_ => some k_ ≠ (v397 : Value).ownBlock ∧ some k_ ≠ ((.slice Ao15 t389.length co15) : Value).ownBlock) (.slice Ao14 t386.length co14) t386) ∧ Aside0 (Kd.R (Kd.int .i64) 3 w' w.heap.size (fun k_ => some k_ ≠ (v397 : Value).ownBlock ∧ some k_ ≠ ((.slice Ao14 t386.length co14) : Value).ownBlock) (.slice Ao15 t389.length co15) t389) ∧ Aside0 (w'.heap[gb383]? = some (.cells #[.int .i64 a0_0, .int .i64 a0_1] 23 (0, 0))) ∧ Aside0 (w'.heap[gb384]? = some (.cells #[.int .i64 0, .int .i64 0] 23 (0, 0))) ∧ Aside0 (w'.heap[gb392]? = some (.cells #[.bool t385, (.slice Ao14 t386.length co14), (.slice Ao15 t389.length co15)] 102 (0, 0))) ∧ Aside0 (Below w.heap.size w w'))
 case atStart => exact ⟨(0), (2533359615), (by first | rfl | (simp; done) | (simp [*]; done)), (by first | rfl | (simp; done) | (simp [*]; done)), H', ⟨Nat.le_refl _⟩, ⟨by (with_reducible repeat (first | apply Kd.R_alloc | apply Kd.R_drewN | apply Kd.R_drew)); exact Kd.R_mono HO398.out (fun _ hk => ⟨hk.1.1.2, hk.1.2⟩)⟩, ⟨by (with_reducible repeat (first | apply Kd.R_alloc | apply Kd.R_drewN | apply Kd.R_drew)); exact Kd.R_mono HO388.out (fun _ hk => ⟨hk.2, hk.1.1⟩)⟩, ⟨by (with_reducible repeat (first | apply Kd.R_alloc | apply Kd.R_drewN | apply Kd.R_drew)); exact Kd.R_mono HO391.out (fun _ hk => ⟨hk.2, hk.1.1⟩)⟩, ⟨kz BK383⟩, ⟨kz BK384⟩, ⟨kz BK392⟩, ⟨bz⟩⟩
 case round =>
  clear H'
  try clear hcz13_0
  try clear hcz13_1
  try clear hcz13_2
  try clear hcz8_0
  try clear hcz8_1
  try clear hfz13_0
  try clear hfz13_1
  try clear hfz13_2
  try clear hfz8_0
  try clear hfz8_1
  obtain ⟨x5_1, x6_1, rfl, rfl, HA, HK1, HO_4, HO_393001, HO_393002, BK383, BK384, BK392, HB⟩ := hrel
  cases gk with
  | zero => exact absurd HA.out (by simp [manorboyref02_Sqrt.l0])
  | succ k1 =>
   have H := HA.out
   clear HA
   simp only [manorboyref02_Sqrt.l0] at H
   by_cases c21 : x5_1 < x6_1
   ·rw [if_pos c21] at H
    have c21b0 : decide (x5_1 < x6_1) = true := decide_eq_true c21
    clear c21
    replace H := Option.bind_eq_some_iff.mp H
    obtain ⟨t399, A220, H⟩ := H
    try dsimp only at H
    have A22 := Aside0.mk A220
    clear A220
    replace H := Option.bind_eq_some_iff.mp H
    obtain ⟨t402, A230, H⟩ := H
    try dsimp only at H
    have A23 := Aside0.mk A230
    clear A230
    replace H := Option.bind_eq_some_iff.mp H
    obtain ⟨t405, A240, H⟩ := H
    try dsimp only at H
    have A24 := Aside0.mk A240
    clear A240
    by_cases c25 : t405 ≥ 0
    ·rw [if_pos c25] at H
     have c25b0 : decide (0 ≤ t405) = true := decide_eq_true c25
     clear c25
     have H' := Aside0.mk H
     clear H
     go_wp2_with (first | ((with_reducible refine gate_callee (f := 108) rfl ?_); refine gL 24 Tryz.func108 #[.int .i64 (wrap64 (Int.tdiv (wrap64 (x5_1 + x6_1)) 2))] ?_; (with_reducible refine (manorboyref02_half.calls k1 (wrap64 (Int.tdiv (wrap64 (x5_1 + x6_1)) 2)) t399 _ A22.out).mono ?_); rintro e w26 ⟨v400, rfl, ho0, hb⟩; refine ⟨_, rfl, ?_⟩; have HO401 := Aside0.mk (Kd.R_lower (Kd.R_new' (Kd.R_new' (Kd.R_new' ho0 (Kd.R_lt (rz HO_4))) (Kd.R_lt (rz HO_393001))) (Kd.R_lt (rz HO_393002))) (below_size bz)); replace HO_4 := Aside0.mk (Kd.R_elder' (rz HO_4) (Kd.R_base ho0) hb); replace HO_393001 := Aside0.mk (Kd.R_elder' (rz HO_393001) (Kd.R_base ho0) hb); replace HO_393002 := Aside0.mk (Kd.R_elder' (rz HO_393002) (Kd.R_base ho0) hb); replace BK383 := kb BK383 hb; replace BK384 := kb BK384 hb; replace BK392 := kb BK392 hb; replace HB := bs hb; (try clear hb); (try clear hk); (try clear ho0); obtain ⟨Ao27, co27, eo27⟩ := Kd.R_slice HO401.out; subst eo27) | ((with_reducible refine gate_callee (f := 86) rfl ?_); refine gL 27 Tryz.func86 #[.slice Ao27 t399.length co27, .slice Ao27 t399.length co27] ?_; (with_reducible refine (manorboyref02_Nat_Mul.calls k1 _ _ t399 _ _ t399 t402 _ ?side1 ?side2 ?side3 ?side4 A23.out).mono ?_); (case side1 => exact ccz (Kd.R_reads' HO401.out).2.2); (case side2 => exact (Kd.R_reads' HO401.out).2.1); (case side3 => exact ccz (Kd.R_reads' HO401.out).2.2); (case side4 => exact (Kd.R_reads' HO401.out).2.1); rintro e w28 ⟨v403, rfl, ho0, hb⟩; refine ⟨_, rfl, ?_⟩; have HO404 := Aside0.mk (Kd.R_lower (Kd.R_new' (Kd.R_new' (Kd.R_new' (Kd.R_new' ho0 (Kd.R_lt (rz HO_4))) (Kd.R_lt (rz HO_393001))) (Kd.R_lt (rz HO_393002))) (Kd.R_lt (rz HO401))) (below_size bz)); replace HO_4 := Aside0.mk (Kd.R_elder' (rz HO_4) (Kd.R_base ho0) hb); replace HO_393001 := Aside0.mk (Kd.R_elder' (rz HO_393001) (Kd.R_base ho0) hb); replace HO_393002 := Aside0.mk (Kd.R_elder' (rz HO_393002) (Kd.R_base ho0) hb); replace HO401 := Aside0.mk (Kd.R_elder' (rz HO401) (Kd.R_base ho0) hb); replace BK383 := kb BK383 hb; replace BK384 := kb BK384 hb; replace BK392 := kb BK392 hb; replace HB := bs hb; (try clear hb); (try clear hk); (try clear ho0); obtain ⟨Ao29, co29, eo29⟩ := Kd.R_slice HO404.out; subst eo29; obtain ⟨Ao30, co30, eo30⟩ := Kd.R_slice HO_4.out; subst eo30) | ((with_reducible refine gate_callee (f := 104) rfl ?_); refine gL 29 Tryz.func104 #[.slice Ao29 t402.length co29, .slice Ao30 t396.length co30] ?_; (with_reducible refine (manorboyref02_Nat_Cmp.calls k1 _ _ t402 _ _ t396 t405 _ ?side1 ?side2 ?side3 ?side4 A24.out).mono ?_); (case side1 => exact ccz (Kd.R_reads' HO404.out).2.2); (case side2 => exact (Kd.R_reads' HO404.out).2.1); (case side3 => exact ccz (Kd.R_reads' HO_4.out).2.2); (case side4 => exact (Kd.R_reads' HO_4.out).2.1); rintro e w' ⟨rfl, ⟨nd, rfl⟩⟩; refine ⟨_, rfl, ?_⟩))
     go_roundg k1
     case measure => have := HK1.out; omega
     case rel => exact ⟨(x5_1), (wrap64 (Int.tdiv (wrap64 (x5_1 + x6_1)) 2)), (by first | rfl | (simp; done) | (simp [*]; done)), (by first | rfl | (simp; done) | (simp [*]; done)), H', ⟨by have := HK1.out; omega⟩, ⟨by (with_reducible repeat (first | apply Kd.R_alloc | apply Kd.R_drewN | apply Kd.R_drew)); exact Kd.R_mono HO_4.out (fun _ hk => ⟨hk.1.1.1, hk.1.1.2⟩)⟩, ⟨by (with_reducible repeat (first | apply Kd.R_alloc | apply Kd.R_drewN | apply Kd.R_drew)); exact Kd.R_mono HO_393001.out (fun _ hk => ⟨hk.1.1.1, hk.1.1.2⟩)⟩, ⟨by (with_reducible repeat (first | apply Kd.R_alloc | apply Kd.R_drewN | apply Kd.R_drew)); exact Kd.R_mono HO_393002.out (fun _ hk => ⟨hk.1.1.1, hk.1.1.2⟩)⟩, ⟨kz BK383⟩, ⟨kz BK384⟩, ⟨kz BK392⟩, ⟨bz⟩⟩
    ·rw [if_neg c25] at H
     have c25b0 : decide (0 ≤ t405) = false := decide_eq_false c25
     clear c25
     have H' := Aside0.mk H
     clear H
     go_wp2_with (first | ((with_reducible refine gate_callee (f := 108) rfl ?_); refine gL 24 Tryz.func108 #[.int .i64 (wrap64 (Int.tdiv (wrap64 (x5_1 + x6_1)) 2))] ?_; (with_reducible refine (manorboyref02_half.calls k1 (wrap64 (Int.tdiv (wrap64 (x5_1 + x6_1)) 2)) t399 _ A22.out).mono ?_); rintro e w31 ⟨v400, rfl, ho0, hb⟩; refine ⟨_, rfl, ?_⟩; have HO401 := Aside0.mk (Kd.R_lower (Kd.R_new' (Kd.R_new' (Kd.R_new' ho0 (Kd.R_lt (rz HO_4))) (Kd.R_lt (rz HO_393001))) (Kd.R_lt (rz HO_393002))) (below_size bz)); replace HO_4 := Aside0.mk (Kd.R_elder' (rz HO_4) (Kd.R_base ho0) hb); replace HO_393001 := Aside0.mk (Kd.R_elder' (rz HO_393001) (Kd.R_base ho0) hb); replace HO_393002 := Aside0.mk (Kd.R_elder' (rz HO_393002) (Kd.R_base ho0) hb); replace BK383 := kb BK383 hb; replace BK384 := kb BK384 hb; replace BK392 := kb BK392 hb; replace HB := bs hb; (try clear hb); (try clear hk); (try clear ho0); obtain ⟨Ao32, co32, eo32⟩ := Kd.R_slice HO401.out; subst eo32) | ((with_reducible refine gate_callee (f := 86) rfl ?_); refine gL 27 Tryz.func86 #[.slice Ao32 t399.length co32, .slice Ao32 t399.length co32] ?_; (with_reducible refine (manorboyref02_Nat_Mul.calls k1 _ _ t399 _ _ t399 t402 _ ?side1 ?side2 ?side3 ?side4 A23.out).mono ?_); (case side1 => exact ccz (Kd.R_reads' HO401.out).2.2); (case side2 => exact (Kd.R_reads' HO401.out).2.1); (case side3 => exact ccz (Kd.R_reads' HO401.out).2.2); (case side4 => exact (Kd.R_reads' HO401.out).2.1); rintro e w33 ⟨v403, rfl, ho0, hb⟩; refine ⟨_, rfl, ?_⟩; have HO404 := Aside0.mk (Kd.R_lower (Kd.R_new' (Kd.R_new' (Kd.R_new' (Kd.R_new' ho0 (Kd.R_lt (rz HO_4))) (Kd.R_lt (rz HO_393001))) (Kd.R_lt (rz HO_393002))) (Kd.R_lt (rz HO401))) (below_size bz)); replace HO_4 := Aside0.mk (Kd.R_elder' (rz HO_4) (Kd.R_base ho0) hb); replace HO_393001 := Aside0.mk (Kd.R_elder' (rz HO_393001) (Kd.R_base ho0) hb); replace HO_393002 := Aside0.mk (Kd.R_elder' (rz HO_393002) (Kd.R_base ho0) hb); replace HO401 := Aside0.mk (Kd.R_elder' (rz HO401) (Kd.R_base ho0) hb); replace BK383 := kb BK383 hb; replace BK384 := kb BK384 hb; replace BK392 := kb BK392 hb; replace HB := bs hb; (try clear hb); (try clear hk); (try clear ho0); obtain ⟨Ao34, co34, eo34⟩ := Kd.R_slice HO404.out; subst eo34; obtain ⟨Ao35, co35, eo35⟩ := Kd.R_slice HO_4.out; subst eo35) | ((with_reducible refine gate_callee (f := 104) rfl ?_); refine gL 29 Tryz.func104 #[.slice Ao34 t402.length co34, .slice Ao35 t396.length co35] ?_; (with_reducible refine (manorboyref02_Nat_Cmp.calls k1 _ _ t402 _ _ t396 t405 _ ?side1 ?side2 ?side3 ?side4 A24.out).mono ?_); (case side1 => exact ccz (Kd.R_reads' HO404.out).2.2); (case side2 => exact (Kd.R_reads' HO404.out).2.1); (case side3 => exact ccz (Kd.R_reads' HO_4.out).2.2); (case side4 => exact (Kd.R_reads' HO_4.out).2.1); rintro e w' ⟨rfl, ⟨nd, rfl⟩⟩; refine ⟨_, rfl, ?_⟩))
     go_roundg k1
     case measure => have := HK1.out; omega
     case rel => exact ⟨(wrap64 ((wrap64 (Int.tdiv (wrap64 (x5_1 + x6_1)) 2)) + 1)), (x6_1), (by first | rfl | (simp; done) | (simp [*]; done)), (by first | rfl | (simp; done) | (simp [*]; done)), H', ⟨by have := HK1.out; omega⟩, ⟨by (with_reducible repeat (first | apply Kd.R_alloc | apply Kd.R_drewN | apply Kd.R_drew)); exact Kd.R_mono HO_4.out (fun _ hk => ⟨hk.1.1.1, hk.1.1.2⟩)⟩, ⟨by (with_reducible repeat (first | apply Kd.R_alloc | apply Kd.R_drewN | apply Kd.R_drew)); exact Kd.R_mono HO_393001.out (fun _ hk => ⟨hk.1.1.1, hk.1.1.2⟩)⟩, ⟨by (with_reducible repeat (first | apply Kd.R_alloc | apply Kd.R_drewN | apply Kd.R_drew)); exact Kd.R_mono HO_393002.out (fun _ hk => ⟨hk.1.1.1, hk.1.1.2⟩)⟩, ⟨kz BK383⟩, ⟨kz BK384⟩, ⟨kz BK392⟩, ⟨bz⟩⟩
   ·rw [if_neg c21] at H
    have c21b0 : decide (x5_1 < x6_1) = false := decide_eq_false c21
    clear c21
    replace H := Option.bind_eq_some_iff.mp H
    obtain ⟨t406, A360, H⟩ := H
    try dsimp only at H
    have A36 := Aside0.mk A360
    clear A360
    replace H := Option.bind_eq_some_iff.mp H
    obtain ⟨t409, A370, H⟩ := H
    try dsimp only at H
    have A37 := Aside0.mk A370
    clear A370
    replace H := Option.bind_eq_some_iff.mp H
    obtain ⟨t412, A380, H⟩ := H
    try dsimp only at H
    have A38 := Aside0.mk A380
    clear A380
    by_cases c39 : t412 = 0
    ·rw [if_pos c39] at H
     have c39b0 : (t412 == 0) = true := beq_iff_eq.mpr c39
     have c39b1 : (t412 != 0) = false := bne_eq_false_iff_eq.mpr c39
     clear c39
     replace H := Option.bind_eq_some_iff.mp H
     obtain ⟨⟨t413, t414⟩, A400, H⟩ := H
     try dsimp only at H
     have A40 := Aside0.mk A400
     clear A400
     by_cases c41 : (Int.tmod t413 2) = 0
     ·rw [if_pos c41] at H
      have c41b0 : ((Int.tmod t413 2) == 0) = true := beq_iff_eq.mpr c41
      have c41b1 : ((Int.tmod t413 2) != 0) = false := bne_eq_false_iff_eq.mpr c41
      clear c41
      replace H := Option.bind_eq_some_iff.mp H
      obtain ⟨⟨t415, t416⟩, A420, H⟩ := H
      try dsimp only at H
      have A42 := Aside0.mk A420
      clear A420
      simp only [Option.some.injEq, Prod.mk.injEq] at H
      obtain ⟨rfl, rfl⟩ := H
      go_wp2_with (first | ((with_reducible refine gate_callee (f := 108) rfl ?_); refine gL 35 Tryz.func108 #[.int .i64 x5_1] ?_; (with_reducible refine (manorboyref02_half.calls k1 x5_1 t406 _ A36.out).mono ?_); rintro e w43 ⟨v407, rfl, ho0, hb⟩; refine ⟨_, rfl, ?_⟩; have HO408 := Aside0.mk (Kd.R_lower (Kd.R_new' (Kd.R_new' (Kd.R_new' ho0 (Kd.R_lt (rz HO_4))) (Kd.R_lt (rz HO_393001))) (Kd.R_lt (rz HO_393002))) (below_size bz)); replace HO_4 := Aside0.mk (Kd.R_elder' (rz HO_4) (Kd.R_base ho0) hb); replace HO_393001 := Aside0.mk (Kd.R_elder' (rz HO_393001) (Kd.R_base ho0) hb); replace HO_393002 := Aside0.mk (Kd.R_elder' (rz HO_393002) (Kd.R_base ho0) hb); replace BK383 := kb BK383 hb; replace BK384 := kb BK384 hb; replace BK392 := kb BK392 hb; replace HB := bs hb; (try clear hb); (try clear hk); (try clear ho0); obtain ⟨Ao44, co44, eo44⟩ := Kd.R_slice HO408.out; subst eo44) | ((with_reducible refine gate_callee (f := 86) rfl ?_); refine gL 38 Tryz.func86 #[.slice Ao44 t406.length co44, .slice Ao44 t406.length co44] ?_; (with_reducible refine (manorboyref02_Nat_Mul.calls k1 _ _ t406 _ _ t406 t409 _ ?side1 ?side2 ?side3 ?side4 A37.out).mono ?_); (case side1 => exact ccz (Kd.R_reads' HO408.out).2.2); (case side2 => exact (Kd.R_reads' HO408.out).2.1); (case side3 => exact ccz (Kd.R_reads' HO408.out).2.2); (case side4 => exact (Kd.R_reads' HO408.out).2.1); rintro e w45 ⟨v410, rfl, ho0, hb⟩; refine ⟨_, rfl, ?_⟩; have HO411 := Aside0.mk (Kd.R_lower (Kd.R_new' (Kd.R_new' (Kd.R_new' (Kd.R_new' ho0 (Kd.R_lt (rz HO_4))) (Kd.R_lt (rz HO_393001))) (Kd.R_lt (rz HO_393002))) (Kd.R_lt (rz HO408))) (below_size bz)); replace HO_4 := Aside0.mk (Kd.R_elder' (rz HO_4) (Kd.R_base ho0) hb); replace HO_393001 := Aside0.mk (Kd.R_elder' (rz HO_393001) (Kd.R_base ho0) hb); replace HO_393002 := Aside0.mk (Kd.R_elder' (rz HO_393002) (Kd.R_base ho0) hb); replace HO408 := Aside0.mk (Kd.R_elder' (rz HO408) (Kd.R_base ho0) hb); replace BK383 := kb BK383 hb; replace BK384 := kb BK384 hb; replace BK392 := kb BK392 hb; replace HB := bs hb; (try clear hb); (try clear hk); (try clear ho0); obtain ⟨Ao46, co46, eo46⟩ := Kd.R_slice HO411.out; subst eo46; obtain ⟨Ao47, co47, eo47⟩ := Kd.R_slice HO_4.out; subst eo47) | ((with_reducible refine gate_callee (f := 104) rfl ?_); refine gL 40 Tryz.func104 #[.slice Ao46 t409.length co46, .slice Ao47 t396.length co47] ?_; (with_reducible refine (manorboyref02_Nat_Cmp.calls k1 _ _ t409 _ _ t396 t412 _ ?side1 ?side2 ?side3 ?side4 A38.out).mono ?_); (case side1 => exact ccz (Kd.R_reads' HO411.out).2.2); (case side2 => exact (Kd.R_reads' HO411.out).2.1); (case side3 => exact ccz (Kd.R_reads' HO_4.out).2.2); (case side4 => exact (Kd.R_reads' HO_4.out).2.1); rintro e w' ⟨rfl, ⟨nd, rfl⟩⟩; refine ⟨_, rfl, ?_⟩; (try (rw [drewN_self w45]; generalize hq_ : World.drewN w45 _ = w45; replace HO408 : Aside0 (Kd.R (Kd.int .i64) 3 w45 w.heap.size (fun k_ => some k_ ≠ (.slice Ao46 t409.length co46 : Value).ownBlock ∧ some k_ ≠ (.slice Ao14 t386.length co14 : Value).ownBlock ∧ some k_ ≠ (.slice Ao15 t389.length co15 : Value).ownBlock ∧ some k_ ≠ (.slice Ao47 t396.length co47 : Value).ownBlock) (.slice Ao44 t406.length co44) t406) := ⟨by rw [← hq_]; exact (by (with_reducible repeat (first | apply Kd.R_alloc | apply Kd.R_drewN | apply Kd.R_drew)); exact Kd.R_mono HO408.out (fun _ hk => ⟨hk.2, ⟨hk.1.1.2, ⟨hk.1.2, hk.1.1.1.2⟩⟩⟩))⟩; replace HO411 : Aside0 (Kd.R (Kd.int .i64) 3 w45 w.heap.size (fun k_ => some k_ ≠ (.slice Ao44 t406.length co44 : Value).ownBlock ∧ some k_ ≠ (.slice Ao14 t386.length co14 : Value).ownBlock ∧ some k_ ≠ (.slice Ao15 t389.length co15 : Value).ownBlock ∧ some k_ ≠ (.slice Ao47 t396.length co47 : Value).ownBlock) (.slice Ao46 t409.length co46) t409) := ⟨by rw [← hq_]; exact (by (with_reducible repeat (first | apply Kd.R_alloc | apply Kd.R_drewN | apply Kd.R_drew)); exact Kd.R_mono HO411.out (fun _ hk => ⟨hk.2, ⟨hk.1.1.2, ⟨hk.1.2, hk.1.1.1.2⟩⟩⟩))⟩; replace HO_393001 : Aside0 (Kd.R (Kd.int .i64) 3 w45 w.heap.size (fun k_ => some k_ ≠ (.slice Ao44 t406.length co44 : Value).ownBlock ∧ some k_ ≠ (.slice Ao46 t409.length co46 : Value).ownBlock ∧ some k_ ≠ (.slice Ao15 t389.length co15 : Value).ownBlock ∧ some k_ ≠ (.slice Ao47 t396.length co47 : Value).ownBlock) (.slice Ao14 t386.length co14) t386) := ⟨by rw [← hq_]; exact (by (with_reducible repeat (first | apply Kd.R_alloc | apply Kd.R_drewN | apply Kd.R_drew)); exact Kd.R_mono HO_393001.out (fun _ hk => ⟨hk.1.2, ⟨hk.2, ⟨hk.1.1.2, hk.1.1.1⟩⟩⟩))⟩; replace HO_393002 : Aside0 (Kd.R (Kd.int .i64) 3 w45 w.heap.size (fun k_ => some k_ ≠ (.slice Ao44 t406.length co44 : Value).ownBlock ∧ some k_ ≠ (.slice Ao46 t409.length co46 : Value).ownBlock ∧ some k_ ≠ (.slice Ao14 t386.length co14 : Value).ownBlock ∧ some k_ ≠ (.slice Ao47 t396.length co47 : Value).ownBlock) (.slice Ao15 t389.length co15) t389) := ⟨by rw [← hq_]; exact (by (with_reducible repeat (first | apply Kd.R_alloc | apply Kd.R_drewN | apply Kd.R_drew)); exact Kd.R_mono HO_393002.out (fun _ hk => ⟨hk.1.2, ⟨hk.2, ⟨hk.1.1.2, hk.1.1.1⟩⟩⟩))⟩; replace HO_4 : Aside0 (Kd.R (Kd.int .i64) 3 w45 w.heap.size (fun k_ => some k_ ≠ (.slice Ao44 t406.length co44 : Value).ownBlock ∧ some k_ ≠ (.slice Ao46 t409.length co46 : Value).ownBlock ∧ some k_ ≠ (.slice Ao14 t386.length co14 : Value).ownBlock ∧ some k_ ≠ (.slice Ao15 t389.length co15 : Value).ownBlock) (.slice Ao47 t396.length co47) t396) := ⟨by rw [← hq_]; exact (by (with_reducible repeat (first | apply Kd.R_alloc | apply Kd.R_drewN | apply Kd.R_drew)); exact Kd.R_mono HO_4.out (fun _ hk => ⟨hk.1.2, ⟨hk.2, ⟨hk.1.1.1, hk.1.1.2⟩⟩⟩))⟩; replace BK383 : Aside0 (w45.heap[gb383]? = some (.cells #[.int .i64 a0_0, .int .i64 a0_1] 23 (0, 0))) := ⟨by rw [← hq_]; exact (kz BK383)⟩; replace BK384 : Aside0 (w45.heap[gb384]? = some (.cells #[.int .i64 0, .int .i64 0] 23 (0, 0))) := ⟨by rw [← hq_]; exact (kz BK384)⟩; replace BK392 : Aside0 (w45.heap[gb392]? = some (.cells #[.bool t385, .slice Ao14 t386.length co14, .slice Ao15 t389.length co15] 102 (0, 0))) := ⟨by rw [← hq_]; exact (kz BK392)⟩; replace HB : Aside0 (Below w.heap.size w w45) := ⟨by rw [← hq_]; exact bz⟩; clear hq_; have hczq383_0 := c20 BK383; have hfzq383_0 := blk_frozen BK383.out 0; have hczq383_1 := c21 BK383; have hfzq383_1 := blk_frozen BK383.out 1; have hczq384_0 := c20 BK384; have hfzq384_0 := blk_frozen BK384.out 0; have hczq384_1 := c21 BK384; have hfzq384_1 := blk_frozen BK384.out 1; have hczq392_0 : w45.cell? ⟨gb392, 0, none⟩ = some (.bool t385) := (blk_cell BK392.out 0).trans rfl; have hfzq392_0 := blk_frozen BK392.out 0; have hczq392_1 : w45.cell? ⟨gb392, 1, none⟩ = some (.slice Ao14 t386.length co14) := (blk_cell BK392.out 1).trans rfl; have hfzq392_1 := blk_frozen BK392.out 1; have hczq392_2 : w45.cell? ⟨gb392, 2, none⟩ = some (.slice Ao15 t389.length co15) := (blk_cell BK392.out 2).trans rfl; have hfzq392_2 := blk_frozen BK392.out 2))) | (go_at_call 56; (with_reducible refine (manorboyref02_At.calls k1 x5_1 t413 t414 _ A40.out).mono ?_); rintro e w48 ⟨rfl, hb⟩; replace HO_4 := rb HO_4 hb; replace HO_393001 := rb HO_393001 hb; replace HO_393002 := rb HO_393002 hb; replace HO408 := rb HO408 hb; replace HO411 := rb HO411 hb; replace BK383 := kb BK383 hb; replace BK384 := kb BK384 hb; replace BK392 := kb BK392 hb; replace HB := bs hb; (try clear hb); (try clear hk)) | ((with_reducible refine gate_callee (f := 56) rfl ?_); refine gL 52 Tryz.func56 #[.int .i64 x5_1] ?_; (with_reducible refine (manorboyref02_At.calls k1 x5_1 t415 t416 _ A42.out).mono ?_); rintro e w49 ⟨rfl, hb⟩; refine ⟨_, rfl, ?_⟩; replace HO_4 := rb HO_4 hb; replace HO_393001 := rb HO_393001 hb; replace HO_393002 := rb HO_393002 hb; replace HO408 := rb HO408 hb; replace HO411 := rb HO411 hb; replace BK383 := kb BK383 hb; replace BK384 := kb BK384 hb; replace BK392 := kb BK392 hb; replace HB := bs hb; (try clear hb); (try clear hk); have hnb50 := NB384_383.out; have hnc50 := NB383_384.out; have hnb51 := NB384_392.out; have hnc51 := NB392_384.out; have hcz52_0 := c20 BK384; have hcz52_1 := c21 BK384; have hfz52_0 := blk_frozen BK384.out 0; have hfz52_1 := blk_frozen BK384.out 1))
      refine bodyPost_ret (results_cell_row rfl _ _ gb384 23 #[.int .i64 t415, .int .i64 t416] (0, 0) _ rfl (by (with_reducible repeat (first | refine blk_drewN ?_ _ | refine blk_drew ?_ | refine blk_alloc ?_ _)); refine blk_put (cs := #[.int .i64 t415, .int .i64 0]) ?_ 1 _ rfl; (with_reducible repeat (first | refine blk_drewN ?_ _ | refine blk_drew ?_ | refine blk_alloc ?_ _)); refine blk_put (cs := #[.int .i64 0, .int .i64 0]) ?_ 0 _ rfl; (with_reducible repeat (first | refine blk_drewN ?_ _ | refine blk_drew ?_ | refine blk_alloc ?_ _)); exact BK384.out) Tryz.underlying23 rfl (by kernel_rfl)) rfl ?_
      exact ⟨by first | rfl | (simp [errW_none, errW_some] <;> rfl) | (simp [*, errW_none, errW_some] <;> rfl), bz⟩
     ·rw [if_neg c41] at H
      have c41b0 : ((Int.tmod t413 2) == 0) = false := beq_eq_false_iff_ne.mpr c41
      have c41b1 : ((Int.tmod t413 2) != 0) = true := bne_iff_ne.mpr c41
      replace H := Option.bind_eq_some_iff.mp H
      obtain ⟨⟨t417, t418⟩, A530, H⟩ := H
      try dsimp only at H
      have A53 := Aside0.mk A530
      clear A530
      simp only [Option.some.injEq, Prod.mk.injEq] at H
      obtain ⟨rfl, rfl⟩ := H
      go_wp2_with (first | ((with_reducible refine gate_callee (f := 108) rfl ?_); refine gL 35 Tryz.func108 #[.int .i64 x5_1] ?_; (with_reducible refine (manorboyref02_half.calls k1 x5_1 t406 _ A36.out).mono ?_); rintro e w54 ⟨v407, rfl, ho0, hb⟩; refine ⟨_, rfl, ?_⟩; have HO408 := Aside0.mk (Kd.R_lower (Kd.R_new' (Kd.R_new' (Kd.R_new' ho0 (Kd.R_lt (rz HO_4))) (Kd.R_lt (rz HO_393001))) (Kd.R_lt (rz HO_393002))) (below_size bz)); replace HO_4 := Aside0.mk (Kd.R_elder' (rz HO_4) (Kd.R_base ho0) hb); replace HO_393001 := Aside0.mk (Kd.R_elder' (rz HO_393001) (Kd.R_base ho0) hb); replace HO_393002 := Aside0.mk (Kd.R_elder' (rz HO_393002) (Kd.R_base ho0) hb); replace BK383 := kb BK383 hb; replace BK384 := kb BK384 hb; replace BK392 := kb BK392 hb; replace HB := bs hb; (try clear hb); (try clear hk); (try clear ho0); obtain ⟨Ao55, co55, eo55⟩ := Kd.R_slice HO408.out; subst eo55) | ((with_reducible refine gate_callee (f := 86) rfl ?_); refine gL 38 Tryz.func86 #[.slice Ao55 t406.length co55, .slice Ao55 t406.length co55] ?_; (with_reducible refine (manorboyref02_Nat_Mul.calls k1 _ _ t406 _ _ t406 t409 _ ?side1 ?side2 ?side3 ?side4 A37.out).mono ?_); (case side1 => exact ccz (Kd.R_reads' HO408.out).2.2); (case side2 => exact (Kd.R_reads' HO408.out).2.1); (case side3 => exact ccz (Kd.R_reads' HO408.out).2.2); (case side4 => exact (Kd.R_reads' HO408.out).2.1); rintro e w56 ⟨v410, rfl, ho0, hb⟩; refine ⟨_, rfl, ?_⟩; have HO411 := Aside0.mk (Kd.R_lower (Kd.R_new' (Kd.R_new' (Kd.R_new' (Kd.R_new' ho0 (Kd.R_lt (rz HO_4))) (Kd.R_lt (rz HO_393001))) (Kd.R_lt (rz HO_393002))) (Kd.R_lt (rz HO408))) (below_size bz)); replace HO_4 := Aside0.mk (Kd.R_elder' (rz HO_4) (Kd.R_base ho0) hb); replace HO_393001 := Aside0.mk (Kd.R_elder' (rz HO_393001) (Kd.R_base ho0) hb); replace HO_393002 := Aside0.mk (Kd.R_elder' (rz HO_393002) (Kd.R_base ho0) hb); replace HO408 := Aside0.mk (Kd.R_elder' (rz HO408) (Kd.R_base ho0) hb); replace BK383 := kb BK383 hb; replace BK384 := kb BK384 hb; replace BK392 := kb BK392 hb; replace HB := bs hb; (try clear hb); (try clear hk); (try clear ho0); obtain ⟨Ao57, co57, eo57⟩ := Kd.R_slice HO411.out; subst eo57; obtain ⟨Ao58, co58, eo58⟩ := Kd.R_slice HO_4.out; subst eo58) | ((with_reducible refine gate_callee (f := 104) rfl ?_); refine gL 40 Tryz.func104 #[.slice Ao57 t409.length co57, .slice Ao58 t396.length co58] ?_; (with_reducible refine (manorboyref02_Nat_Cmp.calls k1 _ _ t409 _ _ t396 t412 _ ?side1 ?side2 ?side3 ?side4 A38.out).mono ?_); (case side1 => exact ccz (Kd.R_reads' HO411.out).2.2); (case side2 => exact (Kd.R_reads' HO411.out).2.1); (case side3 => exact ccz (Kd.R_reads' HO_4.out).2.2); (case side4 => exact (Kd.R_reads' HO_4.out).2.1); rintro e w' ⟨rfl, ⟨nd, rfl⟩⟩; refine ⟨_, rfl, ?_⟩; (try (rw [drewN_self w56]; generalize hq_ : World.drewN w56 _ = w56; replace HO408 : Aside0 (Kd.R (Kd.int .i64) 3 w56 w.heap.size (fun k_ => some k_ ≠ (.slice Ao57 t409.length co57 : Value).ownBlock ∧ some k_ ≠ (.slice Ao14 t386.length co14 : Value).ownBlock ∧ some k_ ≠ (.slice Ao15 t389.length co15 : Value).ownBlock ∧ some k_ ≠ (.slice Ao58 t396.length co58 : Value).ownBlock) (.slice Ao55 t406.length co55) t406) := ⟨by rw [← hq_]; exact (by (with_reducible repeat (first | apply Kd.R_alloc | apply Kd.R_drewN | apply Kd.R_drew)); exact Kd.R_mono HO408.out (fun _ hk => ⟨hk.2, ⟨hk.1.1.2, ⟨hk.1.2, hk.1.1.1.2⟩⟩⟩))⟩; replace HO411 : Aside0 (Kd.R (Kd.int .i64) 3 w56 w.heap.size (fun k_ => some k_ ≠ (.slice Ao55 t406.length co55 : Value).ownBlock ∧ some k_ ≠ (.slice Ao14 t386.length co14 : Value).ownBlock ∧ some k_ ≠ (.slice Ao15 t389.length co15 : Value).ownBlock ∧ some k_ ≠ (.slice Ao58 t396.length co58 : Value).ownBlock) (.slice Ao57 t409.length co57) t409) := ⟨by rw [← hq_]; exact (by (with_reducible repeat (first | apply Kd.R_alloc | apply Kd.R_drewN | apply Kd.R_drew)); exact Kd.R_mono HO411.out (fun _ hk => ⟨hk.2, ⟨hk.1.1.2, ⟨hk.1.2, hk.1.1.1.2⟩⟩⟩))⟩; replace HO_393001 : Aside0 (Kd.R (Kd.int .i64) 3 w56 w.heap.size (fun k_ => some k_ ≠ (.slice Ao55 t406.length co55 : Value).ownBlock ∧ some k_ ≠ (.slice Ao57 t409.length co57 : Value).ownBlock ∧ some k_ ≠ (.slice Ao15 t389.length co15 : Value).ownBlock ∧ some k_ ≠ (.slice Ao58 t396.length co58 : Value).ownBlock) (.slice Ao14 t386.length co14) t386) := ⟨by rw [← hq_]; exact (by (with_reducible repeat (first | apply Kd.R_alloc | apply Kd.R_drewN | apply Kd.R_drew)); exact Kd.R_mono HO_393001.out (fun _ hk => ⟨hk.1.2, ⟨hk.2, ⟨hk.1.1.2, hk.1.1.1⟩⟩⟩))⟩; replace HO_393002 : Aside0 (Kd.R (Kd.int .i64) 3 w56 w.heap.size (fun k_ => some k_ ≠ (.slice Ao55 t406.length co55 : Value).ownBlock ∧ some k_ ≠ (.slice Ao57 t409.length co57 : Value).ownBlock ∧ some k_ ≠ (.slice Ao14 t386.length co14 : Value).ownBlock ∧ some k_ ≠ (.slice Ao58 t396.length co58 : Value).ownBlock) (.slice Ao15 t389.length co15) t389) := ⟨by rw [← hq_]; exact (by (with_reducible repeat (first | apply Kd.R_alloc | apply Kd.R_drewN | apply Kd.R_drew)); exact Kd.R_mono HO_393002.out (fun _ hk => ⟨hk.1.2, ⟨hk.2, ⟨hk.1.1.2, hk.1.1.1⟩⟩⟩))⟩; replace HO_4 : Aside0 (Kd.R (Kd.int .i64) 3 w56 w.heap.size (fun k_ => some k_ ≠ (.slice Ao55 t406.length co55 : Value).ownBlock ∧ some k_ ≠ (.slice Ao57 t409.length co57 : Value).ownBlock ∧ some k_ ≠ (.slice Ao14 t386.length co14 : Value).ownBlock ∧ some k_ ≠ (.slice Ao15 t389.length co15 : Value).ownBlock) (.slice Ao58 t396.length co58) t396) := ⟨by rw [← hq_]; exact (by (with_reducible repeat (first | apply Kd.R_alloc | apply Kd.R_drewN | apply Kd.R_drew)); exact Kd.R_mono HO_4.out (fun _ hk => ⟨hk.1.2, ⟨hk.2, ⟨hk.1.1.1, hk.1.1.2⟩⟩⟩))⟩; replace BK383 : Aside0 (w56.heap[gb383]? = some (.cells #[.int .i64 a0_0, .int .i64 a0_1] 23 (0, 0))) := ⟨by rw [← hq_]; exact (kz BK383)⟩; replace BK384 : Aside0 (w56.heap[gb384]? = some (.cells #[.int .i64 0, .int .i64 0] 23 (0, 0))) := ⟨by rw [← hq_]; exact (kz BK384)⟩; replace BK392 : Aside0 (w56.heap[gb392]? = some (.cells #[.bool t385, .slice Ao14 t386.length co14, .slice Ao15 t389.length co15] 102 (0, 0))) := ⟨by rw [← hq_]; exact (kz BK392)⟩; replace HB : Aside0 (Below w.heap.size w w56) := ⟨by rw [← hq_]; exact bz⟩; clear hq_; have hczq383_0 := c20 BK383; have hfzq383_0 := blk_frozen BK383.out 0; have hczq383_1 := c21 BK383; have hfzq383_1 := blk_frozen BK383.out 1; have hczq384_0 := c20 BK384; have hfzq384_0 := blk_frozen BK384.out 0; have hczq384_1 := c21 BK384; have hfzq384_1 := blk_frozen BK384.out 1; have hczq392_0 : w56.cell? ⟨gb392, 0, none⟩ = some (.bool t385) := (blk_cell BK392.out 0).trans rfl; have hfzq392_0 := blk_frozen BK392.out 0; have hczq392_1 : w56.cell? ⟨gb392, 1, none⟩ = some (.slice Ao14 t386.length co14) := (blk_cell BK392.out 1).trans rfl; have hfzq392_1 := blk_frozen BK392.out 1; have hczq392_2 : w56.cell? ⟨gb392, 2, none⟩ = some (.slice Ao15 t389.length co15) := (blk_cell BK392.out 2).trans rfl; have hfzq392_2 := blk_frozen BK392.out 2))) | (go_at_call 56; (with_reducible refine (manorboyref02_At.calls k1 x5_1 t413 t414 _ A40.out).mono ?_); rintro e w59 ⟨rfl, hb⟩; replace HO_4 := rb HO_4 hb; replace HO_393001 := rb HO_393001 hb; replace HO_393002 := rb HO_393002 hb; replace HO408 := rb HO408 hb; replace HO411 := rb HO411 hb; replace BK383 := kb BK383 hb; replace BK384 := kb BK384 hb; replace BK392 := kb BK392 hb; replace HB := bs hb; (try clear hb); (try clear hk)) | ((with_reducible refine gate_callee (f := 56) rfl ?_); refine gL 52 Tryz.func56 #[.int .i64 (wrap64 (x5_1 + 1))] ?_; (with_reducible refine (manorboyref02_At.calls k1 (wrap64 (x5_1 + 1)) t417 t418 _ A53.out).mono ?_); rintro e w60 ⟨rfl, hb⟩; refine ⟨_, rfl, ?_⟩; replace HO_4 := rb HO_4 hb; replace HO_393001 := rb HO_393001 hb; replace HO_393002 := rb HO_393002 hb; replace HO408 := rb HO408 hb; replace HO411 := rb HO411 hb; replace BK383 := kb BK383 hb; replace BK384 := kb BK384 hb; replace BK392 := kb BK392 hb; replace HB := bs hb; (try clear hb); (try clear hk); have hnb61 := NB384_383.out; have hnc61 := NB383_384.out; have hnb62 := NB384_392.out; have hnc62 := NB392_384.out; have hcz63_0 := c20 BK384; have hcz63_1 := c21 BK384; have hfz63_0 := blk_frozen BK384.out 0; have hfz63_1 := blk_frozen BK384.out 1))
      refine bodyPost_ret (results_cell_row rfl _ _ gb384 23 #[.int .i64 t417, .int .i64 t418] (0, 0) _ rfl (by (with_reducible repeat (first | refine blk_drewN ?_ _ | refine blk_drew ?_ | refine blk_alloc ?_ _)); refine blk_put (cs := #[.int .i64 t417, .int .i64 0]) ?_ 1 _ rfl; (with_reducible repeat (first | refine blk_drewN ?_ _ | refine blk_drew ?_ | refine blk_alloc ?_ _)); refine blk_put (cs := #[.int .i64 0, .int .i64 0]) ?_ 0 _ rfl; (with_reducible repeat (first | refine blk_drewN ?_ _ | refine blk_drew ?_ | refine blk_alloc ?_ _)); exact BK384.out) Tryz.underlying23 rfl (by kernel_rfl)) rfl ?_
      exact ⟨by first | rfl | (simp [errW_none, errW_some] <;> rfl) | (simp [*, errW_none, errW_some] <;> rfl), bz⟩
    ·rw [if_neg c39] at H
     have c39b0 : (t412 == 0) = false := beq_eq_false_iff_ne.mpr c39
     have c39b1 : (t412 != 0) = true := bne_iff_ne.mpr c39
     replace H := Option.bind_eq_some_iff.mp H
     obtain ⟨⟨t419, t420⟩, A640, H⟩ := H
     try dsimp only at H
     have A64 := Aside0.mk A640
     clear A640
     simp only [Option.some.injEq, Prod.mk.injEq] at H
     obtain ⟨rfl, rfl⟩ := H
     go_wp2_with (first | ((with_reducible refine gate_callee (f := 108) rfl ?_); refine gL 35 Tryz.func108 #[.int .i64 x5_1] ?_; (with_reducible refine (manorboyref02_half.calls k1 x5_1 t406 _ A36.out).mono ?_); rintro e w65 ⟨v407, rfl, ho0, hb⟩; refine ⟨_, rfl, ?_⟩; have HO408 := Aside0.mk (Kd.R_lower (Kd.R_new' (Kd.R_new' (Kd.R_new' ho0 (Kd.R_lt (rz HO_4))) (Kd.R_lt (rz HO_393001))) (Kd.R_lt (rz HO_393002))) (below_size bz)); replace HO_4 := Aside0.mk (Kd.R_elder' (rz HO_4) (Kd.R_base ho0) hb); replace HO_393001 := Aside0.mk (Kd.R_elder' (rz HO_393001) (Kd.R_base ho0) hb); replace HO_393002 := Aside0.mk (Kd.R_elder' (rz HO_393002) (Kd.R_base ho0) hb); replace BK383 := kb BK383 hb; replace BK384 := kb BK384 hb; replace BK392 := kb BK392 hb; replace HB := bs hb; (try clear hb); (try clear hk); (try clear ho0); obtain ⟨Ao66, co66, eo66⟩ := Kd.R_slice HO408.out; subst eo66) | ((with_reducible refine gate_callee (f := 86) rfl ?_); refine gL 38 Tryz.func86 #[.slice Ao66 t406.length co66, .slice Ao66 t406.length co66] ?_; (with_reducible refine (manorboyref02_Nat_Mul.calls k1 _ _ t406 _ _ t406 t409 _ ?side1 ?side2 ?side3 ?side4 A37.out).mono ?_); (case side1 => exact ccz (Kd.R_reads' HO408.out).2.2); (case side2 => exact (Kd.R_reads' HO408.out).2.1); (case side3 => exact ccz (Kd.R_reads' HO408.out).2.2); (case side4 => exact (Kd.R_reads' HO408.out).2.1); rintro e w67 ⟨v410, rfl, ho0, hb⟩; refine ⟨_, rfl, ?_⟩; have HO411 := Aside0.mk (Kd.R_lower (Kd.R_new' (Kd.R_new' (Kd.R_new' (Kd.R_new' ho0 (Kd.R_lt (rz HO_4))) (Kd.R_lt (rz HO_393001))) (Kd.R_lt (rz HO_393002))) (Kd.R_lt (rz HO408))) (below_size bz)); replace HO_4 := Aside0.mk (Kd.R_elder' (rz HO_4) (Kd.R_base ho0) hb); replace HO_393001 := Aside0.mk (Kd.R_elder' (rz HO_393001) (Kd.R_base ho0) hb); replace HO_393002 := Aside0.mk (Kd.R_elder' (rz HO_393002) (Kd.R_base ho0) hb); replace HO408 := Aside0.mk (Kd.R_elder' (rz HO408) (Kd.R_base ho0) hb); replace BK383 := kb BK383 hb; replace BK384 := kb BK384 hb; replace BK392 := kb BK392 hb; replace HB := bs hb; (try clear hb); (try clear hk); (try clear ho0); obtain ⟨Ao68, co68, eo68⟩ := Kd.R_slice HO411.out; subst eo68; obtain ⟨Ao69, co69, eo69⟩ := Kd.R_slice HO_4.out; subst eo69) | ((with_reducible refine gate_callee (f := 104) rfl ?_); refine gL 40 Tryz.func104 #[.slice Ao68 t409.length co68, .slice Ao69 t396.length co69] ?_; (with_reducible refine (manorboyref02_Nat_Cmp.calls k1 _ _ t409 _ _ t396 t412 _ ?side1 ?side2 ?side3 ?side4 A38.out).mono ?_); (case side1 => exact ccz (Kd.R_reads' HO411.out).2.2); (case side2 => exact (Kd.R_reads' HO411.out).2.1); (case side3 => exact ccz (Kd.R_reads' HO_4.out).2.2); (case side4 => exact (Kd.R_reads' HO_4.out).2.1); rintro e w' ⟨rfl, ⟨nd, rfl⟩⟩; refine ⟨_, rfl, ?_⟩; (try (rw [drewN_self w67]; generalize hq_ : World.drewN w67 _ = w67; replace HO408 : Aside0 (Kd.R (Kd.int .i64) 3 w67 w.heap.size (fun k_ => some k_ ≠ (.slice Ao68 t409.length co68 : Value).ownBlock ∧ some k_ ≠ (.slice Ao14 t386.length co14 : Value).ownBlock ∧ some k_ ≠ (.slice Ao15 t389.length co15 : Value).ownBlock ∧ some k_ ≠ (.slice Ao69 t396.length co69 : Value).ownBlock) (.slice Ao66 t406.length co66) t406) := ⟨by rw [← hq_]; exact (by (with_reducible repeat (first | apply Kd.R_alloc | apply Kd.R_drewN | apply Kd.R_drew)); exact Kd.R_mono HO408.out (fun _ hk => ⟨hk.2, ⟨hk.1.1.2, ⟨hk.1.2, hk.1.1.1.2⟩⟩⟩))⟩; replace HO411 : Aside0 (Kd.R (Kd.int .i64) 3 w67 w.heap.size (fun k_ => some k_ ≠ (.slice Ao66 t406.length co66 : Value).ownBlock ∧ some k_ ≠ (.slice Ao14 t386.length co14 : Value).ownBlock ∧ some k_ ≠ (.slice Ao15 t389.length co15 : Value).ownBlock ∧ some k_ ≠ (.slice Ao69 t396.length co69 : Value).ownBlock) (.slice Ao68 t409.length co68) t409) := ⟨by rw [← hq_]; exact (by (with_reducible repeat (first | apply Kd.R_alloc | apply Kd.R_drewN | apply Kd.R_drew)); exact Kd.R_mono HO411.out (fun _ hk => ⟨hk.2, ⟨hk.1.1.2, ⟨hk.1.2, hk.1.1.1.2⟩⟩⟩))⟩; replace HO_393001 : Aside0 (Kd.R (Kd.int .i64) 3 w67 w.heap.size (fun k_ => some k_ ≠ (.slice Ao66 t406.length co66 : Value).ownBlock ∧ some k_ ≠ (.slice Ao68 t409.length co68 : Value).ownBlock ∧ some k_ ≠ (.slice Ao15 t389.length co15 : Value).ownBlock ∧ some k_ ≠ (.slice Ao69 t396.length co69 : Value).ownBlock) (.slice Ao14 t386.length co14) t386) := ⟨by rw [← hq_]; exact (by (with_reducible repeat (first | apply Kd.R_alloc | apply Kd.R_drewN | apply Kd.R_drew)); exact Kd.R_mono HO_393001.out (fun _ hk => ⟨hk.1.2, ⟨hk.2, ⟨hk.1.1.2, hk.1.1.1⟩⟩⟩))⟩; replace HO_393002 : Aside0 (Kd.R (Kd.int .i64) 3 w67 w.heap.size (fun k_ => some k_ ≠ (.slice Ao66 t406.length co66 : Value).ownBlock ∧ some k_ ≠ (.slice Ao68 t409.length co68 : Value).ownBlock ∧ some k_ ≠ (.slice Ao14 t386.length co14 : Value).ownBlock ∧ some k_ ≠ (.slice Ao69 t396.length co69 : Value).ownBlock) (.slice Ao15 t389.length co15) t389) := ⟨by rw [← hq_]; exact (by (with_reducible repeat (first | apply Kd.R_alloc | apply Kd.R_drewN | apply Kd.R_drew)); exact Kd.R_mono HO_393002.out (fun _ hk => ⟨hk.1.2, ⟨hk.2, ⟨hk.1.1.2, hk.1.1.1⟩⟩⟩))⟩; replace HO_4 : Aside0 (Kd.R (Kd.int .i64) 3 w67 w.heap.size (fun k_ => some k_ ≠ (.slice Ao66 t406.length co66 : Value).ownBlock ∧ some k_ ≠ (.slice Ao68 t409.length co68 : Value).ownBlock ∧ some k_ ≠ (.slice Ao14 t386.length co14 : Value).ownBlock ∧ some k_ ≠ (.slice Ao15 t389.length co15 : Value).ownBlock) (.slice Ao69 t396.length co69) t396) := ⟨by rw [← hq_]; exact (by (with_reducible repeat (first | apply Kd.R_alloc | apply Kd.R_drewN | apply Kd.R_drew)); exact Kd.R_mono HO_4.out (fun _ hk => ⟨hk.1.2, ⟨hk.2, ⟨hk.1.1.1, hk.1.1.2⟩⟩⟩))⟩; replace BK383 : Aside0 (w67.heap[gb383]? = some (.cells #[.int .i64 a0_0, .int .i64 a0_1] 23 (0, 0))) := ⟨by rw [← hq_]; exact (kz BK383)⟩; replace BK384 : Aside0 (w67.heap[gb384]? = some (.cells #[.int .i64 0, .int .i64 0] 23 (0, 0))) := ⟨by rw [← hq_]; exact (kz BK384)⟩; replace BK392 : Aside0 (w67.heap[gb392]? = some (.cells #[.bool t385, .slice Ao14 t386.length co14, .slice Ao15 t389.length co15] 102 (0, 0))) := ⟨by rw [← hq_]; exact (kz BK392)⟩; replace HB : Aside0 (Below w.heap.size w w67) := ⟨by rw [← hq_]; exact bz⟩; clear hq_; have hczq383_0 := c20 BK383; have hfzq383_0 := blk_frozen BK383.out 0; have hczq383_1 := c21 BK383; have hfzq383_1 := blk_frozen BK383.out 1; have hczq384_0 := c20 BK384; have hfzq384_0 := blk_frozen BK384.out 0; have hczq384_1 := c21 BK384; have hfzq384_1 := blk_frozen BK384.out 1; have hczq392_0 : w67.cell? ⟨gb392, 0, none⟩ = some (.bool t385) := (blk_cell BK392.out 0).trans rfl; have hfzq392_0 := blk_frozen BK392.out 0; have hczq392_1 : w67.cell? ⟨gb392, 1, none⟩ = some (.slice Ao14 t386.length co14) := (blk_cell BK392.out 1).trans rfl; have hfzq392_1 := blk_frozen BK392.out 1; have hczq392_2 : w67.cell? ⟨gb392, 2, none⟩ = some (.slice Ao15 t389.length co15) := (blk_cell BK392.out 2).trans rfl; have hfzq392_2 := blk_frozen BK392.out 2))) | ((with_reducible refine gate_callee (f := 56) rfl ?_); refine gL 52 Tryz.func56 #[.int .i64 x5_1] ?_; (with_reducible refine (manorboyref02_At.calls k1 x5_1 t419 t420 _ A64.out).mono ?_); rintro e w70 ⟨rfl, hb⟩; refine ⟨_, rfl, ?_⟩; replace HO_4 := rb HO_4 hb; replace HO_393001 := rb HO_393001 hb; replace HO_393002 := rb HO_393002 hb; replace HO408 := rb HO408 hb; replace HO411 := rb HO411 hb; replace BK383 := kb BK383 hb; replace BK384 := kb BK384 hb; replace BK392 := kb BK392 hb; replace HB := bs hb; (try clear hb); (try clear hk); have hnb71 := NB384_383.out; have hnc71 := NB383_384.out; have hnb72 := NB384_392.out; have hnc72 := NB392_384.out; have hcz73_0 := c20 BK384; have hcz73_1 := c21 BK384; have hfz73_0 := blk_frozen BK384.out 0; have hfz73_1 := blk_frozen BK384.out 1))
     refine bodyPost_ret (results_cell_row rfl _ _ gb384 23 #[.int .i64 t419, .int .i64 t420] (0, 0) _ rfl (by (with_reducible repeat (first | refine blk_drewN ?_ _ | refine blk_drew ?_ | refine blk_alloc ?_ _)); refine blk_put (cs := #[.int .i64 t419, .int .i64 0]) ?_ 1 _ rfl; (with_reducible repeat (first | refine blk_drewN ?_ _ | refine blk_drew ?_ | refine blk_alloc ?_ _)); refine blk_put (cs := #[.int .i64 0, .int .i64 0]) ?_ 0 _ rfl; (with_reducible repeat (first | refine blk_drewN ?_ _ | refine blk_drew ?_ | refine blk_alloc ?_ _)); exact BK384.out) Tryz.underlying23 rfl (by kernel_rfl)) rfl ?_
     exact ⟨by first | rfl | (simp [errW_none, errW_some] <;> rfl) | (simp [*, errW_none, errW_some] <;> rfl), bz⟩

end Go.Proofs.YteigbokklclmbaaGreatDoor.Z.Y.V
end
section
namespace Go.Proofs.YteigbokklclmbaaGreatDoor.Z.Y.V
open Go.RowKit Go.Proofs.YteigbokklclmbaaGreatDoor.Given Go.Proofs.YteigbokklclmbaaGreatDoorW.PrintWords Go.Proofs.YteigbokklclmbaaGreatDoorW.PrintLast Go.Proofs.YteigbokklclmbaaGreatDoorW.PrintMore
attribute [local go_sem] max2_int min2_int max_two min_two max_three min_three max_four min_four

def manorboyref02_Mul.f (k : Nat) (a0_0 : Int) (a0_1 : Int) (a1_0 : Int) (a1_1 : Int) : Option (Int × Int × Bool) := (manorboyref02_Of.f k a0_0 a0_1).bind fun bt424 => ((manorboyref02_Of.f k a1_0 a1_1).bind fun bt432 => ((manorboyref02_Nat_Mul.f k bt424.2.1 bt432.2.1).bind fun t440 => ((manorboyref02_Nat_Mul.f k bt424.2.2 bt432.2.2).bind fun t443 => ((manorboyref02_Quotient_Round.f k (bt424.1 != bt432.1) t440 t443).bind fun bt446 => (some (bt446.1, bt446.2.1, bt446.2.2))))))
def manorboyref02_Mul.T3 : Bool × List (List Nat × List Nat) := (true, [([], []), ([0], [0]), ([], []), ([2], [2]), ([1, 3], [1, 3]), ([], []), ([5], [5]), ([], []), ([7], [7]), ([6, 8], [6, 8]), ([], []), ([10], [10]), ([], []), ([12], [12]), ([11, 13, 9], [11, 13]), ([4, 9, 14], [4, 9, 14]), ([15, 14], [15]), ([16, 16, 0, 1, 2, 3, 4, 5, 6, 7, 8, 9, 10, 11, 12, 13, 14, 15, 16], [16])])
def manorboyref02_Mul.B3 : List Nat := [0, 1, 0, 4, 15, 0, 32, 0, 128, 480, 0, 1024, 0, 4096, 16352, 32767, 65535, 131071]
theorem manorboyref02_Mul.tab3 : rtab .any (opsOf Tryz.f45 3) = manorboyref02_Mul.T3 := by kernel_rfl
theorem manorboyref02_Mul.bits3 : waitsOk manorboyref02_Mul.T3.2 manorboyref02_Mul.B3 = true := by kernel_rfl
theorem manorboyref02_Mul.calls (k : Nat) (a0_0 : Int) (a0_1 : Int) (a1_0 : Int) (a1_1 : Int) (r1 : Int) (r2 : Int) (r3 : Bool) (w : World) (h : manorboyref02_Mul.f k a0_0 a0_1 a1_0 a1_1 = some (r1, r2, r3)) :
  Calls Tryz.prog 45 #[.agg #[.int .i64 a0_0, .int .i64 a0_1], .agg #[.int .i64 a1_0, .int .i64 a1_1]] w fun e w' => e = .returned (.agg #[.int .i64 r1, .int .i64 r2, .bool r3]) ∧ Below w.heap.size w w' := by
 have hu23 := Tryz.underlying23
 have hu50 := Tryz.underlying50
 have hu102 := Tryz.underlying102
 have HB := Aside0.mk (Below.refl w.heap.size w)
 have H := h; unfold manorboyref02_Mul.f at H; clear h
 replace H := Option.bind_eq_some_iff.mp H
 obtain ⟨⟨t424, t425, t428⟩, A30, H⟩ := H
 try dsimp only at H
 have A3 := Aside0.mk A30
 clear A30
 replace H := Option.bind_eq_some_iff.mp H
 obtain ⟨⟨t432, t433, t436⟩, A40, H⟩ := H
 try dsimp only at H
 have A4 := Aside0.mk A40
 clear A40
 replace H := Option.bind_eq_some_iff.mp H
 obtain ⟨t440, A50, H⟩ := H
 try dsimp only at H
 have A5 := Aside0.mk A50
 clear A50
 replace H := Option.bind_eq_some_iff.mp H
 obtain ⟨t443, A60, H⟩ := H
 try dsimp only at H
 have A6 := Aside0.mk A60
 clear A60
 replace H := Option.bind_eq_some_iff.mp H
 obtain ⟨⟨t446, t447, t448⟩, A70, H⟩ := H
 try dsimp only at H
 have A7 := Aside0.mk A70
 clear A70
 simp only [Option.some.injEq, Prod.mk.injEq] at H
 obtain ⟨rfl, rfl, rfl⟩ := H
 go_enter Tryz.func45, Tryz.ntmps45
 try go_wp2_with (first | ((with_reducible refine gate_dst (N := 2) rfl ?_); refine bxe 2 #[.int .i64 a0_0, .int .i64 a0_1] 23 ?_; intro gb421 hg w8 hbox hb; have BK421 := Aside0.mk hbox; have GW421 := ge hg; have GE421 := ge hg; replace HB := bs hb; clear hb hbox hg) | ((with_reducible refine gate_dst (N := 3) rfl ?_); refine bxe 3 #[.int .i64 a1_0, .int .i64 a1_1] 23 ?_; intro gb422 hg w9 hbox hb; have BK422 := Aside0.mk hbox; have GW422 := ge hg; have GE422 := ge hg; have NB421_422 := nl BK421 hg; have NB422_421 := nr BK421 hg; replace BK421 := kb BK421 hb; replace HB := bs hb; clear hb hbox hg) | ((with_reducible refine gate_dst (N := 4) rfl ?_); refine bxe 4 #[.int .i64 0, .int .i64 0, .bool false] 50 ?_; intro gb423 hg w10 hbox hb; have BK423 := Aside0.mk hbox; have GW423 := ge hg; have GE423 := ge hg; have NB421_423 := nl BK421 hg; have NB423_421 := nr BK421 hg; have NB422_423 := nl BK422 hg; have NB423_422 := nr BK422 hg; replace BK421 := kb BK421 hb; replace BK422 := kb BK422 hb; replace HB := bs hb; clear hb hbox hg; have hnb11 := NB421_422.out; have hnc11 := NB422_421.out; have hnb12 := NB421_423.out; have hnc12 := NB423_421.out; have hcz13_0 := c20 BK421; have hcz13_1 := c21 BK421; have hfz13_0 := blk_frozen BK421.out 0; have hfz13_1 := blk_frozen BK421.out 1) | ((with_reducible refine gate_callee (f := 102) rfl ?_); refine gL 8 Tryz.func102 #[.agg #[.int .i64 a0_0, .int .i64 a0_1]] ?_; (with_reducible refine (manorboyref02_Of.calls k a0_0 a0_1 t424 t425 t428 _ A3.out).mono ?_); rintro e w14 ⟨v426, v429, rfl, ho0, ho1, hb⟩; refine ⟨_, rfl, ?_⟩; have HO427 := Aside0.mk (Kd.R_lower ho0 (below_size bz)); have HO430 := Aside0.mk (Kd.R_lower ho1 (below_size bz)); replace BK421 := kb BK421 hb; replace BK422 := kb BK422 hb; replace BK423 := kb BK423 hb; replace HB := bs hb; (try clear hb); (try clear hk); (try clear ho0); (try clear ho1)) | ((with_reducible refine gate_dst (N := 5) rfl ?_); refine bxe 5 #[.bool false, .slice none 0 0, .slice none 0 0] 102 ?_; intro gb431 hg w15 hbox hb; have BK431 := Aside0.mk hbox; have GW431 := ge hg; have GE431 := ge hg; have NB421_431 := nl BK421 hg; have NB431_421 := nr BK421 hg; have NB422_431 := nl BK422 hg; have NB431_422 := nr BK422 hg; have NB423_431 := nl BK423 hg; have NB431_423 := nr BK423 hg; replace HO427 := rb HO427 hb; replace HO430 := rb HO430 hb; replace BK421 := kb BK421 hb; replace BK422 := kb BK422 hb; replace BK423 := kb BK423 hb; replace HB := bs hb; clear hb hbox hg; have hnb16 := NB431_421.out; have hnc16 := NB421_431.out; have hnb17 := NB431_422.out; have hnc17 := NB422_431.out; have hnb18 := NB431_423.out; have hnc18 := NB423_431.out; have hcz19_0 : w15.cell? ⟨gb431, 0, none⟩ = some (.bool false) := (blk_cell BK431.out 0).trans rfl; have hcz19_1 : w15.cell? ⟨gb431, 1, none⟩ = some (.slice none 0 0) := (blk_cell BK431.out 1).trans rfl; have hcz19_2 : w15.cell? ⟨gb431, 2, none⟩ = some (.slice none 0 0) := (blk_cell BK431.out 2).trans rfl; have hfz19_0 := blk_frozen BK431.out 0; have hfz19_1 := blk_frozen BK431.out 1; have hfz19_2 := blk_frozen BK431.out 2; obtain ⟨Ao20, co20, eo20⟩ := Kd.R_slice HO427.out; subst eo20; obtain ⟨Ao21, co21, eo21⟩ := Kd.R_slice HO430.out; subst eo21; have hnb22 := NB422_423.out; have hnc22 := NB423_422.out; have hcz23_0 := c20 BK422; have hcz23_1 := c21 BK422; have hfz23_0 := blk_frozen BK422.out 0; have hfz23_1 := blk_frozen BK422.out 1) | ((with_reducible refine gate_callee (f := 102) rfl ?_); refine gL 10 Tryz.func102 #[.agg #[.int .i64 a1_0, .int .i64 a1_1]] ?_; (with_reducible refine (manorboyref02_Of.calls k a1_0 a1_1 t432 t433 t436 _ A4.out).mono ?_); rintro e w24 ⟨v434, v437, rfl, ho0, ho1, hb⟩; refine ⟨_, rfl, ?_⟩; have HO435 := Aside0.mk (Kd.R_lower (Kd.R_new' (Kd.R_new' ho0 (Kd.R_lt (by (with_reducible repeat (first | apply Kd.R_alloc | apply Kd.R_drewN | apply Kd.R_drew)); exact (Kd.R_mono (Kd.R_far (p := ⟨gb431, 2, none⟩) (Kd.R_far (p := ⟨gb431, 1, none⟩) (Kd.R_far (p := ⟨gb431, 0, none⟩) (Kd.R_types HO427.out BK431.out (by decide)) (fun _ hk => hk.2) (.bool t424)) (fun _ hk => hk.2) (.slice Ao20 t425.length co20)) (fun _ hk => hk.2) (.slice Ao21 t428.length co21)) (fun _ h_ => h_.1))))) (Kd.R_lt (by (with_reducible repeat (first | apply Kd.R_alloc | apply Kd.R_drewN | apply Kd.R_drew)); exact (Kd.R_mono (Kd.R_far (p := ⟨gb431, 2, none⟩) (Kd.R_far (p := ⟨gb431, 1, none⟩) (Kd.R_far (p := ⟨gb431, 0, none⟩) (Kd.R_types HO430.out BK431.out (by decide)) (fun _ hk => hk.2) (.bool t424)) (fun _ hk => hk.2) (.slice Ao20 t425.length co20)) (fun _ hk => hk.2) (.slice Ao21 t428.length co21)) (fun _ h_ => h_.1))))) (below_size bz)); have HO438 := Aside0.mk (Kd.R_lower (Kd.R_new' (Kd.R_new' ho1 (Kd.R_lt (by (with_reducible repeat (first | apply Kd.R_alloc | apply Kd.R_drewN | apply Kd.R_drew)); exact (Kd.R_mono (Kd.R_far (p := ⟨gb431, 2, none⟩) (Kd.R_far (p := ⟨gb431, 1, none⟩) (Kd.R_far (p := ⟨gb431, 0, none⟩) (Kd.R_types HO427.out BK431.out (by decide)) (fun _ hk => hk.2) (.bool t424)) (fun _ hk => hk.2) (.slice Ao20 t425.length co20)) (fun _ hk => hk.2) (.slice Ao21 t428.length co21)) (fun _ h_ => h_.1))))) (Kd.R_lt (by (with_reducible repeat (first | apply Kd.R_alloc | apply Kd.R_drewN | apply Kd.R_drew)); exact (Kd.R_mono (Kd.R_far (p := ⟨gb431, 2, none⟩) (Kd.R_far (p := ⟨gb431, 1, none⟩) (Kd.R_far (p := ⟨gb431, 0, none⟩) (Kd.R_types HO430.out BK431.out (by decide)) (fun _ hk => hk.2) (.bool t424)) (fun _ hk => hk.2) (.slice Ao20 t425.length co20)) (fun _ hk => hk.2) (.slice Ao21 t428.length co21)) (fun _ h_ => h_.1))))) (below_size bz)); replace HO427 := Aside0.mk (Kd.R_mono (Kd.R_told (Kd.R_told (Kd.R_old (by (with_reducible repeat (first | apply Kd.R_alloc | apply Kd.R_drewN | apply Kd.R_drew)); exact (Kd.R_mono (Kd.R_far (p := ⟨gb431, 2, none⟩) (Kd.R_far (p := ⟨gb431, 1, none⟩) (Kd.R_far (p := ⟨gb431, 0, none⟩) (Kd.R_types HO427.out BK431.out (by decide)) (fun _ hk => hk.2) (.bool t424)) (fun _ hk => hk.2) (.slice Ao20 t425.length co20)) (fun _ hk => hk.2) (.slice Ao21 t428.length co21)) (fun _ h_ => h_.1))) hb) (Kd.R_base ho0)) (Kd.R_base ho1)) (fun _ h_ => h_.1)); replace HO430 := Aside0.mk (Kd.R_mono (Kd.R_told (Kd.R_told (Kd.R_old (by (with_reducible repeat (first | apply Kd.R_alloc | apply Kd.R_drewN | apply Kd.R_drew)); exact (Kd.R_mono (Kd.R_far (p := ⟨gb431, 2, none⟩) (Kd.R_far (p := ⟨gb431, 1, none⟩) (Kd.R_far (p := ⟨gb431, 0, none⟩) (Kd.R_types HO430.out BK431.out (by decide)) (fun _ hk => hk.2) (.bool t424)) (fun _ hk => hk.2) (.slice Ao20 t425.length co20)) (fun _ hk => hk.2) (.slice Ao21 t428.length co21)) (fun _ h_ => h_.1))) hb) (Kd.R_base ho0)) (Kd.R_base ho1)) (fun _ h_ => h_.1)); replace BK421 := Aside0.mk (blk_below (g := gb421) (o := .cells #[.int .i64 a0_0, .int .i64 a0_1] 23 (0, 0)) (by (with_reducible repeat (first | refine blk_drewN ?_ _ | refine blk_drew ?_ | refine blk_alloc ?_ _)); refine blk_far ?_ NB421_431.out _; (with_reducible repeat (first | refine blk_drewN ?_ _ | refine blk_drew ?_ | refine blk_alloc ?_ _)); refine blk_far ?_ NB421_431.out _; (with_reducible repeat (first | refine blk_drewN ?_ _ | refine blk_drew ?_ | refine blk_alloc ?_ _)); refine blk_far ?_ NB421_431.out _; (with_reducible repeat (first | refine blk_drewN ?_ _ | refine blk_drew ?_ | refine blk_alloc ?_ _)); exact BK421.out) hb); replace BK422 := Aside0.mk (blk_below (g := gb422) (o := .cells #[.int .i64 a1_0, .int .i64 a1_1] 23 (0, 0)) (by (with_reducible repeat (first | refine blk_drewN ?_ _ | refine blk_drew ?_ | refine blk_alloc ?_ _)); refine blk_far ?_ NB422_431.out _; (with_reducible repeat (first | refine blk_drewN ?_ _ | refine blk_drew ?_ | refine blk_alloc ?_ _)); refine blk_far ?_ NB422_431.out _; (with_reducible repeat (first | refine blk_drewN ?_ _ | refine blk_drew ?_ | refine blk_alloc ?_ _)); refine blk_far ?_ NB422_431.out _; (with_reducible repeat (first | refine blk_drewN ?_ _ | refine blk_drew ?_ | refine blk_alloc ?_ _)); exact BK422.out) hb); replace BK423 := Aside0.mk (blk_below (g := gb423) (o := .cells #[.int .i64 0, .int .i64 0, .bool false] 50 (0, 0)) (by (with_reducible repeat (first | refine blk_drewN ?_ _ | refine blk_drew ?_ | refine blk_alloc ?_ _)); refine blk_far ?_ NB423_431.out _; (with_reducible repeat (first | refine blk_drewN ?_ _ | refine blk_drew ?_ | refine blk_alloc ?_ _)); refine blk_far ?_ NB423_431.out _; (with_reducible repeat (first | refine blk_drewN ?_ _ | refine blk_drew ?_ | refine blk_alloc ?_ _)); refine blk_far ?_ NB423_431.out _; (with_reducible repeat (first | refine blk_drewN ?_ _ | refine blk_drew ?_ | refine blk_alloc ?_ _)); exact BK423.out) hb); replace BK431 := Aside0.mk (blk_below (g := gb431) (o := .cells #[.bool t424, .slice Ao20 t425.length co20, .slice Ao21 t428.length co21] 102 (0, 0)) (by (with_reducible repeat (first | refine blk_drewN ?_ _ | refine blk_drew ?_ | refine blk_alloc ?_ _)); refine blk_put (cs := #[.bool t424, .slice Ao20 t425.length co20, .slice none 0 0]) ?_ 2 _ rfl; (with_reducible repeat (first | refine blk_drewN ?_ _ | refine blk_drew ?_ | refine blk_alloc ?_ _)); refine blk_put (cs := #[.bool t424, .slice none 0 0, .slice none 0 0]) ?_ 1 _ rfl; (with_reducible repeat (first | refine blk_drewN ?_ _ | refine blk_drew ?_ | refine blk_alloc ?_ _)); refine blk_put (cs := #[.bool false, .slice none 0 0, .slice none 0 0]) ?_ 0 _ rfl; (with_reducible repeat (first | refine blk_drewN ?_ _ | refine blk_drew ?_ | refine blk_alloc ?_ _)); exact BK431.out) hb); replace HB := bs hb; (try clear hb); (try clear hk); (try clear ho0); (try clear ho1)) | ((with_reducible refine gate_dst (N := 6) rfl ?_); refine bxe 6 #[.bool false, .slice none 0 0, .slice none 0 0] 102 ?_; intro gb439 hg w25 hbox hb; have BK439 := Aside0.mk hbox; have GW439 := ge hg; have GE439 := ge hg; have NB421_439 := nl BK421 hg; have NB439_421 := nr BK421 hg; have NB422_439 := nl BK422 hg; have NB439_422 := nr BK422 hg; have NB423_439 := nl BK423 hg; have NB439_423 := nr BK423 hg; have NB431_439 := nl BK431 hg; have NB439_431 := nr BK431 hg; replace HO427 := rb HO427 hb; replace HO430 := rb HO430 hb; replace HO435 := rb HO435 hb; replace HO438 := rb HO438 hb; replace BK421 := kb BK421 hb; replace BK422 := kb BK422 hb; replace BK423 := kb BK423 hb; replace BK431 := kb BK431 hb; replace HB := bs hb; clear hb hbox hg; have hnb26 := NB439_421.out; have hnc26 := NB421_439.out; have hnb27 := NB439_422.out; have hnc27 := NB422_439.out; have hnb28 := NB439_423.out; have hnc28 := NB423_439.out; have hnb29 := NB439_431.out; have hnc29 := NB431_439.out; have hcz30_0 : w25.cell? ⟨gb439, 0, none⟩ = some (.bool false) := (blk_cell BK439.out 0).trans rfl; have hcz30_1 : w25.cell? ⟨gb439, 1, none⟩ = some (.slice none 0 0) := (blk_cell BK439.out 1).trans rfl; have hcz30_2 : w25.cell? ⟨gb439, 2, none⟩ = some (.slice none 0 0) := (blk_cell BK439.out 2).trans rfl; have hfz30_0 := blk_frozen BK439.out 0; have hfz30_1 := blk_frozen BK439.out 1; have hfz30_2 := blk_frozen BK439.out 2; obtain ⟨Ao31, co31, eo31⟩ := Kd.R_slice HO435.out; subst eo31; obtain ⟨Ao32, co32, eo32⟩ := Kd.R_slice HO438.out; subst eo32))
 have n0_ : Aside0 (Kd.R (Kd.int .i64) 3 (((w25.setCell ⟨gb439, 0, none⟩ (.bool t432)).setCell ⟨gb439, 1, none⟩ (.slice Ao31 t433.length co31)).setCell ⟨gb439, 2, none⟩ (.slice Ao32 t436.length co32)) w.heap.size (fun k_ => some k_ ≠ (.slice Ao21 t428.length co21 : Value).ownBlock ∧ some k_ ≠ (.slice Ao31 t433.length co31 : Value).ownBlock ∧ some k_ ≠ (.slice Ao32 t436.length co32 : Value).ownBlock) (.slice Ao20 t425.length co20) t425) := ⟨by (with_reducible repeat (first | apply Kd.R_alloc | apply Kd.R_drewN | apply Kd.R_drew)); exact Kd.R_mono (Kd.R_far (p := ⟨gb439, 2, none⟩) (Kd.R_far (p := ⟨gb439, 1, none⟩) (Kd.R_far (p := ⟨gb439, 0, none⟩) (Kd.R_types HO427.out BK439.out (by decide)) (fun _ hk => hk.2) (.bool t432)) (fun _ hk => hk.2) (.slice Ao31 t433.length co31)) (fun _ hk => hk.2) (.slice Ao32 t436.length co32)) (fun _ hk => ⟨hk.1.1.1, ⟨hk.1.1.2, hk.1.2⟩⟩)⟩
 have n1_ : Aside0 (Kd.R (Kd.int .i64) 3 (((w25.setCell ⟨gb439, 0, none⟩ (.bool t432)).setCell ⟨gb439, 1, none⟩ (.slice Ao31 t433.length co31)).setCell ⟨gb439, 2, none⟩ (.slice Ao32 t436.length co32)) w.heap.size (fun k_ => some k_ ≠ (.slice Ao20 t425.length co20 : Value).ownBlock ∧ some k_ ≠ (.slice Ao31 t433.length co31 : Value).ownBlock ∧ some k_ ≠ (.slice Ao32 t436.length co32 : Value).ownBlock) (.slice Ao21 t428.length co21) t428) := ⟨by (with_reducible repeat (first | apply Kd.R_alloc | apply Kd.R_drewN | apply Kd.R_drew)); exact Kd.R_mono (Kd.R_far (p := ⟨gb439, 2, none⟩) (Kd.R_far (p := ⟨gb439, 1, none⟩) (Kd.R_far (p := ⟨gb439, 0, none⟩) (Kd.R_types HO430.out BK439.out (by decide)) (fun _ hk => hk.2) (.bool t432)) (fun _ hk => hk.2) (.slice Ao31 t433.length co31)) (fun _ hk => hk.2) (.slice Ao32 t436.length co32)) (fun _ hk => ⟨hk.1.1.1, ⟨hk.1.1.2, hk.1.2⟩⟩)⟩
 have n2_ : Aside0 (Kd.R (Kd.int .i64) 3 (((w25.setCell ⟨gb439, 0, none⟩ (.bool t432)).setCell ⟨gb439, 1, none⟩ (.slice Ao31 t433.length co31)).setCell ⟨gb439, 2, none⟩ (.slice Ao32 t436.length co32)) w.heap.size (fun k_ => some k_ ≠ (.slice Ao20 t425.length co20 : Value).ownBlock ∧ some k_ ≠ (.slice Ao21 t428.length co21 : Value).ownBlock ∧ some k_ ≠ (.slice Ao32 t436.length co32 : Value).ownBlock) (.slice Ao31 t433.length co31) t433) := ⟨by (with_reducible repeat (first | apply Kd.R_alloc | apply Kd.R_drewN | apply Kd.R_drew)); exact Kd.R_mono (Kd.R_far (p := ⟨gb439, 2, none⟩) (Kd.R_far (p := ⟨gb439, 1, none⟩) (Kd.R_far (p := ⟨gb439, 0, none⟩) (Kd.R_types HO435.out BK439.out (by decide)) (fun _ hk => hk.2) (.bool t432)) (fun _ hk => hk.2) (.slice Ao31 t433.length co31)) (fun _ hk => hk.2) (.slice Ao32 t436.length co32)) (fun _ hk => ⟨hk.1.1.2, ⟨hk.1.2, hk.1.1.1⟩⟩)⟩
 have n3_ : Aside0 (Kd.R (Kd.int .i64) 3 (((w25.setCell ⟨gb439, 0, none⟩ (.bool t432)).setCell ⟨gb439, 1, none⟩ (.slice Ao31 t433.length co31)).setCell ⟨gb439, 2, none⟩ (.slice Ao32 t436.length co32)) w.heap.size (fun k_ => some k_ ≠ (.slice Ao20 t425.length co20 : Value).ownBlock ∧ some k_ ≠ (.slice Ao21 t428.length co21 : Value).ownBlock ∧ some k_ ≠ (.slice Ao31 t433.length co31 : Value).ownBlock) (.slice Ao32 t436.length co32) t436) := ⟨by (with_reducible repeat (first | apply Kd.R_alloc | apply Kd.R_drewN | apply Kd.R_drew)); exact Kd.R_mono (Kd.R_far (p := ⟨gb439, 2, none⟩) (Kd.R_far (p := ⟨gb439, 1, none⟩) (Kd.R_far (p := ⟨gb439, 0, none⟩) (Kd.R_types HO438.out BK439.out (by decide)) (fun _ hk => hk.2) (.bool t432)) (fun _ hk => hk.2) (.slice Ao31 t433.length co31)) (fun _ hk => hk.2) (.slice Ao32 t436.length co32)) (fun _ hk => ⟨hk.1.1.2, ⟨hk.1.2, hk.1.1.1⟩⟩)⟩
 have n4_ : Aside0 ((((w25.setCell ⟨gb439, 0, none⟩ (.bool t432)).setCell ⟨gb439, 1, none⟩ (.slice Ao31 t433.length co31)).setCell ⟨gb439, 2, none⟩ (.slice Ao32 t436.length co32)).heap[gb421]? = some (.cells #[.int .i64 a0_0, .int .i64 a0_1] 23 (0, 0))) := ⟨by (with_reducible repeat (first | refine blk_drewN ?_ _ | refine blk_drew ?_ | refine blk_alloc ?_ _)); refine blk_far ?_ NB421_439.out _; (with_reducible repeat (first | refine blk_drewN ?_ _ | refine blk_drew ?_ | refine blk_alloc ?_ _)); refine blk_far ?_ NB421_439.out _; (with_reducible repeat (first | refine blk_drewN ?_ _ | refine blk_drew ?_ | refine blk_alloc ?_ _)); refine blk_far ?_ NB421_439.out _; (with_reducible repeat (first | refine blk_drewN ?_ _ | refine blk_drew ?_ | refine blk_alloc ?_ _)); exact BK421.out⟩
 have n5_ : Aside0 ((((w25.setCell ⟨gb439, 0, none⟩ (.bool t432)).setCell ⟨gb439, 1, none⟩ (.slice Ao31 t433.length co31)).setCell ⟨gb439, 2, none⟩ (.slice Ao32 t436.length co32)).heap[gb422]? = some (.cells #[.int .i64 a1_0, .int .i64 a1_1] 23 (0, 0))) := ⟨by (with_reducible repeat (first | refine blk_drewN ?_ _ | refine blk_drew ?_ | refine blk_alloc ?_ _)); refine blk_far ?_ NB422_439.out _; (with_reducible repeat (first | refine blk_drewN ?_ _ | refine blk_drew ?_ | refine blk_alloc ?_ _)); refine blk_far ?_ NB422_439.out _; (with_reducible repeat (first | refine blk_drewN ?_ _ | refine blk_drew ?_ | refine blk_alloc ?_ _)); refine blk_far ?_ NB422_439.out _; (with_reducible repeat (first | refine blk_drewN ?_ _ | refine blk_drew ?_ | refine blk_alloc ?_ _)); exact BK422.out⟩
 have n6_ : Aside0 ((((w25.setCell ⟨gb439, 0, none⟩ (.bool t432)).setCell ⟨gb439, 1, none⟩ (.slice Ao31 t433.length co31)).setCell ⟨gb439, 2, none⟩ (.slice Ao32 t436.length co32)).heap[gb423]? = some (.cells #[.int .i64 0, .int .i64 0, .bool false] 50 (0, 0))) := ⟨by (with_reducible repeat (first | refine blk_drewN ?_ _ | refine blk_drew ?_ | refine blk_alloc ?_ _)); refine blk_far ?_ NB423_439.out _; (with_reducible repeat (first | refine blk_drewN ?_ _ | refine blk_drew ?_ | refine blk_alloc ?_ _)); refine blk_far ?_ NB423_439.out _; (with_reducible repeat (first | refine blk_drewN ?_ _ | refine blk_drew ?_ | refine blk_alloc ?_ _)); refine blk_far ?_ NB423_439.out _; (with_reducible repeat (first | refine blk_drewN ?_ _ | refine blk_drew ?_ | refine blk_alloc ?_ _)); exact BK423.out⟩
 have n7_ : Aside0 ((((w25.setCell ⟨gb439, 0, none⟩ (.bool t432)).setCell ⟨gb439, 1, none⟩ (.slice Ao31 t433.length co31)).setCell ⟨gb439, 2, none⟩ (.slice Ao32 t436.length co32)).heap[gb431]? = some (.cells #[.bool t424, .slice Ao20 t425.length co20, .slice Ao21 t428.length co21] 102 (0, 0))) := ⟨by (with_reducible repeat (first | refine blk_drewN ?_ _ | refine blk_drew ?_ | refine blk_alloc ?_ _)); refine blk_far ?_ NB431_439.out _; (with_reducible repeat (first | refine blk_drewN ?_ _ | refine blk_drew ?_ | refine blk_alloc ?_ _)); refine blk_far ?_ NB431_439.out _; (with_reducible repeat (first | refine blk_drewN ?_ _ | refine blk_drew ?_ | refine blk_alloc ?_ _)); refine blk_far ?_ NB431_439.out _; (with_reducible repeat (first | refine blk_drewN ?_ _ | refine blk_drew ?_ | refine blk_alloc ?_ _)); exact BK431.out⟩
 have n8_ : Aside0 ((((w25.setCell ⟨gb439, 0, none⟩ (.bool t432)).setCell ⟨gb439, 1, none⟩ (.slice Ao31 t433.length co31)).setCell ⟨gb439, 2, none⟩ (.slice Ao32 t436.length co32)).heap[gb439]? = some (.cells #[.bool t432, .slice Ao31 t433.length co31, .slice Ao32 t436.length co32] 102 (0, 0))) := ⟨by (with_reducible repeat (first | refine blk_drewN ?_ _ | refine blk_drew ?_ | refine blk_alloc ?_ _)); refine blk_put (cs := #[.bool t432, .slice Ao31 t433.length co31, .slice none 0 0]) ?_ 2 _ rfl; (with_reducible repeat (first | refine blk_drewN ?_ _ | refine blk_drew ?_ | refine blk_alloc ?_ _)); refine blk_put (cs := #[.bool t432, .slice none 0 0, .slice none 0 0]) ?_ 1 _ rfl; (with_reducible repeat (first | refine blk_drewN ?_ _ | refine blk_drew ?_ | refine blk_alloc ?_ _)); refine blk_put (cs := #[.bool false, .slice none 0 0, .slice none 0 0]) ?_ 0 _ rfl; (with_reducible repeat (first | refine blk_drewN ?_ _ | refine blk_drew ?_ | refine blk_alloc ?_ _)); exact BK439.out⟩
 have n9_ : Aside0 (Below w.heap.size w (((w25.setCell ⟨gb439, 0, none⟩ (.bool t432)).setCell ⟨gb439, 1, none⟩ (.slice Ao31 t433.length co31)).setCell ⟨gb439, 2, none⟩ (.slice Ao32 t436.length co32))) := ⟨bz⟩
 (try clear HO427)
 (try clear HO430)
 (try clear HO435)
 (try clear HO438)
 (try clear BK421)
 (try clear BK422)
 (try clear BK423)
 (try clear BK431)
 (try clear BK439)
 (try clear HB)
 generalize (((w25.setCell ⟨gb439, 0, none⟩ (.bool t432)).setCell ⟨gb439, 1, none⟩ (.slice Ao31 t433.length co31)).setCell ⟨gb439, 2, none⟩ (.slice Ao32 t436.length co32)) = w33 at n0_ n1_ n2_ n3_ n4_ n5_ n6_ n7_ n8_ n9_ ⊢
 have HO427 := n0_
 have HO430 := n1_
 have HO435 := n2_
 have HO438 := n3_
 have BK421 := n4_
 have BK422 := n5_
 have BK423 := n6_
 have BK431 := n7_
 have BK439 := n8_
 have HB := n9_
 clear n0_ n1_ n2_ n3_ n4_ n5_ n6_ n7_ n8_ n9_
 replace HO427 := Aside0.mk (Kd.R_drew HO427.out)
 replace HO430 := Aside0.mk (Kd.R_drew HO430.out)
 replace HO435 := Aside0.mk (Kd.R_drew HO435.out)
 replace HO438 := Aside0.mk (Kd.R_drew HO438.out)
 replace BK421 := Aside0.mk (blk_drew BK421.out)
 replace BK422 := Aside0.mk (blk_drew BK422.out)
 replace BK423 := Aside0.mk (blk_drew BK423.out)
 replace BK431 := Aside0.mk (blk_drew BK431.out)
 replace BK439 := Aside0.mk (blk_drew BK439.out)
 replace HB := Aside0.mk (below_drew1 HB.out)
 refine start_ (n := 18) (S := fun w' => w'.cell? ⟨gb431, 0, none⟩ = some (.bool t424) ∧ w'.cell? ⟨gb431, 1, none⟩ = some (.slice Ao20 t425.length co20) ∧ w'.cell? ⟨gb431, 2, none⟩ = some (.slice Ao21 t428.length co21) ∧ w'.cell? ⟨gb439, 0, none⟩ = some (.bool t432) ∧ w'.cell? ⟨gb439, 1, none⟩ = some (.slice Ao31 t433.length co31) ∧ w'.cell? ⟨gb439, 2, none⟩ = some (.slice Ao32 t436.length co32)) (ds := []) #[ff,ff,ff,ff,ff,ff,ff,ff,ff,ff,ff,ff,ff,ff,ff,ff,ff,ff] (by kernel_rfl) rfl rfl ⟨bc 0 BK431, bc 1 BK431, bc 2 BK431, bc 0 BK439, bc 1 BK439, bc 2 BK439⟩ (fun hHeld => ?_); refine with_tabW manorboyref02_Mul.tab3 manorboyref02_Mul.bits3 (fun HT_ HW_ => ?_)
 generalize w33.drew = w34 at HO427 HO430 HO435 HO438 BK421 BK422 BK423 BK431 BK439 HB hHeld ⊢
 refine pur 0 (some 11) #[tt,ff,ff,ff,ff,ff,ff,ff,ff,ff,ff,ff,ff,ff,ff,ff,ff,ff] ?_
 refine pur 2 (some 13) #[tt,ff,tt,ff,ff,ff,ff,ff,ff,ff,ff,ff,ff,ff,ff,ff,ff,ff] ?_
 refine pur 5 (some 16) #[tt,ff,tt,ff,ff,tt,ff,ff,ff,ff,ff,ff,ff,ff,ff,ff,ff,ff] ?_
 refine pur 7 (some 18) #[tt,ff,tt,ff,ff,tt,ff,tt,ff,ff,ff,ff,ff,ff,ff,ff,ff,ff] ?_
 refine pur 10 (some 21) #[tt,ff,tt,ff,ff,tt,ff,tt,ff,ff,tt,ff,ff,ff,ff,ff,ff,ff] ?_
 refine pur 12 (some 23) #[tt,ff,tt,ff,ff,tt,ff,tt,ff,ff,tt,ff,tt,ff,ff,ff,ff,ff] ?_
 refine take_ (i := 1) (N := some 12) (v := ?_) (a' := ?_) #[true, true, true, false, false, true, false, true, false, false, true, false, true, false, false, false, false, false] rfl rfl (take_ofW HT_.out HW_.out (by kernel_rfl)) (fun _ _ _ h => h) (Or.inl ⟨by rfl, ?_⟩) hHeld ?_ ?_
 rotate_left
 ·rintro w' ⟨s0, s1, s2, s3, s4, s5⟩
  go_simp
  with_reducible rfl
 rotate_left
 ·simp only [Act.put, List.setIfInBounds_toArray, List.set_cons_zero, List.set_cons_succ, i64_w, i32_w]
  rfl
 refine take_ (i := 3) (N := some 14) (v := ?_) (a' := ?_) #[true, true, true, true, false, true, false, true, false, false, true, false, true, false, false, false, false, false] rfl rfl (take_ofW HT_.out HW_.out (by kernel_rfl)) (fun _ _ _ h => h) (Or.inl ⟨by rfl, ?_⟩) hHeld ?_ ?_
 rotate_left
 ·rintro w' ⟨s0, s1, s2, s3, s4, s5⟩
  go_simp
  with_reducible rfl
 rotate_left
 ·simp only [Act.put, List.setIfInBounds_toArray, List.set_cons_zero, List.set_cons_succ, i64_w, i32_w]
  rfl
 refine pur 4 (some 15) #[tt,tt,tt,tt,tt,tt,ff,tt,ff,ff,tt,ff,tt,ff,ff,ff,ff,ff] ?_
 refine take_ (i := 6) (N := some 17) (v := ?_) (a' := ?_) #[true, true, true, true, true, true, true, true, false, false, true, false, true, false, false, false, false, false] rfl rfl (take_ofW HT_.out HW_.out (by kernel_rfl)) (fun _ _ _ h => h) (Or.inl ⟨by rfl, ?_⟩) hHeld ?_ ?_
 rotate_left
 ·rintro w' ⟨s0, s1, s2, s3, s4, s5⟩
  go_simp
  with_reducible rfl
 rotate_left
 ·simp only [Act.put, List.setIfInBounds_toArray, List.set_cons_zero, List.set_cons_succ, i64_w, i32_w]
  rfl
 refine take_ (i := 8) (N := some 19) (v := ?_) (a' := ?_) #[true, true, true, true, true, true, true, true, true, false, true, false, true, false, false, false, false, false] rfl rfl (take_ofW HT_.out HW_.out (by kernel_rfl)) (fun _ _ _ h => h) (Or.inl ⟨by rfl, ?_⟩) hHeld ?_ ?_
 rotate_left
 ·rintro w' ⟨s0, s1, s2, s3, s4, s5⟩
  go_simp
  with_reducible rfl
 rotate_left
 ·simp only [Act.put, List.setIfInBounds_toArray, List.set_cons_zero, List.set_cons_succ, i64_w, i32_w]
  rfl
 refine take_ (i := 11) (N := some 22) (v := ?_) (a' := ?_) #[true, true, true, true, true, true, true, true, true, false, true, true, true, false, false, false, false, false] rfl rfl (take_ofW HT_.out HW_.out (by kernel_rfl)) (fun _ _ _ h => h) (Or.inl ⟨by rfl, ?_⟩) hHeld ?_ ?_
 rotate_left
 ·rintro w' ⟨s0, s1, s2, s3, s4, s5⟩
  go_simp
  with_reducible rfl
 rotate_left
 ·simp only [Act.put, List.setIfInBounds_toArray, List.set_cons_zero, List.set_cons_succ, i64_w, i32_w]
  rfl
 refine take_ (i := 13) (N := some 24) (v := ?_) (a' := ?_) #[true, true, true, true, true, true, true, true, true, false, true, true, true, true, false, false, false, false] rfl rfl (take_ofW HT_.out HW_.out (by kernel_rfl)) (fun _ _ _ h => h) (Or.inl ⟨by rfl, ?_⟩) hHeld ?_ ?_
 rotate_left
 ·rintro w' ⟨s0, s1, s2, s3, s4, s5⟩
  go_simp
  with_reducible rfl
 rotate_left
 ·simp only [Act.put, List.setIfInBounds_toArray, List.set_cons_zero, List.set_cons_succ, i64_w, i32_w]
  rfl
 refine on1 9 (some 20) #[tt,tt,tt,tt,tt,tt,tt,tt,tt,tt,tt,tt,tt,tt,ff,ff,ff,ff] (fun K hK => ?_)
 refine goes_ Tryz.func86 (by kernel_rfl) rfl #[.slice Ao20 t425.length co20, .slice Ao31 t433.length co31] (by rfl) rfl rfl az ?_
 with_reducible refine (manorboyref02_Nat_Mul.calls k _ _ t425 _ _ t433 t440 _ ?side1 ?side2 ?side3 ?side4 A5.out).mono ?_
 (case side1 => exact ccz (Kd.R_reads' HO427.out).2.2)
 (case side2 => exact (Kd.R_reads' HO427.out).2.1)
 (case side3 => exact ccz (Kd.R_reads' HO435.out).2.2)
 (case side4 => exact (Kd.R_reads' HO435.out).2.1)
 rintro e w35 ⟨v441, rfl, ho0, hb⟩
 refine ⟨_, rfl, ?_⟩
 have HO442 := Aside0.mk (Kd.R_lower (Kd.R_new' (Kd.R_new' (Kd.R_new' (Kd.R_new' ho0 (Kd.R_lt (rz HO427))) (Kd.R_lt (rz HO430))) (Kd.R_lt (rz HO435))) (Kd.R_lt (rz HO438))) (below_size bz))
 replace HO427 := Aside0.mk (Kd.R_elder' (rz HO427) (Kd.R_base ho0) hb)
 replace HO430 := Aside0.mk (Kd.R_elder' (rz HO430) (Kd.R_base ho0) hb)
 replace HO435 := Aside0.mk (Kd.R_elder' (rz HO435) (Kd.R_base ho0) hb)
 replace HO438 := Aside0.mk (Kd.R_elder' (rz HO438) (Kd.R_base ho0) hb)
 replace BK421 := kb BK421 hb
 replace BK422 := kb BK422 hb
 replace BK423 := kb BK423 hb
 replace BK431 := kb BK431 hb
 replace BK439 := kb BK439 hb
 replace HB := bs hb
 (try clear hb)
 (try clear hk)
 (try clear ho0)
 refine hK.out _ _ ⟨bc 0 BK431, bc 1 BK431, bc 2 BK431, bc 0 BK439, bc 1 BK439, bc 2 BK439⟩ (fun hHeld => ?_)
 clear hK K
 refine nrm (some 20) ?_
 refine on1 14 (some 25) #[tt,tt,tt,tt,tt,tt,tt,tt,tt,tt,tt,tt,tt,tt,tt,ff,ff,ff] (fun K hK => ?_)
 refine goes_ Tryz.func86 (by kernel_rfl) rfl #[.slice Ao21 t428.length co21, .slice Ao32 t436.length co32] (by rfl) rfl rfl az ?_
 with_reducible refine (manorboyref02_Nat_Mul.calls k _ _ t428 _ _ t436 t443 _ ?side1 ?side2 ?side3 ?side4 A6.out).mono ?_
 (case side1 => exact ccz (Kd.R_reads' HO430.out).2.2)
 (case side2 => exact (Kd.R_reads' HO430.out).2.1)
 (case side3 => exact ccz (Kd.R_reads' HO438.out).2.2)
 (case side4 => exact (Kd.R_reads' HO438.out).2.1)
 rintro e w36 ⟨v444, rfl, ho0, hb⟩
 refine ⟨_, rfl, ?_⟩
 have HO445 := Aside0.mk (Kd.R_lower (Kd.R_new' (Kd.R_new' (Kd.R_new' (Kd.R_new' (Kd.R_new' ho0 (Kd.R_lt (rz HO427))) (Kd.R_lt (rz HO430))) (Kd.R_lt (rz HO435))) (Kd.R_lt (rz HO438))) (Kd.R_lt (rz HO442))) (below_size bz))
 replace HO427 := Aside0.mk (Kd.R_elder' (rz HO427) (Kd.R_base ho0) hb)
 replace HO430 := Aside0.mk (Kd.R_elder' (rz HO430) (Kd.R_base ho0) hb)
 replace HO435 := Aside0.mk (Kd.R_elder' (rz HO435) (Kd.R_base ho0) hb)
 replace HO438 := Aside0.mk (Kd.R_elder' (rz HO438) (Kd.R_base ho0) hb)
 replace HO442 := Aside0.mk (Kd.R_elder' (rz HO442) (Kd.R_base ho0) hb)
 replace BK421 := kb BK421 hb
 replace BK422 := kb BK422 hb
 replace BK423 := kb BK423 hb
 replace BK431 := kb BK431 hb
 replace BK439 := kb BK439 hb
 replace HB := bs hb
 (try clear hb)
 (try clear hk)
 (try clear ho0)
 obtain ⟨Ao37, co37, eo37⟩ := Kd.R_slice HO445.out
 (first | subst eo37 | (injection eo37 with f1_ f2_ f3_; have f4_ := f1_.symm; have f5_ := f3_.symm; clear f1_ f2_ f3_; subst f4_; subst f5_))
 obtain ⟨Ao38, co38, eo38⟩ := Kd.R_slice HO442.out
 (first | subst eo38 | (injection eo38 with f1_ f2_ f3_; have f4_ := f1_.symm; have f5_ := f3_.symm; clear f1_ f2_ f3_; subst f4_; subst f5_))
 refine hK.out _ _ ⟨bc 0 BK431, bc 1 BK431, bc 2 BK431, bc 0 BK439, bc 1 BK439, bc 2 BK439⟩ (fun hHeld => ?_)
 clear hK K
 refine nrm (some 25) ?_
 refine pur 15 (some 26) #[tt,tt,tt,tt,tt,tt,tt,tt,tt,tt,tt,tt,tt,tt,tt,tt,ff,ff] ?_
 refine on1 16 (some 27) #[tt,tt,tt,tt,tt,tt,tt,tt,tt,tt,tt,tt,tt,tt,tt,tt,tt,ff] (fun K hK => ?_)
 refine goes_ Tryz.func88 (by kernel_rfl) rfl #[.agg #[.bool (t424 != t432), .slice Ao38 t440.length co38, .slice Ao37 t443.length co37]] (by rfl) rfl rfl az ?_
 with_reducible refine (manorboyref02_Quotient_Round.calls k (t424 != t432) _ _ t440 _ _ t443 t446 t447 t448 _ ?side1 ?side2 ?side3 ?side4 A7.out).mono ?_
 (case side1 => exact ccz (Kd.R_reads' HO442.out).2.2)
 (case side2 => exact (Kd.R_reads' HO442.out).2.1)
 (case side3 => exact ccz (Kd.R_reads' HO445.out).2.2)
 (case side4 => exact (Kd.R_reads' HO445.out).2.1)
 rintro e w39 ⟨rfl, hb⟩
 refine ⟨_, rfl, ?_⟩
 replace HO427 := rb HO427 hb
 replace HO430 := rb HO430 hb
 replace HO435 := rb HO435 hb
 replace HO438 := rb HO438 hb
 replace HO442 := rb HO442 hb
 replace HO445 := rb HO445 hb
 replace BK421 := kb BK421 hb
 replace BK422 := kb BK422 hb
 replace BK423 := kb BK423 hb
 replace BK431 := kb BK431 hb
 replace BK439 := kb BK439 hb
 replace HB := bs hb
 (try clear hb)
 (try clear hk)
 refine hK.out _ _ ⟨bc 0 BK431, bc 1 BK431, bc 2 BK431, bc 0 BK439, bc 1 BK439, bc 2 BK439⟩ (fun hHeld => ?_)
 clear hK K
 refine nrm (some 27) ?_
 refine on1 17 (none) #[tt,tt,tt,tt,tt,tt,tt,tt,tt,tt,tt,tt,tt,tt,tt,tt,tt,tt] (fun K hK => ?_)
 have hs40 : w39.cell? ⟨gb423, 0, none⟩ = some (.int .i64 0) := (blk_cell BK423.out 0).trans rfl
 have hfs40 := blk_frozen BK423.out 0
 have hns40_0 := NB421_423.out
 have hns40_1 := NB422_423.out
 have hns40_3 := NB431_423.out
 have hns40_4 := NB439_423.out
 have hms40_0 := NB423_421.out
 have hms40_1 := NB423_422.out
 have hms40_3 := NB423_431.out
 have hms40_4 := NB423_439.out
 have hs41 : w39.cell? ⟨gb423, 1, none⟩ = some (.int .i64 0) := (blk_cell BK423.out 1).trans rfl
 have hfs41 := blk_frozen BK423.out 1
 have hns41_0 := NB421_423.out
 have hns41_1 := NB422_423.out
 have hns41_3 := NB431_423.out
 have hns41_4 := NB439_423.out
 have hms41_0 := NB423_421.out
 have hms41_1 := NB423_422.out
 have hms41_3 := NB423_431.out
 have hms41_4 := NB423_439.out
 have hs42 : w39.cell? ⟨gb423, 2, none⟩ = some (.bool false) := (blk_cell BK423.out 2).trans rfl
 have hfs42 := blk_frozen BK423.out 2
 have hns42_0 := NB421_423.out
 have hns42_1 := NB422_423.out
 have hns42_3 := NB431_423.out
 have hns42_4 := NB439_423.out
 have hms42_0 := NB423_421.out
 have hms42_1 := NB423_422.out
 have hms42_3 := NB423_431.out
 have hms42_4 := NB423_439.out
 refine skip_ (w1 := ?_) (by rfl) rfl ?_ ?_
 rotate_left
 ·go_simp
  rfl
 refine hK.out _ _ ⟨((cell_far (p := ⟨gb423, _, none⟩) NB431_423.out _).trans (((cell_far (p := ⟨gb423, _, none⟩) NB431_423.out _).trans (((cell_far (p := ⟨gb423, _, none⟩) NB431_423.out _).trans (hHeld.1)))))), ((cell_far (p := ⟨gb423, _, none⟩) NB431_423.out _).trans (((cell_far (p := ⟨gb423, _, none⟩) NB431_423.out _).trans (((cell_far (p := ⟨gb423, _, none⟩) NB431_423.out _).trans (hHeld.2.1)))))), ((cell_far (p := ⟨gb423, _, none⟩) NB431_423.out _).trans (((cell_far (p := ⟨gb423, _, none⟩) NB431_423.out _).trans (((cell_far (p := ⟨gb423, _, none⟩) NB431_423.out _).trans (hHeld.2.2.1)))))), ((cell_far (p := ⟨gb423, _, none⟩) NB439_423.out _).trans (((cell_far (p := ⟨gb423, _, none⟩) NB439_423.out _).trans (((cell_far (p := ⟨gb423, _, none⟩) NB439_423.out _).trans (hHeld.2.2.2.1)))))), ((cell_far (p := ⟨gb423, _, none⟩) NB439_423.out _).trans (((cell_far (p := ⟨gb423, _, none⟩) NB439_423.out _).trans (((cell_far (p := ⟨gb423, _, none⟩) NB439_423.out _).trans (hHeld.2.2.2.2.1)))))), ((cell_far (p := ⟨gb423, _, none⟩) NB439_423.out _).trans (((cell_far (p := ⟨gb423, _, none⟩) NB439_423.out _).trans (((cell_far (p := ⟨gb423, _, none⟩) NB439_423.out _).trans (hHeld.2.2.2.2.2))))))⟩ (fun hHeld => ?_)
 clear hK K
 refine done_ (done_of HT_.out (by kernel_rfl)) ?_
 try go_wp2
 refine bodyPost_ret (results_cell_row rfl _ _ gb423 50 #[.int .i64 t446, .int .i64 t447, .bool t448] (0, 0) _ rfl (by (with_reducible repeat (first | refine blk_drewN ?_ _ | refine blk_drew ?_ | refine blk_alloc ?_ _)); refine blk_put (cs := #[.int .i64 t446, .int .i64 t447, .bool false]) ?_ 2 _ rfl; (with_reducible repeat (first | refine blk_drewN ?_ _ | refine blk_drew ?_ | refine blk_alloc ?_ _)); refine blk_put (cs := #[.int .i64 t446, .int .i64 0, .bool false]) ?_ 1 _ rfl; (with_reducible repeat (first | refine blk_drewN ?_ _ | refine blk_drew ?_ | refine blk_alloc ?_ _)); refine blk_put (cs := #[.int .i64 0, .int .i64 0, .bool false]) ?_ 0 _ rfl; (with_reducible repeat (first | refine blk_drewN ?_ _ | refine blk_drew ?_ | refine blk_alloc ?_ _)); exact BK423.out) Tryz.underlying50 rfl (by kernel_rfl)) rfl ?_
 exact ⟨by first | rfl | (simp [errW_none, errW_some] <;> rfl) | (simp [*, errW_none, errW_some] <;> rfl), bz⟩

def manorboyref02_Div.f (k : Nat) (a0_0 : Int) (a0_1 : Int) (a1_0 : Int) (a1_1 : Int) : Option (Int × Int × Bool) := (manorboyref02_Of.f k a0_0 a0_1).bind fun bt452 => ((manorboyref02_Of.f k a1_0 a1_1).bind fun bt460 => ((manorboyref02_Quotient_Round.f k (bt452.1 != bt460.1) bt452.2.1 bt460.2.1).bind fun bt468 => (some (bt468.1, bt468.2.1, bt468.2.2))))
theorem manorboyref02_Div.calls (k : Nat) (a0_0 : Int) (a0_1 : Int) (a1_0 : Int) (a1_1 : Int) (r1 : Int) (r2 : Int) (r3 : Bool) (w : World) (h : manorboyref02_Div.f k a0_0 a0_1 a1_0 a1_1 = some (r1, r2, r3)) :
  Calls Tryz.prog 46 #[.agg #[.int .i64 a0_0, .int .i64 a0_1], .agg #[.int .i64 a1_0, .int .i64 a1_1]] w fun e w' => e = .returned (.agg #[.int .i64 r1, .int .i64 r2, .bool r3]) ∧ Below w.heap.size w w' := by
 have hu23 := Tryz.underlying23
 have hu50 := Tryz.underlying50
 have hu102 := Tryz.underlying102
 have HB := Aside0.mk (Below.refl w.heap.size w)
 have H := h; unfold manorboyref02_Div.f at H; clear h
 replace H := Option.bind_eq_some_iff.mp H
 obtain ⟨⟨t452, t453, t456⟩, A30, H⟩ := H
 try dsimp only at H
 have A3 := Aside0.mk A30
 clear A30
 replace H := Option.bind_eq_some_iff.mp H
 obtain ⟨⟨t460, t461, t464⟩, A40, H⟩ := H
 try dsimp only at H
 have A4 := Aside0.mk A40
 clear A40
 replace H := Option.bind_eq_some_iff.mp H
 obtain ⟨⟨t468, t469, t470⟩, A50, H⟩ := H
 try dsimp only at H
 have A5 := Aside0.mk A50
 clear A50
 simp only [Option.some.injEq, Prod.mk.injEq] at H
 obtain ⟨rfl, rfl, rfl⟩ := H
 go_enter Tryz.func46, Tryz.ntmps46
 go_wp2_with (first | ((with_reducible refine gate_dst (N := 2) rfl ?_); refine bxe 2 #[.int .i64 a0_0, .int .i64 a0_1] 23 ?_; intro gb449 hg w6 hbox hb; have BK449 := Aside0.mk hbox; have GW449 := ge hg; have GE449 := ge hg; replace HB := bs hb; clear hb hbox hg) | ((with_reducible refine gate_dst (N := 3) rfl ?_); refine bxe 3 #[.int .i64 a1_0, .int .i64 a1_1] 23 ?_; intro gb450 hg w7 hbox hb; have BK450 := Aside0.mk hbox; have GW450 := ge hg; have GE450 := ge hg; have NB449_450 := nl BK449 hg; have NB450_449 := nr BK449 hg; replace BK449 := kb BK449 hb; replace HB := bs hb; clear hb hbox hg) | ((with_reducible refine gate_dst (N := 4) rfl ?_); refine bxe 4 #[.int .i64 0, .int .i64 0, .bool false] 50 ?_; intro gb451 hg w8 hbox hb; have BK451 := Aside0.mk hbox; have GW451 := ge hg; have GE451 := ge hg; have NB449_451 := nl BK449 hg; have NB451_449 := nr BK449 hg; have NB450_451 := nl BK450 hg; have NB451_450 := nr BK450 hg; replace BK449 := kb BK449 hb; replace BK450 := kb BK450 hb; replace HB := bs hb; clear hb hbox hg; have hnb9 := NB449_450.out; have hnc9 := NB450_449.out; have hnb10 := NB449_451.out; have hnc10 := NB451_449.out; have hcz11_0 := c20 BK449; have hcz11_1 := c21 BK449; have hfz11_0 := blk_frozen BK449.out 0; have hfz11_1 := blk_frozen BK449.out 1) | ((with_reducible refine gate_callee (f := 102) rfl ?_); refine gL 8 Tryz.func102 #[.agg #[.int .i64 a0_0, .int .i64 a0_1]] ?_; (with_reducible refine (manorboyref02_Of.calls k a0_0 a0_1 t452 t453 t456 _ A3.out).mono ?_); rintro e w12 ⟨v454, v457, rfl, ho0, ho1, hb⟩; refine ⟨_, rfl, ?_⟩; have HO455 := Aside0.mk (Kd.R_lower ho0 (below_size bz)); have HO458 := Aside0.mk (Kd.R_lower ho1 (below_size bz)); replace BK449 := kb BK449 hb; replace BK450 := kb BK450 hb; replace BK451 := kb BK451 hb; replace HB := bs hb; (try clear hb); (try clear hk); (try clear ho0); (try clear ho1)) | ((with_reducible refine gate_dst (N := 5) rfl ?_); refine bxe 5 #[.bool false, .slice none 0 0, .slice none 0 0] 102 ?_; intro gb459 hg w13 hbox hb; have BK459 := Aside0.mk hbox; have GW459 := ge hg; have GE459 := ge hg; have NB449_459 := nl BK449 hg; have NB459_449 := nr BK449 hg; have NB450_459 := nl BK450 hg; have NB459_450 := nr BK450 hg; have NB451_459 := nl BK451 hg; have NB459_451 := nr BK451 hg; replace HO455 := rb HO455 hb; replace HO458 := rb HO458 hb; replace BK449 := kb BK449 hb; replace BK450 := kb BK450 hb; replace BK451 := kb BK451 hb; replace HB := bs hb; clear hb hbox hg; have hnb14 := NB459_449.out; have hnc14 := NB449_459.out; have hnb15 := NB459_450.out; have hnc15 := NB450_459.out; have hnb16 := NB459_451.out; have hnc16 := NB451_459.out; have hcz17_0 : w13.cell? ⟨gb459, 0, none⟩ = some (.bool false) := (blk_cell BK459.out 0).trans rfl; have hcz17_1 : w13.cell? ⟨gb459, 1, none⟩ = some (.slice none 0 0) := (blk_cell BK459.out 1).trans rfl; have hcz17_2 : w13.cell? ⟨gb459, 2, none⟩ = some (.slice none 0 0) := (blk_cell BK459.out 2).trans rfl; have hfz17_0 := blk_frozen BK459.out 0; have hfz17_1 := blk_frozen BK459.out 1; have hfz17_2 := blk_frozen BK459.out 2; obtain ⟨Ao18, co18, eo18⟩ := Kd.R_slice HO455.out; subst eo18; obtain ⟨Ao19, co19, eo19⟩ := Kd.R_slice HO458.out; subst eo19; have hnb20 := NB450_451.out; have hnc20 := NB451_450.out; have hcz21_0 := c20 BK450; have hcz21_1 := c21 BK450; have hfz21_0 := blk_frozen BK450.out 0; have hfz21_1 := blk_frozen BK450.out 1) | ((with_reducible refine gate_callee (f := 102) rfl ?_); refine gL 10 Tryz.func102 #[.agg #[.int .i64 a1_0, .int .i64 a1_1]] ?_; (with_reducible refine (manorboyref02_Of.calls k a1_0 a1_1 t460 t461 t464 _ A4.out).mono ?_); rintro e w22 ⟨v462, v465, rfl, ho0, ho1, hb⟩; refine ⟨_, rfl, ?_⟩; have HO463 := Aside0.mk (Kd.R_lower (Kd.R_new' (Kd.R_new' ho0 (Kd.R_lt (by (with_reducible repeat (first | apply Kd.R_alloc | apply Kd.R_drewN | apply Kd.R_drew)); exact (Kd.R_mono (Kd.R_far (p := ⟨gb459, 2, none⟩) (Kd.R_far (p := ⟨gb459, 1, none⟩) (Kd.R_far (p := ⟨gb459, 0, none⟩) (Kd.R_types HO455.out BK459.out (by decide)) (fun _ hk => hk.2) (.bool t452)) (fun _ hk => hk.2) (.slice Ao18 t453.length co18)) (fun _ hk => hk.2) (.slice Ao19 t456.length co19)) (fun _ h_ => h_.1))))) (Kd.R_lt (by (with_reducible repeat (first | apply Kd.R_alloc | apply Kd.R_drewN | apply Kd.R_drew)); exact (Kd.R_mono (Kd.R_far (p := ⟨gb459, 2, none⟩) (Kd.R_far (p := ⟨gb459, 1, none⟩) (Kd.R_far (p := ⟨gb459, 0, none⟩) (Kd.R_types HO458.out BK459.out (by decide)) (fun _ hk => hk.2) (.bool t452)) (fun _ hk => hk.2) (.slice Ao18 t453.length co18)) (fun _ hk => hk.2) (.slice Ao19 t456.length co19)) (fun _ h_ => h_.1))))) (below_size bz)); have HO466 := Aside0.mk (Kd.R_lower (Kd.R_new' (Kd.R_new' ho1 (Kd.R_lt (by (with_reducible repeat (first | apply Kd.R_alloc | apply Kd.R_drewN | apply Kd.R_drew)); exact (Kd.R_mono (Kd.R_far (p := ⟨gb459, 2, none⟩) (Kd.R_far (p := ⟨gb459, 1, none⟩) (Kd.R_far (p := ⟨gb459, 0, none⟩) (Kd.R_types HO455.out BK459.out (by decide)) (fun _ hk => hk.2) (.bool t452)) (fun _ hk => hk.2) (.slice Ao18 t453.length co18)) (fun _ hk => hk.2) (.slice Ao19 t456.length co19)) (fun _ h_ => h_.1))))) (Kd.R_lt (by (with_reducible repeat (first | apply Kd.R_alloc | apply Kd.R_drewN | apply Kd.R_drew)); exact (Kd.R_mono (Kd.R_far (p := ⟨gb459, 2, none⟩) (Kd.R_far (p := ⟨gb459, 1, none⟩) (Kd.R_far (p := ⟨gb459, 0, none⟩) (Kd.R_types HO458.out BK459.out (by decide)) (fun _ hk => hk.2) (.bool t452)) (fun _ hk => hk.2) (.slice Ao18 t453.length co18)) (fun _ hk => hk.2) (.slice Ao19 t456.length co19)) (fun _ h_ => h_.1))))) (below_size bz)); replace HO455 := Aside0.mk (Kd.R_mono (Kd.R_told (Kd.R_told (Kd.R_old (by (with_reducible repeat (first | apply Kd.R_alloc | apply Kd.R_drewN | apply Kd.R_drew)); exact (Kd.R_mono (Kd.R_far (p := ⟨gb459, 2, none⟩) (Kd.R_far (p := ⟨gb459, 1, none⟩) (Kd.R_far (p := ⟨gb459, 0, none⟩) (Kd.R_types HO455.out BK459.out (by decide)) (fun _ hk => hk.2) (.bool t452)) (fun _ hk => hk.2) (.slice Ao18 t453.length co18)) (fun _ hk => hk.2) (.slice Ao19 t456.length co19)) (fun _ h_ => h_.1))) hb) (Kd.R_base ho0)) (Kd.R_base ho1)) (fun _ h_ => h_.1)); replace HO458 := Aside0.mk (Kd.R_mono (Kd.R_told (Kd.R_told (Kd.R_old (by (with_reducible repeat (first | apply Kd.R_alloc | apply Kd.R_drewN | apply Kd.R_drew)); exact (Kd.R_mono (Kd.R_far (p := ⟨gb459, 2, none⟩) (Kd.R_far (p := ⟨gb459, 1, none⟩) (Kd.R_far (p := ⟨gb459, 0, none⟩) (Kd.R_types HO458.out BK459.out (by decide)) (fun _ hk => hk.2) (.bool t452)) (fun _ hk => hk.2) (.slice Ao18 t453.length co18)) (fun _ hk => hk.2) (.slice Ao19 t456.length co19)) (fun _ h_ => h_.1))) hb) (Kd.R_base ho0)) (Kd.R_base ho1)) (fun _ h_ => h_.1)); replace BK449 := Aside0.mk (blk_below (g := gb449) (o := .cells #[.int .i64 a0_0, .int .i64 a0_1] 23 (0, 0)) (by (with_reducible repeat (first | refine blk_drewN ?_ _ | refine blk_drew ?_ | refine blk_alloc ?_ _)); refine blk_far ?_ NB449_459.out _; (with_reducible repeat (first | refine blk_drewN ?_ _ | refine blk_drew ?_ | refine blk_alloc ?_ _)); refine blk_far ?_ NB449_459.out _; (with_reducible repeat (first | refine blk_drewN ?_ _ | refine blk_drew ?_ | refine blk_alloc ?_ _)); refine blk_far ?_ NB449_459.out _; (with_reducible repeat (first | refine blk_drewN ?_ _ | refine blk_drew ?_ | refine blk_alloc ?_ _)); exact BK449.out) hb); replace BK450 := Aside0.mk (blk_below (g := gb450) (o := .cells #[.int .i64 a1_0, .int .i64 a1_1] 23 (0, 0)) (by (with_reducible repeat (first | refine blk_drewN ?_ _ | refine blk_drew ?_ | refine blk_alloc ?_ _)); refine blk_far ?_ NB450_459.out _; (with_reducible repeat (first | refine blk_drewN ?_ _ | refine blk_drew ?_ | refine blk_alloc ?_ _)); refine blk_far ?_ NB450_459.out _; (with_reducible repeat (first | refine blk_drewN ?_ _ | refine blk_drew ?_ | refine blk_alloc ?_ _)); refine blk_far ?_ NB450_459.out _; (with_reducible repeat (first | refine blk_drewN ?_ _ | refine blk_drew ?_ | refine blk_alloc ?_ _)); exact BK450.out) hb); replace BK451 := Aside0.mk (blk_below (g := gb451) (o := .cells #[.int .i64 0, .int .i64 0, .bool false] 50 (0, 0)) (by (with_reducible repeat (first | refine blk_drewN ?_ _ | refine blk_drew ?_ | refine blk_alloc ?_ _)); refine blk_far ?_ NB451_459.out _; (with_reducible repeat (first | refine blk_drewN ?_ _ | refine blk_drew ?_ | refine blk_alloc ?_ _)); refine blk_far ?_ NB451_459.out _; (with_reducible repeat (first | refine blk_drewN ?_ _ | refine blk_drew ?_ | refine blk_alloc ?_ _)); refine blk_far ?_ NB451_459.out _; (with_reducible repeat (first | refine blk_drewN ?_ _ | refine blk_drew ?_ | refine blk_alloc ?_ _)); exact BK451.out) hb); replace BK459 := Aside0.mk (blk_below (g := gb459) (o := .cells #[.bool t452, .slice Ao18 t453.length co18, .slice Ao19 t456.length co19] 102 (0, 0)) (by (with_reducible repeat (first | refine blk_drewN ?_ _ | refine blk_drew ?_ | refine blk_alloc ?_ _)); refine blk_put (cs := #[.bool t452, .slice Ao18 t453.length co18, .slice none 0 0]) ?_ 2 _ rfl; (with_reducible repeat (first | refine blk_drewN ?_ _ | refine blk_drew ?_ | refine blk_alloc ?_ _)); refine blk_put (cs := #[.bool t452, .slice none 0 0, .slice none 0 0]) ?_ 1 _ rfl; (with_reducible repeat (first | refine blk_drewN ?_ _ | refine blk_drew ?_ | refine blk_alloc ?_ _)); refine blk_put (cs := #[.bool false, .slice none 0 0, .slice none 0 0]) ?_ 0 _ rfl; (with_reducible repeat (first | refine blk_drewN ?_ _ | refine blk_drew ?_ | refine blk_alloc ?_ _)); exact BK459.out) hb); replace HB := bs hb; (try clear hb); (try clear hk); (try clear ho0); (try clear ho1)) | ((with_reducible refine gate_dst (N := 6) rfl ?_); refine bxe 6 #[.bool false, .slice none 0 0, .slice none 0 0] 102 ?_; intro gb467 hg w23 hbox hb; have BK467 := Aside0.mk hbox; have GW467 := ge hg; have GE467 := ge hg; have NB449_467 := nl BK449 hg; have NB467_449 := nr BK449 hg; have NB450_467 := nl BK450 hg; have NB467_450 := nr BK450 hg; have NB451_467 := nl BK451 hg; have NB467_451 := nr BK451 hg; have NB459_467 := nl BK459 hg; have NB467_459 := nr BK459 hg; replace HO455 := rb HO455 hb; replace HO458 := rb HO458 hb; replace HO463 := rb HO463 hb; replace HO466 := rb HO466 hb; replace BK449 := kb BK449 hb; replace BK450 := kb BK450 hb; replace BK451 := kb BK451 hb; replace BK459 := kb BK459 hb; replace HB := bs hb; clear hb hbox hg; have hnb24 := NB467_449.out; have hnc24 := NB449_467.out; have hnb25 := NB467_450.out; have hnc25 := NB450_467.out; have hnb26 := NB467_451.out; have hnc26 := NB451_467.out; have hnb27 := NB467_459.out; have hnc27 := NB459_467.out; have hcz28_0 : w23.cell? ⟨gb467, 0, none⟩ = some (.bool false) := (blk_cell BK467.out 0).trans rfl; have hcz28_1 : w23.cell? ⟨gb467, 1, none⟩ = some (.slice none 0 0) := (blk_cell BK467.out 1).trans rfl; have hcz28_2 : w23.cell? ⟨gb467, 2, none⟩ = some (.slice none 0 0) := (blk_cell BK467.out 2).trans rfl; have hfz28_0 := blk_frozen BK467.out 0; have hfz28_1 := blk_frozen BK467.out 1; have hfz28_2 := blk_frozen BK467.out 2; obtain ⟨Ao29, co29, eo29⟩ := Kd.R_slice HO463.out; subst eo29; obtain ⟨Ao30, co30, eo30⟩ := Kd.R_slice HO466.out; subst eo30; have hcz31_0 : w23.cell? ⟨gb459, 0, none⟩ = some (.bool t452) := (blk_cell BK459.out 0).trans rfl; have hcz31_1 : w23.cell? ⟨gb459, 1, none⟩ = some (.slice Ao18 t453.length co18) := (blk_cell BK459.out 1).trans rfl; have hcz31_2 : w23.cell? ⟨gb459, 2, none⟩ = some (.slice Ao19 t456.length co19) := (blk_cell BK459.out 2).trans rfl; have hfz31_0 := blk_frozen BK459.out 0; have hfz31_1 := blk_frozen BK459.out 1; have hfz31_2 := blk_frozen BK459.out 2) | ((with_reducible refine gate_callee (f := 88) rfl ?_); refine gL 21 Tryz.func88 #[.agg #[.bool (t452 != t460), .slice Ao18 t453.length co18, .slice Ao29 t461.length co29]] ?_; (with_reducible refine (manorboyref02_Quotient_Round.calls k (t452 != t460) _ _ t453 _ _ t461 t468 t469 t470 _ ?side1 ?side2 ?side3 ?side4 A5.out).mono ?_); (case side1 => refine (Kd.R_reads' (e := 3) (base := w.heap.size) (ok := fun k_ => ((some k_ ≠ (.slice Ao19 t456.length co19 : Value).ownBlock ∧ some k_ ≠ (.slice Ao29 t461.length co29 : Value).ownBlock) ∧ some k_ ≠ (.slice Ao30 t464.length co30 : Value).ownBlock)) (n := t453.length) (c := co18) ?_).2.2; exact (by (with_reducible repeat (first | apply Kd.R_alloc | apply Kd.R_drewN | apply Kd.R_drew)); exact (Kd.R_mono (Kd.R_far (p := ⟨gb467, 2, none⟩) (Kd.R_far (p := ⟨gb467, 1, none⟩) (Kd.R_far (p := ⟨gb467, 0, none⟩) (Kd.R_types HO455.out BK467.out (by decide)) (fun _ hk => hk.2) (.bool t460)) (fun _ hk => hk.2) (.slice Ao29 t461.length co29)) (fun _ hk => hk.2) (.slice Ao30 t464.length co30)) (fun _ h_ => h_.1)))); (case side2 => exact (Kd.R_reads' HO455.out).2.1); (case side3 => refine (Kd.R_reads' (e := 3) (base := w.heap.size) (ok := fun k_ => ((some k_ ≠ (.slice Ao30 t464.length co30 : Value).ownBlock ∧ some k_ ≠ (.slice Ao18 t453.length co18 : Value).ownBlock) ∧ some k_ ≠ (.slice Ao19 t456.length co19 : Value).ownBlock)) (n := t461.length) (c := co29) ?_).2.2; exact (by (with_reducible repeat (first | apply Kd.R_alloc | apply Kd.R_drewN | apply Kd.R_drew)); exact (Kd.R_mono (Kd.R_far (p := ⟨gb467, 2, none⟩) (Kd.R_far (p := ⟨gb467, 1, none⟩) (Kd.R_far (p := ⟨gb467, 0, none⟩) (Kd.R_types HO463.out BK467.out (by decide)) (fun _ hk => hk.2) (.bool t460)) (fun _ hk => hk.2) (.slice Ao29 t461.length co29)) (fun _ hk => hk.2) (.slice Ao30 t464.length co30)) (fun _ h_ => h_.1)))); (case side4 => exact (Kd.R_reads' HO463.out).2.1); rintro e w32 ⟨rfl, hb⟩; refine ⟨_, rfl, ?_⟩; replace HO455 := Aside0.mk (Kd.R_below (by (with_reducible repeat (first | apply Kd.R_alloc | apply Kd.R_drewN | apply Kd.R_drew)); exact (Kd.R_mono (Kd.R_far (p := ⟨gb467, 2, none⟩) (Kd.R_far (p := ⟨gb467, 1, none⟩) (Kd.R_far (p := ⟨gb467, 0, none⟩) (Kd.R_types HO455.out BK467.out (by decide)) (fun _ hk => hk.2) (.bool t460)) (fun _ hk => hk.2) (.slice Ao29 t461.length co29)) (fun _ hk => hk.2) (.slice Ao30 t464.length co30)) (fun _ h_ => h_.1))) hb); replace HO458 := Aside0.mk (Kd.R_below (by (with_reducible repeat (first | apply Kd.R_alloc | apply Kd.R_drewN | apply Kd.R_drew)); exact (Kd.R_mono (Kd.R_far (p := ⟨gb467, 2, none⟩) (Kd.R_far (p := ⟨gb467, 1, none⟩) (Kd.R_far (p := ⟨gb467, 0, none⟩) (Kd.R_types HO458.out BK467.out (by decide)) (fun _ hk => hk.2) (.bool t460)) (fun _ hk => hk.2) (.slice Ao29 t461.length co29)) (fun _ hk => hk.2) (.slice Ao30 t464.length co30)) (fun _ h_ => h_.1))) hb); replace HO463 := Aside0.mk (Kd.R_below (by (with_reducible repeat (first | apply Kd.R_alloc | apply Kd.R_drewN | apply Kd.R_drew)); exact (Kd.R_mono (Kd.R_far (p := ⟨gb467, 2, none⟩) (Kd.R_far (p := ⟨gb467, 1, none⟩) (Kd.R_far (p := ⟨gb467, 0, none⟩) (Kd.R_types HO463.out BK467.out (by decide)) (fun _ hk => hk.2) (.bool t460)) (fun _ hk => hk.2) (.slice Ao29 t461.length co29)) (fun _ hk => hk.2) (.slice Ao30 t464.length co30)) (fun _ h_ => h_.1))) hb); replace HO466 := Aside0.mk (Kd.R_below (by (with_reducible repeat (first | apply Kd.R_alloc | apply Kd.R_drewN | apply Kd.R_drew)); exact (Kd.R_mono (Kd.R_far (p := ⟨gb467, 2, none⟩) (Kd.R_far (p := ⟨gb467, 1, none⟩) (Kd.R_far (p := ⟨gb467, 0, none⟩) (Kd.R_types HO466.out BK467.out (by decide)) (fun _ hk => hk.2) (.bool t460)) (fun _ hk => hk.2) (.slice Ao29 t461.length co29)) (fun _ hk => hk.2) (.slice Ao30 t464.length co30)) (fun _ h_ => h_.1))) hb); replace BK449 := Aside0.mk (blk_below (g := gb449) (o := .cells #[.int .i64 a0_0, .int .i64 a0_1] 23 (0, 0)) (by (with_reducible repeat (first | refine blk_drewN ?_ _ | refine blk_drew ?_ | refine blk_alloc ?_ _)); refine blk_far ?_ NB449_467.out _; (with_reducible repeat (first | refine blk_drewN ?_ _ | refine blk_drew ?_ | refine blk_alloc ?_ _)); refine blk_far ?_ NB449_467.out _; (with_reducible repeat (first | refine blk_drewN ?_ _ | refine blk_drew ?_ | refine blk_alloc ?_ _)); refine blk_far ?_ NB449_467.out _; (with_reducible repeat (first | refine blk_drewN ?_ _ | refine blk_drew ?_ | refine blk_alloc ?_ _)); exact BK449.out) hb); replace BK450 := Aside0.mk (blk_below (g := gb450) (o := .cells #[.int .i64 a1_0, .int .i64 a1_1] 23 (0, 0)) (by (with_reducible repeat (first | refine blk_drewN ?_ _ | refine blk_drew ?_ | refine blk_alloc ?_ _)); refine blk_far ?_ NB450_467.out _; (with_reducible repeat (first | refine blk_drewN ?_ _ | refine blk_drew ?_ | refine blk_alloc ?_ _)); refine blk_far ?_ NB450_467.out _; (with_reducible repeat (first | refine blk_drewN ?_ _ | refine blk_drew ?_ | refine blk_alloc ?_ _)); refine blk_far ?_ NB450_467.out _; (with_reducible repeat (first | refine blk_drewN ?_ _ | refine blk_drew ?_ | refine blk_alloc ?_ _)); exact BK450.out) hb); replace BK451 := Aside0.mk (blk_below (g := gb451) (o := .cells #[.int .i64 0, .int .i64 0, .bool false] 50 (0, 0)) (by (with_reducible repeat (first | refine blk_drewN ?_ _ | refine blk_drew ?_ | refine blk_alloc ?_ _)); refine blk_far ?_ NB451_467.out _; (with_reducible repeat (first | refine blk_drewN ?_ _ | refine blk_drew ?_ | refine blk_alloc ?_ _)); refine blk_far ?_ NB451_467.out _; (with_reducible repeat (first | refine blk_drewN ?_ _ | refine blk_drew ?_ | refine blk_alloc ?_ _)); refine blk_far ?_ NB451_467.out _; (with_reducible repeat (first | refine blk_drewN ?_ _ | refine blk_drew ?_ | refine blk_alloc ?_ _)); exact BK451.out) hb); replace BK459 := Aside0.mk (blk_below (g := gb459) (o := .cells #[.bool t452, .slice Ao18 t453.length co18, .slice Ao19 t456.length co19] 102 (0, 0)) (by (with_reducible repeat (first | refine blk_drewN ?_ _ | refine blk_drew ?_ | refine blk_alloc ?_ _)); refine blk_far ?_ NB459_467.out _; (with_reducible repeat (first | refine blk_drewN ?_ _ | refine blk_drew ?_ | refine blk_alloc ?_ _)); refine blk_far ?_ NB459_467.out _; (with_reducible repeat (first | refine blk_drewN ?_ _ | refine blk_drew ?_ | refine blk_alloc ?_ _)); refine blk_far ?_ NB459_467.out _; (with_reducible repeat (first | refine blk_drewN ?_ _ | refine blk_drew ?_ | refine blk_alloc ?_ _)); exact BK459.out) hb); replace BK467 := Aside0.mk (blk_below (g := gb467) (o := .cells #[.bool t460, .slice Ao29 t461.length co29, .slice Ao30 t464.length co30] 102 (0, 0)) (by (with_reducible repeat (first | refine blk_drewN ?_ _ | refine blk_drew ?_ | refine blk_alloc ?_ _)); refine blk_put (cs := #[.bool t460, .slice Ao29 t461.length co29, .slice none 0 0]) ?_ 2 _ rfl; (with_reducible repeat (first | refine blk_drewN ?_ _ | refine blk_drew ?_ | refine blk_alloc ?_ _)); refine blk_put (cs := #[.bool t460, .slice none 0 0, .slice none 0 0]) ?_ 1 _ rfl; (with_reducible repeat (first | refine blk_drewN ?_ _ | refine blk_drew ?_ | refine blk_alloc ?_ _)); refine blk_put (cs := #[.bool false, .slice none 0 0, .slice none 0 0]) ?_ 0 _ rfl; (with_reducible repeat (first | refine blk_drewN ?_ _ | refine blk_drew ?_ | refine blk_alloc ?_ _)); exact BK467.out) hb); replace HB := bs hb; (try clear hb); (try clear hk); have hcz33_0 : w32.cell? ⟨gb451, 0, none⟩ = some (.int .i64 0) := (blk_cell BK451.out 0).trans rfl; have hcz33_1 : w32.cell? ⟨gb451, 1, none⟩ = some (.int .i64 0) := (blk_cell BK451.out 1).trans rfl; have hcz33_2 : w32.cell? ⟨gb451, 2, none⟩ = some (.bool false) := (blk_cell BK451.out 2).trans rfl; have hfz33_0 := blk_frozen BK451.out 0; have hfz33_1 := blk_frozen BK451.out 1; have hfz33_2 := blk_frozen BK451.out 2))
 refine bodyPost_ret (results_cell_row rfl _ _ gb451 50 #[.int .i64 t468, .int .i64 t469, .bool t470] (0, 0) _ rfl (by (with_reducible repeat (first | refine blk_drewN ?_ _ | refine blk_drew ?_ | refine blk_alloc ?_ _)); refine blk_put (cs := #[.int .i64 t468, .int .i64 t469, .bool false]) ?_ 2 _ rfl; (with_reducible repeat (first | refine blk_drewN ?_ _ | refine blk_drew ?_ | refine blk_alloc ?_ _)); refine blk_put (cs := #[.int .i64 t468, .int .i64 0, .bool false]) ?_ 1 _ rfl; (with_reducible repeat (first | refine blk_drewN ?_ _ | refine blk_drew ?_ | refine blk_alloc ?_ _)); refine blk_put (cs := #[.int .i64 0, .int .i64 0, .bool false]) ?_ 0 _ rfl; (with_reducible repeat (first | refine blk_drewN ?_ _ | refine blk_drew ?_ | refine blk_alloc ?_ _)); exact BK451.out) Tryz.underlying50 rfl (by kernel_rfl)) rfl ?_
 exact ⟨by first | rfl | (simp [errW_none, errW_some] <;> rfl) | (simp [*, errW_none, errW_some] <;> rfl), bz⟩

end Go.Proofs.YteigbokklclmbaaGreatDoor.Z.Y.V
end
section
namespace Go.Proofs.YteigbokklclmbaaGreatDoor.M
open Go Go.RowKit Go.Proofs.YteigbokklclmbaaGreatDoor.Given Go.Proofs.YteigbokklclmbaaGreatDoorW.PrintWords Go.Proofs.YteigbokklclmbaaGreatDoorW.PrintLast Go.Proofs.YteigbokklclmbaaGreatDoorW.PrintMore Go.Proofs.YteigbokklclmbaaGreatDoor.Z Go.Proofs.YteigbokklclmbaaGreatDoor.Z.Y Go.Proofs.YteigbokklclmbaaGreatDoor.Z.Y.V Go.Proofs.YteigbokklclmbaaGreatDoor.Z.Y.Q
theorem ref_mul_ev {x0 x1 y0 y1 : Int} (wx : I64 x0) (wy : I64 y0) (hx : VR x0 x1) (hy : VR y0 y1) {I : Nat} (hR : Rd (G (ix x0 x1) * G (ix y0 y1)) (2 ^ 150) I) :
    Ev (fun k => manorboyref02_Mul.f k x0 x1 y0 y1) (rref (decide (x0 < 0) != decide (y0 < 0)) I) := by
  have bx := bl_G (ix_le wx hx)
  have by_ := bl_G (ix_le wy hy)
  have ox := of_ev wx hx
  have oy := of_ev wy hy
  have b150 := bl_two 150
  obtain ⟨D, hD⟩ : ∃ D : Nat, D = 2 ^ 150 := ⟨_, rfl⟩
  have hDp : 0 < D := by rw [hD]; exact Nat.two_pow_pos _
  rw [← hD] at ox oy b150 hR
  generalize G (ix x0 x1) = gx at *
  generalize G (ix y0 y1) = gy at *
  have b3 := bl_mul gx gy
  have b4 := bl_mul D D
  have hR2 : Rd (gx * gy * 2 ^ 150) (D * D) I := by
    rw [← hD]
    exact Rd.congr hDp (Nat.mul_pos hDp hDp) hR (by rw [← Nat.mul_assoc])
  refine Ev.congr (f := fun k => (manorboyref02_Of.f k x0 x1).bind fun bt217 => (manorboyref02_Of.f k y0 y1).bind fun bt225 => _) (fun k => rfl) ?_
  refine Ev.bind ox (Ev.bind oy ?_)
  refine Ev.bind (mulE_ev (Se.of (by omega)) (Se.of (by omega))) (Ev.bind (mulE_ev (Se.of (by omega)) (Se.of (by omega))) (Ev.bind (round_ev _ _ _ I (Nat.mul_pos hDp hDp) (by omega) (by omega) hR2) ?_))
  exact Ev.now _
theorem ref_div_ev {x0 x1 y0 y1 : Int} (wx : I64 x0) (wy : I64 y0) (hx : VR x0 x1) (hy : VR y0 y1) (hp : 0 < G (ix y0 y1)) {I : Nat} (hR : Rd (G (ix x0 x1) * 2 ^ 150) (G (ix y0 y1)) I) :
    Ev (fun k => manorboyref02_Div.f k x0 x1 y0 y1) (rref (decide (x0 < 0) != decide (y0 < 0)) I) := by
  have bx := bl_G (ix_le wx hx)
  have by_ := bl_G (ix_le wy hy)
  have ox := of_ev wx hx
  have oy := of_ev wy hy
  generalize G (ix x0 x1) = gx at *
  generalize G (ix y0 y1) = gy at *
  refine Ev.congr (f := fun k => (manorboyref02_Of.f k x0 x1).bind fun bt217 => (manorboyref02_Of.f k y0 y1).bind fun bt225 => _) (fun k => rfl) ?_
  refine Ev.bind ox (Ev.bind oy ?_)
  refine Ev.bind (round_ev _ _ _ I hp (by omega) (by omega) hR) ?_
  exact Ev.now _
/-- A half way mark against the root: the squares stand as the marks do. -/
theorem sq_half {X M R s a J : Nat} (hS : SqR ((G X : Nat) : Int) M R s a J) (i : Nat) : (H i * H i < G X * 2 ^ 152 ↔ H i < 2 * ((2 * R + s) * 2 ^ a)) ∧ (H i * H i = G X * 2 ^ 152 ↔ H i = 2 * ((2 * R + s) * 2 ^ a)) := by
  have hV : G X * 2 ^ 150 = 4 * M * 4 ^ a := by
    have h := hS.hV
    have h2 : ((G X * 2 ^ 150 : Nat) : Int) = ((4 * M * 4 ^ a : Nat) : Int) := by rw [← h, Int.natCast_mul, Int.natCast_pow]; rfl
    exact Int.ofNat_inj.1 h2
  have hN : G X * 2 ^ 152 = 16 * M * (2 ^ a * 2 ^ a) := by
    rw [show (152 : Nat) = 150 + 2 from rfl, Nat.pow_add, ← Nat.mul_assoc, hV, ← Nat.mul_pow]
    generalize (2 * 2) ^ a = p
    rw [Nat.mul_assoc 4 M, Nat.mul_assoc 16 M]
    omega
  rw [hN]
  have hHp := H_pos i
  have hep : 0 < 2 ^ a := Nat.two_pow_pos a
  have hR := hS.hR
  have hs := hS.hs
  have hM := hS.hM
  clear hS hV hN
  have hsq : 0 < H i * H i := Nat.mul_pos hHp hHp
  rcases hM with hM | ⟨hM, _⟩
  · have hR0 : R = 0 := by
      rcases Nat.eq_zero_or_pos R with h | h
      · exact h
      · have := Nat.mul_pos h h; omega
    subst hM hR0
    have hs0 : s = 0 := by
      rcases hs with ⟨_, h⟩ | ⟨h, _⟩
      · exact h
      · exact absurd rfl h
    subst hs0
    simp only [Nat.mul_zero, Nat.zero_mul, Nat.add_zero]
    exact ⟨by omega, by omega⟩
  · rcases Nat.lt_or_ge (sh i) (a + 2) with hlt | hge
    · have h1 : 2 ^ sh i ≤ 2 * 2 ^ a := by rw [show 2 * 2 ^ a = 2 ^ (a + 1) by rw [Nat.pow_succ]; omega]; exact Nat.pow_le_pow_right (by decide) (by omega)
      have h2 := man_bd i
      have h3 : H i ≤ 33554432 * (2 * 2 ^ a) := by rw [H_eq]; exact Nat.mul_le_mul (by omega) h1
      have hR29 : 536870912 ≤ R := by
        rcases Nat.lt_or_ge R 536870912 with h | h
        · have : (R + 1) * (R + 1) ≤ 536870912 * 536870912 := Nat.mul_le_mul h h
          have h58 : (2 : Nat) ^ 58 = 536870912 * 536870912 := by decide
          omega
        · exact h
      have h4 : H i * H i ≤ 33554432 * (2 * 2 ^ a) * (33554432 * (2 * 2 ^ a)) := Nat.mul_le_mul h3 h3
      have h5 : 33554432 * (2 * 2 ^ a) * (33554432 * (2 * 2 ^ a)) = 4503599627370496 * (2 ^ a * 2 ^ a) := by
        rw [show 33554432 * (2 * 2 ^ a) = 67108864 * 2 ^ a from (Nat.mul_assoc 33554432 2 (2 ^ a)).symm, Nat.mul_mul_mul_comm]
      have h6 : 16 * 2 ^ 58 * (2 ^ a * 2 ^ a) ≤ 16 * M * (2 ^ a * 2 ^ a) := Nat.mul_le_mul_right _ (by omega)
      have h7 := Nat.mul_pos hep hep
      have h8 : 1073741824 * 2 ^ a ≤ (2 * R + s) * 2 ^ a := Nat.mul_le_mul_right _ (by omega)
      generalize 2 ^ a * 2 ^ a = q at *
      generalize 2 ^ a = e at *
      generalize H i * H i = hh at *
      generalize (2 * R + s) * e = T at *
      exact ⟨by omega, by omega⟩
    · obtain ⟨t, ht⟩ := H_mult (i := i) (s := a + 2) hge
      have ea : 2 ^ (a + 2) = 4 * 2 ^ a := by rw [Nat.pow_add]; omega
      rw [ea] at ht
      obtain ⟨e, he⟩ : ∃ e, e = 2 ^ a := ⟨_, rfl⟩
      rw [← he] at ht hep ⊢
      have hee : 0 < e * e := Nat.mul_pos hep hep
      have x1 : H i * H i = 16 * (t * t) * (e * e) := by
        rw [ht, show (16 : Nat) = 4 * 4 by decide]; ac_rfl
      have x3 : H i = 4 * t * e := by rw [ht]; ac_rfl
      have x4 : 2 * ((2 * R + s) * e) = (2 * (2 * R + s)) * e := by rw [Nat.mul_assoc]
      have key : (t * t < M ↔ 2 * t < 2 * R + s) ∧ (t * t = M ↔ 2 * t = 2 * R + s) := by
        rcases hs with ⟨h1, h2⟩ | ⟨h1, h2⟩
        · subst h2
          rw [← h1]
          refine ⟨Nat.mul_self_lt_mul_self_iff.trans ⟨by omega, by omega⟩, ⟨fun h => ?_, fun h => ?_⟩⟩
          · have := Nat.mul_self_inj.1 h; omega
          · have : t = R := by omega
            rw [this]
        · subst h2
          have hlo : R * R < M := by omega
          have p1 : t ≤ R → t * t < M := fun h => Nat.lt_of_le_of_lt (Nat.mul_le_mul h h) hlo
          have p2 : R < t → M < t * t := fun h => Nat.lt_of_lt_of_le hR.2 (Nat.mul_le_mul h h)
          refine ⟨⟨fun h => ?_, fun h => p1 (by omega)⟩, ⟨fun h => ?_, fun h => by omega⟩⟩
          · rcases Nat.lt_or_ge R t with h' | h'
            · have := p2 h'; omega
            · omega
          · rcases Nat.lt_or_ge R t with h' | h'
            · have := p2 h'; omega
            · have := p1 h'; omega
      rw [x1, x3, x4]
      have c1 : 16 * (t * t) * (e * e) < 16 * M * (e * e) ↔ t * t < M := by rw [Nat.mul_lt_mul_right hee]; omega
      have c2 : 16 * (t * t) * (e * e) = 16 * M * (e * e) ↔ t * t = M := by rw [Nat.mul_left_inj (by omega)]; omega
      have c3 : 4 * t * e < 2 * (2 * R + s) * e ↔ 2 * t < 2 * R + s := by rw [Nat.mul_lt_mul_right hep]; omega
      have c4 : 4 * t * e = 2 * (2 * R + s) * e ↔ 2 * t = 2 * R + s := by rw [Nat.mul_left_inj (by omega)]; omega
      rw [c1, c2, c3, c4]
      exact key
theorem sqrt_go (x4 : List Int) (lo hi mid : Nat) (hlt : lo < hi) (hhi : hi ≤ 2533359616) (hmid : mid = (lo + hi) / 2) (k : Nat) :
    manorboyref02_Sqrt.l0 (k + 1) x4 (lo : Int) (hi : Int) = (manorboyref02_half.f k (mid : Int)).bind fun t => (manorboyref02_Nat_Mul.f k t t).bind fun u => (manorboyref02_Nat_Cmp.f k u x4).bind fun c => if c ≥ 0 then manorboyref02_Sqrt.l0 k x4 (lo : Int) (mid : Int) else manorboyref02_Sqrt.l0 k x4 ((mid + 1 : Nat) : Int) (hi : Int) := by
  have w1 : wrap64 ((lo : Int) + (hi : Int)) = ((lo + hi : Nat) : Int) := by rw [w64 _ (by omega) (by omega)]; omega
  have w2 : wrap64 (Int.tdiv ((lo + hi : Nat) : Int) 2) = (mid : Int) := by rw [Int.tdiv_eq_ediv_of_nonneg (by omega), w64 _ (by omega) (by omega)]; omega
  have w3 : wrap64 ((mid : Int) + 1) = ((mid + 1 : Nat) : Int) := by rw [w64 _ (by omega) (by omega)]; omega
  rw [manorboyref02_Sqrt.l0, if_pos (by omega), w1, w2, w3]
theorem sqrt_end (x4 : List Int) (hi : Nat) (h : hi ≤ 2533359615) (k : Nat) :
    manorboyref02_Sqrt.l0 (k + 1) x4 (hi : Int) (hi : Int) = (manorboyref02_half.f k (hi : Int)).bind fun t => (manorboyref02_Nat_Mul.f k t t).bind fun u => (manorboyref02_Nat_Cmp.f k u x4).bind fun c => if c = 0 then (manorboyref02_At.f k (hi : Int)).bind fun b => if Int.tmod b.1 2 = 0 then (manorboyref02_At.f k (hi : Int)).bind fun b => some (b.1, b.2) else (manorboyref02_At.f k ((hi + 1 : Nat) : Int)).bind fun b => some (b.1, b.2) else (manorboyref02_At.f k (hi : Int)).bind fun b => some (b.1, b.2) := by
  have w1 : wrap64 ((hi : Int) + 1) = ((hi + 1 : Nat) : Int) := by rw [w64 _ (by omega) (by omega)]; omega
  rw [manorboyref02_Sqrt.l0, if_neg (by omega), w1]
theorem sqrt_l0 (X : Nat) (hX : X ≤ 2533359615) {M R s a J : Nat} (hS : SqR ((G X : Nat) : Int) M R s a J) (P : Nat) (sN : Se P) (hq : ∀ i, (H i * H i < P ↔ H i < 2 * ((2 * R + s) * 2 ^ a)) ∧ (H i * H i = P ↔ H i = 2 * ((2 * R + s) * 2 ^ a))) : ∀ (m lo hi : Nat), hi - lo < m → lo ≤ hi → hi ≤ 2533359615 →
    (∀ i, i < lo → H i * H i < P) → (∀ i, hi ≤ i → P ≤ H i * H i) → Ev (fun k => manorboyref02_Sqrt.l0 k (E (P)) (lo : Int) (hi : Int)) (atI J)
  | 0, lo, hi, hm, _, _, _, _ => by omega
  | m + 1, lo, hi, hm, hle, hhi, hlow, hup => by
    have hmul : ∀ i : Nat, i ≤ 2533359616 → Ev (fun k => manorboyref02_Nat_Mul.f k (E (H i)) (E (H i))) (E (H i * H i)) ∧ Se (H i * H i) := fun i hi => by
      have b1 := bl_H i hi
      have b2 := bl_mul (H i) (H i)
      exact ⟨mulE_ev (Se.of (by omega)) (Se.of (by omega)), Se.of (by omega)⟩
    by_cases hlt : lo < hi
    · obtain ⟨mid, hmid⟩ : ∃ mid, mid = (lo + hi) / 2 := ⟨_, rfl⟩
      have hm1 : mid < hi := by omega
      have hm2 : lo ≤ mid := by omega
      refine Ev.step (fun k => sqrt_go _ lo hi mid hlt (by omega) hmid k) ?_
      obtain ⟨hm3, hm4⟩ := hmul mid (by omega)
      refine Ev.bind (half_ev mid (by omega)) (Ev.bind hm3 (Ev.bind (cmpE_ev hm4 sN) ?_))
      by_cases hc : H mid * H mid < P
      · refine Ev.congr (fun k => if_neg (cmp_neg hc)) (sqrt_l0 X hX hS P sN hq m (mid + 1) hi (by omega) (by omega) hhi (fun i hi' => ?_) hup)
        have h := H_le (show i ≤ mid by omega)
        exact Nat.lt_of_le_of_lt (Nat.mul_le_mul h h) hc
      · refine Ev.congr (fun k => if_pos (cmp_nn hc)) (sqrt_l0 X hX hS P sN hq m lo mid (by omega) (by omega) (by omega) hlow (fun i hi' => ?_))
        have h := H_le hi'
        exact Nat.le_trans (Nat.le_of_not_lt hc) (Nat.mul_le_mul h h)
    · have hlh : hi = lo := by omega
      subst hlh
      obtain ⟨q1, q2⟩ := hq hi
      have hge := hup hi (Nat.le_refl _)
      have hgeT : 2 * ((2 * R + s) * 2 ^ a) ≤ H hi * 1 := by
        rcases Nat.lt_or_ge (H hi) (2 * ((2 * R + s) * 2 ^ a)) with h | h
        · have := q1.2 h; omega
        · omega
      have hlo2 : hi = 0 ∨ H (hi - 1) * 1 < 2 * ((2 * R + s) * 2 ^ a) := by
        rcases Nat.eq_zero_or_pos hi with h | h
        · exact .inl h
        · refine .inr ?_
          have := (hq (hi - 1)).1.1 (hlow (hi - 1) (by omega))
          omega
      have hJ := hS.hI.only (by decide) (by decide) (Rd.at_low (by decide) hlo2 hgeT) rfl
      obtain ⟨hm3, hm4⟩ := hmul hi (by omega)
      refine Ev.step (fun k => sqrt_end _ hi (by omega) k) ?_
      refine Ev.bind (half_ev hi (by omega)) (Ev.bind hm3 (Ev.bind (cmpE_ev hm4 sN) ?_))
      have hat : Ev (fun k => (manorboyref02_At.f k (hi : Int)).bind fun b => some (b.1, b.2)) (atI hi) := Ev.bind (atE_ev hi (by omega)) (Ev.now _)
      have hat1 : Ev (fun k => (manorboyref02_At.f k ((hi + 1 : Nat) : Int)).bind fun b => some (b.1, b.2)) (atI (hi + 1)) := Ev.bind (atE_ev (hi + 1) (by omega)) (Ev.now _)
      by_cases heq : H hi * H hi = P
      · refine Ev.congr (fun k => if_pos (cmp_eq heq)) (Ev.bind (atE_ev hi (by omega)) ?_)
        have hp := at_par hi
        have heT := q2.1 heq
        by_cases hodd : hi % 2 = 1
        · rw [decide_eq_true hodd, bne_iff_ne] at hp
          rw [decide_eq_true (show 2 * ((2 * R + s) * 2 ^ a) = H hi * 1 ∧ hi % 2 = 1 from ⟨by omega, hodd⟩), if_pos rfl] at hJ
          rw [hJ]
          exact Ev.congr (fun k => if_neg hp) hat1
        · rw [decide_eq_false hodd, bne_eq_false_iff_eq] at hp
          rw [decide_eq_false (show ¬ (2 * ((2 * R + s) * 2 ^ a) = H hi * 1 ∧ hi % 2 = 1) from fun h => hodd h.2), if_neg (by decide), Nat.add_zero] at hJ
          rw [hJ]
          exact Ev.congr (fun k => if_pos hp) hat
      · have hne : ¬ 2 * ((2 * R + s) * 2 ^ a) = H hi * 1 := fun h => heq (q2.2 (by omega))
        rw [decide_eq_false (show ¬ (2 * ((2 * R + s) * 2 ^ a) = H hi * 1 ∧ hi % 2 = 1) from fun h => hne h.1), if_neg (by decide), Nat.add_zero] at hJ
        rw [hJ]
        exact Ev.congr (fun k => if_neg (cmp_gt (by omega))) hat
theorem ref_sqrt_ev {x0 x1 : Int} (wx : I64 x0) (hx : VR x0 x1) {M R s a J : Nat} (hS : SqR ((G (ix x0 x1) : Nat) : Int) M R s a J) : Ev (fun k => manorboyref02_Sqrt.f k x0 x1) (atI J) := by
  have hX := ix_le wx hx
  have ox := of_ev wx hx
  have hJ := root_in hX hS
  have bX := bl_G hX
  have b2 := bl_two 152
  generalize ix x0 x1 = X at *
  refine Ev.congr (f := fun k => (manorboyref02_Of.f k x0 x1).bind fun bt => (manorboyref02_Two.f ((152 : Nat) : Int)).bind fun t => (manorboyref02_Nat_Mul.f k bt.2.1 t).bind fun u => manorboyref02_Sqrt.l0 k u ((0 : Nat) : Int) ((2533359615 : Nat) : Int)) (fun k => rfl) ?_
  refine Ev.bind ox (Ev.bind (two_Ev 152 (by decide)) (Ev.bind (mulE_ev (Se.of (by omega)) (Se.of (by omega))) ?_))
  have bs := bl_shift (G X) 152
  refine sqrt_l0 X hX hS (G X * 2 ^ 152) (Se.of (by omega)) (sq_half hS) 2533359616 0 2533359615 (by omega) (by omega) (by omega) (fun i h => by omega) (fun i h => ?_)
  obtain ⟨q1, q2⟩ := sq_half hS i
  have h1 := hS.hI.2.1
  have h2 := H_le (show J ≤ i by omega)
  rcases Nat.lt_or_ge (H i * H i) (G X * 2 ^ 152) with h | h
  · have := q1.1 h; omega
  · exact h
end Go.Proofs.YteigbokklclmbaaGreatDoor.M
end
section
namespace Go.Proofs.YteigbokklclmbaaGreatDoor.Z
open Go Go.RowKit Go.Proofs.YteigbokklclmbaaGreatDoor.Given Go.Proofs.YteigbokklclmbaaGreatDoorW.PrintWords Go.Proofs.YteigbokklclmbaaGreatDoorW.PrintLast Go.Proofs.YteigbokklclmbaaGreatDoorW.PrintMore Go.Proofs.YteigbokklclmbaaGreatDoor.Z.Y.Q
/-- The blocks l lie in w', made since w; all elder memory is as it was. -/
def Bs (w : World) (l : List (Nat × Int × Int)) (w' : World) : Prop :=
  Below w.heap.size w w' ∧ (∀ p, p ∈ l → w'.heap[p.1]? = some (.cells #[.int .i64 p.2.1, .int .i64 p.2.2] 23 (0, 0)) ∧ w.heap.size ≤ p.1) ∧ (l.map Prod.fst).Nodup
theorem Bs.nil (w : World) : Bs w [] w := ⟨Below.refl _ _, fun _ h => (by cases h), List.nodup_nil⟩
theorem Bs.step {w w' w'' : World} {l : List (Nat × Int × Int)} (h : Bs w l w') (hb : Below w'.heap.size w' w'') : Bs w l w'' :=
  ⟨h.1.trans (hb.mono h.1.size), fun p hp => ⟨blk_below (h.2.1 p hp).1 hb, (h.2.1 p hp).2⟩, h.2.2⟩
theorem Bs.box {w w' : World} {l : List (Nat × Int × Int)} (h : Bs w l w') (m e : Int) : Bs w ((w'.heap.size, m, e) :: l) (w'.alloc (.cells #[.int .i64 m, .int .i64 e] 23)) := by
  refine ⟨h.1.alloc h.1.size _, fun p hp => ?_, ?_⟩
  · rcases List.mem_cons.1 hp with rfl | hp
    · exact ⟨blk_new _ _, h.1.size⟩
    · exact ⟨blk_alloc (h.2.1 p hp).1 _, (h.2.1 p hp).2⟩
  · rw [List.map_cons, List.nodup_cons]
    refine ⟨fun hm => ?_, h.2.2⟩
    obtain ⟨p, hp, he⟩ := List.mem_map.1 hm
    have := blk_lt (h.2.1 p hp).1
    omega
theorem Bs.put {w w' : World} (l1 l2 : List (Nat × Int × Int)) (b : Nat) (m0 e0 : Int) (h : Bs w (l1 ++ (b, m0, e0) :: l2) w') (m e : Int) :
    Bs w (l1 ++ (b, m, e) :: l2) ((w'.setCell ⟨b, 0, none⟩ (.int .i64 m)).setCell ⟨b, 1, none⟩ (.int .i64 e)) := by
  have hb := h.2.1 (b, m0, e0) (by simp)
  have hn := h.2.2
  rw [List.map_append, List.map_cons] at hn
  have far : ∀ p, p ∈ l1 ∨ p ∈ l2 → p.1 ≠ b := by
    intro p hp he
    rw [List.nodup_append] at hn
    rcases hp with hp | hp
    · exact hn.2.2 p.1 (List.mem_map_of_mem hp) b (by simp) he
    · have hm := List.mem_map_of_mem (f := Prod.fst) hp
      rw [he] at hm
      exact (List.nodup_cons.1 hn.2.1).1 hm
  refine ⟨(h.1.setCell hb.2 _).setCell hb.2 _, fun p hp => ?_, by rw [List.map_append, List.map_cons]; exact hn⟩
  by_cases hpb : p ∈ l1 ∨ p ∈ l2
  · have hf := far p hpb
    have h0 := h.2.1 p (by rcases hpb with h | h <;> simp [h])
    exact ⟨(heap_setCell_other _ _ _ _ hf).trans ((heap_setCell_other _ _ _ _ hf).trans h0.1), h0.2⟩
  · have he : p = (b, m, e) := by
      rcases List.mem_append.1 hp with hp | hp
      · exact absurd (.inl hp) hpb
      · rcases List.mem_cons.1 hp with hp | hp
        · exact hp
        · exact absurd (.inr hp) hpb
    subst he
    exact ⟨heap_setCell_same (w'.setCell ⟨b, 0, none⟩ (.int .i64 m)) b 1 _ _ (.int .i64 e) (heap_setCell_same w' b 0 _ _ (.int .i64 m) hb.1), hb.2⟩
/-- What the walk asks of each block. -/
def BsAll (w : World) : List (Nat × Int × Int) → Prop
  | [] => True
  | p :: l => (w.cell? ⟨p.1, 0, none⟩ = some (.int .i64 p.2.1) ∧ w.cell? ⟨p.1, 1, none⟩ = some (.int .i64 p.2.2) ∧ w.frozen? ⟨p.1, 0, none⟩ = false ∧ w.frozen? ⟨p.1, 1, none⟩ = false ∧ p.1 < w.heap.size) ∧ BsAll w l
theorem bs_all {w : World} : ∀ (l : List (Nat × Int × Int)), (∀ p, p ∈ l → w.heap[p.1]? = some (.cells #[.int .i64 p.2.1, .int .i64 p.2.2] 23 (0, 0))) → BsAll w l
  | [], _ => trivial
  | p :: l, h => ⟨⟨(blk_cell (h p (by simp)) 0).trans rfl, (blk_cell (h p (by simp)) 1).trans rfl, blk_frozen (h p (by simp)) 0, blk_frozen (h p (by simp)) 1, blk_lt (h p (by simp))⟩, bs_all l (fun q hq => h q (by simp [hq]))⟩
theorem Bs.all {w w' : World} {l : List (Nat × Int × Int)} (h : Bs w l w') : BsAll w' l := bs_all l (fun p hp => (h.2.1 p hp).1)
theorem sqrtN_c (x0 x1 : Int) (hv : real_Valid.f x0 x1 = some true) (h0 : x0 < 0) (w : World) :
    Calls Tryz.prog 43 #[.agg #[.int .i64 x0, .int .i64 x1]] w fun e w' => e = .returned (.tuple #[.agg #[.int .i64 0, .int .i64 0], .int .i64 5]) ∧ Below w.heap.size w w' := by
  have HV := Lib.hid hv
  clear hv
  go_enter Tryz.func43, Tryz.ntmps43
  go_wp2_with fail
  refine (real_Valid.calls x0 x1 true _ HV.out).mono ?_
  rintro _ w1 ⟨rfl, hb⟩
  have kx := blk_below (blk_alloc (new_at w (.cells #[.int .i64 x0, .int .i64 x1] 23) w.heap.size rfl) (.cells #[.int .i64 0, .int .i64 0] 23)) hb
  have kz := blk_below (new_at (w.alloc (.cells #[.int .i64 x0, .int .i64 x1] 23)) (.cells #[.int .i64 0, .int .i64 0] 23) (w.heap.size + 1) (by simp only [World.size_alloc])) hb
  have hB : Below w.heap.size w w1 := ((((Below.refl _ w).alloc (Nat.le_refl _) _).alloc (by simp only [World.size_alloc]; omega) _)).trans (hb.mono (by simp only [World.size_alloc]; omega))
  have c0 : w1.cell? ⟨w.heap.size, 0, none⟩ = some (.int .i64 x0) := (blk_cell kx 0).trans rfl
  have c1 : w1.cell? ⟨w.heap.size, 1, none⟩ = some (.int .i64 x1) := (blk_cell kx 1).trans rfl
  have lx := blk_lt kx
  have z0 : w1.cell? ⟨w.heap.size + 1, 0, none⟩ = some (.int .i64 0) := (blk_cell kz 0).trans rfl
  have z1 : w1.cell? ⟨w.heap.size + 1, 1, none⟩ = some (.int .i64 0) := (blk_cell kz 1).trans rfl
  have g0 := blk_frozen kz 0
  have g1 := blk_frozen kz 1
  have lz := blk_lt kz
  clear hb
  go_wp2
  have fz := heap_setCell_same (w1.setCell ⟨w.heap.size + 1, 0, none⟩ (.int .i64 0)) (w.heap.size + 1) 1 _ _ (.int .i64 0) (heap_setCell_same w1 (w.heap.size + 1) 0 _ _ (.int .i64 0) kz)
  refine bodyPost_ret (results_ct rfl _ _ (w.heap.size + 1) 23 #[.int .i64 0, .int .i64 0] (0, 0) _ rfl fz Tryz.underlying23 rfl (by kernel_rfl)) rfl ?_
  exact ⟨rfl, (hB.setCell (by simp only; omega) _).setCell (by simp only; omega) _⟩
end Go.Proofs.YteigbokklclmbaaGreatDoor.Z
end
section
namespace Go.Proofs.YteigbokklclmbaaGreatDoor.M
open Go Go.RowKit Go.Proofs.YteigbokklclmbaaGreatDoor.Given Go.Proofs.YteigbokklclmbaaGreatDoorW.PrintWords Go.Proofs.YteigbokklclmbaaGreatDoorW.PrintLast Go.Proofs.YteigbokklclmbaaGreatDoorW.PrintMore Go.Proofs.YteigbokklclmbaaGreatDoor.Z Go.Proofs.YteigbokklclmbaaGreatDoor.Z.Y Go.Proofs.YteigbokklclmbaaGreatDoor.Z.Y.V Go.Proofs.YteigbokklclmbaaGreatDoor.Z.Y.Q
theorem vv_nat {x0 x1 : Int} (h0 : 0 ≤ x0) : vv x0 x1 = ((x0.natAbs * 2 ^ (x1 + 150).toNat : Nat) : Int) := by
  unfold vv
  rw [Int.natCast_mul, Int.natCast_pow, show ((x0.natAbs : Nat) : Int) = x0 by omega]; rfl
theorem sqrt_ev {x0 x1 : Int} (wx : I64 x0) (hx : VR x0 x1) (h0 : 0 ≤ x0) : ∃ M R s a I, SqR (vv x0 x1) M R s a I ∧ ∀ w : World, Calls Tryz.prog 43 #[.agg #[.int .i64 x0, .int .i64 x1]] w fun e w' => e = .returned (.tuple #[.agg #[.int .i64 (res3 false I).1, .int .i64 (res3 false I).2.1], .int .i64 (res3 false I).2.2]) ∧ Below w.heap.size w w' := by
  obtain ⟨b1, b2, b3⟩ := VR.rc wx hx
  obtain ⟨m, e, hm, he1, he2, hodd, hval⟩ : ∃ (m : Nat) (e : Int), m < 33554432 ∧ -150 ≤ e ∧ e ≤ 150 ∧ ((Int.tmod x1 2 = 0 ∧ (m : Int) = x0 ∧ e = x1) ∨ (¬ Int.tmod x1 2 = 0 ∧ (m : Int) = 2 * x0 ∧ e = x1 - 1)) ∧ (∃ h : Int, e = 2 * h) ∧ x0.natAbs * 2 ^ (x1 + 150).toNat = m * 2 ^ (e + 150).toNat := by
    have ht : Int.tmod x1 2 = 0 ↔ x1 % 2 = 0 := by
      rw [Int.tmod_eq_emod]; split <;> omega
    by_cases h : x1 % 2 = 0
    · exact ⟨x0.natAbs, x1, by omega, b2, b3, .inl ⟨ht.2 h, by omega, rfl⟩, ⟨x1 / 2, by omega⟩, rfl⟩
    · refine ⟨2 * x0.natAbs, x1 - 1, by omega, by omega, by omega, .inr ⟨fun h' => h (ht.1 h'), by omega, rfl⟩, ⟨x1 / 2, by omega⟩, ?_⟩
      rw [show (x1 + 150).toNat = (x1 - 1 + 150).toNat + 1 by omega, Nat.pow_succ]; ac_rfl
  obtain ⟨⟨h, hh⟩, hval⟩ := hval
  obtain ⟨M, j, hj, hM, hn, hval2⟩ : ∃ (M j : Nat), j ≤ 39 ∧ (M = 0 ∨ (2 ^ 58 ≤ M ∧ M < 2 ^ 60)) ∧ normF 40 (m : Int) e = some ((M : Int), e - 2 * j) ∧ M = m * 4 ^ j ∧ (M = 0 ∨ j ≤ 29) := by
    rcases Nat.eq_zero_or_pos m with h | h
    · exact ⟨0, 0, by omega, .inl rfl, by rw [h]; exact (normF_zero 39 e).trans (by simp), by rw [h], .inl rfl⟩
    · obtain ⟨j, h1, h2, h3, h4⟩ := normF_ok 39 m e h (by omega) (Nat.le_trans (by decide) (Nat.mul_le_mul_right (4 ^ 39) h))
      refine ⟨m * 4 ^ j, j, h1, .inr ⟨h3, h4⟩, h2, rfl, .inr ?_⟩
      rcases Nat.lt_or_ge 29 j with h' | h'
      · have : 4 ^ 30 ≤ 4 ^ j := Nat.pow_le_pow_right (by decide) h'
        have := Nat.mul_le_mul h this
        omega
      · exact h'
  obtain ⟨hMm, hj2⟩ := hval2
  obtain ⟨R, hbR, hR0, hR1, hR2⟩ := bitF_ok (M : Int) 31 40 0 (by omega) (by omega) (by omega) (by
    have : ((0 : Int) + 2 * 2 ^ 31) * (0 + 2 * 2 ^ 31) = 18446744073709551616 := by decide
    omega)
  obtain ⟨r, rfl⟩ : ∃ r : Nat, R = (r : Int) := ⟨R.toNat, by omega⟩
  have hr1 : r * r ≤ M := by have := hR1; rw [← Int.natCast_mul] at this; omega
  have hr2 : M < (r + 1) * (r + 1) := by
    have := hR2; rw [show ((r : Int) + 1) = ((r + 1 : Nat) : Int) by omega, ← Int.natCast_mul] at this; omega
  have hrb : r < 2 ^ 30 := by
    rcases Nat.lt_or_ge r (2 ^ 30) with h | h
    · exact h
    · have : 2 ^ 30 * 2 ^ 30 ≤ r * r := Nat.mul_le_mul h h
      omega
  obtain ⟨s, hs⟩ : ∃ s : Nat, (r * r = M ∧ s = 0) ∨ (¬ r * r = M ∧ s = 1) := by
    by_cases h : r * r = M
    · exact ⟨0, .inl ⟨h, rfl⟩⟩
    · exact ⟨1, .inr ⟨h, rfl⟩⟩
  have hsI : ((r : Int) * r = M ∧ (s : Int) = 0) ∨ (¬ (r : Int) * r = M ∧ (s : Int) = 1) := by
    rcases hs with ⟨h1, h2⟩ | ⟨h1, h2⟩
    · left; rw [← Int.natCast_mul]; omega
    · right; rw [← Int.natCast_mul]; omega
  obtain ⟨E2, hE2⟩ : ∃ E2, E2 = h - j := ⟨_, rfl⟩
  have hdiv : Int.tdiv (e - 2 * (j : Int)) 2 = E2 := by
    rw [show e - 2 * (j : Int) = 2 * E2 by omega]; exact Int.mul_tdiv_cancel_left _ (by decide)
  have hlow : -140 ≤ E2 - 1 ∧ E2 - 1 ≤ 100 ∨ M = 0 := by
    rcases hj2 with h | h
    · exact .inr h
    · left; omega
  have hlow2 : -140 ≤ E2 - 1 ∧ E2 - 1 ≤ 100 := by omega
  have hwr : wrap64 (wrap64 (Int.tdiv (e - 2 * (j : Int)) 2) - 1) = E2 - 1 := by
    rw [hdiv, w64 E2 (by omega) (by omega), w64 _ (by omega) (by omega)]
  have hbl : bl (2 * r + s) ≤ 10000 := Nat.le_trans (bl_le_iff.2 (show 2 * r + s < 2 ^ 40 by rcases hs with ⟨_, h⟩ | ⟨_, h⟩ <;> omega)) (by decide)
  obtain ⟨I, hRd, hEr⟩ := rounded_one (2 * r + s) (E2 - 1) hbl (by omega) (by omega)
  have hEn := natOf_ev (2 * r + s) (by rcases hs with ⟨_, h⟩ | ⟨_, h⟩ <;> omega)
  have hca := caught_is false I
  have hsg : sgnr false I = rres I := rfl
  rw [hsg] at hca
  obtain ⟨k1, hk1⟩ := hEr
  obtain ⟨k2, hk2⟩ := hEn
  refine ⟨M, r, s, (E2 - 1 + 150).toNat, I, ⟨?_, hM, ⟨hr1, hr2⟩, hs, hRd⟩, fun w => ?_⟩
  · rw [vv_nat h0, hval, hMm]
    have : (4 : Nat) = 2 ^ 2 := rfl
    show ((_ : Nat) : Int) * ((2 ^ 150 : Nat) : Int) = _
    rw [← Int.natCast_mul]
    congr 1
    have e4 : ∀ n : Nat, 4 ^ n = 2 ^ (2 * n) := fun n => by rw [Nat.pow_mul]
    rw [e4, e4, Nat.mul_assoc, ← Nat.pow_add]
    calc m * 2 ^ ((e + 150).toNat + 150) = m * 2 ^ (2 + 2 * j + 2 * (E2 - 1 + 150).toNat) := by congr 2; omega
      _ = 4 * (m * 2 ^ (2 * j)) * 2 ^ (2 * (E2 - 1 + 150).toNat) := by rw [Nat.pow_add, Nat.pow_add]; ac_rfl
  · exact sqrt_c (k1 + k2) x0 x1 m e M (e - 2 * j) r s (rres I).1 (rres I).2 _ _ _ (D (2 * r + s)) [1] rfl hsI (by have := hk2 (k1 + k2) (by omega); rw [← this]; congr 1) (by rw [hwr]; exact hk1 (k1 + k2) (by omega)) hca (Valid_ev hx) h0 (by omega) b2 b3 hodd ⟨by omega, by omega⟩ ⟨by omega, he2⟩ hn hbR w
end Go.Proofs.YteigbokklclmbaaGreatDoor.M
end
section
namespace Go.Proofs.YteigbokklclmbaaGreatDoor.Z.Y
open Go Go.RowKit Go.Proofs.YteigbokklclmbaaGreatDoor.Given Go.Proofs.YteigbokklclmbaaGreatDoorW.PrintWords Go.Proofs.YteigbokklclmbaaGreatDoorW.PrintLast Go.Proofs.YteigbokklclmbaaGreatDoorW.PrintMore Go.Proofs.YteigbokklclmbaaGreatDoor.Z.Y.Q
def SqrtIs (x0 x1 r0 r1 r2 : Int) : Prop := ∀ w : World, Calls Tryz.prog 43 #[.agg #[.int .i64 x0, .int .i64 x1]] w fun e w' => e = .returned (.tuple #[.agg #[.int .i64 r0, .int .i64 r1], .int .i64 r2]) ∧ Below w.heap.size w w'
end Go.Proofs.YteigbokklclmbaaGreatDoor.Z.Y
end
section
namespace Go.Proofs.YteigbokklclmbaaGreatDoor.Z
open Go Go.RowKit Go.Proofs.YteigbokklclmbaaGreatDoor.Given Go.Proofs.YteigbokklclmbaaGreatDoorW.PrintWords Go.Proofs.YteigbokklclmbaaGreatDoorW.PrintLast Go.Proofs.YteigbokklclmbaaGreatDoorW.PrintMore Go.Proofs.YteigbokklclmbaaGreatDoor.Z.Y.Q Go.Proofs.YteigbokklclmbaaGreatDoor.Z.Y.V
theorem Bs.drew {w w' : World} {l : List (Nat × Int × Int)} (h : Bs w l w') : Bs w l w'.drew := h.step (below_drew1 (Below.refl _ _))
theorem Bs.ne {w w' : World} {l : List (Nat × Int × Int)} (h : Bs w l w') {i j : Nat} (hij : i < j) (hj : j < l.length) : (l[i]'(by omega)).1 ≠ l[j].1 := by
  have hp := h.2.2
  rw [List.Nodup, List.pairwise_map] at hp
  exact List.pairwise_iff_getElem.1 hp i j (by omega) hj hij
end Go.Proofs.YteigbokklclmbaaGreatDoor.Z
namespace Go.Proofs.YteigbokklclmbaaGreatDoor.Z.Y
open Go Go.RowKit Go.Proofs.YteigbokklclmbaaGreatDoor.Given Go.Proofs.YteigbokklclmbaaGreatDoorW.PrintWords Go.Proofs.YteigbokklclmbaaGreatDoorW.PrintLast Go.Proofs.YteigbokklclmbaaGreatDoorW.PrintMore Go.Proofs.YteigbokklclmbaaGreatDoor.Z.Y.Q Go.Proofs.YteigbokklclmbaaGreatDoor.Z.Y.V
end Go.Proofs.YteigbokklclmbaaGreatDoor.Z.Y
end
section
namespace Go.Proofs.YteigbokklclmbaaGreatDoor.Z.Y
open Go Go.RowKit Go.Proofs.YteigbokklclmbaaGreatDoor.Given Go.Proofs.YteigbokklclmbaaGreatDoorW.PrintWords Go.Proofs.YteigbokklclmbaaGreatDoorW.PrintLast Go.Proofs.YteigbokklclmbaaGreatDoorW.PrintMore Go.Proofs.YteigbokklclmbaaGreatDoor.Z.Y.Q Go.Proofs.YteigbokklclmbaaGreatDoor.Z.Y.V
def prodT9 : Bool × List (List Nat × List Nat) := (true, [([], []), ([], []), ([], []), ([2], [2]), ([0, 1, 3, 3], [0, 1, 3]), ([4], [4])])
def prodB9 : List Nat := [0, 0, 0, 4, 15, 31]
theorem prodTab9 : rtab .any (opsOf Tryz.f10 9) = prodT9 := by kernel_rfl
theorem prodBits9 : waitsOk prodT9.2 prodB9 = true := by kernel_rfl
def prodT13 : Bool × List (List Nat × List Nat) := (true, [([], []), ([], []), ([], []), ([], []), ([2, 3], [2, 3]), ([0, 1, 4, 4], [0, 1, 4]), ([5], [5])])
def prodB13 : List Nat := [0, 0, 0, 0, 12, 31, 63]
theorem prodTab13 : rtab .any (opsOf Tryz.f10 13) = prodT13 := by kernel_rfl
theorem prodBits13 : waitsOk prodT13.2 prodB13 = true := by kernel_rfl
def prodT17 : Bool × List (List Nat × List Nat) := (true, [([], []), ([0, 0], [0]), ([1], [1]), ([1], [1]), ([1], [1]), ([1], [1]), ([4, 5, 1, 1], [1, 4, 5]), ([2, 3, 6, 6, 1], [1, 2, 3, 6]), ([1, 7], [1, 7]), ([8, 7, 0, 1, 2, 3, 4, 5, 6, 7, 8], [8])])
def prodB17 : List Nat := [0, 1, 3, 3, 3, 3, 51, 127, 255, 511]
theorem prodTab17 : rtab .any (opsOf Tryz.f10 17) = prodT17 := by kernel_rfl
theorem prodBits17 : waitsOk prodT17.2 prodB17 = true := by kernel_rfl
theorem bsBelP {w w' : World} {l : List (Nat × Int × Int)} (h : Bs w l w') : Below w.heap.size w w' := h.1
theorem prod_c (k : Nat) (x0 x1 y0 y1 a0 a1 a2 b0 b1 b2 c0 c1 c2 p0 p1 q0 q1 : Int) (bv by_ p2 q2 : Bool) (ha : real_Mul.f k x0 x1 y0 y1 = some (a0, a1, a2)) (hb : real_Div.f k x0 x1 y0 y1 = some (b0, b1, b2)) (hc : SqrtIs x0 x1 c0 c1 c2) (hrv : manorboyref02_Valid.f k x0 x1 = some bv) (hinv : bv = false → a0 = 0 ∧ a1 = 0 ∧ a2 = 1 ∧ b0 = 0 ∧ b1 = 0 ∧ b2 = 1 ∧ c0 = 0 ∧ c1 = 0 ∧ c2 = 1) (hneg : bv = true → x0 < 0 → c0 = 0 ∧ c1 = 0 ∧ c2 = 5) (hpos : bv = true → ¬ x0 < 0 → c2 = 0 ∧ manorboyref02_Sqrt.f k x0 x1 = some (c0, c1)) (hry : manorboyref02_Valid.f k y0 y1 = some by_) (hyn : bv = true → by_ = false → a0 = 0 ∧ a1 = 0 ∧ a2 = 1 ∧ b0 = 0 ∧ b1 = 0 ∧ b2 = 1) (hmu : bv = true → by_ = true → manorboyref02_Mul.f k x0 x1 y0 y1 = some (p0, p1, p2) ∧ manorboylaw02_rounded.f a0 a1 a2 p0 p1 p2 = some true) (hy0 : bv = true → by_ = true → y0 = 0 → b0 = 0 ∧ b1 = 0 ∧ b2 = 5) (hdi : bv = true → by_ = true → ¬ y0 = 0 → manorboyref02_Div.f k x0 x1 y0 y1 = some (q0, q1, q2) ∧ manorboylaw02_rounded.f b0 b1 b2 q0 q1 q2 = some true) (hs : manorboylaw02_sanity.f k = some true) (w : World) (ht : Table w) :
    Calls Tryz.prog 10 #[.agg #[.int .i64 x0, .int .i64 x1], .agg #[.int .i64 y0, .int .i64 y1]] w fun e w' => e = .returned (.bool true) ∧ Below w.heap.size w w' := by
  have HT := Aside0.mk (Lib.tabBelow_of_tabIs ht)
  have HA := Lib.hid ha
  have HB := Lib.hid hb
  have HC := Lib.hid hc
  have HRV := Lib.hid hrv
  have HINV := Lib.hid hinv
  have HNEG := Lib.hid hneg
  have HPOS := Lib.hid hpos
  have HRY := Lib.hid hry
  have HYN := Lib.hid hyn
  have HMU := Lib.hid hmu
  have HY0 := Lib.hid hy0
  have HDI := Lib.hid hdi
  have HS := Lib.hid hs
  clear ht ha hb hc hrv hinv hneg hpos hry hyn hmu hy0 hdi hs
  have hu23 := Tryz.underlying23
  go_enter Tryz.func10, Tryz.ntmps10
  have H := Lib.hid (Bs.nil w)
  go_wp2_with fail
  refine (real_Mul.calls k x0 x1 y0 y1 a0 a1 a2 _ HA.out).mono ?_
  rintro _ w1 ⟨rfl, hb⟩
  replace H := Lib.hid (show Bs w [((w.alloc (.cells #[.int .i64 x0, .int .i64 x1] 23)).heap.size, y0, y1), (w.heap.size, x0, x1)] w1 from (((H.out).box (x0) (x1)).box (y0) (y1)).step hb)
  clear hb
  obtain ⟨⟨fy_0, fy_1, fy_2, fy_3, fy_4⟩, ⟨fx_0, fx_1, fx_2, fx_3, fx_4⟩, -⟩ := H.out.all
  simp only [World.size_alloc] at H
  clear fy_0 fy_1 fy_2 fy_3 fy_4 fx_0 fx_1 fx_2 fx_3 fx_4
  obtain ⟨⟨fy_0, fy_1, fy_2, fy_3, fy_4⟩, ⟨fx_0, fx_1, fx_2, fx_3, fx_4⟩, -⟩ := H.out.all
  go_wp2_with fail
  refine (real_Div.calls k x0 x1 y0 y1 b0 b1 b2 _ HB.out).mono ?_
  rintro _ w2 ⟨rfl, hb⟩
  replace H := Lib.hid (show Bs w [(w1.heap.size, a0, a1), ((w.heap.size + 1), y0, y1), (w.heap.size, x0, x1)] w2 from ((H.out).box (a0) (a1)).step hb)
  clear fy_0 fy_1 fy_2 fy_3 fy_4 fx_0 fx_1 fx_2 fx_3 fx_4
  clear hb
  obtain ⟨⟨fa_0, fa_1, fa_2, fa_3, fa_4⟩, ⟨fy_0, fy_1, fy_2, fy_3, fy_4⟩, ⟨fx_0, fx_1, fx_2, fx_3, fx_4⟩, -⟩ := H.out.all
  go_wp2_with fail
  refine (HC.out _).mono ?_
  rintro _ w3 ⟨rfl, hb⟩
  replace H := Lib.hid (show Bs w [(w2.heap.size, b0, b1), (w1.heap.size, a0, a1), ((w.heap.size + 1), y0, y1), (w.heap.size, x0, x1)] w3 from ((H.out).box (b0) (b1)).step hb)
  clear fa_0 fa_1 fa_2 fa_3 fa_4 fy_0 fy_1 fy_2 fy_3 fy_4 fx_0 fx_1 fx_2 fx_3 fx_4
  clear hb
  obtain ⟨⟨fb_0, fb_1, fb_2, fb_3, fb_4⟩, ⟨fa_0, fa_1, fa_2, fa_3, fa_4⟩, ⟨fy_0, fy_1, fy_2, fy_3, fy_4⟩, ⟨fx_0, fx_1, fx_2, fx_3, fx_4⟩, -⟩ := H.out.all
  go_wp2_with fail
  refine (manorboyref02_Valid.calls k x0 x1 bv _ HRV.out).mono ?_
  rintro _ w4 ⟨rfl, hb⟩
  replace H := Lib.hid (show Bs w [(w3.heap.size, c0, c1), (w2.heap.size, b0, b1), (w1.heap.size, a0, a1), ((w.heap.size + 1), y0, y1), (w.heap.size, x0, x1)] w4 from ((H.out).box (c0) (c1)).step hb)
  clear fb_0 fb_1 fb_2 fb_3 fb_4 fa_0 fa_1 fa_2 fa_3 fa_4 fy_0 fy_1 fy_2 fy_3 fy_4 fx_0 fx_1 fx_2 fx_3 fx_4
  clear hb
  obtain ⟨⟨fc_0, fc_1, fc_2, fc_3, fc_4⟩, ⟨fb_0, fb_1, fb_2, fb_3, fb_4⟩, ⟨fa_0, fa_1, fa_2, fa_3, fa_4⟩, ⟨fy_0, fy_1, fy_2, fy_3, fy_4⟩, ⟨fx_0, fx_1, fx_2, fx_3, fx_4⟩, -⟩ := H.out.all
  rcases hb : bv with _ | _
  · obtain ⟨rfl, rfl, rfl, rfl, rfl, rfl, rfl, rfl, rfl⟩ := HINV.out hb
    go_wp2_with fail
    refine (manorboylaw02_sanity.calls k true _ HS.out rfl (tabAt HT.out H.out.1)).mono ?_
    rintro _ wz ⟨rfl, hb'⟩
    replace H := Lib.hid (H.out.step hb')
    clear fc_0 fc_1 fc_2 fc_3 fc_4 fb_0 fb_1 fb_2 fb_3 fb_4 fa_0 fa_1 fa_2 fa_3 fa_4 fy_0 fy_1 fy_2 fy_3 fy_4 fx_0 fx_1 fx_2 fx_3 fx_4
    clear hb'
    obtain ⟨⟨fc_0, fc_1, fc_2, fc_3, fc_4⟩, ⟨fb_0, fb_1, fb_2, fb_3, fb_4⟩, ⟨fa_0, fa_1, fa_2, fa_3, fa_4⟩, -, -, -⟩ := H.out.all
    have hB := H.out.1
    go_wp2
    go_ret
    exact ⟨rfl, hB⟩
  · skip
    go_upto_region 6 with fail
    go_upto_if 61 with fail
    clear fc_0 fc_1 fc_2 fc_3 fc_4 fb_0 fb_1 fb_2 fb_3 fb_4 fa_0 fa_1 fa_2 fa_3 fa_4 fy_0 fy_1 fy_2 fy_3 fy_4 fx_0 fx_1 fx_2 fx_3 fx_4
    go_cut [] (fun we => Aside0 (Bs w [(w3.heap.size, c0, c1), (w2.heap.size, b0, b1), (w1.heap.size, a0, a1), ((w.heap.size + 1), y0, y1), (w.heap.size, x0, x1)] we))
    case first => as_aux_lemma =>
      by_cases hx0 : x0 < 0
      · have hxb : decide (x0 < 0) = true := decide_eq_true hx0
        obtain ⟨rfl, rfl, rfl⟩ := HNEG.out hb hx0
        (first | rw [hxb] | skip)
        obtain ⟨⟨fc_0, fc_1, fc_2, fc_3, fc_4⟩, -, -, -, -, -⟩ := H.out.all
        go_wp2
        go_meet
        case rel => exact ⟨H.out⟩
      · have hxb : decide (x0 < 0) = false := decide_eq_false hx0
        obtain ⟨rfl, hra⟩ := HPOS.out hb (by omega)
        have HRS := Lib.hid hra
        clear hra
        have HIC := Lib.hid (show manorboylaw02_is.f c0 c1 0 c0 c1 = some true by simp [manorboylaw02_is.f])
        (first | rw [hxb] | skip)
        go_wp2_with fail
        replace H := Lib.hid H.out.drew
        refine start_ (n := 6) (S := fun w' => BsAll w' [(w3.heap.size, c0, c1), (w2.heap.size, b0, b1), (w1.heap.size, a0, a1), ((w.heap.size + 1), y0, y1), (w.heap.size, x0, x1)]) (ds := []) #[ff,ff,ff,ff,ff,ff] (by kernel_rfl) rfl rfl H.out.all (fun hHeld => ?_); refine with_tabW prodTab9 prodBits9 (fun HT_ HW_ => ?_)
        generalize World.drew _ = wd at H hHeld ⊢
        refine pur 1 (some 70) #[ff,tt,ff,ff,ff,ff] ?_
        refine take_ (i := 0) (N := some 69) (v := ?_) (a' := ?_) #[true, true, false, false, false, false] rfl rfl (take_ofW HT_.out HW_.out (by kernel_rfl)) (fun _ _ _ h => h) (Or.inl ⟨by rfl, ?_⟩) hHeld ?_ ?_
        rotate_left
        · intro w' hS
          obtain ⟨s0, s1, -⟩ := hS.1
          clear hS
          go_simp
          with_reducible rfl
        rotate_left
        · simp only [Act.put, List.setIfInBounds_toArray, List.set_cons_zero, List.set_cons_succ, i64_w, i32_w]
          rfl
        refine take_ (i := 2) (N := some 71) (v := ?_) (a' := ?_) #[true, true, true, false, false, false] rfl rfl (take_ofW HT_.out HW_.out (by kernel_rfl)) (fun _ _ _ h => h) (Or.inl ⟨by rfl, ?_⟩) hHeld ?_ ?_
        rotate_left
        · intro w' hS
          obtain ⟨s0, s1, -⟩ := hS.2.2.2.2.1
          clear hS
          go_simp
          with_reducible rfl
        rotate_left
        · simp only [Act.put, List.setIfInBounds_toArray, List.set_cons_zero, List.set_cons_succ, i64_w, i32_w]
          rfl
        refine on1 3 (some 72) #[tt,tt,tt,tt,ff,ff] (fun K hK => ?_)
        refine gsz Tryz.func44 #[.agg #[.int .i64 x0, .int .i64 x1]] ?_
        with_reducible refine (manorboyref02_Sqrt.calls k x0 x1 c0 c1 _ HRS.out).mono ?_
        rintro _ w' ⟨rfl, hb⟩
        refine ⟨_, rfl, ?_⟩
        replace H := Lib.hid (H.out.step hb)
        clear hb
        refine hK.out _ _ H.out.all (fun hHeld => ?_)
        clear hK K
        refine nrm (some 72) ?_
        refine on1 4 (some 73) #[tt,tt,tt,tt,tt,ff] (fun K hK => ?_)
        refine gsz Tryz.func39 #[.agg #[.int .i64 c0, .int .i64 c1], .int .i64 0, .agg #[.int .i64 c0, .int .i64 c1]] ?_
        with_reducible refine (manorboylaw02_is.calls c0 c1 0 c0 c1 true _ HIC.out).mono ?_
        rintro _ w' ⟨rfl, hb⟩
        refine ⟨_, rfl, ?_⟩
        replace H := Lib.hid (H.out.step hb)
        clear hb
        refine hK.out _ _ H.out.all (fun hHeld => ?_)
        clear hK K
        refine nrm (some 73) ?_
        refine pur 5 (some 74) #[tt,tt,tt,tt,tt,tt] ?_
        refine done_ (done_of HT_.out (by kernel_rfl)) ?_
        try go_wp2
        go_meet
        case rel => exact ⟨H.out⟩
    case rest => as_aux_lemma =>
      replace H := Lib.hid hcut.out
      clear hcut
      obtain ⟨⟨fc_0, fc_1, fc_2, fc_3, fc_4⟩, ⟨fb_0, fb_1, fb_2, fb_3, fb_4⟩, ⟨fa_0, fa_1, fa_2, fa_3, fa_4⟩, ⟨fy_0, fy_1, fy_2, fy_3, fy_4⟩, ⟨fx_0, fx_1, fx_2, fx_3, fx_4⟩, -⟩ := H.out.all
      go_wp2_with fail
      refine (manorboyref02_Valid.calls k y0 y1 by_ _ HRY.out).mono ?_
      rintro _ w5 ⟨rfl, hb⟩
      replace H := Lib.hid (show Bs w [(w3.heap.size, c0, c1), (w2.heap.size, b0, b1), (w1.heap.size, a0, a1), ((w.heap.size + 1), y0, y1), (w.heap.size, x0, x1)] w5 from (H.out).step hb)
      clear fc_0 fc_1 fc_2 fc_3 fc_4 fb_0 fb_1 fb_2 fb_3 fb_4 fa_0 fa_1 fa_2 fa_3 fa_4 fy_0 fy_1 fy_2 fy_3 fy_4 fx_0 fx_1 fx_2 fx_3 fx_4
      clear hb
      obtain ⟨⟨fc_0, fc_1, fc_2, fc_3, fc_4⟩, ⟨fb_0, fb_1, fb_2, fb_3, fb_4⟩, ⟨fa_0, fa_1, fa_2, fa_3, fa_4⟩, ⟨fy_0, fy_1, fy_2, fy_3, fy_4⟩, ⟨fx_0, fx_1, fx_2, fx_3, fx_4⟩, -⟩ := H.out.all
      rcases hy : by_ with _ | _
      · obtain ⟨rfl, rfl, rfl, rfl, rfl, rfl⟩ := HYN.out hb hy
        go_wp2_with fail
        refine (manorboylaw02_sanity.calls k true _ HS.out rfl (tabAt HT.out H.out.1)).mono ?_
        rintro _ wz ⟨rfl, hb'⟩
        replace H := Lib.hid (H.out.step hb')
        clear fc_0 fc_1 fc_2 fc_3 fc_4 fb_0 fb_1 fb_2 fb_3 fb_4 fa_0 fa_1 fa_2 fa_3 fa_4 fy_0 fy_1 fy_2 fy_3 fy_4 fx_0 fx_1 fx_2 fx_3 fx_4
        clear hb'
        obtain ⟨-, ⟨fb_0, fb_1, fb_2, fb_3, fb_4⟩, ⟨fa_0, fa_1, fa_2, fa_3, fa_4⟩, -, -, -⟩ := H.out.all
        have hB := H.out.1
        go_wp2
        go_ret
        exact ⟨rfl, hB⟩
      · obtain ⟨hm1, hm2⟩ := HMU.out hb hy
        have HM1 := Lib.hid hm1
        have HM2 := Lib.hid hm2
        clear hm1 hm2
        go_upto_region 13 with fail
        clear fc_0 fc_1 fc_2 fc_3 fc_4 fb_0 fb_1 fb_2 fb_3 fb_4 fa_0 fa_1 fa_2 fa_3 fa_4 fy_0 fy_1 fy_2 fy_3 fy_4 fx_0 fx_1 fx_2 fx_3 fx_4
        go_cut [103] (fun v103 wf => v103 = .bool false ∧ Aside0 (Bs w [(w3.heap.size, c0, c1), (w2.heap.size, b0, b1), (w1.heap.size, a0, a1), ((w.heap.size + 1), y0, y1), (w.heap.size, x0, x1)] wf))
        case first => as_aux_lemma =>
          replace H := Lib.hid H.out.drew
          refine start_ (n := 7) (S := fun w' => BsAll w' [(w3.heap.size, c0, c1), (w2.heap.size, b0, b1), (w1.heap.size, a0, a1), ((w.heap.size + 1), y0, y1), (w.heap.size, x0, x1)]) (ds := []) #[ff,ff,ff,ff,ff,ff,ff] (by kernel_rfl) rfl rfl H.out.all (fun hHeld => ?_); refine with_tabW prodTab13 prodBits13 (fun HT_ HW_ => ?_)
          generalize World.drew _ = wd at H hHeld ⊢
          refine pur 1 (some 98) #[ff,tt,ff,ff,ff,ff,ff] ?_
          refine take_ (i := 0) (N := some 97) (v := ?_) (a' := ?_) #[true, true, false, false, false, false, false] rfl rfl (take_ofW HT_.out HW_.out (by kernel_rfl)) (fun _ _ _ h => h) (Or.inl ⟨by rfl, ?_⟩) hHeld ?_ ?_
          rotate_left
          · intro w' hS
            obtain ⟨s0, s1, -⟩ := hS.2.2.1
            clear hS
            go_simp
            with_reducible rfl
          rotate_left
          · simp only [Act.put, List.setIfInBounds_toArray, List.set_cons_zero, List.set_cons_succ, i64_w, i32_w]
            rfl
          refine take_ (i := 2) (N := some 99) (v := ?_) (a' := ?_) #[true, true, true, false, false, false, false] rfl rfl (take_ofW HT_.out HW_.out (by kernel_rfl)) (fun _ _ _ h => h) (Or.inl ⟨by rfl, ?_⟩) hHeld ?_ ?_
          rotate_left
          · intro w' hS
            obtain ⟨s0, s1, -⟩ := hS.2.2.2.2.1
            clear hS
            go_simp
            with_reducible rfl
          rotate_left
          · simp only [Act.put, List.setIfInBounds_toArray, List.set_cons_zero, List.set_cons_succ, i64_w, i32_w]
            rfl
          refine take_ (i := 3) (N := some 100) (v := ?_) (a' := ?_) #[true, true, true, true, false, false, false] rfl rfl (take_ofW HT_.out HW_.out (by kernel_rfl)) (fun _ _ _ h => h) (Or.inl ⟨by rfl, ?_⟩) hHeld ?_ ?_
          rotate_left
          · intro w' hS
            obtain ⟨s0, s1, -⟩ := hS.2.2.2.1
            clear hS
            go_simp
            with_reducible rfl
          rotate_left
          · simp only [Act.put, List.setIfInBounds_toArray, List.set_cons_zero, List.set_cons_succ, i64_w, i32_w]
            rfl
          refine on1 4 (some 101) #[tt,tt,tt,tt,tt,ff,ff] (fun K hK => ?_)
          refine gsz Tryz.func45 #[.agg #[.int .i64 x0, .int .i64 x1], .agg #[.int .i64 y0, .int .i64 y1]] ?_
          with_reducible refine (manorboyref02_Mul.calls k x0 x1 y0 y1 p0 p1 p2 _ HM1.out).mono ?_
          rintro _ w' ⟨rfl, hb⟩
          refine ⟨_, rfl, ?_⟩
          replace H := Lib.hid (H.out.step hb)
          clear hb
          refine hK.out _ _ H.out.all (fun hHeld => ?_)
          clear hK K
          refine nrm (some 101) ?_
          refine on1 5 (some 102) #[tt,tt,tt,tt,tt,tt,ff] (fun K hK => ?_)
          refine gsz Tryz.func35 #[.agg #[.int .i64 a0, .int .i64 a1], .int .i64 a2, .agg #[.int .i64 p0, .int .i64 p1, .bool p2]] ?_
          with_reducible refine (manorboylaw02_rounded.calls a0 a1 a2 p0 p1 p2 true _ HM2.out).mono ?_
          rintro _ w' ⟨rfl, hb⟩
          refine ⟨_, rfl, ?_⟩
          replace H := Lib.hid (H.out.step hb)
          clear hb
          refine hK.out _ _ H.out.all (fun hHeld => ?_)
          clear hK K
          refine nrm (some 102) ?_
          refine pur 6 (some 103) #[tt,tt,tt,tt,tt,tt,tt] ?_
          refine done_ (done_of HT_.out (by kernel_rfl)) ?_
          try go_wp2
          go_meet
          case rel => exact ⟨by first | rfl | (simp [*]; done), ⟨H.out⟩⟩
        case rest => as_aux_lemma =>
          obtain ⟨rfl, HJ⟩ := hcut
          replace H := Lib.hid HJ.out
          clear HJ
          obtain ⟨-, ⟨fb_0, fb_1, fb_2, fb_3, fb_4⟩, -, ⟨fy_0, fy_1, fy_2, fy_3, fy_4⟩, -, -⟩ := H.out.all
          by_cases hy0 : y0 = 0
          · have hyb : (y0 == 0) = true := by simp [hy0]
            obtain ⟨rfl, rfl, rfl⟩ := HY0.out hb hy hy0
            go_wp2_with fail
            refine (manorboylaw02_sanity.calls k true _ HS.out rfl (tabAt HT.out H.out.1)).mono ?_
            rintro _ wz ⟨rfl, hb'⟩
            replace H := Lib.hid (H.out.step hb')
            clear fb_0 fb_1 fb_2 fb_3 fb_4 fy_0 fy_1 fy_2 fy_3 fy_4
            clear hb'
            obtain ⟨-, ⟨fb_0, fb_1, fb_2, fb_3, fb_4⟩, -, -, -, -⟩ := H.out.all
            have hB := H.out.1
            go_wp2
            go_ret
            exact ⟨rfl, hB⟩
          · have hyb : (y0 == 0) = false := by simp [hy0]
            obtain ⟨hd1, hd2⟩ := HDI.out hb hy hy0
            have HD1 := Lib.hid hd1
            have HD2 := Lib.hid hd2
            clear hd1 hd2
            go_upto_region 17 with fail
            clear fb_0 fb_1 fb_2 fb_3 fb_4 fy_0 fy_1 fy_2 fy_3 fy_4
            replace H := Lib.hid H.out.drew
            refine start_ (n := 10) (S := fun w' => BsAll w' [(w3.heap.size, c0, c1), (w2.heap.size, b0, b1), (w1.heap.size, a0, a1), ((w.heap.size + 1), y0, y1), (w.heap.size, x0, x1)]) (ds := []) #[ff,ff,ff,ff,ff,ff,ff,ff,ff,ff] (by kernel_rfl) rfl rfl H.out.all (fun hHeld => ?_); refine with_tabW prodTab17 prodBits17 (fun HT_ HW_ => ?_)
            generalize World.drew _ = wd at H hHeld ⊢
            refine on1 0 (some 117) #[tt,ff,ff,ff,ff,ff,ff,ff,ff,ff] (fun K hK => ?_)
            refine gsz Tryz.func19 #[] ?_
            with_reducible refine (manorboylaw02_sanity.calls k true _ HS.out rfl (tabAt HT.out (bsBelP H.out))).mono ?_
            rintro _ w' ⟨rfl, hb⟩
            refine ⟨_, rfl, ?_⟩
            replace H := Lib.hid (H.out.step hb)
            clear hb
            refine hK.out _ _ H.out.all (fun hHeld => ?_)
            clear hK K
            refine nrm (some 117) ?_
            refine pur 1 (some 118) #[tt,tt,ff,ff,ff,ff,ff,ff,ff,ff] ?_
            refine pur 3 (some 120) #[tt,tt,ff,tt,ff,ff,ff,ff,ff,ff] ?_
            refine take_ (i := 2) (N := some 119) (v := ?_) (a' := ?_) #[true, true, true, true, false, false, false, false, false, false] rfl rfl (take_ofW HT_.out HW_.out (by kernel_rfl)) (fun _ _ _ h => h) (Or.inl ⟨by rfl, ?_⟩) hHeld ?_ ?_
            rotate_left
            · intro w' hS
              obtain ⟨s0, s1, -⟩ := hS.2.1
              clear hS
              go_simp
              with_reducible rfl
            rotate_left
            · simp only [Act.put, List.setIfInBounds_toArray, List.set_cons_zero, List.set_cons_succ, i64_w, i32_w]
              rfl
            refine take_ (i := 4) (N := some 121) (v := ?_) (a' := ?_) #[true, true, true, true, true, false, false, false, false, false] rfl rfl (take_ofW HT_.out HW_.out (by kernel_rfl)) (fun _ _ _ h => h) (Or.inl ⟨by rfl, ?_⟩) hHeld ?_ ?_
            rotate_left
            · intro w' hS
              obtain ⟨s0, s1, -⟩ := hS.2.2.2.2.1
              clear hS
              go_simp
              with_reducible rfl
            rotate_left
            · simp only [Act.put, List.setIfInBounds_toArray, List.set_cons_zero, List.set_cons_succ, i64_w, i32_w]
              rfl
            refine take_ (i := 5) (N := some 122) (v := ?_) (a' := ?_) #[true, true, true, true, true, true, false, false, false, false] rfl rfl (take_ofW HT_.out HW_.out (by kernel_rfl)) (fun _ _ _ h => h) (Or.inl ⟨by rfl, ?_⟩) hHeld ?_ ?_
            rotate_left
            · intro w' hS
              obtain ⟨s0, s1, -⟩ := hS.2.2.2.1
              clear hS
              go_simp
              with_reducible rfl
            rotate_left
            · simp only [Act.put, List.setIfInBounds_toArray, List.set_cons_zero, List.set_cons_succ, i64_w, i32_w]
              rfl
            refine on1 6 (some 123) #[tt,tt,tt,tt,tt,tt,tt,ff,ff,ff] (fun K hK => ?_)
            refine gsz Tryz.func46 #[.agg #[.int .i64 x0, .int .i64 x1], .agg #[.int .i64 y0, .int .i64 y1]] ?_
            with_reducible refine (manorboyref02_Div.calls k x0 x1 y0 y1 q0 q1 q2 _ HD1.out).mono ?_
            rintro _ w' ⟨rfl, hb⟩
            refine ⟨_, rfl, ?_⟩
            replace H := Lib.hid (H.out.step hb)
            clear hb
            refine hK.out _ _ H.out.all (fun hHeld => ?_)
            clear hK K
            refine nrm (some 123) ?_
            refine on1 7 (some 124) #[tt,tt,tt,tt,tt,tt,tt,tt,ff,ff] (fun K hK => ?_)
            refine gsz Tryz.func35 #[.agg #[.int .i64 b0, .int .i64 b1], .int .i64 b2, .agg #[.int .i64 q0, .int .i64 q1, .bool q2]] ?_
            with_reducible refine (manorboylaw02_rounded.calls b0 b1 b2 q0 q1 q2 true _ HD2.out).mono ?_
            rintro _ w' ⟨rfl, hb⟩
            refine ⟨_, rfl, ?_⟩
            replace H := Lib.hid (H.out.step hb)
            clear hb
            refine hK.out _ _ H.out.all (fun hHeld => ?_)
            clear hK K
            refine nrm (some 124) ?_
            refine pur 8 (some 125) #[tt,tt,tt,tt,tt,tt,tt,tt,tt,ff] ?_
            refine pur 9 (some 4) #[tt,tt,tt,tt,tt,tt,tt,tt,tt,tt] ?_
            refine done_ (done_of HT_.out (by kernel_rfl)) ?_
            have hB := H.out.1
            try go_wp2
            go_ret
            exact ⟨rfl, hB⟩
end Go.Proofs.YteigbokklclmbaaGreatDoor.Z.Y
end
section
namespace Go.Proofs.YteigbokklclmbaaGreatDoor.M
open Go Go.RowKit Go.Proofs.YteigbokklclmbaaGreatDoor.Given Go.Proofs.YteigbokklclmbaaGreatDoorW.PrintWords Go.Proofs.YteigbokklclmbaaGreatDoorW.PrintLast Go.Proofs.YteigbokklclmbaaGreatDoorW.PrintMore Go.Proofs.YteigbokklclmbaaGreatDoor.Z Go.Proofs.YteigbokklclmbaaGreatDoor.Z.Y Go.Proofs.YteigbokklclmbaaGreatDoor.Z.Y.V Go.Proofs.YteigbokklclmbaaGreatDoor.Z.Y.Q
theorem sqrtB_c (x0 x1 : Int) (hv : real_Valid.f x0 x1 = some false) (w : World) :
    Calls Tryz.prog 43 #[.agg #[.int .i64 x0, .int .i64 x1]] w fun e w' => e = .returned (.tuple #[.agg #[.int .i64 0, .int .i64 0], .int .i64 1]) ∧ Below w.heap.size w w' := by
  have HV := Lib.hid hv
  clear hv
  go_enter Tryz.func43, Tryz.ntmps43
  go_wp2_with fail
  refine (real_Valid.calls x0 x1 false _ HV.out).mono ?_
  rintro _ w1 ⟨rfl, hb⟩
  have kx := blk_below (blk_alloc (new_at w (.cells #[.int .i64 x0, .int .i64 x1] 23) w.heap.size rfl) (.cells #[.int .i64 0, .int .i64 0] 23)) hb
  have kz := blk_below (new_at (w.alloc (.cells #[.int .i64 x0, .int .i64 x1] 23)) (.cells #[.int .i64 0, .int .i64 0] 23) (w.heap.size + 1) (by simp only [World.size_alloc])) hb
  have hB : Below w.heap.size w w1 := ((((Below.refl _ w).alloc (Nat.le_refl _) _).alloc (by simp only [World.size_alloc]; omega) _)).trans (hb.mono (by simp only [World.size_alloc]; omega))
  have z0 : w1.cell? ⟨w.heap.size + 1, 0, none⟩ = some (.int .i64 0) := (blk_cell kz 0).trans rfl
  have z1 : w1.cell? ⟨w.heap.size + 1, 1, none⟩ = some (.int .i64 0) := (blk_cell kz 1).trans rfl
  have g0 := blk_frozen kz 0
  have g1 := blk_frozen kz 1
  have lz := blk_lt kz
  clear hb
  go_wp2
  have fz := heap_setCell_same (w1.setCell ⟨w.heap.size + 1, 0, none⟩ (.int .i64 0)) (w.heap.size + 1) 1 _ _ (.int .i64 0) (heap_setCell_same w1 (w.heap.size + 1) 0 _ _ (.int .i64 0) kz)
  refine bodyPost_ret (results_ct rfl _ _ (w.heap.size + 1) 23 #[.int .i64 0, .int .i64 0] (0, 0) _ rfl fz Tryz.underlying23 rfl (by kernel_rfl)) rfl ?_
  exact ⟨rfl, (hB.setCell (by simp only; omega) _).setCell (by simp only; omega) _⟩
theorem Mul_no {a b c d : Int} (h : ¬ (VR a b ∧ VR c d)) (k : Nat) : real_Mul.f k a b c d = some (0, 0, 1) := by
  unfold real_Mul.f
  rw [valid_real, valid_real]
  have : (decide (VR a b) && decide (VR c d)) = false := by
    rw [← Bool.decide_and]; exact decide_eq_false h
  simp only [Option.bind_some, this]
  rfl
theorem Div_no {a b c d : Int} (h : ¬ (VR a b ∧ VR c d)) (k : Nat) : real_Div.f k a b c d = some (0, 0, 1) := by
  unfold real_Div.f
  rw [valid_real, valid_real]
  have : (decide (VR a b) && decide (VR c d)) = false := by
    rw [← Bool.decide_and]; exact decide_eq_false h
  simp only [Option.bind_some, this]
  rfl
theorem Div_nil {a b c d : Int} (h : VR a b) (h' : VR c d) (h0 : c = 0) (k : Nat) : real_Div.f k a b c d = some (0, 0, 5) := by
  unfold real_Div.f
  rw [valid_real, valid_real, decide_eq_true h, decide_eq_true h']
  simp only [Option.bind_some, Bool.and_self, if_true, if_pos h0]
def ProdH (k : Nat) (x0 x1 y0 y1 : Int) : Prop := ∃ a0 a1 a2 b0 b1 b2 c0 c1 c2 p0 p1 q0 q1 : Int, ∃ bv by_ p2 q2 : Bool, (real_Mul.f k x0 x1 y0 y1 = some (a0, a1, a2)) ∧ (real_Div.f k x0 x1 y0 y1 = some (b0, b1, b2)) ∧ (SqrtIs x0 x1 c0 c1 c2) ∧ (manorboyref02_Valid.f k x0 x1 = some bv) ∧ (bv = false → a0 = 0 ∧ a1 = 0 ∧ a2 = 1 ∧ b0 = 0 ∧ b1 = 0 ∧ b2 = 1 ∧ c0 = 0 ∧ c1 = 0 ∧ c2 = 1) ∧ (bv = true → x0 < 0 → c0 = 0 ∧ c1 = 0 ∧ c2 = 5) ∧ (bv = true → ¬ x0 < 0 → c2 = 0 ∧ manorboyref02_Sqrt.f k x0 x1 = some (c0, c1)) ∧ (manorboyref02_Valid.f k y0 y1 = some by_) ∧ (bv = true → by_ = false → a0 = 0 ∧ a1 = 0 ∧ a2 = 1 ∧ b0 = 0 ∧ b1 = 0 ∧ b2 = 1) ∧ (bv = true → by_ = true → manorboyref02_Mul.f k x0 x1 y0 y1 = some (p0, p1, p2) ∧ manorboylaw02_rounded.f a0 a1 a2 p0 p1 p2 = some true) ∧ (bv = true → by_ = true → y0 = 0 → b0 = 0 ∧ b1 = 0 ∧ b2 = 5) ∧ (bv = true → by_ = true → ¬ y0 = 0 → manorboyref02_Div.f k x0 x1 y0 y1 = some (q0, q1, q2) ∧ manorboylaw02_rounded.f b0 b1 b2 q0 q1 q2 = some true) ∧ (manorboylaw02_sanity.f k = some true)
theorem sqrt_any {x0 x1 : Int} (wx : I64 x0) (hx : VR x0 x1) : ∃ c0 c1 c2 : Int, SqrtIs x0 x1 c0 c1 c2 ∧ (x0 < 0 → c0 = 0 ∧ c1 = 0 ∧ c2 = 5) ∧ ∃ K, ¬ x0 < 0 → c2 = 0 ∧ ∀ k, K ≤ k → manorboyref02_Sqrt.f k x0 x1 = some (c0, c1) := by
  by_cases h : x0 < 0
  · exact ⟨0, 0, 5, fun w => sqrtN_c x0 x1 (Valid_ev hx) h w, fun _ => ⟨rfl, rfl, rfl⟩, 0, fun h' => absurd h h'⟩
  · obtain ⟨M, R, s, a, J, hS, hC⟩ := sqrt_ev wx hx (by omega)
    have hv : vv x0 x1 = ((G (ix x0 x1) : Nat) : Int) := by rw [vv_sval wx hx, decide_eq_false h]; rfl
    rw [hv] at hS
    obtain ⟨K, hK⟩ := ref_sqrt_ev wx hx hS
    have hJ := root_in (ix_le wx hx) hS
    rw [res3_in hJ] at hC
    exact ⟨_, _, _, hC, fun h' => absurd h' h, K, fun _ => ⟨rfl, hK⟩⟩
theorem prod_pure (x0 x1 y0 y1 : Int) (wx : I64 x0) (_ : I64 x1) (wy : I64 y0) (_ : I64 y1) : ∃ k, ProdH k x0 x1 y0 y1 := by
  obtain ⟨k3, E3⟩ := valid_ev x0 x1 wx
  obtain ⟨k4, E4⟩ := valid_ev y0 y1 wy
  obtain ⟨k8, E8⟩ := sanity_ev
  by_cases hv : VR x0 x1
  · obtain ⟨c0, c1, c2, hC, hneg, kc, hpos⟩ := sqrt_any wx hv
    by_cases hy : VR y0 y1
    · obtain ⟨I, hR, ⟨k1, E1⟩⟩ := real_Mul_ev wx wy hv hy
      obtain ⟨k2, E2⟩ := ref_mul_ev wx wy hv hy hR
      obtain ⟨b0, b1, b2, q0, q1, q2, kb, hb, hb0, hbd⟩ : ∃ (b0 b1 b2 q0 q1 : Int) (q2 : Bool) (K : Nat), (∀ k, K ≤ k → real_Div.f k x0 x1 y0 y1 = some (b0, b1, b2)) ∧ (y0 = 0 → b0 = 0 ∧ b1 = 0 ∧ b2 = 5) ∧
          (¬ y0 = 0 → ∀ k, K ≤ k → manorboyref02_Div.f k x0 x1 y0 y1 = some (q0, q1, q2) ∧ manorboylaw02_rounded.f b0 b1 b2 q0 q1 q2 = some true) := by
        by_cases hy0 : y0 = 0
        · exact ⟨0, 0, 5, 0, 0, false, 0, fun k _ => Div_nil hv hy hy0 k, fun _ => ⟨rfl, rfl, rfl⟩, fun h => absurd hy0 h⟩
        · obtain ⟨J, hJ, ⟨k5, E5⟩⟩ := real_Div_ev wx wy hv hy hy0
          have hG : 0 < G (ix y0 y1) := by rw [ix_G wy hy]; exact Nat.mul_pos (by omega) (Nat.two_pow_pos _)
          obtain ⟨k6, E6⟩ := ref_div_ev wx wy hv hy hG hJ
          exact ⟨_, _, _, _, _, _, k5 + k6, fun k hk => E5 k (by omega), fun h => absurd h hy0, fun _ k hk => ⟨E6 k (by omega), rounded_same _ _⟩⟩
      obtain ⟨K, hK⟩ : ∃ K, K = kc + k1 + k2 + k3 + k4 + kb + k8 := ⟨_, rfl⟩
      refine ⟨K, _, _, _, b0, b1, b2, c0, c1, c2, _, _, q0, q1, true, true, _, q2, E1 K (by omega), hb K (by omega), hC, (by have h := E3 K (by omega); rw [decide_eq_true hv] at h; exact h),
        fun h => absurd h (by decide), fun _ => hneg, fun _ h => ⟨(hpos h).1, (hpos h).2 K (by omega)⟩, (by have h := E4 K (by omega); rw [decide_eq_true hy] at h; exact h), fun _ h => absurd h (by decide),
        fun _ _ => ⟨E2 K (by omega), rounded_same _ _⟩, fun _ _ => hb0, fun _ _ h => hbd h K (by omega), E8 K (by omega)⟩
    · obtain ⟨K, hK⟩ : ∃ K, K = kc + k3 + k4 + k8 := ⟨_, rfl⟩
      exact ⟨K, 0, 0, 1, 0, 0, 1, c0, c1, c2, 0, 0, 0, 0, true, false, false, false, Mul_no (fun h => hy h.2) K, Div_no (fun h => hy h.2) K, hC, (by have h := E3 K (by omega); rw [decide_eq_true hv] at h; exact h),
        fun h => absurd h (by decide), fun _ => hneg, fun _ h => ⟨(hpos h).1, (hpos h).2 K (by omega)⟩, (by have h := E4 K (by omega); rw [decide_eq_false hy] at h; exact h), fun _ _ => ⟨rfl, rfl, rfl, rfl, rfl, rfl⟩,
        fun _ h => absurd h (by decide), fun _ h => absurd h (by decide), fun _ h => absurd h (by decide), E8 K (by omega)⟩
  · obtain ⟨K, hK⟩ : ∃ K, K = k3 + k4 + k8 := ⟨_, rfl⟩
    exact ⟨K, 0, 0, 1, 0, 0, 1, 0, 0, 1, 0, 0, 0, 0, false, decide (VR y0 y1), false, false, Mul_no (fun h => hv h.1) K, Div_no (fun h => hv h.1) K, fun w => sqrtB_c x0 x1 (by rw [valid_real, decide_eq_false hv]) w, (by have h := E3 K (by omega); rw [decide_eq_false hv] at h; exact h),
      fun _ => ⟨rfl, rfl, rfl, rfl, rfl, rfl, rfl, rfl, rfl⟩, fun h => absurd h (by decide), fun h => absurd h (by decide), E4 K (by omega), fun h => absurd h (by decide), fun h => absurd h (by decide), fun h => absurd h (by decide), fun h => absurd h (by decide), E8 K (by omega)⟩
theorem prod_calls (k : Nat) (x0 x1 y0 y1 : Int) (r : Bool) (w : World) (h : ProdH k x0 x1 y0 y1) (hr : r = true) (ht : Table w) :
    Calls Tryz.prog 10 #[.agg #[.int .i64 x0, .int .i64 x1], .agg #[.int .i64 y0, .int .i64 y1]] w fun e w' => e = .returned (.bool r) ∧ Below w.heap.size w w' := by
  subst hr
  obtain ⟨a0, a1, a2, b0, b1, b2, c0, c1, c2, p0, p1, q0, q1, bv, by_, p2, q2, gq0, gq1, gq2, gq3, gq4, gq5, gq6, gq7, gq8, gq9, gq10, gq11, gq12⟩ := h
  exact prod_c k x0 x1 y0 y1 a0 a1 a2 b0 b1 b2 c0 c1 c2 p0 p1 q0 q1 bv by_ p2 q2 gq0 gq1 gq2 gq3 gq4 gq5 gq6 gq7 gq8 gq9 gq10 gq11 gq12 w ht
end Go.Proofs.YteigbokklclmbaaGreatDoor.M
end
section
namespace Go.Proofs.YteigbokklclmbaaGreatDoor.Given
open Go
theorem gT : Tryz.prog.globalNamed "internal/strconv.uint64pow10" = some 0 := by kernel_rfl
theorem gTType : (Tryz.prog.globals[0]?).map (·.type) = some 188 := by kernel_rfl
theorem pow10_datum : (Rows.laid_internal_strconv_uint64pow10 : DataW Unit) = Lib.tabData .u64 Lib.pow10Tab := by kernel_rfl
theorem table_of {W : World} (h : laidMet Tryz.prog [("math/bits.deBruijn32tab", Rows.laid_math_bits_deBruijn32tab), ("math/bits.deBruijn64tab", Rows.laid_math_bits_deBruijn64tab), ("internal/strconv.uint64pow10", Rows.laid_internal_strconv_uint64pow10), ("unicode/utf8.acceptRanges", Rows.laid_unicode_utf8_acceptRanges), ("unicode/utf8.first", Rows.laid_unicode_utf8_first)] W) : Z.Table W := by
  obtain ⟨ps, ⟨_, _, _, _, _, _, _, _, _, _, ⟨_, _, _, _, _, _, _, _, _, _, ⟨g, t, cs, f, p, q, hg, ht, hv, hd, _, _⟩, _⟩, _⟩, _⟩ := h
  obtain rfl := Option.some.inj (gT.symm.trans hg)
  obtain rfl := Option.some.inj (gTType.symm.trans ht)
  rw [pow10_datum] at hd
  show Lib.TabIs _ _ _ _ _
  unfold Lib.TabIs
  rw [hv, ← Lib.cells_of_tab Tryz.underlying188 Tryz.underlying72 (by kernel_rfl) (by kernel_rfl) hd]
theorem i64_lit {a : Int} (h : (Lit.int IntKind.i64 a).wf = true) : -9223372036854775808 ≤ a ∧ a ≤ 9223372036854775807 := by
  have h1 : (decide ((-9223372036854775808 : Int) ≤ a) && decide (a ≤ (9223372036854775807 : Int))) = true := h
  simpa using h1
end Go.Proofs.YteigbokklclmbaaGreatDoor.Given
end
