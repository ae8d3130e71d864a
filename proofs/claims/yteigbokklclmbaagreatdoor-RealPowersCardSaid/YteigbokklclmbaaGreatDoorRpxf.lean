/- Contracts and lemmas that the law's row leans on, joined by program (pack.py) out of the session's texts; no condition of its own. -/
import Derived.Test.YteigbokklclmbaaGreatDoorRows
import Derived.Laws.BitsLemmas
import Derived.Test.YteigbokklclmbaaGreatDoorRpxa
import Derived.Test.YteigbokklclmbaaGreatDoorRpxb
import Derived.Test.YteigbokklclmbaaGreatDoorRpxc
import Derived.Test.YteigbokklclmbaaGreatDoorRpxd
import Derived.Test.YteigbokklclmbaaGreatDoorRpxe
set_option linter.unusedVariables false
set_option linter.unusedSimpArgs false
set_option maxRecDepth 100000
set_option maxHeartbeats 8000000
section
namespace Go.Proofs.YteigbokklclmbaaGreatDoor.Z.Y.V
open Go.RowKit Go.Proofs.YteigbokklclmbaaGreatDoor.Given Go.Proofs.YteigbokklclmbaaGreatDoorW.PrintWords Go.Proofs.YteigbokklclmbaaGreatDoorW.PrintLast Go.Proofs.YteigbokklclmbaaGreatDoorW.PrintMore
attribute [local go_sem] max2_int min2_int max_two min_two max_three min_three max_four min_four

def manorboyref02_Mul.f (k : Nat) (a0_0 : Int) (a0_1 : Int) (a1_0 : Int) (a1_1 : Int) : Option (Int × Int × Bool) := (manorboyref02_Of.f k a0_0 a0_1).bind fun bt424 => ((manorboyref02_Of.f k a1_0 a1_1).bind fun bt432 => ((manorboyref02_Nat_Mul.f k bt424.2.1 bt432.2.1).bind fun t440 => ((manorboyref02_Nat_Mul.f k bt424.2.2 bt432.2.2).bind fun t443 => ((manorboyref02_Quotient_Round.f k (bt424.1 != bt432.1) t440 t443).bind fun bt446 => (some (bt446.1, bt446.2.1, bt446.2.2))))))
def manorboyref02_Mul.T3 : Bool × List (List Nat × List Nat) := (true, [([], []), ([0], [0]), ([], []), ([2], [2]), ([1, 3], [1, 3]), ([], []), ([5], [5]), ([], []), ([7], [7]), ([6, 8], [6, 8]), ([], []), ([10], [10]), ([], []), ([12], [12]), ([11, 13, 9], [11, 13]), ([4, 9, 14], [4, 9, 14]), ([15, 14], [15]), ([16, 16, 0, 1, 2, 3, 4, 5, 6, 7, 8, 9, 10, 11, 12, 13, 14, 15, 16], [16])])
def manorboyref02_Mul.B3 : List Nat := [0, 1, 0, 4, 15, 0, 32, 0, 128, 480, 0, 1024, 0, 4096, 16352, 32767, 65535, 131071]
theorem manorboyref02_Mul.tab3 : rtab .any (opsOf Tryz.f45 3) = manorboyref02_Mul.T3 := by kernel_rfl
theorem manorboyref02_Mul.bits3 : waitsOk manorboyref02_Mul.T3.2 manorboyref02_Mul.B3 = true := by kernel_rfl
theorem manorboyref02_Mul.calls (k : Nat) (a0_0 : Int) (a0_1 : Int) (a1_0 : Int) (a1_1 : Int) (r1 : Int) (r2 : Int) (r3 : Bool) (w : World) (h : manorboyref02_Mul.f k a0_0 a0_1 a1_0 a1_1 = some (r1, r2, r3)) :
  Calls Tryz.prog 45 #[.agg #[.int .i64 a0_0, .int .i64 a0_1], .agg #[.int .i64 a1_0, .int .i64 a1_1]] w fun e w' => e = .returned (.agg #[.int .i64 r1, .int .i64 r2, .bool r3]) ∧ Below w.heap.size w w' := by
 have hu23 := Tryz.underlying23
 have hu50 := Tryz.underlying50
 have hu102 := Tryz.underlying102
 have HB := Aside0.mk (Below.refl w.heap.size w)
 have H := h; unfold manorboyref02_Mul.f at H; clear h
 replace H := Option.bind_eq_some_iff.mp H
 obtain ⟨⟨t424, t425, t428⟩, A30, H⟩ := H
 try dsimp only at H
 have A3 := Aside0.mk A30
 clear A30
 replace H := Option.bind_eq_some_iff.mp H
 obtain ⟨⟨t432, t433, t436⟩, A40, H⟩ := H
 try dsimp only at H
 have A4 := Aside0.mk A40
 clear A40
 replace H := Option.bind_eq_some_iff.mp H
 obtain ⟨t440, A50, H⟩ := H
 try dsimp only at H
 have A5 := Aside0.mk A50
 clear A50
 replace H := Option.bind_eq_some_iff.mp H
 obtain ⟨t443, A60, H⟩ := H
 try dsimp only at H
 have A6 := Aside0.mk A60
 clear A60
 replace H := Option.bind_eq_some_iff.mp H
 obtain ⟨⟨t446, t447, t448⟩, A70, H⟩ := H
 try dsimp only at H
 have A7 := Aside0.mk A70
 clear A70
 simp only [Option.some.injEq, Prod.mk.injEq] at H
 obtain ⟨rfl, rfl, rfl⟩ := H
 go_enter Tryz.func45, Tryz.ntmps45
 try go_wp2_with (first | ((with_reducible refine gate_dst (N := 2) rfl ?_); refine bxe 2 #[.int .i64 a0_0, .int .i64 a0_1] 23 ?_; intro gb421 hg w8 hbox hb; have BK421 := Aside0.mk hbox; have GW421 := ge hg; have GE421 := ge hg; replace HB := bs hb; clear hb hbox hg) | ((with_reducible refine gate_dst (N := 3) rfl ?_); refine bxe 3 #[.int .i64 a1_0, .int .i64 a1_1] 23 ?_; intro gb422 hg w9 hbox hb; have BK422 := Aside0.mk hbox; have GW422 := ge hg; have GE422 := ge hg; have NB421_422 := nl BK421 hg; have NB422_421 := nr BK421 hg; replace BK421 := kb BK421 hb; replace HB := bs hb; clear hb hbox hg) | ((with_reducible refine gate_dst (N := 4) rfl ?_); refine bxe 4 #[.int .i64 0, .int .i64 0, .bool false] 50 ?_; intro gb423 hg w10 hbox hb; have BK423 := Aside0.mk hbox; have GW423 := ge hg; have GE423 := ge hg; have NB421_423 := nl BK421 hg; have NB423_421 := nr BK421 hg; have NB422_423 := nl BK422 hg; have NB423_422 := nr BK422 hg; replace BK421 := kb BK421 hb; replace BK422 := kb BK422 hb; replace HB := bs hb; clear hb hbox hg; have hnb11 := NB421_422.out; have hnc11 := NB422_421.out; have hnb12 := NB421_423.out; have hnc12 := NB423_421.out; have hcz13_0 := c20 BK421; have hcz13_1 := c21 BK421; have hfz13_0 := blk_frozen BK421.out 0; have hfz13_1 := blk_frozen BK421.out 1) | ((with_reducible refine gate_callee (f := 102) rfl ?_); refine gL 8 Tryz.func102 #[.agg #[.int .i64 a0_0, .int .i64 a0_1]] ?_; (with_reducible refine (manorboyref02_Of.calls k a0_0 a0_1 t424 t425 t428 _ A3.out).mono ?_); rintro e w14 ⟨v426, v429, rfl, ho0, ho1, hb⟩; refine ⟨_, rfl, ?_⟩; have HO427 := Aside0.mk (Kd.R_lower ho0 (below_size bz)); have HO430 := Aside0.mk (Kd.R_lower ho1 (below_size bz)); replace BK421 := kb BK421 hb; replace BK422 := kb BK422 hb; replace BK423 := kb BK423 hb; replace HB := bs hb; (try clear hb); (try clear hk); (try clear ho0); (try clear ho1)) | ((with_reducible refine gate_dst (N := 5) rfl ?_); refine bxe 5 #[.bool false, .slice none 0 0, .slice none 0 0] 102 ?_; intro gb431 hg w15 hbox hb; have BK431 := Aside0.mk hbox; have GW431 := ge hg; have GE431 := ge hg; have NB421_431 := nl BK421 hg; have NB431_421 := nr BK421 hg; have NB422_431 := nl BK422 hg; have NB431_422 := nr BK422 hg; have NB423_431 := nl BK423 hg; have NB431_423 := nr BK423 hg; replace HO427 := rb HO427 hb; replace HO430 := rb HO430 hb; replace BK421 := kb BK421 hb; replace BK422 := kb BK422 hb; replace BK423 := kb BK423 hb; replace HB := bs hb; clear hb hbox hg; have hnb16 := NB431_421.out; have hnc16 := NB421_431.out; have hnb17 := NB431_422.out; have hnc17 := NB422_431.out; have hnb18 := NB431_423.out; have hnc18 := NB423_431.out; have hcz19_0 : w15.cell? ⟨gb431, 0, none⟩ = some (.bool false) := (blk_cell BK431.out 0).trans rfl; have hcz19_1 : w15.cell? ⟨gb431, 1, none⟩ = some (.slice none 0 0) := (blk_cell BK431.out 1).trans rfl; have hcz19_2 : w15.cell? ⟨gb431, 2, none⟩ = some (.slice none 0 0) := (blk_cell BK431.out 2).trans rfl; have hfz19_0 := blk_frozen BK431.out 0; have hfz19_1 := blk_frozen BK431.out 1; have hfz19_2 := blk_frozen BK431.out 2; obtain ⟨Ao20, co20, eo20⟩ := Kd.R_slice HO427.out; subst eo20; obtain ⟨Ao21, co21, eo21⟩ := Kd.R_slice HO430.out; subst eo21; have hnb22 := NB422_423.out; have hnc22 := NB423_422.out; have hcz23_0 := c20 BK422; have hcz23_1 := c21 BK422; have hfz23_0 := blk_frozen BK422.out 0; have hfz23_1 := blk_frozen BK422.out 1) | ((with_reducible refine gate_callee (f := 102) rfl ?_); refine gL 10 Tryz.func102 #[.agg #[.int .i64 a1_0, .int .i64 a1_1]] ?_; (with_reducible refine (manorboyref02_Of.calls k a1_0 a1_1 t432 t433 t436 _ A4.out).mono ?_); rintro e w24 ⟨v434, v437, rfl, ho0, ho1, hb⟩; refine ⟨_, rfl, ?_⟩; have HO435 := Aside0.mk (Kd.R_lower (Kd.R_new' (Kd.R_new' ho0 (Kd.R_lt (by (with_reducible repeat (first | apply Kd.R_alloc | apply Kd.R_drewN | apply Kd.R_drew)); exact (Kd.R_mono (Kd.R_far (p := ⟨gb431, 2, none⟩) (Kd.R_far (p := ⟨gb431, 1, none⟩) (Kd.R_far (p := ⟨gb431, 0, none⟩) (Kd.R_types HO427.out BK431.out (by decide)) (fun _ hk => hk.2) (.bool t424)) (fun _ hk => hk.2) (.slice Ao20 t425.length co20)) (fun _ hk => hk.2) (.slice Ao21 t428.length co21)) (fun _ h_ => h_.1))))) (Kd.R_lt (by (with_reducible repeat (first | apply Kd.R_alloc | apply Kd.R_drewN | apply Kd.R_drew)); exact (Kd.R_mono (Kd.R_far (p := ⟨gb431, 2, none⟩) (Kd.R_far (p := ⟨gb431, 1, none⟩) (Kd.R_far (p := ⟨gb431, 0, none⟩) (Kd.R_types HO430.out BK431.out (by decide)) (fun _ hk => hk.2) (.bool t424)) (fun _ hk => hk.2) (.slice Ao20 t425.length co20)) (fun _ hk => hk.2) (.slice Ao21 t428.length co21)) (fun _ h_ => h_.1))))) (below_size bz)); have HO438 := Aside0.mk (Kd.R_lower (Kd.R_new' (Kd.R_new' ho1 (Kd.R_lt (by (with_reducible repeat (first | apply Kd.R_alloc | apply Kd.R_drewN | apply Kd.R_drew)); exact (Kd.R_mono (Kd.R_far (p := ⟨gb431, 2, none⟩) (Kd.R_far (p := ⟨gb431, 1, none⟩) (Kd.R_far (p := ⟨gb431, 0, none⟩) (Kd.R_types HO427.out BK431.out (by decide)) (fun _ hk => hk.2) (.bool t424)) (fun _ hk => hk.2) (.slice Ao20 t425.length co20)) (fun _ hk => hk.2) (.slice Ao21 t428.length co21)) (fun _ h_ => h_.1))))) (Kd.R_lt (by (with_reducible repeat (first | apply Kd.R_alloc | apply Kd.R_drewN | apply Kd.R_drew)); exact (Kd.R_mono (Kd.R_far (p := ⟨gb431, 2, none⟩) (Kd.R_far (p := ⟨gb431, 1, none⟩) (Kd.R_far (p := ⟨gb431, 0, none⟩) (Kd.R_types HO430.out BK431.out (by decide)) (fun _ hk => hk.2) (.bool t424)) (fun _ hk => hk.2) (.slice Ao20 t425.length co20)) (fun _ hk => hk.2) (.slice Ao21 t428.length co21)) (fun _ h_ => h_.1))))) (below_size bz)); replace HO427 := Aside0.mk (Kd.R_mono (Kd.R_told (Kd.R_told (Kd.R_old (by (with_reducible repeat (first | apply Kd.R_alloc | apply Kd.R_drewN | apply Kd.R_drew)); exact (Kd.R_mono (Kd.R_far (p := ⟨gb431, 2, none⟩) (Kd.R_far (p := ⟨gb431, 1, none⟩) (Kd.R_far (p := ⟨gb431, 0, none⟩) (Kd.R_types HO427.out BK431.out (by decide)) (fun _ hk => hk.2) (.bool t424)) (fun _ hk => hk.2) (.slice Ao20 t425.length co20)) (fun _ hk => hk.2) (.slice Ao21 t428.length co21)) (fun _ h_ => h_.1))) hb) (Kd.R_base ho0)) (Kd.R_base ho1)) (fun _ h_ => h_.1)); replace HO430 := Aside0.mk (Kd.R_mono (Kd.R_told (Kd.R_told (Kd.R_old (by (with_reducible repeat (first | apply Kd.R_alloc | apply Kd.R_drewN | apply Kd.R_drew)); exact (Kd.R_mono (Kd.R_far (p := ⟨gb431, 2, none⟩) (Kd.R_far (p := ⟨gb431, 1, none⟩) (Kd.R_far (p := ⟨gb431, 0, none⟩) (Kd.R_types HO430.out BK431.out (by decide)) (fun _ hk => hk.2) (.bool t424)) (fun _ hk => hk.2) (.slice Ao20 t425.length co20)) (fun _ hk => hk.2) (.slice Ao21 t428.length co21)) (fun _ h_ => h_.1))) hb) (Kd.R_base ho0)) (Kd.R_base ho1)) (fun _ h_ => h_.1)); replace BK421 := Aside0.mk (blk_below (g := gb421) (o := .cells #[.int .i64 a0_0, .int .i64 a0_1] 23 (0, 0)) (by (with_reducible repeat (first | refine blk_drewN ?_ _ | refine blk_drew ?_ | refine blk_alloc ?_ _)); refine blk_far ?_ NB421_431.out _; (with_reducible repeat (first | refine blk_drewN ?_ _ | refine blk_drew ?_ | refine blk_alloc ?_ _)); refine blk_far ?_ NB421_431.out _; (with_reducible repeat (first | refine blk_drewN ?_ _ | refine blk_drew ?_ | refine blk_alloc ?_ _)); refine blk_far ?_ NB421_431.out _; (with_reducible repeat (first | refine blk_drewN ?_ _ | refine blk_drew ?_ | refine blk_alloc ?_ _)); exact BK421.out) hb); replace BK422 := Aside0.mk (blk_below (g := gb422) (o := .cells #[.int .i64 a1_0, .int .i64 a1_1] 23 (0, 0)) (by (with_reducible repeat (first | refine blk_drewN ?_ _ | refine blk_drew ?_ | refine blk_alloc ?_ _)); refine blk_far ?_ NB422_431.out _; (with_reducible repeat (first | refine blk_drewN ?_ _ | refine blk_drew ?_ | refine blk_alloc ?_ _)); refine blk_far ?_ NB422_431.out _; (with_reducible repeat (first | refine blk_drewN ?_ _ | refine blk_drew ?_ | refine blk_alloc ?_ _)); refine blk_far ?_ NB422_431.out _; (with_reducible repeat (first | refine blk_drewN ?_ _ | refine blk_drew ?_ | refine blk_alloc ?_ _)); exact BK422.out) hb); replace BK423 := Aside0.mk (blk_below (g := gb423) (o := .cells #[.int .i64 0, .int .i64 0, .bool false] 50 (0, 0)) (by (with_reducible repeat (first | refine blk_drewN ?_ _ | refine blk_drew ?_ | refine blk_alloc ?_ _)); refine blk_far ?_ NB423_431.out _; (with_reducible repeat (first | refine blk_drewN ?_ _ | refine blk_drew ?_ | refine blk_alloc ?_ _)); refine blk_far ?_ NB423_431.out _; (with_reducible repeat (first | refine blk_drewN ?_ _ | refine blk_drew ?_ | refine blk_alloc ?_ _)); refine blk_far ?_ NB423_431.out _; (with_reducible repeat (first | refine blk_drewN ?_ _ | refine blk_drew ?_ | refine blk_alloc ?_ _)); exact BK423.out) hb); replace BK431 := Aside0.mk (blk_below (g := gb431) (o := .cells #[.bool t424, .slice Ao20 t425.length co20, .slice Ao21 t428.length co21] 102 (0, 0)) (by (with_reducible repeat (first | refine blk_drewN ?_ _ | refine blk_drew ?_ | refine blk_alloc ?_ _)); refine blk_put (cs := #[.bool t424, .slice Ao20 t425.length co20, .slice none 0 0]) ?_ 2 _ rfl; (with_reducible repeat (first | refine blk_drewN ?_ _ | refine blk_drew ?_ | refine blk_alloc ?_ _)); refine blk_put (cs := #[.bool t424, .slice none 0 0, .slice none 0 0]) ?_ 1 _ rfl; (with_reducible repeat (first | refine blk_drewN ?_ _ | refine blk_drew ?_ | refine blk_alloc ?_ _)); refine blk_put (cs := #[.bool false, .slice none 0 0, .slice none 0 0]) ?_ 0 _ rfl; (with_reducible repeat (first | refine blk_drewN ?_ _ | refine blk_drew ?_ | refine blk_alloc ?_ _)); exact BK431.out) hb); replace HB := bs hb; (try clear hb); (try clear hk); (try clear ho0); (try clear ho1)) | ((with_reducible refine gate_dst (N := 6) rfl ?_); refine bxe 6 #[.bool false, .slice none 0 0, .slice none 0 0] 102 ?_; intro gb439 hg w25 hbox hb; have BK439 := Aside0.mk hbox; have GW439 := ge hg; have GE439 := ge hg; have NB421_439 := nl BK421 hg; have NB439_421 := nr BK421 hg; have NB422_439 := nl BK422 hg; have NB439_422 := nr BK422 hg; have NB423_439 := nl BK423 hg; have NB439_423 := nr BK423 hg; have NB431_439 := nl BK431 hg; have NB439_431 := nr BK431 hg; replace HO427 := rb HO427 hb; replace HO430 := rb HO430 hb; replace HO435 := rb HO435 hb; replace HO438 := rb HO438 hb; replace BK421 := kb BK421 hb; replace BK422 := kb BK422 hb; replace BK423 := kb BK423 hb; replace BK431 := kb BK431 hb; replace HB := bs hb; clear hb hbox hg; have hnb26 := NB439_421.out; have hnc26 := NB421_439.out; have hnb27 := NB439_422.out; have hnc27 := NB422_439.out; have hnb28 := NB439_423.out; have hnc28 := NB423_439.out; have hnb29 := NB439_431.out; have hnc29 := NB431_439.out; have hcz30_0 : w25.cell? ⟨gb439, 0, none⟩ = some (.bool false) := (blk_cell BK439.out 0).trans rfl; have hcz30_1 : w25.cell? ⟨gb439, 1, none⟩ = some (.slice none 0 0) := (blk_cell BK439.out 1).trans rfl; have hcz30_2 : w25.cell? ⟨gb439, 2, none⟩ = some (.slice none 0 0) := (blk_cell BK439.out 2).trans rfl; have hfz30_0 := blk_frozen BK439.out 0; have hfz30_1 := blk_frozen BK439.out 1; have hfz30_2 := blk_frozen BK439.out 2; obtain ⟨Ao31, co31, eo31⟩ := Kd.R_slice HO435.out; subst eo31; obtain ⟨Ao32, co32, eo32⟩ := Kd.R_slice HO438.out; subst eo32))
 have n0_ : Aside0 (Kd.R (Kd.int .i64) 3 (((w25.setCell ⟨gb439, 0, none⟩ (.bool t432)).setCell ⟨gb439, 1, none⟩ (.slice Ao31 t433.length co31)).setCell ⟨gb439, 2, none⟩ (.slice Ao32 t436.length co32)) w.heap.size (fun k_ => some k_ ≠ (.slice Ao21 t428.length co21 : Value).ownBlock ∧ some k_ ≠ (.slice Ao31 t433.length co31 : Value).ownBlock ∧ some k_ ≠ (.slice Ao32 t436.length co32 : Value).ownBlock) (.slice Ao20 t425.length co20) t425) := ⟨by (with_reducible repeat (first | apply Kd.R_alloc | apply Kd.R_drewN | apply Kd.R_drew)); exact Kd.R_mono (Kd.R_far (p := ⟨gb439, 2, none⟩) (Kd.R_far (p := ⟨gb439, 1, none⟩) (Kd.R_far (p := ⟨gb439, 0, none⟩) (Kd.R_types HO427.out BK439.out (by decide)) (fun _ hk => hk.2) (.bool t432)) (fun _ hk => hk.2) (.slice Ao31 t433.length co31)) (fun _ hk => hk.2) (.slice Ao32 t436.length co32)) (fun _ hk => ⟨hk.1.1.1, ⟨hk.1.1.2, hk.1.2⟩⟩)⟩
 have n1_ : Aside0 (Kd.R (Kd.int .i64) 3 (((w25.setCell ⟨gb439, 0, none⟩ (.bool t432)).setCell ⟨gb439, 1, none⟩ (.slice Ao31 t433.length co31)).setCell ⟨gb439, 2, none⟩ (.slice Ao32 t436.length co32)) w.heap.size (fun k_ => some k_ ≠ (.slice Ao20 t425.length co20 : Value).ownBlock ∧ some k_ ≠ (.slice Ao31 t433.length co31 : Value).ownBlock ∧ some k_ ≠ (.slice Ao32 t436.length co32 : Value).ownBlock) (.slice Ao21 t428.length co21) t428) := ⟨by (with_reducible repeat (first | apply Kd.R_alloc | apply Kd.R_drewN | apply Kd.R_drew)); exact Kd.R_mono (Kd.R_far (p := ⟨gb439, 2, none⟩) (Kd.R_far (p := ⟨gb439, 1, none⟩) (Kd.R_far (p := ⟨gb439, 0, none⟩) (Kd.R_types HO430.out BK439.out (by decide)) (fun _ hk => hk.2) (.bool t432)) (fun _ hk => hk.2) (.slice Ao31 t433.length co31)) (fun _ hk => hk.2) (.slice Ao32 t436.length co32)) (fun _ hk => ⟨hk.1.1.1, ⟨hk.1.1.2, hk.1.2⟩⟩)⟩
 have n2_ : Aside0 (Kd.R (Kd.int .i64) 3 (((w25.setCell ⟨gb439, 0, none⟩ (.bool t432)).setCell ⟨gb439, 1, none⟩ (.slice Ao31 t433.length co31)).setCell ⟨gb439, 2, none⟩ (.slice Ao32 t436.length co32)) w.heap.size (fun k_ => some k_ ≠ (.slice Ao20 t425.length co20 : Value).ownBlock ∧ some k_ ≠ (.slice Ao21 t428.length co21 : Value).ownBlock ∧ some k_ ≠ (.slice Ao32 t436.length co32 : Value).ownBlock) (.slice Ao31 t433.length co31) t433) := ⟨by (with_reducible repeat (first | apply Kd.R_alloc | apply Kd.R_drewN | apply Kd.R_drew)); exact Kd.R_mono (Kd.R_far (p := ⟨gb439, 2, none⟩) (Kd.R_far (p := ⟨gb439, 1, none⟩) (Kd.R_far (p := ⟨gb439, 0, none⟩) (Kd.R_types HO435.out BK439.out (by decide)) (fun _ hk => hk.2) (.bool t432)) (fun _ hk => hk.2) (.slice Ao31 t433.length co31)) (fun _ hk => hk.2) (.slice Ao32 t436.length co32)) (fun _ hk => ⟨hk.1.1.2, ⟨hk.1.2, hk.1.1.1⟩⟩)⟩
 have n3_ : Aside0 (Kd.R (Kd.int .i64) 3 (((w25.setCell ⟨gb439, 0, none⟩ (.bool t432)).setCell ⟨gb439, 1, none⟩ (.slice Ao31 t433.length co31)).setCell ⟨gb439, 2, none⟩ (.slice Ao32 t436.length co32)) w.heap.size (fun k_ => some k_ ≠ (.slice Ao20 t425.length co20 : Value).ownBlock ∧ some k_ ≠ (.slice Ao21 t428.length co21 : Value).ownBlock ∧ some k_ ≠ (.slice Ao31 t433.length co31 : Value).ownBlock) (.slice Ao32 t436.length co32) t436) := ⟨by (with_reducible repeat (first | apply Kd.R_alloc | apply Kd.R_drewN | apply Kd.R_drew)); exact Kd.R_mono (Kd.R_far (p := ⟨gb439, 2, none⟩) (Kd.R_far (p := ⟨gb439, 1, none⟩) (Kd.R_far (p := ⟨gb439, 0, none⟩) (Kd.R_types HO438.out BK439.out (by decide)) (fun _ hk => hk.2) (.bool t432)) (fun _ hk => hk.2) (.slice Ao31 t433.length co31)) (fun _ hk => hk.2) (.slice Ao32 t436.length co32)) (fun _ hk => ⟨hk.1.1.2, ⟨hk.1.2, hk.1.1.1⟩⟩)⟩
 have n4_ : Aside0 ((((w25.setCell ⟨gb439, 0, none⟩ (.bool t432)).setCell ⟨gb439, 1, none⟩ (.slice Ao31 t433.length co31)).setCell ⟨gb439, 2, none⟩ (.slice Ao32 t436.length co32)).heap[gb421]? = some (.cells #[.int .i64 a0_0, .int .i64 a0_1] 23 (0, 0))) := ⟨by (with_reducible repeat (first | refine blk_drewN ?_ _ | refine blk_drew ?_ | refine blk_alloc ?_ _)); refine blk_far ?_ NB421_439.out _; (with_reducible repeat (first | refine blk_drewN ?_ _ | refine blk_drew ?_ | refine blk_alloc ?_ _)); refine blk_far ?_ NB421_439.out _; (with_reducible repeat (first | refine blk_drewN ?_ _ | refine blk_drew ?_ | refine blk_alloc ?_ _)); refine blk_far ?_ NB421_439.out _; (with_reducible repeat (first | refine blk_drewN ?_ _ | refine blk_drew ?_ | refine blk_alloc ?_ _)); exact BK421.out⟩
 have n5_ : Aside0 ((((w25.setCell ⟨gb439, 0, none⟩ (.bool t432)).setCell ⟨gb439, 1, none⟩ (.slice Ao31 t433.length co31)).setCell ⟨gb439, 2, none⟩ (.slice Ao32 t436.length co32)).heap[gb422]? = some (.cells #[.int .i64 a1_0, .int .i64 a1_1] 23 (0, 0))) := ⟨by (with_reducible repeat (first | refine blk_drewN ?_ _ | refine blk_drew ?_ | refine blk_alloc ?_ _)); refine blk_far ?_ NB422_439.out _; (with_reducible repeat (first | refine blk_drewN ?_ _ | refine blk_drew ?_ | refine blk_alloc ?_ _)); refine blk_far ?_ NB422_439.out _; (with_reducible repeat (first | refine blk_drewN ?_ _ | refine blk_drew ?_ | refine blk_alloc ?_ _)); refine blk_far ?_ NB422_439.out _; (with_reducible repeat (first | refine blk_drewN ?_ _ | refine blk_drew ?_ | refine blk_alloc ?_ _)); exact BK422.out⟩
 have n6_ : Aside0 ((((w25.setCell ⟨gb439, 0, none⟩ (.bool t432)).setCell ⟨gb439, 1, none⟩ (.slice Ao31 t433.length co31)).setCell ⟨gb439, 2, none⟩ (.slice Ao32 t436.length co32)).heap[gb423]? = some (.cells #[.int .i64 0, .int .i64 0, .bool false] 50 (0, 0))) := ⟨by (with_reducible repeat (first | refine blk_drewN ?_ _ | refine blk_drew ?_ | refine blk_alloc ?_ _)); refine blk_far ?_ NB423_439.out _; (with_reducible repeat (first | refine blk_drewN ?_ _ | refine blk_drew ?_ | refine blk_alloc ?_ _)); refine blk_far ?_ NB423_439.out _; (with_reducible repeat (first | refine blk_drewN ?_ _ | refine blk_drew ?_ | refine blk_alloc ?_ _)); refine blk_far ?_ NB423_439.out _; (with_reducible repeat (first | refine blk_drewN ?_ _ | refine blk_drew ?_ | refine blk_alloc ?_ _)); exact BK423.out⟩
 have n7_ : Aside0 ((((w25.setCell ⟨gb439, 0, none⟩ (.bool t432)).setCell ⟨gb439, 1, none⟩ (.slice Ao31 t433.length co31)).setCell ⟨gb439, 2, none⟩ (.slice Ao32 t436.length co32)).heap[gb431]? = some (.cells #[.bool t424, .slice Ao20 t425.length co20, .slice Ao21 t428.length co21] 102 (0, 0))) := ⟨by (with_reducible repeat (first | refine blk_drewN ?_ _ | refine blk_drew ?_ | refine blk_alloc ?_ _)); refine blk_far ?_ NB431_439.out _; (with_reducible repeat (first | refine blk_drewN ?_ _ | refine blk_drew ?_ | refine blk_alloc ?_ _)); refine blk_far ?_ NB431_439.out _; (with_reducible repeat (first | refine blk_drewN ?_ _ | refine blk_drew ?_ | refine blk_alloc ?_ _)); refine blk_far ?_ NB431_439.out _; (with_reducible repeat (first | refine blk_drewN ?_ _ | refine blk_drew ?_ | refine blk_alloc ?_ _)); exact BK431.out⟩
 have n8_ : Aside0 ((((w25.setCell ⟨gb439, 0, none⟩ (.bool t432)).setCell ⟨gb439, 1, none⟩ (.slice Ao31 t433.length co31)).setCell ⟨gb439, 2, none⟩ (.slice Ao32 t436.length co32)).heap[gb439]? = some (.cells #[.bool t432, .slice Ao31 t433.length co31, .slice Ao32 t436.length co32] 102 (0, 0))) := ⟨by (with_reducible repeat (first | refine blk_drewN ?_ _ | refine blk_drew ?_ | refine blk_alloc ?_ _)); refine blk_put (cs := #[.bool t432, .slice Ao31 t433.length co31, .slice none 0 0]) ?_ 2 _ rfl; (with_reducible repeat (first | refine blk_drewN ?_ _ | refine blk_drew ?_ | refine blk_alloc ?_ _)); refine blk_put (cs := #[.bool t432, .slice none 0 0, .slice none 0 0]) ?_ 1 _ rfl; (with_reducible repeat (first | refine blk_drewN ?_ _ | refine blk_drew ?_ | refine blk_alloc ?_ _)); refine blk_put (cs := #[.bool false, .slice none 0 0, .slice none 0 0]) ?_ 0 _ rfl; (with_reducible repeat (first | refine blk_drewN ?_ _ | refine blk_drew ?_ | refine blk_alloc ?_ _)); exact BK439.out⟩
 have n9_ : Aside0 (Below w.heap.size w (((w25.setCell ⟨gb439, 0, none⟩ (.bool t432)).setCell ⟨gb439, 1, none⟩ (.slice Ao31 t433.length co31)).setCell ⟨gb439, 2, none⟩ (.slice Ao32 t436.length co32))) := ⟨bz⟩
 (try clear HO427)
 (try clear HO430)
 (try clear HO435)
 (try clear HO438)
 (try clear BK421)
 (try clear BK422)
 (try clear BK423)
 (try clear BK431)
 (try clear BK439)
 (try clear HB)
 generalize (((w25.setCell ⟨gb439, 0, none⟩ (.bool t432)).setCell ⟨gb439, 1, none⟩ (.slice Ao31 t433.length co31)).setCell ⟨gb439, 2, none⟩ (.slice Ao32 t436.length co32)) = w33 at n0_ n1_ n2_ n3_ n4_ n5_ n6_ n7_ n8_ n9_ ⊢
 have HO427 := n0_
 have HO430 := n1_
 have HO435 := n2_
 have HO438 := n3_
 have BK421 := n4_
 have BK422 := n5_
 have BK423 := n6_
 have BK431 := n7_
 have BK439 := n8_
 have HB := n9_
 clear n0_ n1_ n2_ n3_ n4_ n5_ n6_ n7_ n8_ n9_
 replace HO427 := Aside0.mk (Kd.R_drew HO427.out)
 replace HO430 := Aside0.mk (Kd.R_drew HO430.out)
 replace HO435 := Aside0.mk (Kd.R_drew HO435.out)
 replace HO438 := Aside0.mk (Kd.R_drew HO438.out)
 replace BK421 := Aside0.mk (blk_drew BK421.out)
 replace BK422 := Aside0.mk (blk_drew BK422.out)
 replace BK423 := Aside0.mk (blk_drew BK423.out)
 replace BK431 := Aside0.mk (blk_drew BK431.out)
 replace BK439 := Aside0.mk (blk_drew BK439.out)
 replace HB := Aside0.mk (below_drew1 HB.out)
 refine start_ (n := 18) (S := fun w' => w'.cell? ⟨gb431, 0, none⟩ = some (.bool t424) ∧ w'.cell? ⟨gb431, 1, none⟩ = some (.slice Ao20 t425.length co20) ∧ w'.cell? ⟨gb431, 2, none⟩ = some (.slice Ao21 t428.length co21) ∧ w'.cell? ⟨gb439, 0, none⟩ = some (.bool t432) ∧ w'.cell? ⟨gb439, 1, none⟩ = some (.slice Ao31 t433.length co31) ∧ w'.cell? ⟨gb439, 2, none⟩ = some (.slice Ao32 t436.length co32)) (ds := []) #[ff,ff,ff,ff,ff,ff,ff,ff,ff,ff,ff,ff,ff,ff,ff,ff,ff,ff] (by kernel_rfl) rfl rfl ⟨bc 0 BK431, bc 1 BK431, bc 2 BK431, bc 0 BK439, bc 1 BK439, bc 2 BK439⟩ (fun hHeld => ?_); refine with_tabW manorboyref02_Mul.tab3 manorboyref02_Mul.bits3 (fun HT_ HW_ => ?_)
 generalize w33.drew = w34 at HO427 HO430 HO435 HO438 BK421 BK422 BK423 BK431 BK439 HB hHeld ⊢
 refine pur 0 (some 11) #[tt,ff,ff,ff,ff,ff,ff,ff,ff,ff,ff,ff,ff,ff,ff,ff,ff,ff] ?_
 refine pur 2 (some 13) #[tt,ff,tt,ff,ff,ff,ff,ff,ff,ff,ff,ff,ff,ff,ff,ff,ff,ff] ?_
 refine pur 5 (some 16) #[tt,ff,tt,ff,ff,tt,ff,ff,ff,ff,ff,ff,ff,ff,ff,ff,ff,ff] ?_
 refine pur 7 (some 18) #[tt,ff,tt,ff,ff,tt,ff,tt,ff,ff,ff,ff,ff,ff,ff,ff,ff,ff] ?_
 refine pur 10 (some 21) #[tt,ff,tt,ff,ff,tt,ff,tt,ff,ff,tt,ff,ff,ff,ff,ff,ff,ff] ?_
 refine pur 12 (some 23) #[tt,ff,tt,ff,ff,tt,ff,tt,ff,ff,tt,ff,tt,ff,ff,ff,ff,ff] ?_
 refine take_ (i := 1) (N := some 12) (v := ?_) (a' := ?_) #[true, true, true, false, false, true, false, true, false, false, true, false, true, false, false, false, false, false] rfl rfl (take_ofW HT_.out HW_.out (by kernel_rfl)) (fun _ _ _ h => h) (Or.inl ⟨by rfl, ?_⟩) hHeld ?_ ?_
 rotate_left
 ·rintro w' ⟨s0, s1, s2, s3, s4, s5⟩
  go_simp
  with_reducible rfl
 rotate_left
 ·simp only [Act.put, List.setIfInBounds_toArray, List.set_cons_zero, List.set_cons_succ, i64_w, i32_w]
  rfl
 refine take_ (i := 3) (N := some 14) (v := ?_) (a' := ?_) #[true, true, true, true, false, true, false, true, false, false, true, false, true, false, false, false, false, false] rfl rfl (take_ofW HT_.out HW_.out (by kernel_rfl)) (fun _ _ _ h => h) (Or.inl ⟨by rfl, ?_⟩) hHeld ?_ ?_
 rotate_left
 ·rintro w' ⟨s0, s1, s2, s3, s4, s5⟩
  go_simp
  with_reducible rfl
 rotate_left
 ·simp only [Act.put, List.setIfInBounds_toArray, List.set_cons_zero, List.set_cons_succ, i64_w, i32_w]
  rfl
 refine pur 4 (some 15) #[tt,tt,tt,tt,tt,tt,ff,tt,ff,ff,tt,ff,tt,ff,ff,ff,ff,ff] ?_
 refine take_ (i := 6) (N := some 17) (v := ?_) (a' := ?_) #[true, true, true, true, true, true, true, true, false, false, true, false, true, false, false, false, false, false] rfl rfl (take_ofW HT_.out HW_.out (by kernel_rfl)) (fun _ _ _ h => h) (Or.inl ⟨by rfl, ?_⟩) hHeld ?_ ?_
 rotate_left
 ·rintro w' ⟨s0, s1, s2, s3, s4, s5⟩
  go_simp
  with_reducible rfl
 rotate_left
 ·simp only [Act.put, List.setIfInBounds_toArray, List.set_cons_zero, List.set_cons_succ, i64_w, i32_w]
  rfl
 refine take_ (i := 8) (N := some 19) (v := ?_) (a' := ?_) #[true, true, true, true, true, true, true, true, true, false, true, false, true, false, false, false, false, false] rfl rfl (take_ofW HT_.out HW_.out (by kernel_rfl)) (fun _ _ _ h => h) (Or.inl ⟨by rfl, ?_⟩) hHeld ?_ ?_
 rotate_left
 ·rintro w' ⟨s0, s1, s2, s3, s4, s5⟩
  go_simp
  with_reducible rfl
 rotate_left
 ·simp only [Act.put, List.setIfInBounds_toArray, List.set_cons_zero, List.set_cons_succ, i64_w, i32_w]
  rfl
 refine take_ (i := 11) (N := some 22) (v := ?_) (a' := ?_) #[true, true, true, true, true, true, true, true, true, false, true, true, true, false, false, false, false, false] rfl rfl (take_ofW HT_.out HW_.out (by kernel_rfl)) (fun _ _ _ h => h) (Or.inl ⟨by rfl, ?_⟩) hHeld ?_ ?_
 rotate_left
 ·rintro w' ⟨s0, s1, s2, s3, s4, s5⟩
  go_simp
  with_reducible rfl
 rotate_left
 ·simp only [Act.put, List.setIfInBounds_toArray, List.set_cons_zero, List.set_cons_succ, i64_w, i32_w]
  rfl
 refine take_ (i := 13) (N := some 24) (v := ?_) (a' := ?_) #[true, true, true, true, true, true, true, true, true, false, true, true, true, true, false, false, false, false] rfl rfl (take_ofW HT_.out HW_.out (by kernel_rfl)) (fun _ _ _ h => h) (Or.inl ⟨by rfl, ?_⟩) hHeld ?_ ?_
 rotate_left
 ·rintro w' ⟨s0, s1, s2, s3, s4, s5⟩
  go_simp
  with_reducible rfl
 rotate_left
 ·simp only [Act.put, List.setIfInBounds_toArray, List.set_cons_zero, List.set_cons_succ, i64_w, i32_w]
  rfl
 refine on1 9 (some 20) #[tt,tt,tt,tt,tt,tt,tt,tt,tt,tt,tt,tt,tt,tt,ff,ff,ff,ff] (fun K hK => ?_)
 refine goes_ Tryz.func86 (by kernel_rfl) rfl #[.slice Ao20 t425.length co20, .slice Ao31 t433.length co31] (by rfl) rfl rfl az ?_
 with_reducible refine (manorboyref02_Nat_Mul.calls k _ _ t425 _ _ t433 t440 _ ?side1 ?side2 ?side3 ?side4 A5.out).mono ?_
 (case side1 => exact ccz (Kd.R_reads' HO427.out).2.2)
 (case side2 => exact (Kd.R_reads' HO427.out).2.1)
 (case side3 => exact ccz (Kd.R_reads' HO435.out).2.2)
 (case side4 => exact (Kd.R_reads' HO435.out).2.1)
 rintro e w35 ⟨v441, rfl, ho0, hb⟩
 refine ⟨_, rfl, ?_⟩
 have HO442 := Aside0.mk (Kd.R_lower (Kd.R_new' (Kd.R_new' (Kd.R_new' (Kd.R_new' ho0 (Kd.R_lt (rz HO427))) (Kd.R_lt (rz HO430))) (Kd.R_lt (rz HO435))) (Kd.R_lt (rz HO438))) (below_size bz))
 replace HO427 := Aside0.mk (Kd.R_elder' (rz HO427) (Kd.R_base ho0) hb)
 replace HO430 := Aside0.mk (Kd.R_elder' (rz HO430) (Kd.R_base ho0) hb)
 replace HO435 := Aside0.mk (Kd.R_elder' (rz HO435) (Kd.R_base ho0) hb)
 replace HO438 := Aside0.mk (Kd.R_elder' (rz HO438) (Kd.R_base ho0) hb)
 replace BK421 := kb BK421 hb
 replace BK422 := kb BK422 hb
 replace BK423 := kb BK423 hb
 replace BK431 := kb BK431 hb
 replace BK439 := kb BK439 hb
 replace HB := bs hb
 (try clear hb)
 (try clear hk)
 (try clear ho0)
 refine hK.out _ _ ⟨bc 0 BK431, bc 1 BK431, bc 2 BK431, bc 0 BK439, bc 1 BK439, bc 2 BK439⟩ (fun hHeld => ?_)
 clear hK K
 refine nrm (some 20) ?_
 refine on1 14 (some 25) #[tt,tt,tt,tt,tt,tt,tt,tt,tt,tt,tt,tt,tt,tt,tt,ff,ff,ff] (fun K hK => ?_)
 refine goes_ Tryz.func86 (by kernel_rfl) rfl #[.slice Ao21 t428.length co21, .slice Ao32 t436.length co32] (by rfl) rfl rfl az ?_
 with_reducible refine (manorboyref02_Nat_Mul.calls k _ _ t428 _ _ t436 t443 _ ?side1 ?side2 ?side3 ?side4 A6.out).mono ?_
 (case side1 => exact ccz (Kd.R_reads' HO430.out).2.2)
 (case side2 => exact (Kd.R_reads' HO430.out).2.1)
 (case side3 => exact ccz (Kd.R_reads' HO438.out).2.2)
 (case side4 => exact (Kd.R_reads' HO438.out).2.1)
 rintro e w36 ⟨v444, rfl, ho0, hb⟩
 refine ⟨_, rfl, ?_⟩
 have HO445 := Aside0.mk (Kd.R_lower (Kd.R_new' (Kd.R_new' (Kd.R_new' (Kd.R_new' (Kd.R_new' ho0 (Kd.R_lt (rz HO427))) (Kd.R_lt (rz HO430))) (Kd.R_lt (rz HO435))) (Kd.R_lt (rz HO438))) (Kd.R_lt (rz HO442))) (below_size bz))
 replace HO427 := Aside0.mk (Kd.R_elder' (rz HO427) (Kd.R_base ho0) hb)
 replace HO430 := Aside0.mk (Kd.R_elder' (rz HO430) (Kd.R_base ho0) hb)
 replace HO435 := Aside0.mk (Kd.R_elder' (rz HO435) (Kd.R_base ho0) hb)
 replace HO438 := Aside0.mk (Kd.R_elder' (rz HO438) (Kd.R_base ho0) hb)
 replace HO442 := Aside0.mk (Kd.R_elder' (rz HO442) (Kd.R_base ho0) hb)
 replace BK421 := kb BK421 hb
 replace BK422 := kb BK422 hb
 replace BK423 := kb BK423 hb
 replace BK431 := kb BK431 hb
 replace BK439 := kb BK439 hb
 replace HB := bs hb
 (try clear hb)
 (try clear hk)
 (try clear ho0)
 obtain ⟨Ao37, co37, eo37⟩ := Kd.R_slice HO445.out
 (first | subst eo37 | (injection eo37 with f1_ f2_ f3_; have f4_ := f1_.symm; have f5_ := f3_.symm; clear f1_ f2_ f3_; subst f4_; subst f5_))
 obtain ⟨Ao38, co38, eo38⟩ := Kd.R_slice HO442.out
 (first | subst eo38 | (injection eo38 with f1_ f2_ f3_; have f4_ := f1_.symm; have f5_ := f3_.symm; clear f1_ f2_ f3_; subst f4_; subst f5_))
 refine hK.out _ _ ⟨bc 0 BK431, bc 1 BK431, bc 2 BK431, bc 0 BK439, bc 1 BK439, bc 2 BK439⟩ (fun hHeld => ?_)
 clear hK K
 refine nrm (some 25) ?_
 refine pur 15 (some 26) #[tt,tt,tt,tt,tt,tt,tt,tt,tt,tt,tt,tt,tt,tt,tt,tt,ff,ff] ?_
 refine on1 16 (some 27) #[tt,tt,tt,tt,tt,tt,tt,tt,tt,tt,tt,tt,tt,tt,tt,tt,tt,ff] (fun K hK => ?_)
 refine goes_ Tryz.func88 (by kernel_rfl) rfl #[.agg #[.bool (t424 != t432), .slice Ao38 t440.length co38, .slice Ao37 t443.length co37]] (by rfl) rfl rfl az ?_
 with_reducible refine (manorboyref02_Quotient_Round.calls k (t424 != t432) _ _ t440 _ _ t443 t446 t447 t448 _ ?side1 ?side2 ?side3 ?side4 A7.out).mono ?_
 (case side1 => exact ccz (Kd.R_reads' HO442.out).2.2)
 (case side2 => exact (Kd.R_reads' HO442.out).2.1)
 (case side3 => exact ccz (Kd.R_reads' HO445.out).2.2)
 (case side4 => exact (Kd.R_reads' HO445.out).2.1)
 rintro e w39 ⟨rfl, hb⟩
 refine ⟨_, rfl, ?_⟩
 replace HO427 := rb HO427 hb
 replace HO430 := rb HO430 hb
 replace HO435 := rb HO435 hb
 replace HO438 := rb HO438 hb
 replace HO442 := rb HO442 hb
 replace HO445 := rb HO445 hb
 replace BK421 := kb BK421 hb
 replace BK422 := kb BK422 hb
 replace BK423 := kb BK423 hb
 replace BK431 := kb BK431 hb
 replace BK439 := kb BK439 hb
 replace HB := bs hb
 (try clear hb)
 (try clear hk)
 refine hK.out _ _ ⟨bc 0 BK431, bc 1 BK431, bc 2 BK431, bc 0 BK439, bc 1 BK439, bc 2 BK439⟩ (fun hHeld => ?_)
 clear hK K
 refine nrm (some 27) ?_
 refine on1 17 (none) #[tt,tt,tt,tt,tt,tt,tt,tt,tt,tt,tt,tt,tt,tt,tt,tt,tt,tt] (fun K hK => ?_)
 have hs40 : w39.cell? ⟨gb423, 0, none⟩ = some (.int .i64 0) := (blk_cell BK423.out 0).trans rfl
 have hfs40 := blk_frozen BK423.out 0
 have hns40_0 := NB421_423.out
 have hns40_1 := NB422_423.out
 have hns40_3 := NB431_423.out
 have hns40_4 := NB439_423.out
 have hms40_0 := NB423_421.out
 have hms40_1 := NB423_422.out
 have hms40_3 := NB423_431.out
 have hms40_4 := NB423_439.out
 have hs41 : w39.cell? ⟨gb423, 1, none⟩ = some (.int .i64 0) := (blk_cell BK423.out 1).trans rfl
 have hfs41 := blk_frozen BK423.out 1
 have hns41_0 := NB421_423.out
 have hns41_1 := NB422_423.out
 have hns41_3 := NB431_423.out
 have hns41_4 := NB439_423.out
 have hms41_0 := NB423_421.out
 have hms41_1 := NB423_422.out
 have hms41_3 := NB423_431.out
 have hms41_4 := NB423_439.out
 have hs42 : w39.cell? ⟨gb423, 2, none⟩ = some (.bool false) := (blk_cell BK423.out 2).trans rfl
 have hfs42 := blk_frozen BK423.out 2
 have hns42_0 := NB421_423.out
 have hns42_1 := NB422_423.out
 have hns42_3 := NB431_423.out
 have hns42_4 := NB439_423.out
 have hms42_0 := NB423_421.out
 have hms42_1 := NB423_422.out
 have hms42_3 := NB423_431.out
 have hms42_4 := NB423_439.out
 refine skip_ (w1 := ?_) (by rfl) rfl ?_ ?_
 rotate_left
 ·go_simp
  rfl
 refine hK.out _ _ ⟨((cell_far (p := ⟨gb423, _, none⟩) NB431_423.out _).trans (((cell_far (p := ⟨gb423, _, none⟩) NB431_423.out _).trans (((cell_far (p := ⟨gb423, _, none⟩) NB431_423.out _).trans (hHeld.1)))))), ((cell_far (p := ⟨gb423, _, none⟩) NB431_423.out _).trans (((cell_far (p := ⟨gb423, _, none⟩) NB431_423.out _).trans (((cell_far (p := ⟨gb423, _, none⟩) NB431_423.out _).trans (hHeld.2.1)))))), ((cell_far (p := ⟨gb423, _, none⟩) NB431_423.out _).trans (((cell_far (p := ⟨gb423, _, none⟩) NB431_423.out _).trans (((cell_far (p := ⟨gb423, _, none⟩) NB431_423.out _).trans (hHeld.2.2.1)))))), ((cell_far (p := ⟨gb423, _, none⟩) NB439_423.out _).trans (((cell_far (p := ⟨gb423, _, none⟩) NB439_423.out _).trans (((cell_far (p := ⟨gb423, _, none⟩) NB439_423.out _).trans (hHeld.2.2.2.1)))))), ((cell_far (p := ⟨gb423, _, none⟩) NB439_423.out _).trans (((cell_far (p := ⟨gb423, _, none⟩) NB439_423.out _).trans (((cell_far (p := ⟨gb423, _, none⟩) NB439_423.out _).trans (hHeld.2.2.2.2.1)))))), ((cell_far (p := ⟨gb423, _, none⟩) NB439_423.out _).trans (((cell_far (p := ⟨gb423, _, none⟩) NB439_423.out _).trans (((cell_far (p := ⟨gb423, _, none⟩) NB439_423.out _).trans (hHeld.2.2.2.2.2))))))⟩ (fun hHeld => ?_)
 clear hK K
 refine done_ (done_of HT_.out (by kernel_rfl)) ?_
 try go_wp2
 refine bodyPost_ret (results_cell_row rfl _ _ gb423 50 #[.int .i64 t446, .int .i64 t447, .bool t448] (0, 0) _ rfl (by (with_reducible repeat (first | refine blk_drewN ?_ _ | refine blk_drew ?_ | refine blk_alloc ?_ _)); refine blk_put (cs := #[.int .i64 t446, .int .i64 t447, .bool false]) ?_ 2 _ rfl; (with_reducible repeat (first | refine blk_drewN ?_ _ | refine blk_drew ?_ | refine blk_alloc ?_ _)); refine blk_put (cs := #[.int .i64 t446, .int .i64 0, .bool false]) ?_ 1 _ rfl; (with_reducible repeat (first | refine blk_drewN ?_ _ | refine blk_drew ?_ | refine blk_alloc ?_ _)); refine blk_put (cs := #[.int .i64 0, .int .i64 0, .bool false]) ?_ 0 _ rfl; (with_reducible repeat (first | refine blk_drewN ?_ _ | refine blk_drew ?_ | refine blk_alloc ?_ _)); exact BK423.out) Tryz.underlying50 rfl (by kernel_rfl)) rfl ?_
 exact ⟨by first | rfl | (simp [errW_none, errW_some] <;> rfl) | (simp [*, errW_none, errW_some] <;> rfl), bz⟩

def manorboyref02_Div.f (k : Nat) (a0_0 : Int) (a0_1 : Int) (a1_0 : Int) (a1_1 : Int) : Option (Int × Int × Bool) := (manorboyref02_Of.f k a0_0 a0_1).bind fun bt452 => ((manorboyref02_Of.f k a1_0 a1_1).bind fun bt460 => ((manorboyref02_Quotient_Round.f k (bt452.1 != bt460.1) bt452.2.1 bt460.2.1).bind fun bt468 => (some (bt468.1, bt468.2.1, bt468.2.2))))
theorem manorboyref02_Div.calls (k : Nat) (a0_0 : Int) (a0_1 : Int) (a1_0 : Int) (a1_1 : Int) (r1 : Int) (r2 : Int) (r3 : Bool) (w : World) (h : manorboyref02_Div.f k a0_0 a0_1 a1_0 a1_1 = some (r1, r2, r3)) :
  Calls Tryz.prog 46 #[.agg #[.int .i64 a0_0, .int .i64 a0_1], .agg #[.int .i64 a1_0, .int .i64 a1_1]] w fun e w' => e = .returned (.agg #[.int .i64 r1, .int .i64 r2, .bool r3]) ∧ Below w.heap.size w w' := by
 have hu23 := Tryz.underlying23
 have hu50 := Tryz.underlying50
 have hu102 := Tryz.underlying102
 have HB := Aside0.mk (Below.refl w.heap.size w)
 have H := h; unfold manorboyref02_Div.f at H; clear h
 replace H := Option.bind_eq_some_iff.mp H
 obtain ⟨⟨t452, t453, t456⟩, A30, H⟩ := H
 try dsimp only at H
 have A3 := Aside0.mk A30
 clear A30
 replace H := Option.bind_eq_some_iff.mp H
 obtain ⟨⟨t460, t461, t464⟩, A40, H⟩ := H
 try dsimp only at H
 have A4 := Aside0.mk A40
 clear A40
 replace H := Option.bind_eq_some_iff.mp H
 obtain ⟨⟨t468, t469, t470⟩, A50, H⟩ := H
 try dsimp only at H
 have A5 := Aside0.mk A50
 clear A50
 simp only [Option.some.injEq, Prod.mk.injEq] at H
 obtain ⟨rfl, rfl, rfl⟩ := H
 go_enter Tryz.func46, Tryz.ntmps46
 go_wp2_with (first | ((with_reducible refine gate_dst (N := 2) rfl ?_); refine bxe 2 #[.int .i64 a0_0, .int .i64 a0_1] 23 ?_; intro gb449 hg w6 hbox hb; have BK449 := Aside0.mk hbox; have GW449 := ge hg; have GE449 := ge hg; replace HB := bs hb; clear hb hbox hg) | ((with_reducible refine gate_dst (N := 3) rfl ?_); refine bxe 3 #[.int .i64 a1_0, .int .i64 a1_1] 23 ?_; intro gb450 hg w7 hbox hb; have BK450 := Aside0.mk hbox; have GW450 := ge hg; have GE450 := ge hg; have NB449_450 := nl BK449 hg; have NB450_449 := nr BK449 hg; replace BK449 := kb BK449 hb; replace HB := bs hb; clear hb hbox hg) | ((with_reducible refine gate_dst (N := 4) rfl ?_); refine bxe 4 #[.int .i64 0, .int .i64 0, .bool false] 50 ?_; intro gb451 hg w8 hbox hb; have BK451 := Aside0.mk hbox; have GW451 := ge hg; have GE451 := ge hg; have NB449_451 := nl BK449 hg; have NB451_449 := nr BK449 hg; have NB450_451 := nl BK450 hg; have NB451_450 := nr BK450 hg; replace BK449 := kb BK449 hb; replace BK450 := kb BK450 hb; replace HB := bs hb; clear hb hbox hg; have hnb9 := NB449_450.out; have hnc9 := NB450_449.out; have hnb10 := NB449_451.out; have hnc10 := NB451_449.out; have hcz11_0 := c20 BK449; have hcz11_1 := c21 BK449; have hfz11_0 := blk_frozen BK449.out 0; have hfz11_1 := blk_frozen BK449.out 1) | ((with_reducible refine gate_callee (f := 102) rfl ?_); refine gL 8 Tryz.func102 #[.agg #[.int .i64 a0_0, .int .i64 a0_1]] ?_; (with_reducible refine (manorboyref02_Of.calls k a0_0 a0_1 t452 t453 t456 _ A3.out).mono ?_); rintro e w12 ⟨v454, v457, rfl, ho0, ho1, hb⟩; refine ⟨_, rfl, ?_⟩; have HO455 := Aside0.mk (Kd.R_lower ho0 (below_size bz)); have HO458 := Aside0.mk (Kd.R_lower ho1 (below_size bz)); replace BK449 := kb BK449 hb; replace BK450 := kb BK450 hb; replace BK451 := kb BK451 hb; replace HB := bs hb; (try clear hb); (try clear hk); (try clear ho0); (try clear ho1)) | ((with_reducible refine gate_dst (N := 5) rfl ?_); refine bxe 5 #[.bool false, .slice none 0 0, .slice none 0 0] 102 ?_; intro gb459 hg w13 hbox hb; have BK459 := Aside0.mk hbox; have GW459 := ge hg; have GE459 := ge hg; have NB449_459 := nl BK449 hg; have NB459_449 := nr BK449 hg; have NB450_459 := nl BK450 hg; have NB459_450 := nr BK450 hg; have NB451_459 := nl BK451 hg; have NB459_451 := nr BK451 hg; replace HO455 := rb HO455 hb; replace HO458 := rb HO458 hb; replace BK449 := kb BK449 hb; replace BK450 := kb BK450 hb; replace BK451 := kb BK451 hb; replace HB := bs hb; clear hb hbox hg; have hnb14 := NB459_449.out; have hnc14 := NB449_459.out; have hnb15 := NB459_450.out; have hnc15 := NB450_459.out; have hnb16 := NB459_451.out; have hnc16 := NB451_459.out; have hcz17_0 : w13.cell? ⟨gb459, 0, none⟩ = some (.bool false) := (blk_cell BK459.out 0).trans rfl; have hcz17_1 : w13.cell? ⟨gb459, 1, none⟩ = some (.slice none 0 0) := (blk_cell BK459.out 1).trans rfl; have hcz17_2 : w13.cell? ⟨gb459, 2, none⟩ = some (.slice none 0 0) := (blk_cell BK459.out 2).trans rfl; have hfz17_0 := blk_frozen BK459.out 0; have hfz17_1 := blk_frozen BK459.out 1; have hfz17_2 := blk_frozen BK459.out 2; obtain ⟨Ao18, co18, eo18⟩ := Kd.R_slice HO455.out; subst eo18; obtain ⟨Ao19, co19, eo19⟩ := Kd.R_slice HO458.out; subst eo19; have hnb20 := NB450_451.out; have hnc20 := NB451_450.out; have hcz21_0 := c20 BK450; have hcz21_1 := c21 BK450; have hfz21_0 := blk_frozen BK450.out 0; have hfz21_1 := blk_frozen BK450.out 1) | ((with_reducible refine gate_callee (f := 102) rfl ?_); refine gL 10 Tryz.func102 #[.agg #[.int .i64 a1_0, .int .i64 a1_1]] ?_; (with_reducible refine (manorboyref02_Of.calls k a1_0 a1_1 t460 t461 t464 _ A4.out).mono ?_); rintro e w22 ⟨v462, v465, rfl, ho0, ho1, hb⟩; refine ⟨_, rfl, ?_⟩; have HO463 := Aside0.mk (Kd.R_lower (Kd.R_new' (Kd.R_new' ho0 (Kd.R_lt (by (with_reducible repeat (first | apply Kd.R_alloc | apply Kd.R_drewN | apply Kd.R_drew)); exact (Kd.R_mono (Kd.R_far (p := ⟨gb459, 2, none⟩) (Kd.R_far (p := ⟨gb459, 1, none⟩) (Kd.R_far (p := ⟨gb459, 0, none⟩) (Kd.R_types HO455.out BK459.out (by decide)) (fun _ hk => hk.2) (.bool t452)) (fun _ hk => hk.2) (.slice Ao18 t453.length co18)) (fun _ hk => hk.2) (.slice Ao19 t456.length co19)) (fun _ h_ => h_.1))))) (Kd.R_lt (by (with_reducible repeat (first | apply Kd.R_alloc | apply Kd.R_drewN | apply Kd.R_drew)); exact (Kd.R_mono (Kd.R_far (p := ⟨gb459, 2, none⟩) (Kd.R_far (p := ⟨gb459, 1, none⟩) (Kd.R_far (p := ⟨gb459, 0, none⟩) (Kd.R_types HO458.out BK459.out (by decide)) (fun _ hk => hk.2) (.bool t452)) (fun _ hk => hk.2) (.slice Ao18 t453.length co18)) (fun _ hk => hk.2) (.slice Ao19 t456.length co19)) (fun _ h_ => h_.1))))) (below_size bz)); have HO466 := Aside0.mk (Kd.R_lower (Kd.R_new' (Kd.R_new' ho1 (Kd.R_lt (by (with_reducible repeat (first | apply Kd.R_alloc | apply Kd.R_drewN | apply Kd.R_drew)); exact (Kd.R_mono (Kd.R_far (p := ⟨gb459, 2, none⟩) (Kd.R_far (p := ⟨gb459, 1, none⟩) (Kd.R_far (p := ⟨gb459, 0, none⟩) (Kd.R_types HO455.out BK459.out (by decide)) (fun _ hk => hk.2) (.bool t452)) (fun _ hk => hk.2) (.slice Ao18 t453.length co18)) (fun _ hk => hk.2) (.slice Ao19 t456.length co19)) (fun _ h_ => h_.1))))) (Kd.R_lt (by (with_reducible repeat (first | apply Kd.R_alloc | apply Kd.R_drewN | apply Kd.R_drew)); exact (Kd.R_mono (Kd.R_far (p := ⟨gb459, 2, none⟩) (Kd.R_far (p := ⟨gb459, 1, none⟩) (Kd.R_far (p := ⟨gb459, 0, none⟩) (Kd.R_types HO458.out BK459.out (by decide)) (fun _ hk => hk.2) (.bool t452)) (fun _ hk => hk.2) (.slice Ao18 t453.length co18)) (fun _ hk => hk.2) (.slice Ao19 t456.length co19)) (fun _ h_ => h_.1))))) (below_size bz)); replace HO455 := Aside0.mk (Kd.R_mono (Kd.R_told (Kd.R_told (Kd.R_old (by (with_reducible repeat (first | apply Kd.R_alloc | apply Kd.R_drewN | apply Kd.R_drew)); exact (Kd.R_mono (Kd.R_far (p := ⟨gb459, 2, none⟩) (Kd.R_far (p := ⟨gb459, 1, none⟩) (Kd.R_far (p := ⟨gb459, 0, none⟩) (Kd.R_types HO455.out BK459.out (by decide)) (fun _ hk => hk.2) (.bool t452)) (fun _ hk => hk.2) (.slice Ao18 t453.length co18)) (fun _ hk => hk.2) (.slice Ao19 t456.length co19)) (fun _ h_ => h_.1))) hb) (Kd.R_base ho0)) (Kd.R_base ho1)) (fun _ h_ => h_.1)); replace HO458 := Aside0.mk (Kd.R_mono (Kd.R_told (Kd.R_told (Kd.R_old (by (with_reducible repeat (first | apply Kd.R_alloc | apply Kd.R_drewN | apply Kd.R_drew)); exact (Kd.R_mono (Kd.R_far (p := ⟨gb459, 2, none⟩) (Kd.R_far (p := ⟨gb459, 1, none⟩) (Kd.R_far (p := ⟨gb459, 0, none⟩) (Kd.R_types HO458.out BK459.out (by decide)) (fun _ hk => hk.2) (.bool t452)) (fun _ hk => hk.2) (.slice Ao18 t453.length co18)) (fun _ hk => hk.2) (.slice Ao19 t456.length co19)) (fun _ h_ => h_.1))) hb) (Kd.R_base ho0)) (Kd.R_base ho1)) (fun _ h_ => h_.1)); replace BK449 := Aside0.mk (blk_below (g := gb449) (o := .cells #[.int .i64 a0_0, .int .i64 a0_1] 23 (0, 0)) (by (with_reducible repeat (first | refine blk_drewN ?_ _ | refine blk_drew ?_ | refine blk_alloc ?_ _)); refine blk_far ?_ NB449_459.out _; (with_reducible repeat (first | refine blk_drewN ?_ _ | refine blk_drew ?_ | refine blk_alloc ?_ _)); refine blk_far ?_ NB449_459.out _; (with_reducible repeat (first | refine blk_drewN ?_ _ | refine blk_drew ?_ | refine blk_alloc ?_ _)); refine blk_far ?_ NB449_459.out _; (with_reducible repeat (first | refine blk_drewN ?_ _ | refine blk_drew ?_ | refine blk_alloc ?_ _)); exact BK449.out) hb); replace BK450 := Aside0.mk (blk_below (g := gb450) (o := .cells #[.int .i64 a1_0, .int .i64 a1_1] 23 (0, 0)) (by (with_reducible repeat (first | refine blk_drewN ?_ _ | refine blk_drew ?_ | refine blk_alloc ?_ _)); refine blk_far ?_ NB450_459.out _; (with_reducible repeat (first | refine blk_drewN ?_ _ | refine blk_drew ?_ | refine blk_alloc ?_ _)); refine blk_far ?_ NB450_459.out _; (with_reducible repeat (first | refine blk_drewN ?_ _ | refine blk_drew ?_ | refine blk_alloc ?_ _)); refine blk_far ?_ NB450_459.out _; (with_reducible repeat (first | refine blk_drewN ?_ _ | refine blk_drew ?_ | refine blk_alloc ?_ _)); exact BK450.out) hb); replace BK451 := Aside0.mk (blk_below (g := gb451) (o := .cells #[.int .i64 0, .int .i64 0, .bool false] 50 (0, 0)) (by (with_reducible repeat (first | refine blk_drewN ?_ _ | refine blk_drew ?_ | refine blk_alloc ?_ _)); refine blk_far ?_ NB451_459.out _; (with_reducible repeat (first | refine blk_drewN ?_ _ | refine blk_drew ?_ | refine blk_alloc ?_ _)); refine blk_far ?_ NB451_459.out _; (with_reducible repeat (first | refine blk_drewN ?_ _ | refine blk_drew ?_ | refine blk_alloc ?_ _)); refine blk_far ?_ NB451_459.out _; (with_reducible repeat (first | refine blk_drewN ?_ _ | refine blk_drew ?_ | refine blk_alloc ?_ _)); exact BK451.out) hb); replace BK459 := Aside0.mk (blk_below (g := gb459) (o := .cells #[.bool t452, .slice Ao18 t453.length co18, .slice Ao19 t456.length co19] 102 (0, 0)) (by (with_reducible repeat (first | refine blk_drewN ?_ _ | refine blk_drew ?_ | refine blk_alloc ?_ _)); refine blk_put (cs := #[.bool t452, .slice Ao18 t453.length co18, .slice none 0 0]) ?_ 2 _ rfl; (with_reducible repeat (first | refine blk_drewN ?_ _ | refine blk_drew ?_ | refine blk_alloc ?_ _)); refine blk_put (cs := #[.bool t452, .slice none 0 0, .slice none 0 0]) ?_ 1 _ rfl; (with_reducible repeat (first | refine blk_drewN ?_ _ | refine blk_drew ?_ | refine blk_alloc ?_ _)); refine blk_put (cs := #[.bool false, .slice none 0 0, .slice none 0 0]) ?_ 0 _ rfl; (with_reducible repeat (first | refine blk_drewN ?_ _ | refine blk_drew ?_ | refine blk_alloc ?_ _)); exact BK459.out) hb); replace HB := bs hb; (try clear hb); (try clear hk); (try clear ho0); (try clear ho1)) | ((with_reducible refine gate_dst (N := 6) rfl ?_); refine bxe 6 #[.bool false, .slice none 0 0, .slice none 0 0] 102 ?_; intro gb467 hg w23 hbox hb; have BK467 := Aside0.mk hbox; have GW467 := ge hg; have GE467 := ge hg; have NB449_467 := nl BK449 hg; have NB467_449 := nr BK449 hg; have NB450_467 := nl BK450 hg; have NB467_450 := nr BK450 hg; have NB451_467 := nl BK451 hg; have NB467_451 := nr BK451 hg; have NB459_467 := nl BK459 hg; have NB467_459 := nr BK459 hg; replace HO455 := rb HO455 hb; replace HO458 := rb HO458 hb; replace HO463 := rb HO463 hb; replace HO466 := rb HO466 hb; replace BK449 := kb BK449 hb; replace BK450 := kb BK450 hb; replace BK451 := kb BK451 hb; replace BK459 := kb BK459 hb; replace HB := bs hb; clear hb hbox hg; have hnb24 := NB467_449.out; have hnc24 := NB449_467.out; have hnb25 := NB467_450.out; have hnc25 := NB450_467.out; have hnb26 := NB467_451.out; have hnc26 := NB451_467.out; have hnb27 := NB467_459.out; have hnc27 := NB459_467.out; have hcz28_0 : w23.cell? ⟨gb467, 0, none⟩ = some (.bool false) := (blk_cell BK467.out 0).trans rfl; have hcz28_1 : w23.cell? ⟨gb467, 1, none⟩ = some (.slice none 0 0) := (blk_cell BK467.out 1).trans rfl; have hcz28_2 : w23.cell? ⟨gb467, 2, none⟩ = some (.slice none 0 0) := (blk_cell BK467.out 2).trans rfl; have hfz28_0 := blk_frozen BK467.out 0; have hfz28_1 := blk_frozen BK467.out 1; have hfz28_2 := blk_frozen BK467.out 2; obtain ⟨Ao29, co29, eo29⟩ := Kd.R_slice HO463.out; subst eo29; obtain ⟨Ao30, co30, eo30⟩ := Kd.R_slice HO466.out; subst eo30; have hcz31_0 : w23.cell? ⟨gb459, 0, none⟩ = some (.bool t452) := (blk_cell BK459.out 0).trans rfl; have hcz31_1 : w23.cell? ⟨gb459, 1, none⟩ = some (.slice Ao18 t453.length co18) := (blk_cell BK459.out 1).trans rfl; have hcz31_2 : w23.cell? ⟨gb459, 2, none⟩ = some (.slice Ao19 t456.length co19) := (blk_cell BK459.out 2).trans rfl; have hfz31_0 := blk_frozen BK459.out 0; have hfz31_1 := blk_frozen BK459.out 1; have hfz31_2 := blk_frozen BK459.out 2) | ((with_reducible refine gate_callee (f := 88) rfl ?_); refine gL 21 Tryz.func88 #[.agg #[.bool (t452 != t460), .slice Ao18 t453.length co18, .slice Ao29 t461.length co29]] ?_; (with_reducible refine (manorboyref02_Quotient_Round.calls k (t452 != t460) _ _ t453 _ _ t461 t468 t469 t470 _ ?side1 ?side2 ?side3 ?side4 A5.out).mono ?_); (case side1 => refine (Kd.R_reads' (e := 3) (base := w.heap.size) (ok := fun k_ => ((some k_ ≠ (.slice Ao19 t456.length co19 : Value).ownBlock ∧ some k_ ≠ (.slice Ao29 t461.length co29 : Value).ownBlock) ∧ some k_ ≠ (.slice Ao30 t464.length co30 : Value).ownBlock)) (n := t453.length) (c := co18) ?_).2.2; exact (by (with_reducible repeat (first | apply Kd.R_alloc | apply Kd.R_drewN | apply Kd.R_drew)); exact (Kd.R_mono (Kd.R_far (p := ⟨gb467, 2, none⟩) (Kd.R_far (p := ⟨gb467, 1, none⟩) (Kd.R_far (p := ⟨gb467, 0, none⟩) (Kd.R_types HO455.out BK467.out (by decide)) (fun _ hk => hk.2) (.bool t460)) (fun _ hk => hk.2) (.slice Ao29 t461.length co29)) (fun _ hk => hk.2) (.slice Ao30 t464.length co30)) (fun _ h_ => h_.1)))); (case side2 => exact (Kd.R_reads' HO455.out).2.1); (case side3 => refine (Kd.R_reads' (e := 3) (base := w.heap.size) (ok := fun k_ => ((some k_ ≠ (.slice Ao30 t464.length co30 : Value).ownBlock ∧ some k_ ≠ (.slice Ao18 t453.length co18 : Value).ownBlock) ∧ some k_ ≠ (.slice Ao19 t456.length co19 : Value).ownBlock)) (n := t461.length) (c := co29) ?_).2.2; exact (by (with_reducible repeat (first | apply Kd.R_alloc | apply Kd.R_drewN | apply Kd.R_drew)); exact (Kd.R_mono (Kd.R_far (p := ⟨gb467, 2, none⟩) (Kd.R_far (p := ⟨gb467, 1, none⟩) (Kd.R_far (p := ⟨gb467, 0, none⟩) (Kd.R_types HO463.out BK467.out (by decide)) (fun _ hk => hk.2) (.bool t460)) (fun _ hk => hk.2) (.slice Ao29 t461.length co29)) (fun _ hk => hk.2) (.slice Ao30 t464.length co30)) (fun _ h_ => h_.1)))); (case side4 => exact (Kd.R_reads' HO463.out).2.1); rintro e w32 ⟨rfl, hb⟩; refine ⟨_, rfl, ?_⟩; replace HO455 := Aside0.mk (Kd.R_below (by (with_reducible repeat (first | apply Kd.R_alloc | apply Kd.R_drewN | apply Kd.R_drew)); exact (Kd.R_mono (Kd.R_far (p := ⟨gb467, 2, none⟩) (Kd.R_far (p := ⟨gb467, 1, none⟩) (Kd.R_far (p := ⟨gb467, 0, none⟩) (Kd.R_types HO455.out BK467.out (by decide)) (fun _ hk => hk.2) (.bool t460)) (fun _ hk => hk.2) (.slice Ao29 t461.length co29)) (fun _ hk => hk.2) (.slice Ao30 t464.length co30)) (fun _ h_ => h_.1))) hb); replace HO458 := Aside0.mk (Kd.R_below (by (with_reducible repeat (first | apply Kd.R_alloc | apply Kd.R_drewN | apply Kd.R_drew)); exact (Kd.R_mono (Kd.R_far (p := ⟨gb467, 2, none⟩) (Kd.R_far (p := ⟨gb467, 1, none⟩) (Kd.R_far (p := ⟨gb467, 0, none⟩) (Kd.R_types HO458.out BK467.out (by decide)) (fun _ hk => hk.2) (.bool t460)) (fun _ hk => hk.2) (.slice Ao29 t461.length co29)) (fun _ hk => hk.2) (.slice Ao30 t464.length co30)) (fun _ h_ => h_.1))) hb); replace HO463 := Aside0.mk (Kd.R_below (by (with_reducible repeat (first | apply Kd.R_alloc | apply Kd.R_drewN | apply Kd.R_drew)); exact (Kd.R_mono (Kd.R_far (p := ⟨gb467, 2, none⟩) (Kd.R_far (p := ⟨gb467, 1, none⟩) (Kd.R_far (p := ⟨gb467, 0, none⟩) (Kd.R_types HO463.out BK467.out (by decide)) (fun _ hk => hk.2) (.bool t460)) (fun _ hk => hk.2) (.slice Ao29 t461.length co29)) (fun _ hk => hk.2) (.slice Ao30 t464.length co30)) (fun _ h_ => h_.1))) hb); replace HO466 := Aside0.mk (Kd.R_below (by (with_reducible repeat (first | apply Kd.R_alloc | apply Kd.R_drewN | apply Kd.R_drew)); exact (Kd.R_mono (Kd.R_far (p := ⟨gb467, 2, none⟩) (Kd.R_far (p := ⟨gb467, 1, none⟩) (Kd.R_far (p := ⟨gb467, 0, none⟩) (Kd.R_types HO466.out BK467.out (by decide)) (fun _ hk => hk.2) (.bool t460)) (fun _ hk => hk.2) (.slice Ao29 t461.length co29)) (fun _ hk => hk.2) (.slice Ao30 t464.length co30)) (fun _ h_ => h_.1))) hb); replace BK449 := Aside0.mk (blk_below (g := gb449) (o := .cells #[.int .i64 a0_0, .int .i64 a0_1] 23 (0, 0)) (by (with_reducible repeat (first | refine blk_drewN ?_ _ | refine blk_drew ?_ | refine blk_alloc ?_ _)); refine blk_far ?_ NB449_467.out _; (with_reducible repeat (first | refine blk_drewN ?_ _ | refine blk_drew ?_ | refine blk_alloc ?_ _)); refine blk_far ?_ NB449_467.out _; (with_reducible repeat (first | refine blk_drewN ?_ _ | refine blk_drew ?_ | refine blk_alloc ?_ _)); refine blk_far ?_ NB449_467.out _; (with_reducible repeat (first | refine blk_drewN ?_ _ | refine blk_drew ?_ | refine blk_alloc ?_ _)); exact BK449.out) hb); replace BK450 := Aside0.mk (blk_below (g := gb450) (o := .cells #[.int .i64 a1_0, .int .i64 a1_1] 23 (0, 0)) (by (with_reducible repeat (first | refine blk_drewN ?_ _ | refine blk_drew ?_ | refine blk_alloc ?_ _)); refine blk_far ?_ NB450_467.out _; (with_reducible repeat (first | refine blk_drewN ?_ _ | refine blk_drew ?_ | refine blk_alloc ?_ _)); refine blk_far ?_ NB450_467.out _; (with_reducible repeat (first | refine blk_drewN ?_ _ | refine blk_drew ?_ | refine blk_alloc ?_ _)); refine blk_far ?_ NB450_467.out _; (with_reducible repeat (first | refine blk_drewN ?_ _ | refine blk_drew ?_ | refine blk_alloc ?_ _)); exact BK450.out) hb); replace BK451 := Aside0.mk (blk_below (g := gb451) (o := .cells #[.int .i64 0, .int .i64 0, .bool false] 50 (0, 0)) (by (with_reducible repeat (first | refine blk_drewN ?_ _ | refine blk_drew ?_ | refine blk_alloc ?_ _)); refine blk_far ?_ NB451_467.out _; (with_reducible repeat (first | refine blk_drewN ?_ _ | refine blk_drew ?_ | refine blk_alloc ?_ _)); refine blk_far ?_ NB451_467.out _; (with_reducible repeat (first | refine blk_drewN ?_ _ | refine blk_drew ?_ | refine blk_alloc ?_ _)); refine blk_far ?_ NB451_467.out _; (with_reducible repeat (first | refine blk_drewN ?_ _ | refine blk_drew ?_ | refine blk_alloc ?_ _)); exact BK451.out) hb); replace BK459 := Aside0.mk (blk_below (g := gb459) (o := .cells #[.bool t452, .slice Ao18 t453.length co18, .slice Ao19 t456.length co19] 102 (0, 0)) (by (with_reducible repeat (first | refine blk_drewN ?_ _ | refine blk_drew ?_ | refine blk_alloc ?_ _)); refine blk_far ?_ NB459_467.out _; (with_reducible repeat (first | refine blk_drewN ?_ _ | refine blk_drew ?_ | refine blk_alloc ?_ _)); refine blk_far ?_ NB459_467.out _; (with_reducible repeat (first | refine blk_drewN ?_ _ | refine blk_drew ?_ | refine blk_alloc ?_ _)); refine blk_far ?_ NB459_467.out _; (with_reducible repeat (first | refine blk_drewN ?_ _ | refine blk_drew ?_ | refine blk_alloc ?_ _)); exact BK459.out) hb); replace BK467 := Aside0.mk (blk_below (g := gb467) (o := .cells #[.bool t460, .slice Ao29 t461.length co29, .slice Ao30 t464.length co30] 102 (0, 0)) (by (with_reducible repeat (first | refine blk_drewN ?_ _ | refine blk_drew ?_ | refine blk_alloc ?_ _)); refine blk_put (cs := #[.bool t460, .slice Ao29 t461.length co29, .slice none 0 0]) ?_ 2 _ rfl; (with_reducible repeat (first | refine blk_drewN ?_ _ | refine blk_drew ?_ | refine blk_alloc ?_ _)); refine blk_put (cs := #[.bool t460, .slice none 0 0, .slice none 0 0]) ?_ 1 _ rfl; (with_reducible repeat (first | refine blk_drewN ?_ _ | refine blk_drew ?_ | refine blk_alloc ?_ _)); refine blk_put (cs := #[.bool false, .slice none 0 0, .slice none 0 0]) ?_ 0 _ rfl; (with_reducible repeat (first | refine blk_drewN ?_ _ | refine blk_drew ?_ | refine blk_alloc ?_ _)); exact BK467.out) hb); replace HB := bs hb; (try clear hb); (try clear hk); have hcz33_0 : w32.cell? ⟨gb451, 0, none⟩ = some (.int .i64 0) := (blk_cell BK451.out 0).trans rfl; have hcz33_1 : w32.cell? ⟨gb451, 1, none⟩ = some (.int .i64 0) := (blk_cell BK451.out 1).trans rfl; have hcz33_2 : w32.cell? ⟨gb451, 2, none⟩ = some (.bool false) := (blk_cell BK451.out 2).trans rfl; have hfz33_0 := blk_frozen BK451.out 0; have hfz33_1 := blk_frozen BK451.out 1; have hfz33_2 := blk_frozen BK451.out 2))
 refine bodyPost_ret (results_cell_row rfl _ _ gb451 50 #[.int .i64 t468, .int .i64 t469, .bool t470] (0, 0) _ rfl (by (with_reducible repeat (first | refine blk_drewN ?_ _ | refine blk_drew ?_ | refine blk_alloc ?_ _)); refine blk_put (cs := #[.int .i64 t468, .int .i64 t469, .bool false]) ?_ 2 _ rfl; (with_reducible repeat (first | refine blk_drewN ?_ _ | refine blk_drew ?_ | refine blk_alloc ?_ _)); refine blk_put (cs := #[.int .i64 t468, .int .i64 0, .bool false]) ?_ 1 _ rfl; (with_reducible repeat (first | refine blk_drewN ?_ _ | refine blk_drew ?_ | refine blk_alloc ?_ _)); refine blk_put (cs := #[.int .i64 0, .int .i64 0, .bool false]) ?_ 0 _ rfl; (with_reducible repeat (first | refine blk_drewN ?_ _ | refine blk_drew ?_ | refine blk_alloc ?_ _)); exact BK451.out) Tryz.underlying50 rfl (by kernel_rfl)) rfl ?_
 exact ⟨by first | rfl | (simp [errW_none, errW_some] <;> rfl) | (simp [*, errW_none, errW_some] <;> rfl), bz⟩

end Go.Proofs.YteigbokklclmbaaGreatDoor.Z.Y.V
end
section
namespace Go.Proofs.YteigbokklclmbaaGreatDoor.M
open Go Go.RowKit Go.Proofs.YteigbokklclmbaaGreatDoor.Given Go.Proofs.YteigbokklclmbaaGreatDoorW.PrintWords Go.Proofs.YteigbokklclmbaaGreatDoorW.PrintLast Go.Proofs.YteigbokklclmbaaGreatDoorW.PrintMore Go.Proofs.YteigbokklclmbaaGreatDoor.Z Go.Proofs.YteigbokklclmbaaGreatDoor.Z.Y Go.Proofs.YteigbokklclmbaaGreatDoor.Z.Y.V Go.Proofs.YteigbokklclmbaaGreatDoor.Z.Y.Q
theorem ref_mul_ev {x0 x1 y0 y1 : Int} (wx : I64 x0) (wy : I64 y0) (hx : VR x0 x1) (hy : VR y0 y1) {I : Nat} (hR : Rd (G (ix x0 x1) * G (ix y0 y1)) (2 ^ 150) I) :
    Ev (fun k => manorboyref02_Mul.f k x0 x1 y0 y1) (rref (decide (x0 < 0) != decide (y0 < 0)) I) := by
  have bx := bl_G (ix_le wx hx)
  have by_ := bl_G (ix_le wy hy)
  have ox := of_ev wx hx
  have oy := of_ev wy hy
  have b150 := bl_two 150
  obtain ⟨D, hD⟩ : ∃ D : Nat, D = 2 ^ 150 := ⟨_, rfl⟩
  have hDp : 0 < D := by rw [hD]; exact Nat.two_pow_pos _
  rw [← hD] at ox oy b150 hR
  generalize G (ix x0 x1) = gx at *
  generalize G (ix y0 y1) = gy at *
  have b3 := bl_mul gx gy
  have b4 := bl_mul D D
  have hR2 : Rd (gx * gy * 2 ^ 150) (D * D) I := by
    rw [← hD]
    exact Rd.congr hDp (Nat.mul_pos hDp hDp) hR (by rw [← Nat.mul_assoc])
  refine Ev.congr (f := fun k => (manorboyref02_Of.f k x0 x1).bind fun bt217 => (manorboyref02_Of.f k y0 y1).bind fun bt225 => _) (fun k => rfl) ?_
  refine Ev.bind ox (Ev.bind oy ?_)
  refine Ev.bind (mulE_ev (Se.of (by omega)) (Se.of (by omega))) (Ev.bind (mulE_ev (Se.of (by omega)) (Se.of (by omega))) (Ev.bind (round_ev _ _ _ I (Nat.mul_pos hDp hDp) (by omega) (by omega) hR2) ?_))
  exact Ev.now _
theorem ref_div_ev {x0 x1 y0 y1 : Int} (wx : I64 x0) (wy : I64 y0) (hx : VR x0 x1) (hy : VR y0 y1) (hp : 0 < G (ix y0 y1)) {I : Nat} (hR : Rd (G (ix x0 x1) * 2 ^ 150) (G (ix y0 y1)) I) :
    Ev (fun k => manorboyref02_Div.f k x0 x1 y0 y1) (rref (decide (x0 < 0) != decide (y0 < 0)) I) := by
  have bx := bl_G (ix_le wx hx)
  have by_ := bl_G (ix_le wy hy)
  have ox := of_ev wx hx
  have oy := of_ev wy hy
  generalize G (ix x0 x1) = gx at *
  generalize G (ix y0 y1) = gy at *
  refine Ev.congr (f := fun k => (manorboyref02_Of.f k x0 x1).bind fun bt217 => (manorboyref02_Of.f k y0 y1).bind fun bt225 => _) (fun k => rfl) ?_
  refine Ev.bind ox (Ev.bind oy ?_)
  refine Ev.bind (round_ev _ _ _ I hp (by omega) (by omega) hR) ?_
  exact Ev.now _
end Go.Proofs.YteigbokklclmbaaGreatDoor.M
end
section
namespace Go.Proofs.YteigbokklclmbaaGreatDoor.Z.Y.V
open Go.RowKit Go.Proofs.YteigbokklclmbaaGreatDoor.Given Go.Proofs.YteigbokklclmbaaGreatDoorW.PrintWords Go.Proofs.YteigbokklclmbaaGreatDoorW.PrintLast Go.Proofs.YteigbokklclmbaaGreatDoorW.PrintMore
attribute [local go_sem] max2_int min2_int max_two min_two max_three min_three max_four min_four

-- NOT PRINTED: function 10 (manorboylaw02_RealProducts)

def manorboyref02_one.f  : Option (Int × Int) := some (8388608, (-23))
theorem manorboyref02_one.calls  (r1 : Int) (r2 : Int) (w : World) (h : manorboyref02_one.f  = some (r1, r2)) :
  Calls Tryz.prog 71 #[] w fun e w' => e = .returned (.agg #[.int .i64 r1, .int .i64 r2]) ∧ Below w.heap.size w w' := by
 have hu23 := Tryz.underlying23
 have HB := Aside0.mk (Below.refl w.heap.size w)
 have H := h; unfold manorboyref02_one.f at H; clear h
 simp only [Option.some.injEq, Prod.mk.injEq] at H
 obtain ⟨rfl, rfl⟩ := H
 go_enter Tryz.func71, Tryz.ntmps71
 go_wp2_with (first | ((with_reducible refine gate_dst (N := 0) rfl ?_); refine bxe 0 #[.int .i64 0, .int .i64 0] 23 ?_; intro gb502 hg w1 hbox hb; have BK502 := Aside0.mk hbox; have GW502 := ge hg; have GE502 := ge hg; replace HB := bs hb; clear hb hbox hg; have hcz2_0 := Given.c20 BK502; have hcz2_1 := Given.c21 BK502; have hfz2_0 := blk_frozen BK502.out 0; have hfz2_1 := blk_frozen BK502.out 1))
 refine bodyPost_ret (results_cell_row rfl _ _ gb502 23 #[.int .i64 8388608, .int .i64 (-23)] (0, 0) _ rfl (by (with_reducible repeat (first | refine blk_drewN ?_ _ | refine blk_drew ?_ | refine blk_alloc ?_ _)); refine blk_put (cs := #[.int .i64 8388608, .int .i64 0]) ?_ 1 _ rfl; (with_reducible repeat (first | refine blk_drewN ?_ _ | refine blk_drew ?_ | refine blk_alloc ?_ _)); refine blk_put (cs := #[.int .i64 0, .int .i64 0]) ?_ 0 _ rfl; (with_reducible repeat (first | refine blk_drewN ?_ _ | refine blk_drew ?_ | refine blk_alloc ?_ _)); exact BK502.out) Tryz.underlying23 rfl (by kernel_rfl)) rfl ?_
 exact ⟨by first | rfl | (simp [errW_none, errW_some] <;> rfl) | (simp [*, errW_none, errW_some] <;> rfl), bz⟩

mutual
def manorboyref02_power.j0 : Nat → Int → Int → Bool → Int → Int → Option (Int × Int × Bool)
 | 0, _, _, _, _, _ => none
 | k + 1, x1, x2, x17, x504000, x504001 => if x17 = true then ((manorboyref02_one.f).bind fun bt505 => (some (bt505.1, bt505.2, true))) else (if (Int.tmod (wrap64 ((Int.tmod x1 2) + x2)) 2) = 1 then ((manorboyref02_one.f).bind fun bt507 => (if x2 = 1 then ((manorboyref02_power.f k x504000 x504001 x1 0).bind fun bt510 => (manorboyref02_power.j1 k x504000 x504001 bt510.1 bt510.2.1 bt510.2.2)) else ((manorboyref02_power.f k x504000 x504001 (wrap64 (x1 - 1)) 0).bind fun bt513 => (manorboyref02_power.j1 k x504000 x504001 bt513.1 bt513.2.1 bt513.2.2)))) else ((manorboyref02_power.f k x504000 x504001 (wrap64 ((wrap64 (Int.tdiv x1 2)) + (wrap64 ((Int.tmod x1 2) * x2)))) 0).bind fun bt519 => (if bt519.2.2 = true then ((manorboyref02_Mul.f k bt519.1 bt519.2.1 bt519.1 bt519.2.1).bind fun bt523 => (some (bt523.1, bt523.2.1, bt523.2.2))) else (some (0, 0, false)))))
def manorboyref02_power.j1 : Nat → Int → Int → Int → Int → Bool → Option (Int × Int × Bool)
 | 0, _, _, _, _, _ => none
 | k + 1, x504000, x504001, x510000, x510001, x510002 => if x510002 = true then ((manorboyref02_Mul.f k x504000 x504001 x510000 x510001).bind fun bt516 => (some (bt516.1, bt516.2.1, bt516.2.2))) else (some (0, 0, false))
def manorboyref02_power.f : Nat → Int → Int → Int → Int → Option (Int × Int × Bool)
 | 0, _, _, _, _ => none
 | k + 1, a0_0, a0_1, a1, a2 => if (wrap64 (a1 + a2)) = 0 then (manorboyref02_power.j0 k a1 a2 (a1 == 0) a0_0 a0_1) else (manorboyref02_power.j0 k a1 a2 false a0_0 a0_1)
end
theorem manorboyref02_power.calls (k : Nat) : ∀ (a0_0 : Int) (a0_1 : Int) (a1 : Int) (a2 : Int) (r1 : Int) (r2 : Int) (r3 : Bool) (w : World) (h : manorboyref02_power.f k a0_0 a0_1 a1 a2 = some (r1, r2, r3)),
  Calls Tryz.prog 70 #[.agg #[.int .i64 a0_0, .int .i64 a0_1], .int .i64 a1, .int .i64 a2] w fun e w' => e = .returned (.agg #[.int .i64 r1, .int .i64 r2, .bool r3]) ∧ Below w.heap.size w w' := by
 induction k using Nat.strongRecOn with
 | _ k ih =>
 intro a0_0 a0_1 a1 a2 r1 r2 r3 w h
 cases k with
 | zero => exact absurd h (by simp [manorboyref02_power.f])
 | succ k =>
 simp only [manorboyref02_power.f] at h
 have hu23 := Tryz.underlying23
 have hu50 := Tryz.underlying50
 have HB := Aside0.mk (Below.refl w.heap.size w)
 have H := h; clear h
 have HC4 := Aside0.mk H
 clear H
 go_enter Tryz.func70, Tryz.ntmps70
 go_upto_region 1 with (first | ((with_reducible refine gate_dst (N := 3) rfl ?_); refine bxe 3 #[.int .i64 a0_0, .int .i64 a0_1] 23 ?_; intro gb503 hg w5 hbox hb; have BK503 := Aside0.mk hbox; have GW503 := ge hg; have GE503 := ge hg; replace HB := bs hb; clear hb hbox hg) | ((with_reducible refine gate_dst (N := 6) rfl ?_); refine bxe 6 #[.int .i64 0, .int .i64 0, .bool false] 50 ?_; intro gb504 hg w6 hbox hb; have BK504 := Aside0.mk hbox; have GW504 := ge hg; have GE504 := ge hg; have NB503_504 := nl BK503 hg; have NB504_503 := nr BK503 hg; replace BK503 := kb BK503 hb; replace HB := bs hb; clear hb hbox hg))
 (try simp only [Act.put, List.setIfInBounds_toArray, List.set_cons_zero, List.set_cons_succ])
 go_cut [17] (fun v17 wc => ∃ (kq : Nat) (x17_3 : Bool), v17 = .bool x17_3 ∧ Aside0 (manorboyref02_power.j0 kq a1 a2 x17_3 a0_0 a0_1 = some (r1, r2, r3)) ∧ Aside0 (kq ≤ k) ∧ Aside0 (wc.heap[gb503]? = some (.cells #[.int .i64 a0_0, .int .i64 a0_1] 23 (0, 0))) ∧ Aside0 (wc.heap[gb504]? = some (.cells #[.int .i64 0, .int .i64 0, .bool false] 50 (0, 0))) ∧ Aside0 (Below w.heap.size w wc))
 case first => as_aux_lemma =>
  have H := HC4.out
  clear HC4
  by_cases c7 : (wrap64 (a1 + a2)) = 0
  ·rw [if_pos c7] at H
   have c7b0 : ((wrap64 (a1 + a2)) == 0) = true := beq_iff_eq.mpr c7
   have c7b1 : ((wrap64 (a1 + a2)) != 0) = false := bne_eq_false_iff_eq.mpr c7
   clear c7
   (first | rw [c7b0] | (simp only [i64_w, i32_w]; rw [c7b0]) | skip)
   have H' := Aside0.mk H
   clear H
   go_wp2
   go_meet
   case rel => exact ⟨_, ((a1 == 0)), (by first | rfl | (simp; done) | (simp [*]; done)), H', ⟨by first | omega | exact Nat.le_refl _⟩, ⟨kz BK503⟩, ⟨kz BK504⟩, ⟨bz⟩⟩
  ·rw [if_neg c7] at H
   have c7b0 : ((wrap64 (a1 + a2)) == 0) = false := beq_eq_false_iff_ne.mpr c7
   have c7b1 : ((wrap64 (a1 + a2)) != 0) = true := bne_iff_ne.mpr c7
   (first | rw [c7b0] | (simp only [i64_w, i32_w]; rw [c7b0]) | skip)
   have H' := Aside0.mk H
   clear H
   go_wp2
   go_meet
   case rel => exact ⟨_, (false), (by first | rfl | (simp; done) | (simp [*]; done)), H', ⟨by first | omega | exact Nat.le_refl _⟩, ⟨kz BK503⟩, ⟨kz BK504⟩, ⟨bz⟩⟩
 case rest => as_aux_lemma =>
  clear HC4
  try clear c7
  try clear c7b0
  try clear c7b1
  obtain ⟨kq, x17_3, rfl, HA, HJ3, BK503, BK504, HB⟩ := hcut
  cases kq with
  | zero => exact absurd HA.out (by simp [manorboyref02_power.j0])
  | succ kj3 =>
   have H := HA.out
   clear HA
   simp only [manorboyref02_power.j0] at H
   by_cases c8 : x17_3 = true
   ·subst c8
    rw [if_pos rfl] at H
    replace H := Option.bind_eq_some_iff.mp H
    obtain ⟨⟨t505, t506⟩, A90, H⟩ := H
    try dsimp only at H
    have A9 := Aside0.mk A90
    clear A90
    simp only [Option.some.injEq, Prod.mk.injEq] at H
    obtain ⟨rfl, rfl, rfl⟩ := H
    go_wp2_with (first | ((with_reducible refine gate_callee (f := 71) rfl ?_); refine gL 18 Tryz.func71 #[] ?_; (with_reducible refine (manorboyref02_one.calls  t505 t506 _ A9.out).mono ?_); rintro e w10 ⟨rfl, hb⟩; refine ⟨_, rfl, ?_⟩; replace BK503 := kb BK503 hb; replace BK504 := kb BK504 hb; replace HB := bs hb; (try clear hb); have hnb11 := NB504_503.out; have hnc11 := NB503_504.out; have hcz12_0 : w10.cell? ⟨gb504, 0, none⟩ = some (.int .i64 0) := (blk_cell BK504.out 0).trans rfl; have hcz12_1 : w10.cell? ⟨gb504, 1, none⟩ = some (.int .i64 0) := (blk_cell BK504.out 1).trans rfl; have hcz12_2 : w10.cell? ⟨gb504, 2, none⟩ = some (.bool false) := (blk_cell BK504.out 2).trans rfl; have hfz12_0 := blk_frozen BK504.out 0; have hfz12_1 := blk_frozen BK504.out 1; have hfz12_2 := blk_frozen BK504.out 2))
    refine bodyPost_ret (results_cell_row rfl _ _ gb504 50 #[.int .i64 t505, .int .i64 t506, .bool true] (0, 0) _ rfl (by (with_reducible repeat (first | refine blk_drewN ?_ _ | refine blk_drew ?_ | refine blk_alloc ?_ _)); refine blk_put (cs := #[.int .i64 t505, .int .i64 t506, .bool false]) ?_ 2 _ rfl; (with_reducible repeat (first | refine blk_drewN ?_ _ | refine blk_drew ?_ | refine blk_alloc ?_ _)); refine blk_put (cs := #[.int .i64 t505, .int .i64 0, .bool false]) ?_ 1 _ rfl; (with_reducible repeat (first | refine blk_drewN ?_ _ | refine blk_drew ?_ | refine blk_alloc ?_ _)); refine blk_put (cs := #[.int .i64 0, .int .i64 0, .bool false]) ?_ 0 _ rfl; (with_reducible repeat (first | refine blk_drewN ?_ _ | refine blk_drew ?_ | refine blk_alloc ?_ _)); exact BK504.out) Tryz.underlying50 rfl (by kernel_rfl)) rfl ?_
    exact ⟨by first | rfl | (simp [errW_none, errW_some] <;> rfl) | (simp [*, errW_none, errW_some] <;> rfl), bz⟩
   ·replace c8 := Bool.eq_false_iff.mpr c8
    subst c8
    rw [if_neg (show ¬ (false = true) by decide)] at H
    by_cases c13 : (Int.tmod (wrap64 ((Int.tmod a1 2) + a2)) 2) = 1
    ·rw [if_pos c13] at H
     have c13b0 : ((Int.tmod (wrap64 ((Int.tmod a1 2) + a2)) 2) == 1) = true := beq_iff_eq.mpr c13
     have c13b1 : ((Int.tmod (wrap64 ((Int.tmod a1 2) + a2)) 2) != 1) = false := bne_eq_false_iff_eq.mpr c13
     clear c13
     replace H := Option.bind_eq_some_iff.mp H
     obtain ⟨⟨t507, t508⟩, A140, H⟩ := H
     try dsimp only at H
     have A14 := Aside0.mk A140
     clear A140
     have HC15 := Aside0.mk H
     clear H
     go_upto_if 30 with (first | ((with_reducible refine gate_callee (f := 71) rfl ?_); refine gL 27 Tryz.func71 #[] ?_; (with_reducible refine (manorboyref02_one.calls  t507 t508 _ A14.out).mono ?_); rintro e w16 ⟨rfl, hb⟩; refine ⟨_, rfl, ?_⟩; replace BK503 := kb BK503 hb; replace BK504 := kb BK504 hb; replace HB := bs hb; (try clear hb)) | ((with_reducible refine gate_dst (N := 8) rfl ?_); refine bxe 8 #[.int .i64 0, .int .i64 0, .bool false] 50 ?_; intro gb509 hg w17 hbox hb; have BK509 := Aside0.mk hbox; have GW509 := ge hg; have GE509 := ge hg; have NB503_509 := nl BK503 hg; have NB509_503 := nr BK503 hg; have NB504_509 := nl BK504 hg; have NB509_504 := nr BK504 hg; replace BK503 := kb BK503 hb; replace BK504 := kb BK504 hb; replace HB := bs hb; clear hb hbox hg; have hnb18 := NB509_503.out; have hnc18 := NB503_509.out; have hnb19 := NB509_504.out; have hnc19 := NB504_509.out; have hcz20_0 : w17.cell? ⟨gb509, 0, none⟩ = some (.int .i64 0) := (blk_cell BK509.out 0).trans rfl; have hcz20_1 : w17.cell? ⟨gb509, 1, none⟩ = some (.int .i64 0) := (blk_cell BK509.out 1).trans rfl; have hcz20_2 : w17.cell? ⟨gb509, 2, none⟩ = some (.bool false) := (blk_cell BK509.out 2).trans rfl; have hfz20_0 := blk_frozen BK509.out 0; have hfz20_1 := blk_frozen BK509.out 1; have hfz20_2 := blk_frozen BK509.out 2))
     (try simp only [Act.put, List.setIfInBounds_toArray, List.set_cons_zero, List.set_cons_succ])
     go_cut [] (fun wc => ∃ (kq : Nat) (x510000_14 : Int) (x510001_14 : Int) (x510002_14 : Bool), Aside0 (manorboyref02_power.j1 kq a0_0 a0_1 x510000_14 x510001_14 x510002_14 = some (r1, r2, r3)) ∧ Aside0 (kq ≤ kj3) ∧ Aside0 (wc.heap[gb503]? = some (.cells #[.int .i64 a0_0, .int .i64 a0_1] 23 (0, 0))) ∧ Aside0 (wc.heap[gb504]? = some (.cells #[.int .i64 0, .int .i64 0, .bool false] 50 (0, 0))) ∧ Aside0 (wc.heap[gb509]? = some (.cells #[.int .i64 x510000_14, .int .i64 x510001_14, .bool x510002_14] 50 (0, 0))) ∧ Aside0 (Below w.heap.size w wc))
     case first => as_aux_lemma =>
      have H := HC15.out
      clear HC15
      by_cases c21 : a2 = 1
      ·rw [if_pos c21] at H
       have c21b0 : (a2 == 1) = true := beq_iff_eq.mpr c21
       have c21b1 : (a2 != 1) = false := bne_eq_false_iff_eq.mpr c21
       clear c21
       (first | rw [c21b0] | (simp only [i64_w, i32_w]; rw [c21b0]) | skip)
       replace H := Option.bind_eq_some_iff.mp H
       obtain ⟨⟨t510, t511, t512⟩, A220, H⟩ := H
       try dsimp only at H
       have A22 := Aside0.mk A220
       clear A220
       have H' := Aside0.mk H
       clear H
       have hnb23 := NB503_504.out
       have hnc23 := NB504_503.out
       have hnb24 := NB503_509.out
       have hnc24 := NB509_503.out
       have hcz25_0 := Given.c20 BK503
       have hcz25_1 := Given.c21 BK503
       have hfz25_0 := blk_frozen BK503.out 0
       have hfz25_1 := blk_frozen BK503.out 1
       go_wp2_with (first | ((with_reducible refine gate_callee (f := 70) rfl ?_); refine gL 33 Tryz.func70 #[.agg #[.int .i64 a0_0, .int .i64 a0_1], .int .i64 a1, .int .i64 0] ?_; (with_reducible refine (ih kj3 (by have := HJ3.out; omega) a0_0 a0_1 a1 0 t510 t511 t512 _ A22.out).mono ?_); rintro e w26 ⟨rfl, hb⟩; refine ⟨_, rfl, ?_⟩; replace BK503 := Aside0.mk (blk_below (g := gb503) (o := .cells #[.int .i64 a0_0, .int .i64 a0_1] 23 (0, 0)) (by (with_reducible repeat (first | refine blk_drewN ?_ _ | refine blk_drew ?_ | refine blk_alloc ?_ _)); refine blk_far ?_ NB503_509.out _; (with_reducible repeat (first | refine blk_drewN ?_ _ | refine blk_drew ?_ | refine blk_alloc ?_ _)); refine blk_far ?_ NB503_509.out _; (with_reducible repeat (first | refine blk_drewN ?_ _ | refine blk_drew ?_ | refine blk_alloc ?_ _)); refine blk_far ?_ NB503_509.out _; (with_reducible repeat (first | refine blk_drewN ?_ _ | refine blk_drew ?_ | refine blk_alloc ?_ _)); exact BK503.out) hb); replace BK504 := Aside0.mk (blk_below (g := gb504) (o := .cells #[.int .i64 0, .int .i64 0, .bool false] 50 (0, 0)) (by (with_reducible repeat (first | refine blk_drewN ?_ _ | refine blk_drew ?_ | refine blk_alloc ?_ _)); refine blk_far ?_ NB504_509.out _; (with_reducible repeat (first | refine blk_drewN ?_ _ | refine blk_drew ?_ | refine blk_alloc ?_ _)); refine blk_far ?_ NB504_509.out _; (with_reducible repeat (first | refine blk_drewN ?_ _ | refine blk_drew ?_ | refine blk_alloc ?_ _)); refine blk_far ?_ NB504_509.out _; (with_reducible repeat (first | refine blk_drewN ?_ _ | refine blk_drew ?_ | refine blk_alloc ?_ _)); exact BK504.out) hb); replace BK509 := Aside0.mk (blk_below (g := gb509) (o := .cells #[.int .i64 t507, .int .i64 t508, .bool true] 50 (0, 0)) (by (with_reducible repeat (first | refine blk_drewN ?_ _ | refine blk_drew ?_ | refine blk_alloc ?_ _)); refine blk_put (cs := #[.int .i64 t507, .int .i64 t508, .bool false]) ?_ 2 _ rfl; (with_reducible repeat (first | refine blk_drewN ?_ _ | refine blk_drew ?_ | refine blk_alloc ?_ _)); refine blk_put (cs := #[.int .i64 t507, .int .i64 0, .bool false]) ?_ 1 _ rfl; (with_reducible repeat (first | refine blk_drewN ?_ _ | refine blk_drew ?_ | refine blk_alloc ?_ _)); refine blk_put (cs := #[.int .i64 0, .int .i64 0, .bool false]) ?_ 0 _ rfl; (with_reducible repeat (first | refine blk_drewN ?_ _ | refine blk_drew ?_ | refine blk_alloc ?_ _)); exact BK509.out) hb); replace HB := bs hb; (try clear hb); have hnb27 := NB509_504.out; have hnc27 := NB504_509.out; have hcz28_0 : w26.cell? ⟨gb509, 0, none⟩ = some (.int .i64 t507) := (blk_cell BK509.out 0).trans rfl; have hcz28_1 : w26.cell? ⟨gb509, 1, none⟩ = some (.int .i64 t508) := (blk_cell BK509.out 1).trans rfl; have hcz28_2 : w26.cell? ⟨gb509, 2, none⟩ = some (.bool true) := (blk_cell BK509.out 2).trans rfl; have hfz28_0 := blk_frozen BK509.out 0; have hfz28_1 := blk_frozen BK509.out 1; have hfz28_2 := blk_frozen BK509.out 2))
       go_meet
       case rel => exact ⟨_, (t510), (t511), (t512), H', ⟨by have := HJ3.out; first | omega | exact Nat.le_refl _⟩, ⟨by (with_reducible repeat (first | refine blk_drewN ?_ _ | refine blk_drew ?_ | refine blk_alloc ?_ _)); refine blk_far ?_ NB503_509.out _; (with_reducible repeat (first | refine blk_drewN ?_ _ | refine blk_drew ?_ | refine blk_alloc ?_ _)); refine blk_far ?_ NB503_509.out _; (with_reducible repeat (first | refine blk_drewN ?_ _ | refine blk_drew ?_ | refine blk_alloc ?_ _)); refine blk_far ?_ NB503_509.out _; (with_reducible repeat (first | refine blk_drewN ?_ _ | refine blk_drew ?_ | refine blk_alloc ?_ _)); exact BK503.out⟩, ⟨by (with_reducible repeat (first | refine blk_drewN ?_ _ | refine blk_drew ?_ | refine blk_alloc ?_ _)); refine blk_far ?_ NB504_509.out _; (with_reducible repeat (first | refine blk_drewN ?_ _ | refine blk_drew ?_ | refine blk_alloc ?_ _)); refine blk_far ?_ NB504_509.out _; (with_reducible repeat (first | refine blk_drewN ?_ _ | refine blk_drew ?_ | refine blk_alloc ?_ _)); refine blk_far ?_ NB504_509.out _; (with_reducible repeat (first | refine blk_drewN ?_ _ | refine blk_drew ?_ | refine blk_alloc ?_ _)); exact BK504.out⟩, ⟨by (with_reducible repeat (first | refine blk_drewN ?_ _ | refine blk_drew ?_ | refine blk_alloc ?_ _)); refine blk_put (cs := #[.int .i64 t510, .int .i64 t511, .bool true]) ?_ 2 _ rfl; (with_reducible repeat (first | refine blk_drewN ?_ _ | refine blk_drew ?_ | refine blk_alloc ?_ _)); refine blk_put (cs := #[.int .i64 t510, .int .i64 t508, .bool true]) ?_ 1 _ rfl; (with_reducible repeat (first | refine blk_drewN ?_ _ | refine blk_drew ?_ | refine blk_alloc ?_ _)); refine blk_put (cs := #[.int .i64 t507, .int .i64 t508, .bool true]) ?_ 0 _ rfl; (with_reducible repeat (first | refine blk_drewN ?_ _ | refine blk_drew ?_ | refine blk_alloc ?_ _)); exact BK509.out⟩, ⟨bz⟩⟩
      ·rw [if_neg c21] at H
       have c21b0 : (a2 == 1) = false := beq_eq_false_iff_ne.mpr c21
       have c21b1 : (a2 != 1) = true := bne_iff_ne.mpr c21
       (first | rw [c21b0] | (simp only [i64_w, i32_w]; rw [c21b0]) | skip)
       replace H := Option.bind_eq_some_iff.mp H
       obtain ⟨⟨t513, t514, t515⟩, A290, H⟩ := H
       try dsimp only at H
       have A29 := Aside0.mk A290
       clear A290
       have H' := Aside0.mk H
       clear H
       have hnb30 := NB503_504.out
       have hnc30 := NB504_503.out
       have hnb31 := NB503_509.out
       have hnc31 := NB509_503.out
       have hcz32_0 := Given.c20 BK503
       have hcz32_1 := Given.c21 BK503
       have hfz32_0 := blk_frozen BK503.out 0
       have hfz32_1 := blk_frozen BK503.out 1
       go_wp2_with (first | ((with_reducible refine gate_callee (f := 70) rfl ?_); refine gL 37 Tryz.func70 #[.agg #[.int .i64 a0_0, .int .i64 a0_1], .int .i64 (wrap64 (a1 - 1)), .int .i64 0] ?_; (with_reducible refine (ih kj3 (by have := HJ3.out; omega) a0_0 a0_1 (wrap64 (a1 - 1)) 0 t513 t514 t515 _ A29.out).mono ?_); rintro e w33 ⟨rfl, hb⟩; refine ⟨_, rfl, ?_⟩; replace BK503 := Aside0.mk (blk_below (g := gb503) (o := .cells #[.int .i64 a0_0, .int .i64 a0_1] 23 (0, 0)) (by (with_reducible repeat (first | refine blk_drewN ?_ _ | refine blk_drew ?_ | refine blk_alloc ?_ _)); refine blk_far ?_ NB503_509.out _; (with_reducible repeat (first | refine blk_drewN ?_ _ | refine blk_drew ?_ | refine blk_alloc ?_ _)); refine blk_far ?_ NB503_509.out _; (with_reducible repeat (first | refine blk_drewN ?_ _ | refine blk_drew ?_ | refine blk_alloc ?_ _)); refine blk_far ?_ NB503_509.out _; (with_reducible repeat (first | refine blk_drewN ?_ _ | refine blk_drew ?_ | refine blk_alloc ?_ _)); exact BK503.out) hb); replace BK504 := Aside0.mk (blk_below (g := gb504) (o := .cells #[.int .i64 0, .int .i64 0, .bool false] 50 (0, 0)) (by (with_reducible repeat (first | refine blk_drewN ?_ _ | refine blk_drew ?_ | refine blk_alloc ?_ _)); refine blk_far ?_ NB504_509.out _; (with_reducible repeat (first | refine blk_drewN ?_ _ | refine blk_drew ?_ | refine blk_alloc ?_ _)); refine blk_far ?_ NB504_509.out _; (with_reducible repeat (first | refine blk_drewN ?_ _ | refine blk_drew ?_ | refine blk_alloc ?_ _)); refine blk_far ?_ NB504_509.out _; (with_reducible repeat (first | refine blk_drewN ?_ _ | refine blk_drew ?_ | refine blk_alloc ?_ _)); exact BK504.out) hb); replace BK509 := Aside0.mk (blk_below (g := gb509) (o := .cells #[.int .i64 t507, .int .i64 t508, .bool true] 50 (0, 0)) (by (with_reducible repeat (first | refine blk_drewN ?_ _ | refine blk_drew ?_ | refine blk_alloc ?_ _)); refine blk_put (cs := #[.int .i64 t507, .int .i64 t508, .bool false]) ?_ 2 _ rfl; (with_reducible repeat (first | refine blk_drewN ?_ _ | refine blk_drew ?_ | refine blk_alloc ?_ _)); refine blk_put (cs := #[.int .i64 t507, .int .i64 0, .bool false]) ?_ 1 _ rfl; (with_reducible repeat (first | refine blk_drewN ?_ _ | refine blk_drew ?_ | refine blk_alloc ?_ _)); refine blk_put (cs := #[.int .i64 0, .int .i64 0, .bool false]) ?_ 0 _ rfl; (with_reducible repeat (first | refine blk_drewN ?_ _ | refine blk_drew ?_ | refine blk_alloc ?_ _)); exact BK509.out) hb); replace HB := bs hb; (try clear hb); have hnb34 := NB509_504.out; have hnc34 := NB504_509.out; have hcz35_0 : w33.cell? ⟨gb509, 0, none⟩ = some (.int .i64 t507) := (blk_cell BK509.out 0).trans rfl; have hcz35_1 : w33.cell? ⟨gb509, 1, none⟩ = some (.int .i64 t508) := (blk_cell BK509.out 1).trans rfl; have hcz35_2 : w33.cell? ⟨gb509, 2, none⟩ = some (.bool true) := (blk_cell BK509.out 2).trans rfl; have hfz35_0 := blk_frozen BK509.out 0; have hfz35_1 := blk_frozen BK509.out 1; have hfz35_2 := blk_frozen BK509.out 2))
       go_meet
       case rel => exact ⟨_, (t513), (t514), (t515), H', ⟨by have := HJ3.out; first | omega | exact Nat.le_refl _⟩, ⟨by (with_reducible repeat (first | refine blk_drewN ?_ _ | refine blk_drew ?_ | refine blk_alloc ?_ _)); refine blk_far ?_ NB503_509.out _; (with_reducible repeat (first | refine blk_drewN ?_ _ | refine blk_drew ?_ | refine blk_alloc ?_ _)); refine blk_far ?_ NB503_509.out _; (with_reducible repeat (first | refine blk_drewN ?_ _ | refine blk_drew ?_ | refine blk_alloc ?_ _)); refine blk_far ?_ NB503_509.out _; (with_reducible repeat (first | refine blk_drewN ?_ _ | refine blk_drew ?_ | refine blk_alloc ?_ _)); exact BK503.out⟩, ⟨by (with_reducible repeat (first | refine blk_drewN ?_ _ | refine blk_drew ?_ | refine blk_alloc ?_ _)); refine blk_far ?_ NB504_509.out _; (with_reducible repeat (first | refine blk_drewN ?_ _ | refine blk_drew ?_ | refine blk_alloc ?_ _)); refine blk_far ?_ NB504_509.out _; (with_reducible repeat (first | refine blk_drewN ?_ _ | refine blk_drew ?_ | refine blk_alloc ?_ _)); refine blk_far ?_ NB504_509.out _; (with_reducible repeat (first | refine blk_drewN ?_ _ | refine blk_drew ?_ | refine blk_alloc ?_ _)); exact BK504.out⟩, ⟨by (with_reducible repeat (first | refine blk_drewN ?_ _ | refine blk_drew ?_ | refine blk_alloc ?_ _)); refine blk_put (cs := #[.int .i64 t513, .int .i64 t514, .bool true]) ?_ 2 _ rfl; (with_reducible repeat (first | refine blk_drewN ?_ _ | refine blk_drew ?_ | refine blk_alloc ?_ _)); refine blk_put (cs := #[.int .i64 t513, .int .i64 t508, .bool true]) ?_ 1 _ rfl; (with_reducible repeat (first | refine blk_drewN ?_ _ | refine blk_drew ?_ | refine blk_alloc ?_ _)); refine blk_put (cs := #[.int .i64 t507, .int .i64 t508, .bool true]) ?_ 0 _ rfl; (with_reducible repeat (first | refine blk_drewN ?_ _ | refine blk_drew ?_ | refine blk_alloc ?_ _)); exact BK509.out⟩, ⟨bz⟩⟩
     case rest => as_aux_lemma =>
      clear HC15
      try clear c7
      try clear c7b0
      try clear c7b1
      try clear c8
      try clear c13
      try clear c13b0
      try clear c13b1
      try clear c21
      try clear c21b0
      try clear c21b1
      try clear hcz12_0
      try clear hcz12_1
      try clear hcz12_2
      try clear hcz20_0
      try clear hcz20_1
      try clear hcz20_2
      try clear hcz25_0
      try clear hcz25_1
      try clear hcz28_0
      try clear hcz28_1
      try clear hcz28_2
      try clear hcz32_0
      try clear hcz32_1
      try clear hcz35_0
      try clear hcz35_1
      try clear hcz35_2
      try clear hfz12_0
      try clear hfz12_1
      try clear hfz12_2
      try clear hfz20_0
      try clear hfz20_1
      try clear hfz20_2
      try clear hfz25_0
      try clear hfz25_1
      try clear hfz28_0
      try clear hfz28_1
      try clear hfz28_2
      try clear hfz32_0
      try clear hfz32_1
      try clear hfz35_0
      try clear hfz35_1
      try clear hfz35_2
      obtain ⟨kq, x510000_14, x510001_14, x510002_14, HA, HJ14, BK503, BK504, BK509, HB⟩ := hcut
      cases kq with
      | zero => exact absurd HA.out (by simp [manorboyref02_power.j1])
      | succ kj14 =>
       have H := HA.out
       clear HA
       simp only [manorboyref02_power.j1] at H
       by_cases c36 : x510002_14 = true
       ·subst c36
        rw [if_pos rfl] at H
        replace H := Option.bind_eq_some_iff.mp H
        obtain ⟨⟨t516, t517, t518⟩, A370, H⟩ := H
        try dsimp only at H
        have A37 := Aside0.mk A370
        clear A370
        simp only [Option.some.injEq, Prod.mk.injEq] at H
        obtain ⟨rfl, rfl, rfl⟩ := H
        have hnb38 := NB509_503.out
        have hnc38 := NB503_509.out
        have hnb39 := NB509_504.out
        have hnc39 := NB504_509.out
        have hcz40_0 : wc.cell? ⟨gb509, 0, none⟩ = some (.int .i64 x510000_14) := (blk_cell BK509.out 0).trans rfl
        have hcz40_1 : wc.cell? ⟨gb509, 1, none⟩ = some (.int .i64 x510001_14) := (blk_cell BK509.out 1).trans rfl
        have hcz40_2 : wc.cell? ⟨gb509, 2, none⟩ = some (.bool true) := (blk_cell BK509.out 2).trans rfl
        have hfz40_0 := blk_frozen BK509.out 0
        have hfz40_1 := blk_frozen BK509.out 1
        have hfz40_2 := blk_frozen BK509.out 2
        have hnb41 := NB503_504.out
        have hnc41 := NB504_503.out
        have hcz42_0 := Given.c20 BK503
        have hcz42_1 := Given.c21 BK503
        have hfz42_0 := blk_frozen BK503.out 0
        have hfz42_1 := blk_frozen BK503.out 1
        go_wp2_with (first | ((with_reducible refine gate_callee (f := 45) rfl ?_); refine gL 45 Tryz.func45 #[.agg #[.int .i64 a0_0, .int .i64 a0_1], .agg #[.int .i64 x510000_14, .int .i64 x510001_14]] ?_; (with_reducible refine (manorboyref02_Mul.calls kj14 a0_0 a0_1 x510000_14 x510001_14 t516 t517 t518 _ A37.out).mono ?_); rintro e w43 ⟨rfl, hb⟩; refine ⟨_, rfl, ?_⟩; replace BK503 := kb BK503 hb; replace BK504 := kb BK504 hb; replace BK509 := kb BK509 hb; replace HB := bs hb; (try clear hb); have hcz44_0 : w43.cell? ⟨gb504, 0, none⟩ = some (.int .i64 0) := (blk_cell BK504.out 0).trans rfl; have hcz44_1 : w43.cell? ⟨gb504, 1, none⟩ = some (.int .i64 0) := (blk_cell BK504.out 1).trans rfl; have hcz44_2 : w43.cell? ⟨gb504, 2, none⟩ = some (.bool false) := (blk_cell BK504.out 2).trans rfl; have hfz44_0 := blk_frozen BK504.out 0; have hfz44_1 := blk_frozen BK504.out 1; have hfz44_2 := blk_frozen BK504.out 2))
        refine bodyPost_ret (results_cell_row rfl _ _ gb504 50 #[.int .i64 t516, .int .i64 t517, .bool t518] (0, 0) _ rfl (by (with_reducible repeat (first | refine blk_drewN ?_ _ | refine blk_drew ?_ | refine blk_alloc ?_ _)); refine blk_put (cs := #[.int .i64 t516, .int .i64 t517, .bool false]) ?_ 2 _ rfl; (with_reducible repeat (first | refine blk_drewN ?_ _ | refine blk_drew ?_ | refine blk_alloc ?_ _)); refine blk_put (cs := #[.int .i64 t516, .int .i64 0, .bool false]) ?_ 1 _ rfl; (with_reducible repeat (first | refine blk_drewN ?_ _ | refine blk_drew ?_ | refine blk_alloc ?_ _)); refine blk_put (cs := #[.int .i64 0, .int .i64 0, .bool false]) ?_ 0 _ rfl; (with_reducible repeat (first | refine blk_drewN ?_ _ | refine blk_drew ?_ | refine blk_alloc ?_ _)); exact BK504.out) Tryz.underlying50 rfl (by kernel_rfl)) rfl ?_
        exact ⟨by first | rfl | (simp [errW_none, errW_some] <;> rfl) | (simp [*, errW_none, errW_some] <;> rfl), bz⟩
       ·replace c36 := Bool.eq_false_iff.mpr c36
        subst c36
        rw [if_neg (show ¬ (false = true) by decide)] at H
        simp only [Option.some.injEq, Prod.mk.injEq] at H
        obtain ⟨rfl, rfl, rfl⟩ := H
        have hnb45 := NB509_503.out
        have hnc45 := NB503_509.out
        have hnb46 := NB509_504.out
        have hnc46 := NB504_509.out
        have hcz47_0 : wc.cell? ⟨gb509, 0, none⟩ = some (.int .i64 x510000_14) := (blk_cell BK509.out 0).trans rfl
        have hcz47_1 : wc.cell? ⟨gb509, 1, none⟩ = some (.int .i64 x510001_14) := (blk_cell BK509.out 1).trans rfl
        have hcz47_2 : wc.cell? ⟨gb509, 2, none⟩ = some (.bool false) := (blk_cell BK509.out 2).trans rfl
        have hfz47_0 := blk_frozen BK509.out 0
        have hfz47_1 := blk_frozen BK509.out 1
        have hfz47_2 := blk_frozen BK509.out 2
        have hnb48 := NB504_503.out
        have hnc48 := NB503_504.out
        have hcz49_0 : wc.cell? ⟨gb504, 0, none⟩ = some (.int .i64 0) := (blk_cell BK504.out 0).trans rfl
        have hcz49_1 : wc.cell? ⟨gb504, 1, none⟩ = some (.int .i64 0) := (blk_cell BK504.out 1).trans rfl
        have hcz49_2 : wc.cell? ⟨gb504, 2, none⟩ = some (.bool false) := (blk_cell BK504.out 2).trans rfl
        have hfz49_0 := blk_frozen BK504.out 0
        have hfz49_1 := blk_frozen BK504.out 1
        have hfz49_2 := blk_frozen BK504.out 2
        go_wp2
        refine bodyPost_ret (results_cell_row rfl _ _ gb504 50 #[.int .i64 0, .int .i64 0, .bool false] (0, 0) _ rfl (by (with_reducible repeat (first | refine blk_drewN ?_ _ | refine blk_drew ?_ | refine blk_alloc ?_ _)); refine blk_put (cs := #[.int .i64 0, .int .i64 0, .bool false]) ?_ 2 _ rfl; (with_reducible repeat (first | refine blk_drewN ?_ _ | refine blk_drew ?_ | refine blk_alloc ?_ _)); refine blk_put (cs := #[.int .i64 0, .int .i64 0, .bool false]) ?_ 1 _ rfl; (with_reducible repeat (first | refine blk_drewN ?_ _ | refine blk_drew ?_ | refine blk_alloc ?_ _)); refine blk_put (cs := #[.int .i64 0, .int .i64 0, .bool false]) ?_ 0 _ rfl; (with_reducible repeat (first | refine blk_drewN ?_ _ | refine blk_drew ?_ | refine blk_alloc ?_ _)); exact BK504.out) Tryz.underlying50 rfl (by kernel_rfl)) rfl ?_
        exact ⟨by first | rfl | (simp [errW_none, errW_some] <;> rfl) | (simp [*, errW_none, errW_some] <;> rfl), bz⟩
    ·rw [if_neg c13] at H
     have c13b0 : ((Int.tmod (wrap64 ((Int.tmod a1 2) + a2)) 2) == 1) = false := beq_eq_false_iff_ne.mpr c13
     have c13b1 : ((Int.tmod (wrap64 ((Int.tmod a1 2) + a2)) 2) != 1) = true := bne_iff_ne.mpr c13
     replace H := Option.bind_eq_some_iff.mp H
     obtain ⟨⟨t519, t520, t521⟩, A500, H⟩ := H
     try dsimp only at H
     have A50 := Aside0.mk A500
     clear A500
     by_cases c51 : t521 = true
     ·subst c51
      rw [if_pos rfl] at H
      replace H := Option.bind_eq_some_iff.mp H
      obtain ⟨⟨t523, t524, t525⟩, A520, H⟩ := H
      try dsimp only at H
      have A52 := Aside0.mk A520
      clear A520
      simp only [Option.some.injEq, Prod.mk.injEq] at H
      obtain ⟨rfl, rfl, rfl⟩ := H
      have hnb53 := NB503_504.out
      have hnc53 := NB504_503.out
      have hcz54_0 := Given.c20 BK503
      have hcz54_1 := Given.c21 BK503
      have hfz54_0 := blk_frozen BK503.out 0
      have hfz54_1 := blk_frozen BK503.out 1
      go_wp2_with (first | ((with_reducible refine gate_callee (f := 70) rfl ?_); refine gL 54 Tryz.func70 #[.agg #[.int .i64 a0_0, .int .i64 a0_1], .int .i64 (wrap64 ((wrap64 (Int.tdiv a1 2)) + (wrap64 ((Int.tmod a1 2) * a2)))), .int .i64 0] ?_; (with_reducible refine (ih kj3 (by have := HJ3.out; omega) a0_0 a0_1 (wrap64 ((wrap64 (Int.tdiv a1 2)) + (wrap64 ((Int.tmod a1 2) * a2)))) 0 t519 t520 true _ A50.out).mono ?_); rintro e w55 ⟨rfl, hb⟩; refine ⟨_, rfl, ?_⟩; replace BK503 := kb BK503 hb; replace BK504 := kb BK504 hb; replace HB := bs hb; (try clear hb)) | ((with_reducible refine gate_dst (N := 9) rfl ?_); refine bxe 9 #[.int .i64 0, .int .i64 0, .bool false] 50 ?_; intro gb522 hg w56 hbox hb; have BK522 := Aside0.mk hbox; have GW522 := ge hg; have GE522 := ge hg; have NB503_522 := nl BK503 hg; have NB522_503 := nr BK503 hg; have NB504_522 := nl BK504 hg; have NB522_504 := nr BK504 hg; replace BK503 := kb BK503 hb; replace BK504 := kb BK504 hb; replace HB := bs hb; clear hb hbox hg; have hnb57 := NB522_503.out; have hnc57 := NB503_522.out; have hnb58 := NB522_504.out; have hnc58 := NB504_522.out; have hcz59_0 : w56.cell? ⟨gb522, 0, none⟩ = some (.int .i64 0) := (blk_cell BK522.out 0).trans rfl; have hcz59_1 : w56.cell? ⟨gb522, 1, none⟩ = some (.int .i64 0) := (blk_cell BK522.out 1).trans rfl; have hcz59_2 : w56.cell? ⟨gb522, 2, none⟩ = some (.bool false) := (blk_cell BK522.out 2).trans rfl; have hfz59_0 := blk_frozen BK522.out 0; have hfz59_1 := blk_frozen BK522.out 1; have hfz59_2 := blk_frozen BK522.out 2) | ((with_reducible refine gate_callee (f := 45) rfl ?_); refine gL 63 Tryz.func45 #[.agg #[.int .i64 t519, .int .i64 t520], .agg #[.int .i64 t519, .int .i64 t520]] ?_; (with_reducible refine (manorboyref02_Mul.calls kj3 t519 t520 t519 t520 t523 t524 t525 _ A52.out).mono ?_); rintro e w60 ⟨rfl, hb⟩; refine ⟨_, rfl, ?_⟩; replace BK503 := Aside0.mk (blk_below (g := gb503) (o := .cells #[.int .i64 a0_0, .int .i64 a0_1] 23 (0, 0)) (by (with_reducible repeat (first | refine blk_drewN ?_ _ | refine blk_drew ?_ | refine blk_alloc ?_ _)); refine blk_far ?_ NB503_522.out _; (with_reducible repeat (first | refine blk_drewN ?_ _ | refine blk_drew ?_ | refine blk_alloc ?_ _)); refine blk_far ?_ NB503_522.out _; (with_reducible repeat (first | refine blk_drewN ?_ _ | refine blk_drew ?_ | refine blk_alloc ?_ _)); refine blk_far ?_ NB503_522.out _; (with_reducible repeat (first | refine blk_drewN ?_ _ | refine blk_drew ?_ | refine blk_alloc ?_ _)); exact BK503.out) hb); replace BK504 := Aside0.mk (blk_below (g := gb504) (o := .cells #[.int .i64 0, .int .i64 0, .bool false] 50 (0, 0)) (by (with_reducible repeat (first | refine blk_drewN ?_ _ | refine blk_drew ?_ | refine blk_alloc ?_ _)); refine blk_far ?_ NB504_522.out _; (with_reducible repeat (first | refine blk_drewN ?_ _ | refine blk_drew ?_ | refine blk_alloc ?_ _)); refine blk_far ?_ NB504_522.out _; (with_reducible repeat (first | refine blk_drewN ?_ _ | refine blk_drew ?_ | refine blk_alloc ?_ _)); refine blk_far ?_ NB504_522.out _; (with_reducible repeat (first | refine blk_drewN ?_ _ | refine blk_drew ?_ | refine blk_alloc ?_ _)); exact BK504.out) hb); replace BK522 := Aside0.mk (blk_below (g := gb522) (o := .cells #[.int .i64 t519, .int .i64 t520, .bool true] 50 (0, 0)) (by (with_reducible repeat (first | refine blk_drewN ?_ _ | refine blk_drew ?_ | refine blk_alloc ?_ _)); refine blk_put (cs := #[.int .i64 t519, .int .i64 t520, .bool false]) ?_ 2 _ rfl; (with_reducible repeat (first | refine blk_drewN ?_ _ | refine blk_drew ?_ | refine blk_alloc ?_ _)); refine blk_put (cs := #[.int .i64 t519, .int .i64 0, .bool false]) ?_ 1 _ rfl; (with_reducible repeat (first | refine blk_drewN ?_ _ | refine blk_drew ?_ | refine blk_alloc ?_ _)); refine blk_put (cs := #[.int .i64 0, .int .i64 0, .bool false]) ?_ 0 _ rfl; (with_reducible repeat (first | refine blk_drewN ?_ _ | refine blk_drew ?_ | refine blk_alloc ?_ _)); exact BK522.out) hb); replace HB := bs hb; (try clear hb); have hcz61_0 : w60.cell? ⟨gb504, 0, none⟩ = some (.int .i64 0) := (blk_cell BK504.out 0).trans rfl; have hcz61_1 : w60.cell? ⟨gb504, 1, none⟩ = some (.int .i64 0) := (blk_cell BK504.out 1).trans rfl; have hcz61_2 : w60.cell? ⟨gb504, 2, none⟩ = some (.bool false) := (blk_cell BK504.out 2).trans rfl; have hfz61_0 := blk_frozen BK504.out 0; have hfz61_1 := blk_frozen BK504.out 1; have hfz61_2 := blk_frozen BK504.out 2))
      refine bodyPost_ret (results_cell_row rfl _ _ gb504 50 #[.int .i64 t523, .int .i64 t524, .bool t525] (0, 0) _ rfl (by (with_reducible repeat (first | refine blk_drewN ?_ _ | refine blk_drew ?_ | refine blk_alloc ?_ _)); refine blk_put (cs := #[.int .i64 t523, .int .i64 t524, .bool false]) ?_ 2 _ rfl; (with_reducible repeat (first | refine blk_drewN ?_ _ | refine blk_drew ?_ | refine blk_alloc ?_ _)); refine blk_put (cs := #[.int .i64 t523, .int .i64 0, .bool false]) ?_ 1 _ rfl; (with_reducible repeat (first | refine blk_drewN ?_ _ | refine blk_drew ?_ | refine blk_alloc ?_ _)); refine blk_put (cs := #[.int .i64 0, .int .i64 0, .bool false]) ?_ 0 _ rfl; (with_reducible repeat (first | refine blk_drewN ?_ _ | refine blk_drew ?_ | refine blk_alloc ?_ _)); exact BK504.out) Tryz.underlying50 rfl (by kernel_rfl)) rfl ?_
      exact ⟨by first | rfl | (simp [errW_none, errW_some] <;> rfl) | (simp [*, errW_none, errW_some] <;> rfl), bz⟩
     ·replace c51 := Bool.eq_false_iff.mpr c51
      subst c51
      rw [if_neg (show ¬ (false = true) by decide)] at H
      simp only [Option.some.injEq, Prod.mk.injEq] at H
      obtain ⟨rfl, rfl, rfl⟩ := H
      have hnb62 := NB503_504.out
      have hnc62 := NB504_503.out
      have hcz63_0 := Given.c20 BK503
      have hcz63_1 := Given.c21 BK503
      have hfz63_0 := blk_frozen BK503.out 0
      have hfz63_1 := blk_frozen BK503.out 1
      go_wp2_with (first | ((with_reducible refine gate_callee (f := 70) rfl ?_); refine gL 54 Tryz.func70 #[.agg #[.int .i64 a0_0, .int .i64 a0_1], .int .i64 (wrap64 ((wrap64 (Int.tdiv a1 2)) + (wrap64 ((Int.tmod a1 2) * a2)))), .int .i64 0] ?_; (with_reducible refine (ih kj3 (by have := HJ3.out; omega) a0_0 a0_1 (wrap64 ((wrap64 (Int.tdiv a1 2)) + (wrap64 ((Int.tmod a1 2) * a2)))) 0 t519 t520 false _ A50.out).mono ?_); rintro e w64 ⟨rfl, hb⟩; refine ⟨_, rfl, ?_⟩; replace BK503 := kb BK503 hb; replace BK504 := kb BK504 hb; replace HB := bs hb; (try clear hb)) | ((with_reducible refine gate_dst (N := 9) rfl ?_); refine bxe 9 #[.int .i64 0, .int .i64 0, .bool false] 50 ?_; intro gb522 hg w65 hbox hb; have BK522 := Aside0.mk hbox; have GW522 := ge hg; have GE522 := ge hg; have NB503_522 := nl BK503 hg; have NB522_503 := nr BK503 hg; have NB504_522 := nl BK504 hg; have NB522_504 := nr BK504 hg; replace BK503 := kb BK503 hb; replace BK504 := kb BK504 hb; replace HB := bs hb; clear hb hbox hg; have hnb66 := NB522_503.out; have hnc66 := NB503_522.out; have hnb67 := NB522_504.out; have hnc67 := NB504_522.out; have hcz68_0 : w65.cell? ⟨gb522, 0, none⟩ = some (.int .i64 0) := (blk_cell BK522.out 0).trans rfl; have hcz68_1 : w65.cell? ⟨gb522, 1, none⟩ = some (.int .i64 0) := (blk_cell BK522.out 1).trans rfl; have hcz68_2 : w65.cell? ⟨gb522, 2, none⟩ = some (.bool false) := (blk_cell BK522.out 2).trans rfl; have hfz68_0 := blk_frozen BK522.out 0; have hfz68_1 := blk_frozen BK522.out 1; have hfz68_2 := blk_frozen BK522.out 2; have hcz69_0 : w65.cell? ⟨gb504, 0, none⟩ = some (.int .i64 0) := (blk_cell BK504.out 0).trans rfl; have hcz69_1 : w65.cell? ⟨gb504, 1, none⟩ = some (.int .i64 0) := (blk_cell BK504.out 1).trans rfl; have hcz69_2 : w65.cell? ⟨gb504, 2, none⟩ = some (.bool false) := (blk_cell BK504.out 2).trans rfl; have hfz69_0 := blk_frozen BK504.out 0; have hfz69_1 := blk_frozen BK504.out 1; have hfz69_2 := blk_frozen BK504.out 2))
      refine bodyPost_ret (results_cell_row rfl _ _ gb504 50 #[.int .i64 0, .int .i64 0, .bool false] (0, 0) _ rfl (by (with_reducible repeat (first | refine blk_drewN ?_ _ | refine blk_drew ?_ | refine blk_alloc ?_ _)); refine blk_put (cs := #[.int .i64 0, .int .i64 0, .bool false]) ?_ 2 _ rfl; (with_reducible repeat (first | refine blk_drewN ?_ _ | refine blk_drew ?_ | refine blk_alloc ?_ _)); refine blk_put (cs := #[.int .i64 0, .int .i64 0, .bool false]) ?_ 1 _ rfl; (with_reducible repeat (first | refine blk_drewN ?_ _ | refine blk_drew ?_ | refine blk_alloc ?_ _)); refine blk_put (cs := #[.int .i64 0, .int .i64 0, .bool false]) ?_ 0 _ rfl; (with_reducible repeat (first | refine blk_drewN ?_ _ | refine blk_drew ?_ | refine blk_alloc ?_ _)); refine blk_far ?_ NB504_522.out _; (with_reducible repeat (first | refine blk_drewN ?_ _ | refine blk_drew ?_ | refine blk_alloc ?_ _)); refine blk_far ?_ NB504_522.out _; (with_reducible repeat (first | refine blk_drewN ?_ _ | refine blk_drew ?_ | refine blk_alloc ?_ _)); refine blk_far ?_ NB504_522.out _; (with_reducible repeat (first | refine blk_drewN ?_ _ | refine blk_drew ?_ | refine blk_alloc ?_ _)); exact BK504.out) Tryz.underlying50 rfl (by kernel_rfl)) rfl ?_
      exact ⟨by first | rfl | (simp [errW_none, errW_some] <;> rfl) | (simp [*, errW_none, errW_some] <;> rfl), bz⟩

end Go.Proofs.YteigbokklclmbaaGreatDoor.Z.Y.V
end
section
namespace Go.Proofs.YteigbokklclmbaaGreatDoor.Z.Y.V
open Go.RowKit Go.Proofs.YteigbokklclmbaaGreatDoor.Given Go.Proofs.YteigbokklclmbaaGreatDoorW.PrintWords Go.Proofs.YteigbokklclmbaaGreatDoorW.PrintLast Go.Proofs.YteigbokklclmbaaGreatDoorW.PrintMore
attribute [local go_sem] max2_int min2_int max_two min_two max_three min_three max_four min_four

def manorboyref02_Pow.j0 : Nat → Bool → Int → Int → Bool → Option (Int × Int × Int)
 | 0, _, _, _, _ => none
 | k + 1, x37, x536000, x536001, x536002 => if x37 = true then (some (0, 0, 3)) else ((manorboyref02_one.f).bind fun bt536 => ((manorboyref02_Div.f k bt536.1 bt536.2 x536000 x536001).bind fun bt538 => (if bt538.2.2 = true then (some (bt538.1, bt538.2.1, 0)) else (some (0, 0, 3)))))
def manorboyref02_Pow.f (k : Nat) (a0_0 : Int) (a0_1 : Int) (a1 : Int) : Option (Int × Int × Int) := if a1 ≥ 0 then ((manorboyref02_power.f k a0_0 a0_1 a1 0).bind fun bt528 => (if bt528.2.2 = true then (some (bt528.1, bt528.2.1, 0)) else (some (0, 0, 3)))) else (if a0_0 = 0 then (some (0, 0, 5)) else ((manorboyref02_power.f k a0_0 a0_1 (wrap64 (-(wrap64 (a1 + 1)))) 1).bind fun bt532 => (if bt532.2.2 = true then (manorboyref02_Pow.j0 k (bt532.1 == 0) bt532.1 bt532.2.1 bt532.2.2) else (manorboyref02_Pow.j0 k true bt532.1 bt532.2.1 bt532.2.2))))
theorem manorboyref02_Pow.calls (k : Nat) (a0_0 : Int) (a0_1 : Int) (a1 : Int) (r1 : Int) (r2 : Int) (r3 : Int) (w : World) (h : manorboyref02_Pow.f k a0_0 a0_1 a1 = some (r1, r2, r3)) :
  Calls Tryz.prog 20 #[.agg #[.int .i64 a0_0, .int .i64 a0_1], .int .i64 a1] w fun e w' => e = .returned (.agg #[.int .i64 r1, .int .i64 r2, .int .i64 r3]) ∧ Below w.heap.size w w' := by
 have hu23 := Tryz.underlying23
 have hu30 := Tryz.underlying30
 have hu50 := Tryz.underlying50
 have HB := Aside0.mk (Below.refl w.heap.size w)
 have H := h; unfold manorboyref02_Pow.f at H; clear h
 by_cases c3 : a1 ≥ 0
 ·rw [if_pos c3] at H
  have c3b0 : decide (0 ≤ a1) = true := decide_eq_true c3
  clear c3
  replace H := Option.bind_eq_some_iff.mp H
  obtain ⟨⟨t528, t529, t530⟩, A40, H⟩ := H
  try dsimp only at H
  have A4 := Aside0.mk A40
  clear A40
  by_cases c5 : t530 = true
  ·subst c5
   rw [if_pos rfl] at H
   simp only [Option.some.injEq, Prod.mk.injEq] at H
   obtain ⟨rfl, rfl, rfl⟩ := H
   go_enter Tryz.func20, Tryz.ntmps20
   go_wp2_with (first | ((with_reducible refine gate_dst (N := 2) rfl ?_); refine bxe 2 #[.int .i64 a0_0, .int .i64 a0_1] 23 ?_; intro gb526 hg w6 hbox hb; have BK526 := Aside0.mk hbox; have GW526 := ge hg; have GE526 := ge hg; replace HB := bs hb; clear hb hbox hg) | ((with_reducible refine gate_dst (N := 4) rfl ?_); refine bxe 4 #[.int .i64 0, .int .i64 0, .int .i64 0] 30 ?_; intro gb527 hg w7 hbox hb; have BK527 := Aside0.mk hbox; have GW527 := ge hg; have GE527 := ge hg; have NB526_527 := nl BK526 hg; have NB527_526 := nr BK526 hg; replace BK526 := kb BK526 hb; replace HB := bs hb; clear hb hbox hg; have hnb8 := NB526_527.out; have hnc8 := NB527_526.out; have hcz9_0 := c20 BK526; have hcz9_1 := c21 BK526; have hfz9_0 := blk_frozen BK526.out 0; have hfz9_1 := blk_frozen BK526.out 1) | ((with_reducible refine gate_callee (f := 70) rfl ?_); refine gL 12 Tryz.func70 #[.agg #[.int .i64 a0_0, .int .i64 a0_1], .int .i64 a1, .int .i64 0] ?_; (with_reducible refine (manorboyref02_power.calls k a0_0 a0_1 a1 0 t528 t529 true _ A4.out).mono ?_); rintro e w10 ⟨rfl, hb⟩; refine ⟨_, rfl, ?_⟩; replace BK526 := kb BK526 hb; replace BK527 := kb BK527 hb; replace HB := bs hb; (try clear hb)) | ((with_reducible refine gate_dst (N := 5) rfl ?_); refine bxe 5 #[.int .i64 0, .int .i64 0, .bool false] 50 ?_; intro gb531 hg w11 hbox hb; have BK531 := Aside0.mk hbox; have GW531 := ge hg; have GE531 := ge hg; have NB526_531 := nl BK526 hg; have NB531_526 := nr BK526 hg; have NB527_531 := nl BK527 hg; have NB531_527 := nr BK527 hg; replace BK526 := kb BK526 hb; replace BK527 := kb BK527 hb; replace HB := bs hb; clear hb hbox hg; have hnb12 := NB531_526.out; have hnc12 := NB526_531.out; have hnb13 := NB531_527.out; have hnc13 := NB527_531.out; have hcz14_0 : w11.cell? ⟨gb531, 0, none⟩ = some (.int .i64 0) := (blk_cell BK531.out 0).trans rfl; have hcz14_1 : w11.cell? ⟨gb531, 1, none⟩ = some (.int .i64 0) := (blk_cell BK531.out 1).trans rfl; have hcz14_2 : w11.cell? ⟨gb531, 2, none⟩ = some (.bool false) := (blk_cell BK531.out 2).trans rfl; have hfz14_0 := blk_frozen BK531.out 0; have hfz14_1 := blk_frozen BK531.out 1; have hfz14_2 := blk_frozen BK531.out 2; have hcz15_0 : w11.cell? ⟨gb527, 0, none⟩ = some (.int .i64 0) := (blk_cell BK527.out 0).trans rfl; have hcz15_1 : w11.cell? ⟨gb527, 1, none⟩ = some (.int .i64 0) := (blk_cell BK527.out 1).trans rfl; have hcz15_2 : w11.cell? ⟨gb527, 2, none⟩ = some (.int .i64 0) := (blk_cell BK527.out 2).trans rfl; have hfz15_0 := blk_frozen BK527.out 0; have hfz15_1 := blk_frozen BK527.out 1; have hfz15_2 := blk_frozen BK527.out 2))
   refine bodyPost_ret (results_cell_row rfl _ _ gb527 30 #[.int .i64 t528, .int .i64 t529, .int .i64 0] (0, 0) _ rfl (by (with_reducible repeat (first | refine blk_drewN ?_ _ | refine blk_drew ?_ | refine blk_alloc ?_ _)); refine blk_put (cs := #[.int .i64 t528, .int .i64 t529, .int .i64 0]) ?_ 2 _ rfl; (with_reducible repeat (first | refine blk_drewN ?_ _ | refine blk_drew ?_ | refine blk_alloc ?_ _)); refine blk_put (cs := #[.int .i64 t528, .int .i64 0, .int .i64 0]) ?_ 1 _ rfl; (with_reducible repeat (first | refine blk_drewN ?_ _ | refine blk_drew ?_ | refine blk_alloc ?_ _)); refine blk_put (cs := #[.int .i64 0, .int .i64 0, .int .i64 0]) ?_ 0 _ rfl; (with_reducible repeat (first | refine blk_drewN ?_ _ | refine blk_drew ?_ | refine blk_alloc ?_ _)); refine blk_far ?_ NB527_531.out _; (with_reducible repeat (first | refine blk_drewN ?_ _ | refine blk_drew ?_ | refine blk_alloc ?_ _)); refine blk_far ?_ NB527_531.out _; (with_reducible repeat (first | refine blk_drewN ?_ _ | refine blk_drew ?_ | refine blk_alloc ?_ _)); refine blk_far ?_ NB527_531.out _; (with_reducible repeat (first | refine blk_drewN ?_ _ | refine blk_drew ?_ | refine blk_alloc ?_ _)); exact BK527.out) Tryz.underlying30 rfl (by kernel_rfl)) rfl ?_
   exact ⟨by first | rfl | (simp [errW_none, errW_some] <;> rfl) | (simp [*, errW_none, errW_some] <;> rfl), bz⟩
  ·replace c5 := Bool.eq_false_iff.mpr c5
   subst c5
   rw [if_neg (show ¬ (false = true) by decide)] at H
   simp only [Option.some.injEq, Prod.mk.injEq] at H
   obtain ⟨rfl, rfl, rfl⟩ := H
   go_enter Tryz.func20, Tryz.ntmps20
   go_wp2_with (first | ((with_reducible refine gate_dst (N := 2) rfl ?_); refine bxe 2 #[.int .i64 a0_0, .int .i64 a0_1] 23 ?_; intro gb526 hg w16 hbox hb; have BK526 := Aside0.mk hbox; have GW526 := ge hg; have GE526 := ge hg; replace HB := bs hb; clear hb hbox hg) | ((with_reducible refine gate_dst (N := 4) rfl ?_); refine bxe 4 #[.int .i64 0, .int .i64 0, .int .i64 0] 30 ?_; intro gb527 hg w17 hbox hb; have BK527 := Aside0.mk hbox; have GW527 := ge hg; have GE527 := ge hg; have NB526_527 := nl BK526 hg; have NB527_526 := nr BK526 hg; replace BK526 := kb BK526 hb; replace HB := bs hb; clear hb hbox hg; have hnb18 := NB526_527.out; have hnc18 := NB527_526.out; have hcz19_0 := c20 BK526; have hcz19_1 := c21 BK526; have hfz19_0 := blk_frozen BK526.out 0; have hfz19_1 := blk_frozen BK526.out 1) | ((with_reducible refine gate_callee (f := 70) rfl ?_); refine gL 12 Tryz.func70 #[.agg #[.int .i64 a0_0, .int .i64 a0_1], .int .i64 a1, .int .i64 0] ?_; (with_reducible refine (manorboyref02_power.calls k a0_0 a0_1 a1 0 t528 t529 false _ A4.out).mono ?_); rintro e w20 ⟨rfl, hb⟩; refine ⟨_, rfl, ?_⟩; replace BK526 := kb BK526 hb; replace BK527 := kb BK527 hb; replace HB := bs hb; (try clear hb)) | ((with_reducible refine gate_dst (N := 5) rfl ?_); refine bxe 5 #[.int .i64 0, .int .i64 0, .bool false] 50 ?_; intro gb531 hg w21 hbox hb; have BK531 := Aside0.mk hbox; have GW531 := ge hg; have GE531 := ge hg; have NB526_531 := nl BK526 hg; have NB531_526 := nr BK526 hg; have NB527_531 := nl BK527 hg; have NB531_527 := nr BK527 hg; replace BK526 := kb BK526 hb; replace BK527 := kb BK527 hb; replace HB := bs hb; clear hb hbox hg; have hnb22 := NB531_526.out; have hnc22 := NB526_531.out; have hnb23 := NB531_527.out; have hnc23 := NB527_531.out; have hcz24_0 : w21.cell? ⟨gb531, 0, none⟩ = some (.int .i64 0) := (blk_cell BK531.out 0).trans rfl; have hcz24_1 : w21.cell? ⟨gb531, 1, none⟩ = some (.int .i64 0) := (blk_cell BK531.out 1).trans rfl; have hcz24_2 : w21.cell? ⟨gb531, 2, none⟩ = some (.bool false) := (blk_cell BK531.out 2).trans rfl; have hfz24_0 := blk_frozen BK531.out 0; have hfz24_1 := blk_frozen BK531.out 1; have hfz24_2 := blk_frozen BK531.out 2; have hcz25_0 : w21.cell? ⟨gb527, 0, none⟩ = some (.int .i64 0) := (blk_cell BK527.out 0).trans rfl; have hcz25_1 : w21.cell? ⟨gb527, 1, none⟩ = some (.int .i64 0) := (blk_cell BK527.out 1).trans rfl; have hcz25_2 : w21.cell? ⟨gb527, 2, none⟩ = some (.int .i64 0) := (blk_cell BK527.out 2).trans rfl; have hfz25_0 := blk_frozen BK527.out 0; have hfz25_1 := blk_frozen BK527.out 1; have hfz25_2 := blk_frozen BK527.out 2))
   refine bodyPost_ret (results_cell_row rfl _ _ gb527 30 #[.int .i64 0, .int .i64 0, .int .i64 3] (0, 0) _ rfl (by (with_reducible repeat (first | refine blk_drewN ?_ _ | refine blk_drew ?_ | refine blk_alloc ?_ _)); refine blk_put (cs := #[.int .i64 0, .int .i64 0, .int .i64 0]) ?_ 2 _ rfl; (with_reducible repeat (first | refine blk_drewN ?_ _ | refine blk_drew ?_ | refine blk_alloc ?_ _)); refine blk_put (cs := #[.int .i64 0, .int .i64 0, .int .i64 0]) ?_ 1 _ rfl; (with_reducible repeat (first | refine blk_drewN ?_ _ | refine blk_drew ?_ | refine blk_alloc ?_ _)); refine blk_put (cs := #[.int .i64 0, .int .i64 0, .int .i64 0]) ?_ 0 _ rfl; (with_reducible repeat (first | refine blk_drewN ?_ _ | refine blk_drew ?_ | refine blk_alloc ?_ _)); refine blk_far ?_ NB527_531.out _; (with_reducible repeat (first | refine blk_drewN ?_ _ | refine blk_drew ?_ | refine blk_alloc ?_ _)); refine blk_far ?_ NB527_531.out _; (with_reducible repeat (first | refine blk_drewN ?_ _ | refine blk_drew ?_ | refine blk_alloc ?_ _)); refine blk_far ?_ NB527_531.out _; (with_reducible repeat (first | refine blk_drewN ?_ _ | refine blk_drew ?_ | refine blk_alloc ?_ _)); exact BK527.out) Tryz.underlying30 rfl (by kernel_rfl)) rfl ?_
   exact ⟨by first | rfl | (simp [errW_none, errW_some] <;> rfl) | (simp [*, errW_none, errW_some] <;> rfl), bz⟩
 ·rw [if_neg c3] at H
  have c3b0 : decide (0 ≤ a1) = false := decide_eq_false c3
  clear c3
  by_cases c26 : a0_0 = 0
  ·rw [if_pos c26] at H
   have c26b0 : (a0_0 == 0) = true := beq_iff_eq.mpr c26
   have c26b1 : (a0_0 != 0) = false := bne_eq_false_iff_eq.mpr c26
   clear c26
   simp only [Option.some.injEq, Prod.mk.injEq] at H
   obtain ⟨rfl, rfl, rfl⟩ := H
   go_enter Tryz.func20, Tryz.ntmps20
   go_wp2_with (first | ((with_reducible refine gate_dst (N := 2) rfl ?_); refine bxe 2 #[.int .i64 a0_0, .int .i64 a0_1] 23 ?_; intro gb526 hg w27 hbox hb; have BK526 := Aside0.mk hbox; have GW526 := ge hg; have GE526 := ge hg; replace HB := bs hb; clear hb hbox hg) | ((with_reducible refine gate_dst (N := 4) rfl ?_); refine bxe 4 #[.int .i64 0, .int .i64 0, .int .i64 0] 30 ?_; intro gb527 hg w28 hbox hb; have BK527 := Aside0.mk hbox; have GW527 := ge hg; have GE527 := ge hg; have NB526_527 := nl BK526 hg; have NB527_526 := nr BK526 hg; replace BK526 := kb BK526 hb; replace HB := bs hb; clear hb hbox hg; have hnb29 := NB526_527.out; have hnc29 := NB527_526.out; have hcz30_0 := c20 BK526; have hcz30_1 := c21 BK526; have hfz30_0 := blk_frozen BK526.out 0; have hfz30_1 := blk_frozen BK526.out 1; have hcz31_0 : w28.cell? ⟨gb527, 0, none⟩ = some (.int .i64 0) := (blk_cell BK527.out 0).trans rfl; have hcz31_1 : w28.cell? ⟨gb527, 1, none⟩ = some (.int .i64 0) := (blk_cell BK527.out 1).trans rfl; have hcz31_2 : w28.cell? ⟨gb527, 2, none⟩ = some (.int .i64 0) := (blk_cell BK527.out 2).trans rfl; have hfz31_0 := blk_frozen BK527.out 0; have hfz31_1 := blk_frozen BK527.out 1; have hfz31_2 := blk_frozen BK527.out 2))
   refine bodyPost_ret (results_cell_row rfl _ _ gb527 30 #[.int .i64 0, .int .i64 0, .int .i64 5] (0, 0) _ rfl (by (with_reducible repeat (first | refine blk_drewN ?_ _ | refine blk_drew ?_ | refine blk_alloc ?_ _)); refine blk_put (cs := #[.int .i64 0, .int .i64 0, .int .i64 0]) ?_ 2 _ rfl; (with_reducible repeat (first | refine blk_drewN ?_ _ | refine blk_drew ?_ | refine blk_alloc ?_ _)); refine blk_put (cs := #[.int .i64 0, .int .i64 0, .int .i64 0]) ?_ 1 _ rfl; (with_reducible repeat (first | refine blk_drewN ?_ _ | refine blk_drew ?_ | refine blk_alloc ?_ _)); refine blk_put (cs := #[.int .i64 0, .int .i64 0, .int .i64 0]) ?_ 0 _ rfl; (with_reducible repeat (first | refine blk_drewN ?_ _ | refine blk_drew ?_ | refine blk_alloc ?_ _)); exact BK527.out) Tryz.underlying30 rfl (by kernel_rfl)) rfl ?_
   exact ⟨by first | rfl | (simp [errW_none, errW_some] <;> rfl) | (simp [*, errW_none, errW_some] <;> rfl), bz⟩
  ·rw [if_neg c26] at H
   have c26b0 : (a0_0 == 0) = false := beq_eq_false_iff_ne.mpr c26
   have c26b1 : (a0_0 != 0) = true := bne_iff_ne.mpr c26
   replace H := Option.bind_eq_some_iff.mp H
   obtain ⟨⟨t532, t533, t534⟩, A320, H⟩ := H
   try dsimp only at H
   have A32 := Aside0.mk A320
   clear A320
   have HC33 := Aside0.mk H
   clear H
   go_enter Tryz.func20, Tryz.ntmps20
   go_upto_region 9 with (first | ((with_reducible refine gate_dst (N := 2) rfl ?_); refine bxe 2 #[.int .i64 a0_0, .int .i64 a0_1] 23 ?_; intro gb526 hg w34 hbox hb; have BK526 := Aside0.mk hbox; have GW526 := ge hg; have GE526 := ge hg; replace HB := bs hb; clear hb hbox hg) | ((with_reducible refine gate_dst (N := 4) rfl ?_); refine bxe 4 #[.int .i64 0, .int .i64 0, .int .i64 0] 30 ?_; intro gb527 hg w35 hbox hb; have BK527 := Aside0.mk hbox; have GW527 := ge hg; have GE527 := ge hg; have NB526_527 := nl BK526 hg; have NB527_526 := nr BK526 hg; replace BK526 := kb BK526 hb; replace HB := bs hb; clear hb hbox hg; have hnb36 := NB526_527.out; have hnc36 := NB527_526.out; have hcz37_0 := c20 BK526; have hcz37_1 := c21 BK526; have hfz37_0 := blk_frozen BK526.out 0; have hfz37_1 := blk_frozen BK526.out 1) | ((with_reducible refine gate_callee (f := 70) rfl ?_); refine gL 28 Tryz.func70 #[.agg #[.int .i64 a0_0, .int .i64 a0_1], .int .i64 (wrap64 (-(wrap64 (a1 + 1)))), .int .i64 1] ?_; (with_reducible refine (manorboyref02_power.calls k a0_0 a0_1 (wrap64 (-(wrap64 (a1 + 1)))) 1 t532 t533 t534 _ A32.out).mono ?_); rintro e w38 ⟨rfl, hb⟩; refine ⟨_, rfl, ?_⟩; replace BK526 := kb BK526 hb; replace BK527 := kb BK527 hb; replace HB := bs hb; (try clear hb)) | ((with_reducible refine gate_dst (N := 6) rfl ?_); refine bxe 6 #[.int .i64 0, .int .i64 0, .bool false] 50 ?_; intro gb535 hg w39 hbox hb; have BK535 := Aside0.mk hbox; have GW535 := ge hg; have GE535 := ge hg; have NB526_535 := nl BK526 hg; have NB535_526 := nr BK526 hg; have NB527_535 := nl BK527 hg; have NB535_527 := nr BK527 hg; replace BK526 := kb BK526 hb; replace BK527 := kb BK527 hb; replace HB := bs hb; clear hb hbox hg; have hnb40 := NB535_526.out; have hnc40 := NB526_535.out; have hnb41 := NB535_527.out; have hnc41 := NB527_535.out; have hcz42_0 : w39.cell? ⟨gb535, 0, none⟩ = some (.int .i64 0) := (blk_cell BK535.out 0).trans rfl; have hcz42_1 : w39.cell? ⟨gb535, 1, none⟩ = some (.int .i64 0) := (blk_cell BK535.out 1).trans rfl; have hcz42_2 : w39.cell? ⟨gb535, 2, none⟩ = some (.bool false) := (blk_cell BK535.out 2).trans rfl; have hfz42_0 := blk_frozen BK535.out 0; have hfz42_1 := blk_frozen BK535.out 1; have hfz42_2 := blk_frozen BK535.out 2))
   (try simp only [Act.put, List.setIfInBounds_toArray, List.set_cons_zero, List.set_cons_succ])
   go_cut [37] (fun v37 wc => ∃ (kq : Nat) (x37_32 : Bool), v37 = .bool x37_32 ∧ Aside0 (manorboyref02_Pow.j0 kq x37_32 t532 t533 t534 = some (r1, r2, r3)) ∧ Aside0 (kq ≤ k) ∧ Aside0 (wc.heap[gb526]? = some (.cells #[.int .i64 a0_0, .int .i64 a0_1] 23 (0, 0))) ∧ Aside0 (wc.heap[gb527]? = some (.cells #[.int .i64 0, .int .i64 0, .int .i64 0] 30 (0, 0))) ∧ Aside0 (wc.heap[gb535]? = some (.cells #[.int .i64 t532, .int .i64 t533, .bool t534] 50 (0, 0))) ∧ Aside0 (Below w.heap.size w wc))
   case first => as_aux_lemma =>
    have H := HC33.out
    clear HC33
    by_cases c43 : t534 = true
    ·subst c43
     rw [if_pos rfl] at H
     have H' := Aside0.mk H
     clear H
     have hnb44 := NB535_526.out
     have hnc44 := NB526_535.out
     have hnb45 := NB535_527.out
     have hnc45 := NB527_535.out
     have hcz46_0 : w39.cell? ⟨gb535, 0, none⟩ = some (.int .i64 0) := (blk_cell BK535.out 0).trans rfl
     have hcz46_1 : w39.cell? ⟨gb535, 1, none⟩ = some (.int .i64 0) := (blk_cell BK535.out 1).trans rfl
     have hcz46_2 : w39.cell? ⟨gb535, 2, none⟩ = some (.bool false) := (blk_cell BK535.out 2).trans rfl
     have hfz46_0 := blk_frozen BK535.out 0
     have hfz46_1 := blk_frozen BK535.out 1
     have hfz46_2 := blk_frozen BK535.out 2
     go_wp2
     go_meet
     case rel => exact ⟨_, ((t532 == 0)), (by first | rfl | (simp; done) | (simp [*]; done)), H', ⟨by first | omega | exact Nat.le_refl _⟩, ⟨by (with_reducible repeat (first | refine blk_drewN ?_ _ | refine blk_drew ?_ | refine blk_alloc ?_ _)); refine blk_far ?_ NB526_535.out _; (with_reducible repeat (first | refine blk_drewN ?_ _ | refine blk_drew ?_ | refine blk_alloc ?_ _)); refine blk_far ?_ NB526_535.out _; (with_reducible repeat (first | refine blk_drewN ?_ _ | refine blk_drew ?_ | refine blk_alloc ?_ _)); refine blk_far ?_ NB526_535.out _; (with_reducible repeat (first | refine blk_drewN ?_ _ | refine blk_drew ?_ | refine blk_alloc ?_ _)); exact BK526.out⟩, ⟨by (with_reducible repeat (first | refine blk_drewN ?_ _ | refine blk_drew ?_ | refine blk_alloc ?_ _)); refine blk_far ?_ NB527_535.out _; (with_reducible repeat (first | refine blk_drewN ?_ _ | refine blk_drew ?_ | refine blk_alloc ?_ _)); refine blk_far ?_ NB527_535.out _; (with_reducible repeat (first | refine blk_drewN ?_ _ | refine blk_drew ?_ | refine blk_alloc ?_ _)); refine blk_far ?_ NB527_535.out _; (with_reducible repeat (first | refine blk_drewN ?_ _ | refine blk_drew ?_ | refine blk_alloc ?_ _)); exact BK527.out⟩, ⟨by (with_reducible repeat (first | refine blk_drewN ?_ _ | refine blk_drew ?_ | refine blk_alloc ?_ _)); refine blk_put (cs := #[.int .i64 t532, .int .i64 t533, .bool false]) ?_ 2 _ rfl; (with_reducible repeat (first | refine blk_drewN ?_ _ | refine blk_drew ?_ | refine blk_alloc ?_ _)); refine blk_put (cs := #[.int .i64 t532, .int .i64 0, .bool false]) ?_ 1 _ rfl; (with_reducible repeat (first | refine blk_drewN ?_ _ | refine blk_drew ?_ | refine blk_alloc ?_ _)); refine blk_put (cs := #[.int .i64 0, .int .i64 0, .bool false]) ?_ 0 _ rfl; (with_reducible repeat (first | refine blk_drewN ?_ _ | refine blk_drew ?_ | refine blk_alloc ?_ _)); exact BK535.out⟩, ⟨bz⟩⟩
    ·replace c43 := Bool.eq_false_iff.mpr c43
     subst c43
     rw [if_neg (show ¬ (false = true) by decide)] at H
     have H' := Aside0.mk H
     clear H
     have hnb47 := NB535_526.out
     have hnc47 := NB526_535.out
     have hnb48 := NB535_527.out
     have hnc48 := NB527_535.out
     have hcz49_0 : w39.cell? ⟨gb535, 0, none⟩ = some (.int .i64 0) := (blk_cell BK535.out 0).trans rfl
     have hcz49_1 : w39.cell? ⟨gb535, 1, none⟩ = some (.int .i64 0) := (blk_cell BK535.out 1).trans rfl
     have hcz49_2 : w39.cell? ⟨gb535, 2, none⟩ = some (.bool false) := (blk_cell BK535.out 2).trans rfl
     have hfz49_0 := blk_frozen BK535.out 0
     have hfz49_1 := blk_frozen BK535.out 1
     have hfz49_2 := blk_frozen BK535.out 2
     go_wp2
     go_meet
     case rel => exact ⟨_, (true), (by first | rfl | (simp; done) | (simp [*]; done)), H', ⟨by first | omega | exact Nat.le_refl _⟩, ⟨by (with_reducible repeat (first | refine blk_drewN ?_ _ | refine blk_drew ?_ | refine blk_alloc ?_ _)); refine blk_far ?_ NB526_535.out _; (with_reducible repeat (first | refine blk_drewN ?_ _ | refine blk_drew ?_ | refine blk_alloc ?_ _)); refine blk_far ?_ NB526_535.out _; (with_reducible repeat (first | refine blk_drewN ?_ _ | refine blk_drew ?_ | refine blk_alloc ?_ _)); refine blk_far ?_ NB526_535.out _; (with_reducible repeat (first | refine blk_drewN ?_ _ | refine blk_drew ?_ | refine blk_alloc ?_ _)); exact BK526.out⟩, ⟨by (with_reducible repeat (first | refine blk_drewN ?_ _ | refine blk_drew ?_ | refine blk_alloc ?_ _)); refine blk_far ?_ NB527_535.out _; (with_reducible repeat (first | refine blk_drewN ?_ _ | refine blk_drew ?_ | refine blk_alloc ?_ _)); refine blk_far ?_ NB527_535.out _; (with_reducible repeat (first | refine blk_drewN ?_ _ | refine blk_drew ?_ | refine blk_alloc ?_ _)); refine blk_far ?_ NB527_535.out _; (with_reducible repeat (first | refine blk_drewN ?_ _ | refine blk_drew ?_ | refine blk_alloc ?_ _)); exact BK527.out⟩, ⟨by (with_reducible repeat (first | refine blk_drewN ?_ _ | refine blk_drew ?_ | refine blk_alloc ?_ _)); refine blk_put (cs := #[.int .i64 t532, .int .i64 t533, .bool false]) ?_ 2 _ rfl; (with_reducible repeat (first | refine blk_drewN ?_ _ | refine blk_drew ?_ | refine blk_alloc ?_ _)); refine blk_put (cs := #[.int .i64 t532, .int .i64 0, .bool false]) ?_ 1 _ rfl; (with_reducible repeat (first | refine blk_drewN ?_ _ | refine blk_drew ?_ | refine blk_alloc ?_ _)); refine blk_put (cs := #[.int .i64 0, .int .i64 0, .bool false]) ?_ 0 _ rfl; (with_reducible repeat (first | refine blk_drewN ?_ _ | refine blk_drew ?_ | refine blk_alloc ?_ _)); exact BK535.out⟩, ⟨bz⟩⟩
   case rest => as_aux_lemma =>
    clear HC33
    try clear c3
    try clear c3b0
    try clear c5
    try clear c20
    try clear c26
    try clear c26b0
    try clear c26b1
    try clear c43
    try clear hcz14_0
    try clear hcz14_1
    try clear hcz14_2
    try clear hcz15_0
    try clear hcz15_1
    try clear hcz15_2
    try clear hcz19_0
    try clear hcz19_1
    try clear hcz24_0
    try clear hcz24_1
    try clear hcz24_2
    try clear hcz25_0
    try clear hcz25_1
    try clear hcz25_2
    try clear hcz30_0
    try clear hcz30_1
    try clear hcz31_0
    try clear hcz31_1
    try clear hcz31_2
    try clear hcz37_0
    try clear hcz37_1
    try clear hcz42_0
    try clear hcz42_1
    try clear hcz42_2
    try clear hcz46_0
    try clear hcz46_1
    try clear hcz46_2
    try clear hcz49_0
    try clear hcz49_1
    try clear hcz49_2
    try clear hcz9_0
    try clear hcz9_1
    try clear hfz14_0
    try clear hfz14_1
    try clear hfz14_2
    try clear hfz15_0
    try clear hfz15_1
    try clear hfz15_2
    try clear hfz19_0
    try clear hfz19_1
    try clear hfz24_0
    try clear hfz24_1
    try clear hfz24_2
    try clear hfz25_0
    try clear hfz25_1
    try clear hfz25_2
    try clear hfz30_0
    try clear hfz30_1
    try clear hfz31_0
    try clear hfz31_1
    try clear hfz31_2
    try clear hfz37_0
    try clear hfz37_1
    try clear hfz42_0
    try clear hfz42_1
    try clear hfz42_2
    try clear hfz46_0
    try clear hfz46_1
    try clear hfz46_2
    try clear hfz49_0
    try clear hfz49_1
    try clear hfz49_2
    try clear hfz9_0
    try clear hfz9_1
    obtain ⟨kq, x37_32, rfl, HA, HJ32, BK526, BK527, BK535, HB⟩ := hcut
    cases kq with
    | zero => exact absurd HA.out (by simp [manorboyref02_Pow.j0])
    | succ kj32 =>
     have H := HA.out
     clear HA
     simp only [manorboyref02_Pow.j0] at H
     by_cases c50 : x37_32 = true
     ·subst c50
      rw [if_pos rfl] at H
      simp only [Option.some.injEq, Prod.mk.injEq] at H
      obtain ⟨rfl, rfl, rfl⟩ := H
      have hnb51 := NB527_526.out
      have hnc51 := NB526_527.out
      have hnb52 := NB527_535.out
      have hnc52 := NB535_527.out
      have hcz53_0 : wc.cell? ⟨gb527, 0, none⟩ = some (.int .i64 0) := (blk_cell BK527.out 0).trans rfl
      have hcz53_1 : wc.cell? ⟨gb527, 1, none⟩ = some (.int .i64 0) := (blk_cell BK527.out 1).trans rfl
      have hcz53_2 : wc.cell? ⟨gb527, 2, none⟩ = some (.int .i64 0) := (blk_cell BK527.out 2).trans rfl
      have hfz53_0 := blk_frozen BK527.out 0
      have hfz53_1 := blk_frozen BK527.out 1
      have hfz53_2 := blk_frozen BK527.out 2
      go_wp2
      refine bodyPost_ret (results_cell_row rfl _ _ gb527 30 #[.int .i64 0, .int .i64 0, .int .i64 3] (0, 0) _ rfl (by (with_reducible repeat (first | refine blk_drewN ?_ _ | refine blk_drew ?_ | refine blk_alloc ?_ _)); refine blk_put (cs := #[.int .i64 0, .int .i64 0, .int .i64 0]) ?_ 2 _ rfl; (with_reducible repeat (first | refine blk_drewN ?_ _ | refine blk_drew ?_ | refine blk_alloc ?_ _)); refine blk_put (cs := #[.int .i64 0, .int .i64 0, .int .i64 0]) ?_ 1 _ rfl; (with_reducible repeat (first | refine blk_drewN ?_ _ | refine blk_drew ?_ | refine blk_alloc ?_ _)); refine blk_put (cs := #[.int .i64 0, .int .i64 0, .int .i64 0]) ?_ 0 _ rfl; (with_reducible repeat (first | refine blk_drewN ?_ _ | refine blk_drew ?_ | refine blk_alloc ?_ _)); exact BK527.out) Tryz.underlying30 rfl (by kernel_rfl)) rfl ?_
      exact ⟨by first | rfl | (simp [errW_none, errW_some] <;> rfl) | (simp [*, errW_none, errW_some] <;> rfl), bz⟩
     ·replace c50 := Bool.eq_false_iff.mpr c50
      subst c50
      rw [if_neg (show ¬ (false = true) by decide)] at H
      replace H := Option.bind_eq_some_iff.mp H
      obtain ⟨⟨t536, t537⟩, A540, H⟩ := H
      try dsimp only at H
      have A54 := Aside0.mk A540
      clear A540
      replace H := Option.bind_eq_some_iff.mp H
      obtain ⟨⟨t538, t539, t540⟩, A550, H⟩ := H
      try dsimp only at H
      have A55 := Aside0.mk A550
      clear A550
      by_cases c56 : t540 = true
      ·subst c56
       rw [if_pos rfl] at H
       simp only [Option.some.injEq, Prod.mk.injEq] at H
       obtain ⟨rfl, rfl, rfl⟩ := H
       try go_wp2
       replace BK526 := Aside0.mk (blk_drew BK526.out)
       replace BK527 := Aside0.mk (blk_drew BK527.out)
       replace BK535 := Aside0.mk (blk_drew BK535.out)
       replace HB := Aside0.mk (below_drew1 HB.out)
       refine start_ (n := 6) (S := fun w' => w'.cell? ⟨gb535, 0, none⟩ = some (.int .i64 t532) ∧ w'.cell? ⟨gb535, 1, none⟩ = some (.int .i64 t533) ∧ w'.cell? ⟨gb535, 2, none⟩ = some (.bool t534)) (ds := []) #[ff,ff,ff,ff,ff,ff] (by kernel_rfl) rfl rfl ⟨bc 0 BK535, bc 1 BK535, bc 2 BK535⟩ (fun hHeld => ?_)
       generalize wc.drew = w57 at BK526 BK527 BK535 HB hHeld ⊢
       refine pure_ (i := 1) (N := some 40) (v := ?_) (a' := ?_) #[false, true, false, false, false, false] rfl rfl (by kernel_rfl) (fun _ _ _ h => h) (Or.inl ⟨by rfl, ?_⟩) ?_ ?_
       rotate_left
       ·intro w'
        go_simp
        with_reducible rfl
       rotate_left
       ·simp only [Act.put, List.setIfInBounds_toArray, List.set_cons_zero, List.set_cons_succ, i64_w, i32_w]
        rfl
       refine take_ (i := 2) (N := some 41) (v := ?_) (a' := ?_) #[false, true, true, false, false, false] rfl rfl (by kernel_rfl) (fun _ _ _ h => h) (Or.inl ⟨by rfl, ?_⟩) hHeld ?_ ?_
       rotate_left
       ·rintro w' ⟨s0, s1, s2⟩
        go_simp
        with_reducible rfl
       rotate_left
       ·simp only [Act.put, List.setIfInBounds_toArray, List.set_cons_zero, List.set_cons_succ, i64_w, i32_w]
        rfl
       refine join_ (σ := Nat) 1 #[true, true, true, true, true, false] (fun s_ => [(39, .agg #[.int .i64 t536, .int .i64 t537]), (42, .agg #[.int .i64 t538, .int .i64 t539, .bool true]), (7, .pointer (some ⟨s_, 0, none⟩))]) (fun s_ w' => (w'.cell? ⟨gb535, 0, none⟩ = some (.int .i64 t532) ∧ w'.cell? ⟨gb535, 1, none⟩ = some (.int .i64 t533) ∧ w'.cell? ⟨gb535, 2, none⟩ = some (.bool t534)) ∧ (w'.heap[gb526]? = some (.cells #[.int .i64 a0_0, .int .i64 a0_1] 23 (0, 0))) ∧ (w'.heap[gb527]? = some (.cells #[.int .i64 0, .int .i64 0, .int .i64 0] 30 (0, 0))) ∧ (w'.heap[gb535]? = some (.cells #[.int .i64 t532, .int .i64 t533, .bool t534] 50 (0, 0))) ∧ (w'.heap[s_]? = some (.cells #[.int .i64 0, .int .i64 0, .bool false] 50 (0, 0))) ∧ (w.heap.size ≤ s_) ∧ (w.heap.size ≤ s_) ∧ (gb526 ≠ s_) ∧ (s_ ≠ gb526) ∧ (gb527 ≠ s_) ∧ (s_ ≠ gb527) ∧ (gb535 ≠ s_) ∧ (s_ ≠ gb535) ∧ (Below w.heap.size w w')) ?_ ?_
       rotate_left
       ·intro hCont
        refine two_ (i := 0) (j := 4) (Ni := some 39) (Nj := some 7) #[true, true, true, false, false, false] #[false, true, true, false, true, false] rfl rfl rfl rfl (by kernel_rfl) (by decide) (by decide) (fun K hK => ?_) (fun K hK => ?_)
        ·skip
         refine goes_ Tryz.func71 (by kernel_rfl) rfl #[] (by rfl) rfl rfl az ?_
         with_reducible refine (manorboyref02_one.calls  t536 t537 _ A54.out).mono ?_
         rintro e w58 ⟨rfl, hb⟩
         refine ⟨_, rfl, ?_⟩
         replace BK526 := kb BK526 hb
         replace BK527 := kb BK527 hb
         replace BK535 := kb BK535 hb
         replace HB := bs hb
         (try clear hb)
         refine hK.out _ _ ⟨bc 0 BK535, bc 1 BK535, bc 2 BK535⟩ (fun hHeld => ?_)
         clear hK K
         refine nrm (some 39) ?_
         refine two_ (i := 3) (j := 4) (Ni := some 42) (Nj := some 7) #[true, true, true, true, false, false] #[true, true, true, false, true, false] rfl rfl rfl rfl (by kernel_rfl) (by decide) (by decide) (fun K hK => ?_) (fun K hK => ?_)
         ·skip
          refine goes_ Tryz.func46 (by kernel_rfl) rfl #[.agg #[.int .i64 t536, .int .i64 t537], .agg #[.int .i64 t532, .int .i64 t533]] (by rfl) rfl rfl az ?_
          with_reducible refine (manorboyref02_Div.calls kj32 t536 t537 t532 t533 t538 t539 true _ A55.out).mono ?_
          rintro e w59 ⟨rfl, hb⟩
          refine ⟨_, rfl, ?_⟩
          replace BK526 := kb BK526 hb
          replace BK527 := kb BK527 hb
          replace BK535 := kb BK535 hb
          replace HB := bs hb
          (try clear hb)
          refine hK.out _ _ ⟨bc 0 BK535, bc 1 BK535, bc 2 BK535⟩ (fun hHeld => ?_)
          clear hK K
          refine nrm (some 42) ?_
          refine one_ (i := 4) (N := some 7) #[true, true, true, true, true, false] rfl rfl (by kernel_rfl) (by decide) (fun K hK => ?_)
          refine box_step ?hg (N := 7) ?hd (cs := #[.int .i64 0, .int .i64 0, .bool false]) (t := 50) ?hr ?_; (case hd => rfl); (case hg => rfl); (case hr => first | (go_simp; done) | (go_simp; rfl))
          intro gb541 hg w60 hbox hb
          have BK541 := Aside0.mk hbox
          have GW541 := ge hg
          have GE541 := ge hg
          have NB526_541 := nl BK526 hg
          have NB541_526 := nr BK526 hg
          have NB527_541 := nl BK527 hg
          have NB541_527 := nr BK527 hg
          have NB535_541 := nl BK535 hg
          have NB541_535 := nr BK535 hg
          replace BK526 := kb BK526 hb
          replace BK527 := kb BK527 hb
          replace BK535 := kb BK535 hb
          replace HB := bs hb
          clear hb hbox hg
          refine hK.out _ _ ⟨bc 0 BK535, bc 1 BK535, bc 2 BK535⟩ (fun hHeld => ?_)
          clear hK K
          refine nrm (some 7) ?_
          exact norm_ (by simp only [putAll, Act.put, List.setIfInBounds_toArray, List.set_cons_zero, List.set_cons_succ]) (hCont (gb541) _ ⟨hHeld, (kz BK526), (kz BK527), (kz BK535), (kz BK541), GW541.out, GE541.out, NB526_541.out, NB541_526.out, NB527_541.out, NB541_527.out, NB535_541.out, NB541_535.out, bz⟩)
         ·skip
          refine box_step ?hg (N := 7) ?hd (cs := #[.int .i64 0, .int .i64 0, .bool false]) (t := 50) ?hr ?_; (case hd => rfl); (case hg => rfl); (case hr => first | (go_simp; done) | (go_simp; rfl))
          intro gb541 hg w59 hbox hb
          have BK541 := Aside0.mk hbox
          have GW541 := ge hg
          have GE541 := ge hg
          have NB526_541 := nl BK526 hg
          have NB541_526 := nr BK526 hg
          have NB527_541 := nl BK527 hg
          have NB541_527 := nr BK527 hg
          have NB535_541 := nl BK535 hg
          have NB541_535 := nr BK535 hg
          replace BK526 := kb BK526 hb
          replace BK527 := kb BK527 hb
          replace BK535 := kb BK535 hb
          replace HB := bs hb
          clear hb hbox hg
          refine hK.out _ _ ⟨bc 0 BK535, bc 1 BK535, bc 2 BK535⟩ (fun hHeld => ?_)
          clear hK K
          refine nrm (some 7) ?_
          refine one_ (i := 3) (N := some 42) #[true, true, true, true, true, false] rfl rfl (by kernel_rfl) (by decide) (fun K hK => ?_)
          refine goes_ Tryz.func46 (by kernel_rfl) rfl #[.agg #[.int .i64 t536, .int .i64 t537], .agg #[.int .i64 t532, .int .i64 t533]] (by rfl) rfl rfl az ?_
          with_reducible refine (manorboyref02_Div.calls kj32 t536 t537 t532 t533 t538 t539 true _ A55.out).mono ?_
          rintro e w60 ⟨rfl, hb⟩
          refine ⟨_, rfl, ?_⟩
          replace BK526 := kb BK526 hb
          replace BK527 := kb BK527 hb
          replace BK535 := kb BK535 hb
          replace BK541 := kb BK541 hb
          replace HB := bs hb
          (try clear hb)
          refine hK.out _ _ ⟨bc 0 BK535, bc 1 BK535, bc 2 BK535⟩ (fun hHeld => ?_)
          clear hK K
          refine nrm (some 42) ?_
          exact norm_ (by simp only [putAll, Act.put, List.setIfInBounds_toArray, List.set_cons_zero, List.set_cons_succ]) (hCont (gb541) _ ⟨hHeld, (kz BK526), (kz BK527), (kz BK535), (kz BK541), GW541.out, GE541.out, NB526_541.out, NB541_526.out, NB527_541.out, NB541_527.out, NB535_541.out, NB541_535.out, bz⟩)
        ·skip
         refine box_step ?hg (N := 7) ?hd (cs := #[.int .i64 0, .int .i64 0, .bool false]) (t := 50) ?hr ?_; (case hd => rfl); (case hg => rfl); (case hr => first | (go_simp; done) | (go_simp; rfl))
         intro gb541 hg w58 hbox hb
         have BK541 := Aside0.mk hbox
         have GW541 := ge hg
         have GE541 := ge hg
         have NB526_541 := nl BK526 hg
         have NB541_526 := nr BK526 hg
         have NB527_541 := nl BK527 hg
         have NB541_527 := nr BK527 hg
         have NB535_541 := nl BK535 hg
         have NB541_535 := nr BK535 hg
         replace BK526 := kb BK526 hb
         replace BK527 := kb BK527 hb
         replace BK535 := kb BK535 hb
         replace HB := bs hb
         clear hb hbox hg
         refine hK.out _ _ ⟨bc 0 BK535, bc 1 BK535, bc 2 BK535⟩ (fun hHeld => ?_)
         clear hK K
         refine nrm (some 7) ?_
         refine one_ (i := 0) (N := some 39) #[true, true, true, false, true, false] rfl rfl (by kernel_rfl) (by decide) (fun K hK => ?_)
         refine goes_ Tryz.func71 (by kernel_rfl) rfl #[] (by rfl) rfl rfl az ?_
         with_reducible refine (manorboyref02_one.calls  t536 t537 _ A54.out).mono ?_
         rintro e w59 ⟨rfl, hb⟩
         refine ⟨_, rfl, ?_⟩
         replace BK526 := kb BK526 hb
         replace BK527 := kb BK527 hb
         replace BK535 := kb BK535 hb
         replace BK541 := kb BK541 hb
         replace HB := bs hb
         (try clear hb)
         refine hK.out _ _ ⟨bc 0 BK535, bc 1 BK535, bc 2 BK535⟩ (fun hHeld => ?_)
         clear hK K
         refine nrm (some 39) ?_
         refine one_ (i := 3) (N := some 42) #[true, true, true, true, true, false] rfl rfl (by kernel_rfl) (by decide) (fun K hK => ?_)
         refine goes_ Tryz.func46 (by kernel_rfl) rfl #[.agg #[.int .i64 t536, .int .i64 t537], .agg #[.int .i64 t532, .int .i64 t533]] (by rfl) rfl rfl az ?_
         with_reducible refine (manorboyref02_Div.calls kj32 t536 t537 t532 t533 t538 t539 true _ A55.out).mono ?_
         rintro e w60 ⟨rfl, hb⟩
         refine ⟨_, rfl, ?_⟩
         replace BK526 := kb BK526 hb
         replace BK527 := kb BK527 hb
         replace BK535 := kb BK535 hb
         replace BK541 := kb BK541 hb
         replace HB := bs hb
         (try clear hb)
         refine hK.out _ _ ⟨bc 0 BK535, bc 1 BK535, bc 2 BK535⟩ (fun hHeld => ?_)
         clear hK K
         refine nrm (some 42) ?_
         exact norm_ (by simp only [putAll, Act.put, List.setIfInBounds_toArray, List.set_cons_zero, List.set_cons_succ]) (hCont (gb541) _ ⟨hHeld, (kz BK526), (kz BK527), (kz BK535), (kz BK541), GW541.out, GE541.out, NB526_541.out, NB541_526.out, NB527_541.out, NB541_527.out, NB535_541.out, NB541_535.out, bz⟩)
       rintro gb541 w61 ⟨hS_, h0_, h1_, h2_, h3_, h4_, h5_, h6_, h7_, h8_, h9_, h10_, h11_, h12_⟩
       have BK541 : Aside0 (w61.heap[gb541]? = some (.cells #[.int .i64 0, .int .i64 0, .bool false] 50 (0, 0))) := ⟨h3_⟩
       have GW541 : Aside0 (w.heap.size ≤ gb541) := ⟨h4_⟩
       have GE541 : Aside0 (w.heap.size ≤ gb541) := ⟨h5_⟩
       have NB526_541 : Aside0 (gb526 ≠ gb541) := ⟨h6_⟩
       have NB541_526 : Aside0 (gb541 ≠ gb526) := ⟨h7_⟩
       have NB527_541 : Aside0 (gb527 ≠ gb541) := ⟨h8_⟩
       have NB541_527 : Aside0 (gb541 ≠ gb527) := ⟨h9_⟩
       have NB535_541 : Aside0 (gb535 ≠ gb541) := ⟨h10_⟩
       have NB541_535 : Aside0 (gb541 ≠ gb535) := ⟨h11_⟩
       replace BK526 : Aside0 (w61.heap[gb526]? = some (.cells #[.int .i64 a0_0, .int .i64 a0_1] 23 (0, 0))) := ⟨h0_⟩
       replace BK527 : Aside0 (w61.heap[gb527]? = some (.cells #[.int .i64 0, .int .i64 0, .int .i64 0] 30 (0, 0))) := ⟨h1_⟩
       replace BK535 : Aside0 (w61.heap[gb535]? = some (.cells #[.int .i64 t532, .int .i64 t533, .bool t534] 50 (0, 0))) := ⟨h2_⟩
       replace HB : Aside0 (Below w.heap.size w w61) := ⟨h12_⟩
       clear h0_ h1_ h2_ h3_ h4_ h5_ h6_ h7_ h8_ h9_ h10_ h11_ h12_
       have hHeld : w61.cell? ⟨gb535, 0, none⟩ = some (.int .i64 t532) ∧ w61.cell? ⟨gb535, 1, none⟩ = some (.int .i64 t533) ∧ w61.cell? ⟨gb535, 2, none⟩ = some (.bool t534) := hS_
       refine norm_ (a' := ?_) ?_ ?_
       rotate_left
       ·simp only [putAll, Act.put, List.setIfInBounds_toArray, List.set_cons_zero, List.set_cons_succ]
        rfl
       refine one_ (i := 5) (N := none) #[true, true, true, true, true, true] rfl rfl (by kernel_rfl) (by decide) (fun K hK => ?_)
       have hs62 : w61.cell? ⟨gb541, 0, none⟩ = some (.int .i64 0) := (blk_cell BK541.out 0).trans rfl
       have hfs62 := blk_frozen BK541.out 0
       have hns62_0 := NB526_541.out
       have hns62_1 := NB527_541.out
       have hns62_2 := NB535_541.out
       have hms62_0 := NB541_526.out
       have hms62_1 := NB541_527.out
       have hms62_2 := NB541_535.out
       have hs63 : w61.cell? ⟨gb541, 1, none⟩ = some (.int .i64 0) := (blk_cell BK541.out 1).trans rfl
       have hfs63 := blk_frozen BK541.out 1
       have hns63_0 := NB526_541.out
       have hns63_1 := NB527_541.out
       have hns63_2 := NB535_541.out
       have hms63_0 := NB541_526.out
       have hms63_1 := NB541_527.out
       have hms63_2 := NB541_535.out
       have hs64 : w61.cell? ⟨gb541, 2, none⟩ = some (.bool false) := (blk_cell BK541.out 2).trans rfl
       have hfs64 := blk_frozen BK541.out 2
       have hns64_0 := NB526_541.out
       have hns64_1 := NB527_541.out
       have hns64_2 := NB535_541.out
       have hms64_0 := NB541_526.out
       have hms64_1 := NB541_527.out
       have hms64_2 := NB541_535.out
       refine skip_ (w1 := ?_) (by rfl) rfl ?_ ?_
       rotate_left
       ·go_simp
        rfl
       refine hK.out _ _ ⟨((cell_far (p := ⟨gb541, _, none⟩) NB535_541.out _).trans (((cell_far (p := ⟨gb541, _, none⟩) NB535_541.out _).trans (((cell_far (p := ⟨gb541, _, none⟩) NB535_541.out _).trans (hHeld.1)))))), ((cell_far (p := ⟨gb541, _, none⟩) NB535_541.out _).trans (((cell_far (p := ⟨gb541, _, none⟩) NB535_541.out _).trans (((cell_far (p := ⟨gb541, _, none⟩) NB535_541.out _).trans (hHeld.2.1)))))), ((cell_far (p := ⟨gb541, _, none⟩) NB535_541.out _).trans (((cell_far (p := ⟨gb541, _, none⟩) NB535_541.out _).trans (((cell_far (p := ⟨gb541, _, none⟩) NB535_541.out _).trans (hHeld.2.2))))))⟩ (fun hHeld => ?_)
       clear hK K
       refine done_ (by kernel_rfl) ?_
       have hnb65 := NB541_526.out
       have hnc65 := NB526_541.out
       have hnb66 := NB541_527.out
       have hnc66 := NB527_541.out
       have hnb67 := NB541_535.out
       have hnc67 := NB535_541.out
       have hcz68_0 : w61.cell? ⟨gb541, 0, none⟩ = some (.int .i64 0) := (blk_cell BK541.out 0).trans rfl
       have hcz68_1 : w61.cell? ⟨gb541, 1, none⟩ = some (.int .i64 0) := (blk_cell BK541.out 1).trans rfl
       have hcz68_2 : w61.cell? ⟨gb541, 2, none⟩ = some (.bool false) := (blk_cell BK541.out 2).trans rfl
       have hfz68_0 := blk_frozen BK541.out 0
       have hfz68_1 := blk_frozen BK541.out 1
       have hfz68_2 := blk_frozen BK541.out 2
       have hnb69 := NB527_526.out
       have hnc69 := NB526_527.out
       have hnb70 := NB527_535.out
       have hnc70 := NB535_527.out
       have hcz71_0 : w61.cell? ⟨gb527, 0, none⟩ = some (.int .i64 0) := (blk_cell BK527.out 0).trans rfl
       have hcz71_1 : w61.cell? ⟨gb527, 1, none⟩ = some (.int .i64 0) := (blk_cell BK527.out 1).trans rfl
       have hcz71_2 : w61.cell? ⟨gb527, 2, none⟩ = some (.int .i64 0) := (blk_cell BK527.out 2).trans rfl
       have hfz71_0 := blk_frozen BK527.out 0
       have hfz71_1 := blk_frozen BK527.out 1
       have hfz71_2 := blk_frozen BK527.out 2
       try go_wp2
       refine bodyPost_ret (results_cell_row rfl _ _ gb527 30 #[.int .i64 t538, .int .i64 t539, .int .i64 0] (0, 0) _ rfl (by (with_reducible repeat (first | refine blk_drewN ?_ _ | refine blk_drew ?_ | refine blk_alloc ?_ _)); refine blk_put (cs := #[.int .i64 t538, .int .i64 t539, .int .i64 0]) ?_ 2 _ rfl; (with_reducible repeat (first | refine blk_drewN ?_ _ | refine blk_drew ?_ | refine blk_alloc ?_ _)); refine blk_put (cs := #[.int .i64 t538, .int .i64 0, .int .i64 0]) ?_ 1 _ rfl; (with_reducible repeat (first | refine blk_drewN ?_ _ | refine blk_drew ?_ | refine blk_alloc ?_ _)); refine blk_put (cs := #[.int .i64 0, .int .i64 0, .int .i64 0]) ?_ 0 _ rfl; (with_reducible repeat (first | refine blk_drewN ?_ _ | refine blk_drew ?_ | refine blk_alloc ?_ _)); refine blk_far ?_ NB527_541.out _; (with_reducible repeat (first | refine blk_drewN ?_ _ | refine blk_drew ?_ | refine blk_alloc ?_ _)); refine blk_far ?_ NB527_541.out _; (with_reducible repeat (first | refine blk_drewN ?_ _ | refine blk_drew ?_ | refine blk_alloc ?_ _)); refine blk_far ?_ NB527_541.out _; (with_reducible repeat (first | refine blk_drewN ?_ _ | refine blk_drew ?_ | refine blk_alloc ?_ _)); exact BK527.out) Tryz.underlying30 rfl (by kernel_rfl)) rfl ?_
       exact ⟨by first | rfl | (simp [errW_none, errW_some] <;> rfl) | (simp [*, errW_none, errW_some] <;> rfl), bz⟩
      ·replace c56 := Bool.eq_false_iff.mpr c56
       subst c56
       rw [if_neg (show ¬ (false = true) by decide)] at H
       simp only [Option.some.injEq, Prod.mk.injEq] at H
       obtain ⟨rfl, rfl, rfl⟩ := H
       try go_wp2
       replace BK526 := Aside0.mk (blk_drew BK526.out)
       replace BK527 := Aside0.mk (blk_drew BK527.out)
       replace BK535 := Aside0.mk (blk_drew BK535.out)
       replace HB := Aside0.mk (below_drew1 HB.out)
       refine start_ (n := 6) (S := fun w' => w'.cell? ⟨gb535, 0, none⟩ = some (.int .i64 t532) ∧ w'.cell? ⟨gb535, 1, none⟩ = some (.int .i64 t533) ∧ w'.cell? ⟨gb535, 2, none⟩ = some (.bool t534)) (ds := []) #[ff,ff,ff,ff,ff,ff] (by kernel_rfl) rfl rfl ⟨bc 0 BK535, bc 1 BK535, bc 2 BK535⟩ (fun hHeld => ?_)
       generalize wc.drew = w72 at BK526 BK527 BK535 HB hHeld ⊢
       refine pure_ (i := 1) (N := some 40) (v := ?_) (a' := ?_) #[false, true, false, false, false, false] rfl rfl (by kernel_rfl) (fun _ _ _ h => h) (Or.inl ⟨by rfl, ?_⟩) ?_ ?_
       rotate_left
       ·intro w'
        go_simp
        with_reducible rfl
       rotate_left
       ·simp only [Act.put, List.setIfInBounds_toArray, List.set_cons_zero, List.set_cons_succ, i64_w, i32_w]
        rfl
       refine take_ (i := 2) (N := some 41) (v := ?_) (a' := ?_) #[false, true, true, false, false, false] rfl rfl (by kernel_rfl) (fun _ _ _ h => h) (Or.inl ⟨by rfl, ?_⟩) hHeld ?_ ?_
       rotate_left
       ·rintro w' ⟨s0, s1, s2⟩
        go_simp
        with_reducible rfl
       rotate_left
       ·simp only [Act.put, List.setIfInBounds_toArray, List.set_cons_zero, List.set_cons_succ, i64_w, i32_w]
        rfl
       refine join_ (σ := Nat) 1 #[true, true, true, true, true, false] (fun s_ => [(39, .agg #[.int .i64 t536, .int .i64 t537]), (42, .agg #[.int .i64 t538, .int .i64 t539, .bool false]), (7, .pointer (some ⟨s_, 0, none⟩))]) (fun s_ w' => (w'.cell? ⟨gb535, 0, none⟩ = some (.int .i64 t532) ∧ w'.cell? ⟨gb535, 1, none⟩ = some (.int .i64 t533) ∧ w'.cell? ⟨gb535, 2, none⟩ = some (.bool t534)) ∧ (w'.heap[gb526]? = some (.cells #[.int .i64 a0_0, .int .i64 a0_1] 23 (0, 0))) ∧ (w'.heap[gb527]? = some (.cells #[.int .i64 0, .int .i64 0, .int .i64 0] 30 (0, 0))) ∧ (w'.heap[gb535]? = some (.cells #[.int .i64 t532, .int .i64 t533, .bool t534] 50 (0, 0))) ∧ (w'.heap[s_]? = some (.cells #[.int .i64 0, .int .i64 0, .bool false] 50 (0, 0))) ∧ (w.heap.size ≤ s_) ∧ (w.heap.size ≤ s_) ∧ (gb526 ≠ s_) ∧ (s_ ≠ gb526) ∧ (gb527 ≠ s_) ∧ (s_ ≠ gb527) ∧ (gb535 ≠ s_) ∧ (s_ ≠ gb535) ∧ (Below w.heap.size w w')) ?_ ?_
       rotate_left
       ·intro hCont
        refine two_ (i := 0) (j := 4) (Ni := some 39) (Nj := some 7) #[true, true, true, false, false, false] #[false, true, true, false, true, false] rfl rfl rfl rfl (by kernel_rfl) (by decide) (by decide) (fun K hK => ?_) (fun K hK => ?_)
        ·skip
         refine goes_ Tryz.func71 (by kernel_rfl) rfl #[] (by rfl) rfl rfl az ?_
         with_reducible refine (manorboyref02_one.calls  t536 t537 _ A54.out).mono ?_
         rintro e w73 ⟨rfl, hb⟩
         refine ⟨_, rfl, ?_⟩
         replace BK526 := kb BK526 hb
         replace BK527 := kb BK527 hb
         replace BK535 := kb BK535 hb
         replace HB := bs hb
         (try clear hb)
         refine hK.out _ _ ⟨bc 0 BK535, bc 1 BK535, bc 2 BK535⟩ (fun hHeld => ?_)
         clear hK K
         refine nrm (some 39) ?_
         refine two_ (i := 3) (j := 4) (Ni := some 42) (Nj := some 7) #[true, true, true, true, false, false] #[true, true, true, false, true, false] rfl rfl rfl rfl (by kernel_rfl) (by decide) (by decide) (fun K hK => ?_) (fun K hK => ?_)
         ·skip
          refine goes_ Tryz.func46 (by kernel_rfl) rfl #[.agg #[.int .i64 t536, .int .i64 t537], .agg #[.int .i64 t532, .int .i64 t533]] (by rfl) rfl rfl az ?_
          with_reducible refine (manorboyref02_Div.calls kj32 t536 t537 t532 t533 t538 t539 false _ A55.out).mono ?_
          rintro e w74 ⟨rfl, hb⟩
          refine ⟨_, rfl, ?_⟩
          replace BK526 := kb BK526 hb
          replace BK527 := kb BK527 hb
          replace BK535 := kb BK535 hb
          replace HB := bs hb
          (try clear hb)
          refine hK.out _ _ ⟨bc 0 BK535, bc 1 BK535, bc 2 BK535⟩ (fun hHeld => ?_)
          clear hK K
          refine nrm (some 42) ?_
          refine one_ (i := 4) (N := some 7) #[true, true, true, true, true, false] rfl rfl (by kernel_rfl) (by decide) (fun K hK => ?_)
          refine box_step ?hg (N := 7) ?hd (cs := #[.int .i64 0, .int .i64 0, .bool false]) (t := 50) ?hr ?_; (case hd => rfl); (case hg => rfl); (case hr => first | (go_simp; done) | (go_simp; rfl))
          intro gb541 hg w75 hbox hb
          have BK541 := Aside0.mk hbox
          have GW541 := ge hg
          have GE541 := ge hg
          have NB526_541 := nl BK526 hg
          have NB541_526 := nr BK526 hg
          have NB527_541 := nl BK527 hg
          have NB541_527 := nr BK527 hg
          have NB535_541 := nl BK535 hg
          have NB541_535 := nr BK535 hg
          replace BK526 := kb BK526 hb
          replace BK527 := kb BK527 hb
          replace BK535 := kb BK535 hb
          replace HB := bs hb
          clear hb hbox hg
          refine hK.out _ _ ⟨bc 0 BK535, bc 1 BK535, bc 2 BK535⟩ (fun hHeld => ?_)
          clear hK K
          refine nrm (some 7) ?_
          exact norm_ (by simp only [putAll, Act.put, List.setIfInBounds_toArray, List.set_cons_zero, List.set_cons_succ]) (hCont (gb541) _ ⟨hHeld, (kz BK526), (kz BK527), (kz BK535), (kz BK541), GW541.out, GE541.out, NB526_541.out, NB541_526.out, NB527_541.out, NB541_527.out, NB535_541.out, NB541_535.out, bz⟩)
         ·skip
          refine box_step ?hg (N := 7) ?hd (cs := #[.int .i64 0, .int .i64 0, .bool false]) (t := 50) ?hr ?_; (case hd => rfl); (case hg => rfl); (case hr => first | (go_simp; done) | (go_simp; rfl))
          intro gb541 hg w74 hbox hb
          have BK541 := Aside0.mk hbox
          have GW541 := ge hg
          have GE541 := ge hg
          have NB526_541 := nl BK526 hg
          have NB541_526 := nr BK526 hg
          have NB527_541 := nl BK527 hg
          have NB541_527 := nr BK527 hg
          have NB535_541 := nl BK535 hg
          have NB541_535 := nr BK535 hg
          replace BK526 := kb BK526 hb
          replace BK527 := kb BK527 hb
          replace BK535 := kb BK535 hb
          replace HB := bs hb
          clear hb hbox hg
          refine hK.out _ _ ⟨bc 0 BK535, bc 1 BK535, bc 2 BK535⟩ (fun hHeld => ?_)
          clear hK K
          refine nrm (some 7) ?_
          refine one_ (i := 3) (N := some 42) #[true, true, true, true, true, false] rfl rfl (by kernel_rfl) (by decide) (fun K hK => ?_)
          refine goes_ Tryz.func46 (by kernel_rfl) rfl #[.agg #[.int .i64 t536, .int .i64 t537], .agg #[.int .i64 t532, .int .i64 t533]] (by rfl) rfl rfl az ?_
          with_reducible refine (manorboyref02_Div.calls kj32 t536 t537 t532 t533 t538 t539 false _ A55.out).mono ?_
          rintro e w75 ⟨rfl, hb⟩
          refine ⟨_, rfl, ?_⟩
          replace BK526 := kb BK526 hb
          replace BK527 := kb BK527 hb
          replace BK535 := kb BK535 hb
          replace BK541 := kb BK541 hb
          replace HB := bs hb
          (try clear hb)
          refine hK.out _ _ ⟨bc 0 BK535, bc 1 BK535, bc 2 BK535⟩ (fun hHeld => ?_)
          clear hK K
          refine nrm (some 42) ?_
          exact norm_ (by simp only [putAll, Act.put, List.setIfInBounds_toArray, List.set_cons_zero, List.set_cons_succ]) (hCont (gb541) _ ⟨hHeld, (kz BK526), (kz BK527), (kz BK535), (kz BK541), GW541.out, GE541.out, NB526_541.out, NB541_526.out, NB527_541.out, NB541_527.out, NB535_541.out, NB541_535.out, bz⟩)
        ·skip
         refine box_step ?hg (N := 7) ?hd (cs := #[.int .i64 0, .int .i64 0, .bool false]) (t := 50) ?hr ?_; (case hd => rfl); (case hg => rfl); (case hr => first | (go_simp; done) | (go_simp; rfl))
         intro gb541 hg w73 hbox hb
         have BK541 := Aside0.mk hbox
         have GW541 := ge hg
         have GE541 := ge hg
         have NB526_541 := nl BK526 hg
         have NB541_526 := nr BK526 hg
         have NB527_541 := nl BK527 hg
         have NB541_527 := nr BK527 hg
         have NB535_541 := nl BK535 hg
         have NB541_535 := nr BK535 hg
         replace BK526 := kb BK526 hb
         replace BK527 := kb BK527 hb
         replace BK535 := kb BK535 hb
         replace HB := bs hb
         clear hb hbox hg
         refine hK.out _ _ ⟨bc 0 BK535, bc 1 BK535, bc 2 BK535⟩ (fun hHeld => ?_)
         clear hK K
         refine nrm (some 7) ?_
         refine one_ (i := 0) (N := some 39) #[true, true, true, false, true, false] rfl rfl (by kernel_rfl) (by decide) (fun K hK => ?_)
         refine goes_ Tryz.func71 (by kernel_rfl) rfl #[] (by rfl) rfl rfl az ?_
         with_reducible refine (manorboyref02_one.calls  t536 t537 _ A54.out).mono ?_
         rintro e w74 ⟨rfl, hb⟩
         refine ⟨_, rfl, ?_⟩
         replace BK526 := kb BK526 hb
         replace BK527 := kb BK527 hb
         replace BK535 := kb BK535 hb
         replace BK541 := kb BK541 hb
         replace HB := bs hb
         (try clear hb)
         refine hK.out _ _ ⟨bc 0 BK535, bc 1 BK535, bc 2 BK535⟩ (fun hHeld => ?_)
         clear hK K
         refine nrm (some 39) ?_
         refine one_ (i := 3) (N := some 42) #[true, true, true, true, true, false] rfl rfl (by kernel_rfl) (by decide) (fun K hK => ?_)
         refine goes_ Tryz.func46 (by kernel_rfl) rfl #[.agg #[.int .i64 t536, .int .i64 t537], .agg #[.int .i64 t532, .int .i64 t533]] (by rfl) rfl rfl az ?_
         with_reducible refine (manorboyref02_Div.calls kj32 t536 t537 t532 t533 t538 t539 false _ A55.out).mono ?_
         rintro e w75 ⟨rfl, hb⟩
         refine ⟨_, rfl, ?_⟩
         replace BK526 := kb BK526 hb
         replace BK527 := kb BK527 hb
         replace BK535 := kb BK535 hb
         replace BK541 := kb BK541 hb
         replace HB := bs hb
         (try clear hb)
         refine hK.out _ _ ⟨bc 0 BK535, bc 1 BK535, bc 2 BK535⟩ (fun hHeld => ?_)
         clear hK K
         refine nrm (some 42) ?_
         exact norm_ (by simp only [putAll, Act.put, List.setIfInBounds_toArray, List.set_cons_zero, List.set_cons_succ]) (hCont (gb541) _ ⟨hHeld, (kz BK526), (kz BK527), (kz BK535), (kz BK541), GW541.out, GE541.out, NB526_541.out, NB541_526.out, NB527_541.out, NB541_527.out, NB535_541.out, NB541_535.out, bz⟩)
       rintro gb541 w76 ⟨hS_, h0_, h1_, h2_, h3_, h4_, h5_, h6_, h7_, h8_, h9_, h10_, h11_, h12_⟩
       have BK541 : Aside0 (w76.heap[gb541]? = some (.cells #[.int .i64 0, .int .i64 0, .bool false] 50 (0, 0))) := ⟨h3_⟩
       have GW541 : Aside0 (w.heap.size ≤ gb541) := ⟨h4_⟩
       have GE541 : Aside0 (w.heap.size ≤ gb541) := ⟨h5_⟩
       have NB526_541 : Aside0 (gb526 ≠ gb541) := ⟨h6_⟩
       have NB541_526 : Aside0 (gb541 ≠ gb526) := ⟨h7_⟩
       have NB527_541 : Aside0 (gb527 ≠ gb541) := ⟨h8_⟩
       have NB541_527 : Aside0 (gb541 ≠ gb527) := ⟨h9_⟩
       have NB535_541 : Aside0 (gb535 ≠ gb541) := ⟨h10_⟩
       have NB541_535 : Aside0 (gb541 ≠ gb535) := ⟨h11_⟩
       replace BK526 : Aside0 (w76.heap[gb526]? = some (.cells #[.int .i64 a0_0, .int .i64 a0_1] 23 (0, 0))) := ⟨h0_⟩
       replace BK527 : Aside0 (w76.heap[gb527]? = some (.cells #[.int .i64 0, .int .i64 0, .int .i64 0] 30 (0, 0))) := ⟨h1_⟩
       replace BK535 : Aside0 (w76.heap[gb535]? = some (.cells #[.int .i64 t532, .int .i64 t533, .bool t534] 50 (0, 0))) := ⟨h2_⟩
       replace HB : Aside0 (Below w.heap.size w w76) := ⟨h12_⟩
       clear h0_ h1_ h2_ h3_ h4_ h5_ h6_ h7_ h8_ h9_ h10_ h11_ h12_
       have hHeld : w76.cell? ⟨gb535, 0, none⟩ = some (.int .i64 t532) ∧ w76.cell? ⟨gb535, 1, none⟩ = some (.int .i64 t533) ∧ w76.cell? ⟨gb535, 2, none⟩ = some (.bool t534) := hS_
       refine norm_ (a' := ?_) ?_ ?_
       rotate_left
       ·simp only [putAll, Act.put, List.setIfInBounds_toArray, List.set_cons_zero, List.set_cons_succ]
        rfl
       refine one_ (i := 5) (N := none) #[true, true, true, true, true, true] rfl rfl (by kernel_rfl) (by decide) (fun K hK => ?_)
       have hs77 : w76.cell? ⟨gb541, 0, none⟩ = some (.int .i64 0) := (blk_cell BK541.out 0).trans rfl
       have hfs77 := blk_frozen BK541.out 0
       have hns77_0 := NB526_541.out
       have hns77_1 := NB527_541.out
       have hns77_2 := NB535_541.out
       have hms77_0 := NB541_526.out
       have hms77_1 := NB541_527.out
       have hms77_2 := NB541_535.out
       have hs78 : w76.cell? ⟨gb541, 1, none⟩ = some (.int .i64 0) := (blk_cell BK541.out 1).trans rfl
       have hfs78 := blk_frozen BK541.out 1
       have hns78_0 := NB526_541.out
       have hns78_1 := NB527_541.out
       have hns78_2 := NB535_541.out
       have hms78_0 := NB541_526.out
       have hms78_1 := NB541_527.out
       have hms78_2 := NB541_535.out
       have hs79 : w76.cell? ⟨gb541, 2, none⟩ = some (.bool false) := (blk_cell BK541.out 2).trans rfl
       have hfs79 := blk_frozen BK541.out 2
       have hns79_0 := NB526_541.out
       have hns79_1 := NB527_541.out
       have hns79_2 := NB535_541.out
       have hms79_0 := NB541_526.out
       have hms79_1 := NB541_527.out
       have hms79_2 := NB541_535.out
       refine skip_ (w1 := ?_) (by rfl) rfl ?_ ?_
       rotate_left
       ·go_simp
        rfl
       refine hK.out _ _ ⟨((cell_far (p := ⟨gb541, _, none⟩) NB535_541.out _).trans (((cell_far (p := ⟨gb541, _, none⟩) NB535_541.out _).trans (((cell_far (p := ⟨gb541, _, none⟩) NB535_541.out _).trans (hHeld.1)))))), ((cell_far (p := ⟨gb541, _, none⟩) NB535_541.out _).trans (((cell_far (p := ⟨gb541, _, none⟩) NB535_541.out _).trans (((cell_far (p := ⟨gb541, _, none⟩) NB535_541.out _).trans (hHeld.2.1)))))), ((cell_far (p := ⟨gb541, _, none⟩) NB535_541.out _).trans (((cell_far (p := ⟨gb541, _, none⟩) NB535_541.out _).trans (((cell_far (p := ⟨gb541, _, none⟩) NB535_541.out _).trans (hHeld.2.2))))))⟩ (fun hHeld => ?_)
       clear hK K
       refine done_ (by kernel_rfl) ?_
       have hnb80 := NB541_526.out
       have hnc80 := NB526_541.out
       have hnb81 := NB541_527.out
       have hnc81 := NB527_541.out
       have hnb82 := NB541_535.out
       have hnc82 := NB535_541.out
       have hcz83_0 : w76.cell? ⟨gb541, 0, none⟩ = some (.int .i64 0) := (blk_cell BK541.out 0).trans rfl
       have hcz83_1 : w76.cell? ⟨gb541, 1, none⟩ = some (.int .i64 0) := (blk_cell BK541.out 1).trans rfl
       have hcz83_2 : w76.cell? ⟨gb541, 2, none⟩ = some (.bool false) := (blk_cell BK541.out 2).trans rfl
       have hfz83_0 := blk_frozen BK541.out 0
       have hfz83_1 := blk_frozen BK541.out 1
       have hfz83_2 := blk_frozen BK541.out 2
       have hnb84 := NB527_526.out
       have hnc84 := NB526_527.out
       have hnb85 := NB527_535.out
       have hnc85 := NB535_527.out
       have hcz86_0 : w76.cell? ⟨gb527, 0, none⟩ = some (.int .i64 0) := (blk_cell BK527.out 0).trans rfl
       have hcz86_1 : w76.cell? ⟨gb527, 1, none⟩ = some (.int .i64 0) := (blk_cell BK527.out 1).trans rfl
       have hcz86_2 : w76.cell? ⟨gb527, 2, none⟩ = some (.int .i64 0) := (blk_cell BK527.out 2).trans rfl
       have hfz86_0 := blk_frozen BK527.out 0
       have hfz86_1 := blk_frozen BK527.out 1
       have hfz86_2 := blk_frozen BK527.out 2
       try go_wp2
       refine bodyPost_ret (results_cell_row rfl _ _ gb527 30 #[.int .i64 0, .int .i64 0, .int .i64 3] (0, 0) _ rfl (by (with_reducible repeat (first | refine blk_drewN ?_ _ | refine blk_drew ?_ | refine blk_alloc ?_ _)); refine blk_put (cs := #[.int .i64 0, .int .i64 0, .int .i64 0]) ?_ 2 _ rfl; (with_reducible repeat (first | refine blk_drewN ?_ _ | refine blk_drew ?_ | refine blk_alloc ?_ _)); refine blk_put (cs := #[.int .i64 0, .int .i64 0, .int .i64 0]) ?_ 1 _ rfl; (with_reducible repeat (first | refine blk_drewN ?_ _ | refine blk_drew ?_ | refine blk_alloc ?_ _)); refine blk_put (cs := #[.int .i64 0, .int .i64 0, .int .i64 0]) ?_ 0 _ rfl; (with_reducible repeat (first | refine blk_drewN ?_ _ | refine blk_drew ?_ | refine blk_alloc ?_ _)); refine blk_far ?_ NB527_541.out _; (with_reducible repeat (first | refine blk_drewN ?_ _ | refine blk_drew ?_ | refine blk_alloc ?_ _)); refine blk_far ?_ NB527_541.out _; (with_reducible repeat (first | refine blk_drewN ?_ _ | refine blk_drew ?_ | refine blk_alloc ?_ _)); refine blk_far ?_ NB527_541.out _; (with_reducible repeat (first | refine blk_drewN ?_ _ | refine blk_drew ?_ | refine blk_alloc ?_ _)); exact BK527.out) Tryz.underlying30 rfl (by kernel_rfl)) rfl ?_
       exact ⟨by first | rfl | (simp [errW_none, errW_some] <;> rfl) | (simp [*, errW_none, errW_some] <;> rfl), bz⟩

end Go.Proofs.YteigbokklclmbaaGreatDoor.Z.Y.V
end
section
namespace Go.Proofs.YteigbokklclmbaaGreatDoor.M
open Go Go.RowKit Go.Proofs.YteigbokklclmbaaGreatDoor.Given Go.Proofs.YteigbokklclmbaaGreatDoorW.PrintWords Go.Proofs.YteigbokklclmbaaGreatDoorW.PrintLast Go.Proofs.YteigbokklclmbaaGreatDoorW.PrintMore Go.Proofs.YteigbokklclmbaaGreatDoor.Z Go.Proofs.YteigbokklclmbaaGreatDoor.Z.Y Go.Proofs.YteigbokklclmbaaGreatDoor.Z.Y.V Go.Proofs.YteigbokklclmbaaGreatDoor.Z.Y.Q
def RefR (X n I : Nat) : Prop := ∀ x0 x1, I64 x0 → VR x0 x1 → ix x0 x1 = X → ∀ n1 n2 : Int, 0 ≤ n1 → n1 ≤ 9223372036854775807 → (n2 = 0 ∨ n2 = 1) → n1 + n2 = (n : Int) → Ev (fun k => manorboyref02_power.f k x0 x1 n1 n2) (rref (decide (x0 < 0) && decide (n % 2 = 1)) I)
theorem rref_over {s : Bool} {I : Nat} (h : 2533359615 < I) : rref s I = (0, 0, false) := by unfold rref; rw [if_pos h]
theorem rref_in' {s : Bool} {I : Nat} (h : I ≤ 2533359615) : rref s I = ((sgn s (atI I)).1, (sgn s (atI I)).2, true) := by unfold rref; rw [if_neg (by omega)]
theorem rref_one : rref false 1073741824 = (8388608, -23, true) := by kernel_rfl
theorem sum_nil {n1 n2 : Int} (h0 : 0 ≤ n1) (h1 : n1 ≤ 9223372036854775807) (h2 : n2 = 0 ∨ n2 = 1) : wrap64 (n1 + n2) = 0 ↔ n1 + n2 = 0 := by
  unfold wrap64; rcases h2 with rfl | rfl <;> omega
theorem odd_sum {n1 n2 : Int} (h0 : 0 ≤ n1) (h2 : n2 = 0 ∨ n2 = 1) : Int.tmod (wrap64 (Int.tmod n1 2 + n2)) 2 = 1 ↔ (n1 + n2) % 2 = 1 := by
  rw [Int.tmod_eq_emod_of_nonneg h0, w64 (n1 % 2 + n2) (by omega) (by omega), Int.tmod_eq_emod_of_nonneg (by omega)]
  omega
theorem half_sum {n1 n2 : Int} (h0 : 0 ≤ n1) (h1 : n1 ≤ 9223372036854775807) (h2 : n2 = 0 ∨ n2 = 1) (he : (n1 + n2) % 2 = 0) : wrap64 (wrap64 (Int.tdiv n1 2) + wrap64 (Int.tmod n1 2 * n2)) = (n1 + n2) / 2 := by
  rw [Int.tmod_eq_emod_of_nonneg h0, Int.tdiv_eq_ediv_of_nonneg h0, w64 (n1 / 2) (by omega) (by omega)]
  rcases h2 with rfl | rfl
  · rw [Int.mul_zero, w64 0 (by decide) (by decide), w64 _ (by omega) (by omega)]; omega
  · rw [Int.mul_one, w64 (n1 % 2) (by omega) (by omega), w64 _ (by omega) (by omega)]; omega
theorem refR_zero (X : Nat) : RefR X 0 1073741824 := by
  intro x0 x1 _ _ _ n1 n2 h0 h1 h2 hs
  have e1 : n1 = 0 := by omega
  have e2 : n2 = 0 := by omega
  subst e1 e2
  rw [show (decide (x0 < 0) && decide (0 % 2 = 1)) = false by simp, rref_one]
  refine Ev.step (f := fun k => manorboyref02_power.j0 k 0 0 true x0 x1) (fun k => by rw [manorboyref02_power.f, if_pos ((sum_nil (by decide) (by decide) (.inl rfl)).2 rfl)]; rfl) ?_
  exact Ev.step (f := fun _ => some (8388608, -23, true)) (fun k => by rw [manorboyref02_power.j0, if_pos rfl]; rfl) (Ev.now _)
/-- A step of the specification's power at an odd exponent. -/
theorem refR_odd {X n P I : Nat} (hX : X ≤ 2533359615) (ho : (n + 1) % 2 = 1) (hn : n + 1 ≤ 9223372036854775808) (hP : RefR X n P) (hI : (2533359615 < P ∧ I = P) ∨ (P ≤ 2533359615 ∧ Rd (G X * G P) (2 ^ 150) I)) : RefR X (n + 1) I := by
  intro x0 x1 wx vx hx n1 n2 h0 h1 h2 hs
  have hodd : (n1 + n2) % 2 = 1 := by omega
  have hd : (decide (x0 < 0) && decide ((n + 1) % 2 = 1)) = decide (x0 < 0) := by rw [decide_eq_true ho, Bool.and_true]
  have hs0 : (decide (x0 < 0) && decide (n % 2 = 1)) = false := by rw [decide_eq_false (show ¬ n % 2 = 1 by omega), Bool.and_false]
  rw [hd]
  have hj : Ev (fun k => manorboyref02_power.j1 k x0 x1 (rref false P).1 (rref false P).2.1 (rref false P).2.2) (rref (decide (x0 < 0)) I) := by
    rcases hI with ⟨hov, rfl⟩ | ⟨hov, hR⟩
    · rw [rref_over hov, rref_over hov]
      exact Ev.step (f := fun _ => some ((0, 0, false) : Int × Int × Bool)) (fun k => by rw [manorboyref02_power.j1, if_neg (by decide)]) (Ev.now _)
    · rw [rref_in' hov]
      obtain ⟨vy, wy⟩ := res_VR (neg := false) hov
      have hm := ref_mul_ev wx wy vx vy (I := I) (by rw [hx, ix_sgn hov]; exact hR)
      rw [sgn_lt hov, Bool.bne_false] at hm
      exact Ev.step (f := fun k => (manorboyref02_Mul.f k x0 x1 (sgn false (atI P)).1 (sgn false (atI P)).2).bind fun b => some (b.1, b.2.1, b.2.2)) (fun k => by rw [manorboyref02_power.j1, if_pos rfl]) (Ev.bind hm (Ev.now _))
  have hf : ∀ k, manorboyref02_power.f (k + 1) x0 x1 n1 n2 = manorboyref02_power.j0 k n1 n2 false x0 x1 := fun k => by
    rw [manorboyref02_power.f, if_neg (fun h => by have := (sum_nil h0 h1 h2).1 h; omega)]
  refine Ev.step hf ?_
  by_cases h21 : n2 = 1
  · have hp := hP x0 x1 wx vx hx n1 0 h0 h1 (.inl rfl) (by omega)
    rw [hs0] at hp
    refine Ev.step (f := fun k => (manorboyref02_power.f k x0 x1 n1 0).bind fun b => manorboyref02_power.j1 k x0 x1 b.1 b.2.1 b.2.2) (fun k => ?_) (Ev.bind hp hj)
    rw [manorboyref02_power.j0, if_neg (by decide), if_pos ((odd_sum h0 h2).2 hodd), if_pos h21]; rfl
  · have hw : wrap64 (n1 - 1) = n1 - 1 := w64 _ (by omega) (by omega)
    have hp := hP x0 x1 wx vx hx (n1 - 1) 0 (by omega) (by omega) (.inl rfl) (by omega)
    rw [hs0] at hp
    refine Ev.step (f := fun k => (manorboyref02_power.f k x0 x1 (n1 - 1) 0).bind fun b => manorboyref02_power.j1 k x0 x1 b.1 b.2.1 b.2.2) (fun k => ?_) (Ev.bind hp hj)
    rw [manorboyref02_power.j0, if_neg (by decide), if_pos ((odd_sum h0 h2).2 hodd), if_neg h21, hw]; rfl
/-- .. and at an even one. -/
theorem refR_even {X n P I : Nat} (hn : n + 1 ≤ 9223372036854775808) (he : ¬ (n + 1) % 2 = 1) (hP : RefR X ((n + 1) / 2) P) (hI : (2533359615 < P ∧ I = P) ∨ (P ≤ 2533359615 ∧ Rd (G P * G P) (2 ^ 150) I)) : RefR X (n + 1) I := by
  intro x0 x1 wx vx hx n1 n2 h0 h1 h2 hs
  have hev : (n1 + n2) % 2 = 0 := by omega
  have hd : (decide (x0 < 0) && decide ((n + 1) % 2 = 1)) = false := by rw [decide_eq_false he, Bool.and_false]
  rw [hd]
  have hf : ∀ k, manorboyref02_power.f (k + 1) x0 x1 n1 n2 = manorboyref02_power.j0 k n1 n2 false x0 x1 := fun k => by
    rw [manorboyref02_power.f, if_neg (fun h => by have := (sum_nil h0 h1 h2).1 h; omega)]
  refine Ev.step hf ?_
  have hp := hP x0 x1 wx vx hx ((n1 + n2) / 2) 0 (by omega) (by omega) (.inl rfl) (by omega)
  refine Ev.step (f := fun k => (manorboyref02_power.f k x0 x1 ((n1 + n2) / 2) 0).bind fun b => if b.2.2 = true then (manorboyref02_Mul.f k b.1 b.2.1 b.1 b.2.1).bind fun c => some (c.1, c.2.1, c.2.2) else some (0, 0, false)) (fun k => ?_) (Ev.bind hp ?_)
  · rw [manorboyref02_power.j0, if_neg (by decide), if_neg (fun h => by have := (odd_sum h0 h2).1 h; omega), half_sum h0 h1 h2 hev]
  · rcases hI with ⟨hov, rfl⟩ | ⟨hov, hR⟩
    · rw [rref_over hov, rref_over hov]
      exact Ev.congr (f := fun _ => some ((0, 0, false) : Int × Int × Bool)) (fun k => by rw [if_neg (by decide)]) (Ev.now _)
    · rw [rref_in' hov]
      obtain ⟨vy, wy⟩ := res_VR (neg := decide (x0 < 0) && decide ((n + 1) / 2 % 2 = 1)) hov
      have hm := ref_mul_ev wy wy vy vy (I := I) (by rw [ix_sgn hov]; exact hR)
      rw [bne_self_eq_false] at hm
      exact Ev.congr (fun k => by rw [if_pos rfl]) (Ev.bind hm (Ev.now _))
theorem power2_ex {X : Nat} (hX : X ≤ 2533359615) : ∀ n : Nat, n ≤ 9223372036854775808 → ∃ I, PowR X n I ∧ RefR X n I ∧ (n = 0 → I = 1073741824) ∧ (X = 0 → 0 < n → I = 0)
  | 0, _ => ⟨1073741824, fun x0 x1 _ _ _ => by
      rw [show (decide (x0 < 0) && decide (0 % 2 = 1)) = false by simp, one_sgnr]
      exact power_zero x0 x1, refR_zero X, fun _ => rfl, fun _ h => absurd h (by decide)⟩
  | n + 1, hn => by
    by_cases ho : (n + 1) % 2 = 1
    · obtain ⟨P, hP, hQ, h0, hz⟩ := power2_ex hX n (by omega)
      have hs : ∀ x0 : Int, (decide (x0 < 0) && decide (n % 2 = 1)) = false := fun x0 => by rw [decide_eq_false (show ¬ n % 2 = 1 by omega), Bool.and_false]
      have hd : ∀ x0 : Int, (decide (x0 < 0) && decide ((n + 1) % 2 = 1)) = decide (x0 < 0) := fun x0 => by rw [decide_eq_true ho, Bool.and_true]
      have st : ∀ x0 x1, ∀ k, real_power.f (k + 1) x0 x1 ((n + 1 : Nat) : Int) = (real_power.f k x0 x1 (n : Int)).bind fun y => if y.2 = 1000 then some y else real_product.f k x0 x1 y.1 y.2 := by
        intro x0 x1 k
        rw [real_power.f, if_neg (by omega), if_pos (by omega), show (((n + 1 : Nat) : Int) - 1) = (n : Int) by omega]
      by_cases hov : 2533359615 < P
      · refine ⟨P, fun x0 x1 wx vx hx => ?_, refR_odd hX ho hn hQ (.inl ⟨hov, rfl⟩), fun h => absurd h (by omega), fun hX0 _ => ?_⟩
        · have h := hP x0 x1 wx vx hx
          rw [hd, sgnr_over hov]
          rw [sgnr_over hov] at h
          exact Ev.step (f := fun k => (real_power.f k x0 x1 (n : Int)).bind fun y => if y.2 = 1000 then some y else real_product.f k x0 x1 y.1 y.2) (st x0 x1) (Ev.bind h (Ev.congr (f := fun _ => some ((0, 1000) : Int × Int)) (fun k => by rw [if_pos rfl]) (Ev.now _)))
        · rcases Nat.eq_zero_or_pos n with h | h
          · have := h0 h; omega
          · have := hz hX0 h; omega
      · have hov := Nat.not_lt.1 hov
        obtain ⟨I, hI⟩ := rd_ex hX hov
        refine ⟨I, fun x0 x1 wx vx hx => ?_, refR_odd hX ho hn hQ (.inr ⟨hov, hI⟩), fun h => absurd h (by omega), fun hX0 _ => ?_⟩
        · have h := hP x0 x1 wx vx hx
          rw [hs, sgnr_in hov] at h
          obtain ⟨vy, wy⟩ := res_VR (neg := false) hov
          have hp := product_ev2 wx wy vx vy (by rw [hx, ix_sgn hov]; exact hI)
          rw [sgn_lt hov, Bool.bne_false] at hp
          rw [hd]
          exact Ev.step (f := fun k => (real_power.f k x0 x1 (n : Int)).bind fun y => if y.2 = 1000 then some y else real_product.f k x0 x1 y.1 y.2) (st x0 x1) (Ev.bind h (Ev.congr (fun k => by rw [if_neg (sgn_exp hov)]) hp))
        · subst hX0
          rw [G_zero, Nat.zero_mul] at hI
          exact hI.nil (Nat.two_pow_pos _)
    · obtain ⟨P, hP, hQ, h0, hz⟩ := power2_ex hX ((n + 1) / 2) (by omega)
      have hd : ∀ x0 : Int, (decide (x0 < 0) && decide ((n + 1) % 2 = 1)) = false := fun x0 => by rw [decide_eq_false ho, Bool.and_false]
      have st : ∀ x0 x1, ∀ k, real_power.f (k + 1) x0 x1 ((n + 1 : Nat) : Int) = (real_power.f k x0 x1 (((n + 1) / 2 : Nat) : Int)).bind fun y => if y.2 = 1000 then some y else real_product.f k y.1 y.2 y.1 y.2 := by
        intro x0 x1 k
        rw [real_power.f, if_neg (by omega), if_neg (by omega), show (((n + 1 : Nat) : Int) / 2) = (((n + 1) / 2 : Nat) : Int) by omega]
      by_cases hov : 2533359615 < P
      · refine ⟨P, fun x0 x1 wx vx hx => ?_, refR_even hn ho hQ (.inl ⟨hov, rfl⟩), fun h => absurd h (by omega), fun hX0 _ => ?_⟩
        · have h := hP x0 x1 wx vx hx
          rw [hd, sgnr_over hov]
          rw [sgnr_over hov] at h
          exact Ev.step (f := fun k => (real_power.f k x0 x1 (((n + 1) / 2 : Nat) : Int)).bind fun y => if y.2 = 1000 then some y else real_product.f k y.1 y.2 y.1 y.2) (st x0 x1) (Ev.bind h (Ev.congr (f := fun _ => some ((0, 1000) : Int × Int)) (fun k => by rw [if_pos rfl]) (Ev.now _)))
        · have := hz hX0 (by omega); omega
      · have hov := Nat.not_lt.1 hov
        obtain ⟨I, hI⟩ := rd_ex hov hov
        refine ⟨I, fun x0 x1 wx vx hx => ?_, refR_even hn ho hQ (.inr ⟨hov, hI⟩), fun h => absurd h (by omega), fun hX0 _ => ?_⟩
        · have h := hP x0 x1 wx vx hx
          rw [sgnr_in hov] at h
          obtain ⟨vy, wy⟩ := res_VR (neg := decide (x0 < 0) && decide ((n + 1) / 2 % 2 = 1)) hov
          have hp := product_ev2 wy wy vy vy (by rw [ix_sgn hov]; exact hI)
          rw [bne_self_eq_false] at hp
          rw [hd]
          exact Ev.step (f := fun k => (real_power.f k x0 x1 (((n + 1) / 2 : Nat) : Int)).bind fun y => if y.2 = 1000 then some y else real_product.f k y.1 y.2 y.1 y.2) (st x0 x1) (Ev.bind h (Ev.congr (fun k => by rw [if_neg (sgn_exp hov)]) hp))
        · have := hz hX0 (by omega)
          subst this
          rw [G_zero, Nat.zero_mul] at hI
          exact hI.nil (Nat.two_pow_pos _)
  termination_by n => n
theorem rref_res3 (s : Bool) (I : Nat) : (if (rref s I).2.2 = true then some ((rref s I).1, (rref s I).2.1, (0 : Int)) else some (0, 0, 3)) = some (res3 s I) := by
  unfold rref res3
  by_cases h : 2533359615 < I
  · rw [if_pos h, if_pos h]; rfl
  · rw [if_neg h, if_neg h]; rfl
theorem one_is : VR 8388608 (-23) ∧ ix 8388608 (-23) = 1073741824 := by
  have h := res_VR (neg := false) (I := 1073741824) (by decide)
  rw [show sgn false (atI 1073741824) = (8388608, -23) by kernel_rfl] at h
  exact ⟨h.1, by kernel_rfl⟩
/-- Pow, both. -/
theorem pow_both {x0 x1 : Int} (wx : I64 x0) (vx : VR x0 x1) (n : Int) (wn : I64 n) : ∃ r, Ev (fun k => real_Pow.f k x0 x1 n) r ∧ Ev (fun k => manorboyref02_Pow.f k x0 x1 n) r := by
  obtain ⟨n0, n1⟩ := wn
  have hX := ix_le wx vx
  by_cases hn : 0 ≤ n
  · obtain ⟨I, hI, hQ, _⟩ := power2_ex hX n.natAbs (by omega)
    have en : ((n.natAbs : Nat) : Int) = n := by omega
    have h := hI x0 x1 wx vx rfl
    have hq := hQ x0 x1 wx vx rfl n 0 hn n1 (.inl rfl) (by omega)
    rw [en] at h
    refine ⟨res3 (decide (x0 < 0) && decide (n.natAbs % 2 = 1)) I, ?_, ?_⟩
    · rw [← caught_is]
      exact Ev.congr (f := fun k => (real_power.f k x0 x1 n).bind fun r => some (caughtS r.1 r.2)) (fun k => by
        unfold real_Pow.f; rw [Valid_ev vx, Option.bind_some, if_pos rfl, if_neg (by omega), if_pos hn]) (Ev.bind h (Ev.now _))
    · refine Ev.congr (fun k => by unfold manorboyref02_Pow.f; rw [if_pos hn]) (Ev.bind hq ?_)
      exact Ev.congr (fun k => rref_res3 _ _) (Ev.now _)
  · by_cases hx0 : x0 = 0
    · refine ⟨(0, 0, 5), ?_, ?_⟩
      · exact Ev.congr (f := fun _ => some ((0, 0, 5) : Int × Int × Int)) (fun k => by
          unfold real_Pow.f; rw [Valid_ev vx, Option.bind_some, if_pos rfl, if_pos ⟨hx0, by omega⟩]) (Ev.now _)
      · exact Ev.congr (f := fun _ => some ((0, 0, 5) : Int × Int × Int)) (fun k => by
          unfold manorboyref02_Pow.f; rw [if_neg (by omega), if_pos hx0]) (Ev.now _)
    · obtain ⟨P, hP, hQ, _⟩ := power2_ex hX n.natAbs (by omega)
      have en : ((n.natAbs : Nat) : Int) = -n := by omega
      have h := hP x0 x1 wx vx rfl
      have hq := hQ x0 x1 wx vx rfl (-(n + 1)) 1 (by omega) (by omega) (.inr rfl) (by omega)
      rw [en] at h
      have wr : wrap64 (-(wrap64 (n + 1))) = -(n + 1) := by rw [w64 (n + 1) (by omega) (by omega), w64 _ (by omega) (by omega)]
      have st : ∀ k, real_Pow.f k x0 x1 n = (real_pow2.f k x0 x1 n).bind fun r => some (caughtS r.1 r.2) := by
        intro k
        unfold real_Pow.f; rw [Valid_ev vx, Option.bind_some, if_pos rfl, if_neg (fun h => hx0 h.1), if_neg hn]
      have st2 : ∀ k, manorboyref02_Pow.f k x0 x1 n = (manorboyref02_power.f k x0 x1 (-(n + 1)) 1).bind fun b => if b.2.2 = true then manorboyref02_Pow.j0 k (b.1 == 0) b.1 b.2.1 b.2.2 else manorboyref02_Pow.j0 k true b.1 b.2.1 b.2.2 := by
        intro k
        unfold manorboyref02_Pow.f; rw [if_neg (by omega), if_neg hx0, wr]
      by_cases hov : 2533359615 < P
      · refine ⟨(0, 0, 3), ?_, ?_⟩
        · rw [sgnr_over hov] at h
          have h2 : Ev (fun k => real_pow2.f k x0 x1 n) (0, 1000) := Ev.bind h (Ev.congr (f := fun _ => some ((0, 1000) : Int × Int)) (fun k => by rw [if_pos rfl]) (Ev.now _))
          exact Ev.congr st (Ev.bind h2 (Ev.now _))
        · rw [rref_over hov] at hq
          refine Ev.congr st2 (Ev.bind hq ?_)
          refine Ev.congr (fun k => if_neg (by decide)) ?_
          exact Ev.step (f := fun _ => some ((0, 0, 3) : Int × Int × Int)) (fun k => by rw [manorboyref02_Pow.j0, if_pos rfl]) (Ev.now _)
      · have hov := Nat.not_lt.1 hov
        by_cases hP0 : P = 0
        · refine ⟨(0, 0, 3), ?_, ?_⟩
          · rw [hP0, sgnr_in (by decide), sgn_zero] at h
            have h2 : Ev (fun k => real_pow2.f k x0 x1 n) (0, 1000) := Ev.bind h (Ev.congr (f := fun _ => some ((0, 1000) : Int × Int)) (fun k => by rw [if_neg (by decide), if_pos rfl]) (Ev.now _))
            exact Ev.congr st (Ev.bind h2 (Ev.now _))
          · rw [hP0, rref_in' (by decide), sgn_zero] at hq
            refine Ev.congr st2 (Ev.bind hq ?_)
            refine Ev.congr (fun k => if_pos rfl) ?_
            exact Ev.step (f := fun _ => some ((0, 0, 3) : Int × Int × Int)) (fun k => by rw [manorboyref02_Pow.j0, if_pos (by decide)]) (Ev.now _)
        · obtain ⟨I, hI⟩ := rdq_ex (a := 1073741824) (by decide) hov (Nat.pos_of_ne_zero hP0)
          rw [sgnr_in hov] at h
          rw [rref_in' hov] at hq
          obtain ⟨vy, wy⟩ := res_VR (neg := decide (x0 < 0) && decide (n.natAbs % 2 = 1)) hov
          have hy0 := ix_pos wy vy (by rw [ix_sgn hov]; omega)
          obtain ⟨v1, i1⟩ := one_is
          have w1 : I64 8388608 := ⟨by decide, by decide⟩
          have hIR : Rd (G (ix 8388608 (-23)) * 2 ^ 150) (G (ix (sgn (decide (x0 < 0) && decide (n.natAbs % 2 = 1)) (atI P)).1 (sgn (decide (x0 < 0) && decide (n.natAbs % 2 = 1)) (atI P)).2)) I := by rw [i1, ix_sgn hov]; exact hI
          have hq1 := quotient_ev2 w1 wy v1 vy hy0 hIR
          have hGp : 0 < G (ix (sgn (decide (x0 < 0) && decide (n.natAbs % 2 = 1)) (atI P)).1 (sgn (decide (x0 < 0) && decide (n.natAbs % 2 = 1)) (atI P)).2) := by
            rw [ix_G wy vy]; exact Nat.mul_pos (by omega) (Nat.two_pow_pos _)
          have hq2 := ref_div_ev w1 wy v1 vy hGp hIR
          have hsg : ((decide ((8388608 : Int) < 0)) != decide ((sgn (decide (x0 < 0) && decide (n.natAbs % 2 = 1)) (atI P)).1 < 0)) = (decide (x0 < 0) && decide (n.natAbs % 2 = 1)) := by
            rw [decide_eq_false (by decide), Bool.false_bne]
            have hb := atI_bd P hov
            generalize (decide (x0 < 0) && decide (n.natAbs % 2 = 1)) = s at hy0 ⊢
            cases s
            · exact sgn_lt hov
            · unfold sgn at hy0 ⊢
              simp only [if_true] at hy0 ⊢
              exact decide_eq_true (by omega)
          rw [hsg] at hq1 hq2
          refine ⟨res3 (decide (x0 < 0) && decide (n.natAbs % 2 = 1)) I, ?_, ?_⟩
          · rw [← caught_is]
            have h2 : Ev (fun k => real_pow2.f k x0 x1 n) (sgnr (decide (x0 < 0) && decide (n.natAbs % 2 = 1)) I) := Ev.bind h (Ev.congr (fun k => by rw [if_neg (sgn_exp hov), if_neg hy0]) hq1)
            exact Ev.congr st (Ev.bind h2 (Ev.now _))
          · refine Ev.congr st2 (Ev.bind hq ?_)
            refine Ev.congr (fun k => if_pos rfl) ?_
            have hb0 : ((sgn (decide (x0 < 0) && decide (n.natAbs % 2 = 1)) (atI P)).1 == 0) = false := beq_eq_false_iff_ne.mpr hy0
            refine Ev.step (f := fun k => (manorboyref02_Div.f k 8388608 (-23) (sgn (decide (x0 < 0) && decide (n.natAbs % 2 = 1)) (atI P)).1 (sgn (decide (x0 < 0) && decide (n.natAbs % 2 = 1)) (atI P)).2).bind fun b => if b.2.2 = true then some (b.1, b.2.1, 0) else some (0, 0, 3)) (fun k => by
              rw [manorboyref02_Pow.j0, hb0, if_neg (by decide)]; rfl) (Ev.bind hq2 ?_)
            exact Ev.congr (fun k => rref_res3 _ _) (Ev.now _)
theorem Pow_no {a b n : Int} (h : ¬ VR a b) (k : Nat) : real_Pow.f k a b n = some (0, 0, 1) := by unfold real_Pow.f; rw [valid_real, decide_eq_false h]; rfl
end Go.Proofs.YteigbokklclmbaaGreatDoor.M
end
section
namespace Go.Proofs.YteigbokklclmbaaGreatDoor.Z
open Go Go.RowKit Go.Proofs.YteigbokklclmbaaGreatDoor.Given Go.Proofs.YteigbokklclmbaaGreatDoorW.PrintWords Go.Proofs.YteigbokklclmbaaGreatDoorW.PrintLast Go.Proofs.YteigbokklclmbaaGreatDoorW.PrintMore Go.Proofs.YteigbokklclmbaaGreatDoor.Z.Y.Q
/-- The blocks l lie in w', made since w; all elder memory is as it was. -/
def Bs (w : World) (l : List (Nat × Int × Int)) (w' : World) : Prop :=
  Below w.heap.size w w' ∧ (∀ p, p ∈ l → w'.heap[p.1]? = some (.cells #[.int .i64 p.2.1, .int .i64 p.2.2] 23 (0, 0)) ∧ w.heap.size ≤ p.1) ∧ (l.map Prod.fst).Nodup
theorem Bs.nil (w : World) : Bs w [] w := ⟨Below.refl _ _, fun _ h => (by cases h), List.nodup_nil⟩
theorem Bs.step {w w' w'' : World} {l : List (Nat × Int × Int)} (h : Bs w l w') (hb : Below w'.heap.size w' w'') : Bs w l w'' :=
  ⟨h.1.trans (hb.mono h.1.size), fun p hp => ⟨blk_below (h.2.1 p hp).1 hb, (h.2.1 p hp).2⟩, h.2.2⟩
theorem Bs.box {w w' : World} {l : List (Nat × Int × Int)} (h : Bs w l w') (m e : Int) : Bs w ((w'.heap.size, m, e) :: l) (w'.alloc (.cells #[.int .i64 m, .int .i64 e] 23)) := by
  refine ⟨h.1.alloc h.1.size _, fun p hp => ?_, ?_⟩
  · rcases List.mem_cons.1 hp with rfl | hp
    · exact ⟨blk_new _ _, h.1.size⟩
    · exact ⟨blk_alloc (h.2.1 p hp).1 _, (h.2.1 p hp).2⟩
  · rw [List.map_cons, List.nodup_cons]
    refine ⟨fun hm => ?_, h.2.2⟩
    obtain ⟨p, hp, he⟩ := List.mem_map.1 hm
    have := blk_lt (h.2.1 p hp).1
    omega
theorem Bs.put {w w' : World} (l1 l2 : List (Nat × Int × Int)) (b : Nat) (m0 e0 : Int) (h : Bs w (l1 ++ (b, m0, e0) :: l2) w') (m e : Int) :
    Bs w (l1 ++ (b, m, e) :: l2) ((w'.setCell ⟨b, 0, none⟩ (.int .i64 m)).setCell ⟨b, 1, none⟩ (.int .i64 e)) := by
  have hb := h.2.1 (b, m0, e0) (by simp)
  have hn := h.2.2
  rw [List.map_append, List.map_cons] at hn
  have far : ∀ p, p ∈ l1 ∨ p ∈ l2 → p.1 ≠ b := by
    intro p hp he
    rw [List.nodup_append] at hn
    rcases hp with hp | hp
    · exact hn.2.2 p.1 (List.mem_map_of_mem hp) b (by simp) he
    · have hm := List.mem_map_of_mem (f := Prod.fst) hp
      rw [he] at hm
      exact (List.nodup_cons.1 hn.2.1).1 hm
  refine ⟨(h.1.setCell hb.2 _).setCell hb.2 _, fun p hp => ?_, by rw [List.map_append, List.map_cons]; exact hn⟩
  by_cases hpb : p ∈ l1 ∨ p ∈ l2
  · have hf := far p hpb
    have h0 := h.2.1 p (by rcases hpb with h | h <;> simp [h])
    exact ⟨(heap_setCell_other _ _ _ _ hf).trans ((heap_setCell_other _ _ _ _ hf).trans h0.1), h0.2⟩
  · have he : p = (b, m, e) := by
      rcases List.mem_append.1 hp with hp | hp
      · exact absurd (.inl hp) hpb
      · rcases List.mem_cons.1 hp with hp | hp
        · exact hp
        · exact absurd (.inr hp) hpb
    subst he
    exact ⟨heap_setCell_same (w'.setCell ⟨b, 0, none⟩ (.int .i64 m)) b 1 _ _ (.int .i64 e) (heap_setCell_same w' b 0 _ _ (.int .i64 m) hb.1), hb.2⟩
/-- What the walk asks of each block. -/
def BsAll (w : World) : List (Nat × Int × Int) → Prop
  | [] => True
  | p :: l => (w.cell? ⟨p.1, 0, none⟩ = some (.int .i64 p.2.1) ∧ w.cell? ⟨p.1, 1, none⟩ = some (.int .i64 p.2.2) ∧ w.frozen? ⟨p.1, 0, none⟩ = false ∧ w.frozen? ⟨p.1, 1, none⟩ = false ∧ p.1 < w.heap.size) ∧ BsAll w l
theorem bs_all {w : World} : ∀ (l : List (Nat × Int × Int)), (∀ p, p ∈ l → w.heap[p.1]? = some (.cells #[.int .i64 p.2.1, .int .i64 p.2.2] 23 (0, 0))) → BsAll w l
  | [], _ => trivial
  | p :: l, h => ⟨⟨(blk_cell (h p (by simp)) 0).trans rfl, (blk_cell (h p (by simp)) 1).trans rfl, blk_frozen (h p (by simp)) 0, blk_frozen (h p (by simp)) 1, blk_lt (h p (by simp))⟩, bs_all l (fun q hq => h q (by simp [hq]))⟩
theorem Bs.all {w w' : World} {l : List (Nat × Int × Int)} (h : Bs w l w') : BsAll w' l := bs_all l (fun p hp => (h.2.1 p hp).1)
end Go.Proofs.YteigbokklclmbaaGreatDoor.Z
end
section
namespace Go.Proofs.YteigbokklclmbaaGreatDoor.Z.Y
open Go Go.RowKit Go.Proofs.YteigbokklclmbaaGreatDoor.Given Go.Proofs.YteigbokklclmbaaGreatDoorW.PrintWords Go.Proofs.YteigbokklclmbaaGreatDoorW.PrintLast Go.Proofs.YteigbokklclmbaaGreatDoorW.PrintMore Go.Proofs.YteigbokklclmbaaGreatDoor.Z.Y.Q Go.Proofs.YteigbokklclmbaaGreatDoor.Z.Y.V
theorem powr_c (k : Nat) (x0 x1 n p0 p1 p2 : Int) (bv : Bool) (hp : real_Pow.f k x0 x1 n = some (p0, p1, p2)) (hn0 : -9223372036854775808 ≤ n) (hn1 : n < 9223372036854775808) (hrv : manorboyref02_Valid.f k x0 x1 = some bv) (hinv : bv = false → p0 = 0 ∧ p1 = 0 ∧ p2 = 1) (hq : bv = true → manorboyref02_Pow.f k x0 x1 n = some (p0, p1, p2)) (hs : manorboylaw02_sanity.f k = some true) (w : World) (ht : Table w) :
    Calls Tryz.prog 3 #[.agg #[.int .i64 x0, .int .i64 x1], .int .i64 n] w fun e w' => e = .returned (.bool true) ∧ Below w.heap.size w w' := by
  have HT := Aside0.mk (Lib.tabBelow_of_tabIs ht)
  have HP := Lib.hid hp
  have HN0 := Lib.hid hn0
  have HN1 := Lib.hid hn1
  have HRV := Lib.hid hrv
  have HINV := Lib.hid hinv
  have HQ := Lib.hid hq
  have HS := Lib.hid hs
  clear ht hp hn0 hn1 hrv hinv hq hs
  have hu23 := Tryz.underlying23
  have hu30 := Tryz.underlying30
  go_enter Tryz.func3, Tryz.ntmps3
  have H := Lib.hid (Bs.nil w)
  go_wp2_with fail
  refine (real_Pow.calls k x0 x1 n p0 p1 p2 _ HP.out HN0.out HN1.out).mono ?_
  rintro _ w1 ⟨rfl, hb⟩
  replace H := Lib.hid (show Bs w [(w.heap.size, x0, x1)] w1 from ((H.out).box (x0) (x1)).step hb)
  clear hb
  obtain ⟨⟨fx_0, fx_1, fx_2, fx_3, fx_4⟩, -⟩ := H.out.all
  go_wp2_with fail
  refine (manorboyref02_Valid.calls k x0 x1 bv _ HRV.out).mono ?_
  rintro _ w2 ⟨rfl, hb⟩
  replace H := Lib.hid (show Bs w [(w1.heap.size, p0, p1), (w.heap.size, x0, x1)] w2 from ((H.out).box (p0) (p1)).step hb)
  clear fx_0 fx_1 fx_2 fx_3 fx_4
  clear hb
  obtain ⟨⟨fy_0, fy_1, fy_2, fy_3, fy_4⟩, ⟨fx_0, fx_1, fx_2, fx_3, fx_4⟩, -⟩ := H.out.all
  rcases hb : bv with _ | _
  · obtain ⟨rfl, rfl, rfl⟩ := HINV.out hb
    go_wp2_with fail
    refine (manorboylaw02_sanity.calls k true _ HS.out rfl (tabAt HT.out H.out.1)).mono ?_
    rintro _ wz ⟨rfl, hb'⟩
    replace H := Lib.hid (H.out.step hb')
    clear fy_0 fy_1 fy_2 fy_3 fy_4 fx_0 fx_1 fx_2 fx_3 fx_4
    clear hb'
    obtain ⟨⟨fy_0, fy_1, fy_2, fy_3, fy_4⟩, -, -⟩ := H.out.all
    have hB := H.out.1
    go_wp2
    go_ret
    exact ⟨rfl, hB⟩
  · skip
    go_wp2_with fail
    refine (manorboyref02_Pow.calls k x0 x1 n p0 p1 p2 _ (HQ.out hb)).mono ?_
    rintro _ wq ⟨rfl, hb'⟩
    replace H := Lib.hid (H.out.step hb')
    clear fy_0 fy_1 fy_2 fy_3 fy_4 fx_0 fx_1 fx_2 fx_3 fx_4
    clear hb'
    obtain ⟨⟨fy_0, fy_1, fy_2, fy_3, fy_4⟩, -, -⟩ := H.out.all
    go_wp2_with fail
    refine (manorboylaw02_sanity.calls k true _ HS.out rfl (tabAt HT.out (H.out.1.alloc H.out.1.size _))).mono ?_
    rintro _ wz ⟨rfl, hb'⟩
    have kW := blk_below (new_at wq (.cells #[.int .i64 p0, .int .i64 p1, .int .i64 p2] 30) wq.heap.size rfl) hb'
    replace H := Lib.hid (show Bs w [(w1.heap.size, p0, p1), (w.heap.size, x0, x1)] wz from H.out.step (((Below.refl _ _).alloc (Nat.le_refl _) _).trans (hb'.mono (by simp only [World.size_alloc]; omega))))
    clear fy_0 fy_1 fy_2 fy_3 fy_4
    clear hb'
    obtain ⟨⟨fy_0, fy_1, fy_2, fy_3, fy_4⟩, -, -⟩ := H.out.all
    have hB := H.out.1
    have kw0 : wz.cell? ⟨wq.heap.size, 0, none⟩ = some (.int .i64 p0) := (blk_cell kW 0).trans rfl
    have kf0 := blk_frozen kW 0
    have kw1 : wz.cell? ⟨wq.heap.size, 1, none⟩ = some (.int .i64 p1) := (blk_cell kW 1).trans rfl
    have kf1 := blk_frozen kW 1
    have kw2 : wz.cell? ⟨wq.heap.size, 2, none⟩ = some (.int .i64 p2) := (blk_cell kW 2).trans rfl
    have kf2 := blk_frozen kW 2
    have kl := blk_lt kW
    clear kW
    go_wp2
    go_ret
    exact ⟨by first | rfl | (simp; done) | (simp [*]; done), hB⟩
end Go.Proofs.YteigbokklclmbaaGreatDoor.Z.Y
end
section
namespace Go.Proofs.YteigbokklclmbaaGreatDoor.M
open Go Go.RowKit Go.Proofs.YteigbokklclmbaaGreatDoor.Given Go.Proofs.YteigbokklclmbaaGreatDoorW.PrintWords Go.Proofs.YteigbokklclmbaaGreatDoorW.PrintLast Go.Proofs.YteigbokklclmbaaGreatDoorW.PrintMore Go.Proofs.YteigbokklclmbaaGreatDoor.Z Go.Proofs.YteigbokklclmbaaGreatDoor.Z.Y Go.Proofs.YteigbokklclmbaaGreatDoor.Z.Y.V Go.Proofs.YteigbokklclmbaaGreatDoor.Z.Y.Q
def PowrH (k : Nat) (x0 x1 n : Int) : Prop := I64 n ∧ ∃ p0 p1 p2 : Int, ∃ bv : Bool, (real_Pow.f k x0 x1 n = some (p0, p1, p2)) ∧ (manorboyref02_Valid.f k x0 x1 = some bv) ∧ (bv = false → p0 = 0 ∧ p1 = 0 ∧ p2 = 1) ∧ (bv = true → manorboyref02_Pow.f k x0 x1 n = some (p0, p1, p2)) ∧ (manorboylaw02_sanity.f k = some true)
theorem powr_pure (x0 x1 n : Int) (wx : I64 x0) (_ : I64 x1) (wn : I64 n) : ∃ k, PowrH k x0 x1 n := by
  obtain ⟨k3, E3⟩ := valid_ev x0 x1 wx
  obtain ⟨k8, E8⟩ := sanity_ev
  by_cases hv : VR x0 x1
  · obtain ⟨r, ⟨k1, E1⟩, ⟨k2, E2⟩⟩ := pow_both wx hv n wn
    obtain ⟨K, hK⟩ : ∃ K, K = k1 + k2 + k3 + k8 := ⟨_, rfl⟩
    exact ⟨K, wn, r.1, r.2.1, r.2.2, true, E1 K (by omega), (by have h := E3 K (by omega); rw [decide_eq_true hv] at h; exact h), fun h => absurd h (by decide), fun _ => E2 K (by omega), E8 K (by omega)⟩
  · obtain ⟨K, hK⟩ : ∃ K, K = k3 + k8 := ⟨_, rfl⟩
    exact ⟨K, wn, 0, 0, 1, false, Pow_no hv K, (by have h := E3 K (by omega); rw [decide_eq_false hv] at h; exact h), fun _ => ⟨rfl, rfl, rfl⟩, fun h => absurd h (by decide), E8 K (by omega)⟩
theorem powr_calls (k : Nat) (x0 x1 n : Int) (r : Bool) (w : World) (h : PowrH k x0 x1 n) (hr : r = true) (ht : Table w) :
    Calls Tryz.prog 3 #[.agg #[.int .i64 x0, .int .i64 x1], .int .i64 n] w fun e w' => e = .returned (.bool r) ∧ Below w.heap.size w w' := by
  subst hr
  obtain ⟨hn, p0, p1, p2, bv, g0, g1, g2, g3, g4⟩ := h
  exact powr_c k x0 x1 n p0 p1 p2 bv g0 hn.1 (by have := hn.2; omega) g1 g2 g3 g4 w ht
end Go.Proofs.YteigbokklclmbaaGreatDoor.M
end
section
namespace Go.Proofs.YteigbokklclmbaaGreatDoor.Given
open Go
theorem gT : Tryz.prog.globalNamed "internal/strconv.uint64pow10" = some 0 := by kernel_rfl
theorem gTType : (Tryz.prog.globals[0]?).map (·.type) = some 188 := by kernel_rfl
theorem pow10_datum : (Rows.laid_internal_strconv_uint64pow10 : DataW Unit) = Lib.tabData .u64 Lib.pow10Tab := by kernel_rfl
theorem table_of {W : World} (h : laidMet Tryz.prog [("math/bits.deBruijn32tab", Rows.laid_math_bits_deBruijn32tab), ("math/bits.deBruijn64tab", Rows.laid_math_bits_deBruijn64tab), ("internal/strconv.uint64pow10", Rows.laid_internal_strconv_uint64pow10), ("unicode/utf8.acceptRanges", Rows.laid_unicode_utf8_acceptRanges), ("unicode/utf8.first", Rows.laid_unicode_utf8_first)] W) : Z.Table W := by
  obtain ⟨ps, ⟨_, _, _, _, _, _, _, _, _, _, ⟨_, _, _, _, _, _, _, _, _, _, ⟨g, t, cs, f, p, q, hg, ht, hv, hd, _, _⟩, _⟩, _⟩, _⟩ := h
  obtain rfl := Option.some.inj (gT.symm.trans hg)
  obtain rfl := Option.some.inj (gTType.symm.trans ht)
  rw [pow10_datum] at hd
  show Lib.TabIs _ _ _ _ _
  unfold Lib.TabIs
  rw [hv, ← Lib.cells_of_tab Tryz.underlying188 Tryz.underlying72 (by kernel_rfl) (by kernel_rfl) hd]
theorem i64_lit {a : Int} (h : (Lit.int IntKind.i64 a).wf = true) : -9223372036854775808 ≤ a ∧ a ≤ 9223372036854775807 := by
  have h1 : (decide ((-9223372036854775808 : Int) ≤ a) && decide (a ≤ (9223372036854775807 : Int))) = true := h
  simpa using h1
end Go.Proofs.YteigbokklclmbaaGreatDoor.Given
end
