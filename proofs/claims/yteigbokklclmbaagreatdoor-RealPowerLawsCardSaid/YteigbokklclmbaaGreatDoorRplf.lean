/- Contracts and lemmas that the law's row leans on, joined by program (pack.py) out of the session's texts; no condition of its own. -/
import Derived.Test.YteigbokklclmbaaGreatDoorRows
import Derived.Laws.BitsLemmas
import Derived.Test.YteigbokklclmbaaGreatDoorRpla
import Derived.Test.YteigbokklclmbaaGreatDoorRplb
import Derived.Test.YteigbokklclmbaaGreatDoorRplc
import Derived.Test.YteigbokklclmbaaGreatDoorRpld
import Derived.Test.YteigbokklclmbaaGreatDoorRple
set_option linter.unusedVariables false
set_option linter.unusedSimpArgs false
set_option maxRecDepth 100000
set_option maxHeartbeats 8000000
section
namespace Go.Proofs.YteigbokklclmbaaGreatDoor.Z.Y
open Go Go.RowKit Go.Proofs.YteigbokklclmbaaGreatDoor.Given Go.Proofs.YteigbokklclmbaaGreatDoorW.PrintWords Go.Proofs.YteigbokklclmbaaGreatDoorW.PrintLast Go.Proofs.YteigbokklclmbaaGreatDoorW.PrintMore Go.Proofs.YteigbokklclmbaaGreatDoor.Z.Y.Q Go.Proofs.YteigbokklclmbaaGreatDoor.Z.Y.V
def powlT8 : Bool × List (List Nat × List Nat) := (true, [([], []), ([0], [0]), ([1], [1]), ([2], [2]), ([3, 2], [2, 3]), ([2, 4], [2, 4]), ([5, 2], [5]), ([6], [6]), ([6], [6]), ([6], [6]), ([9, 6, 6], [6, 9]), ([7, 8, 10, 10, 6], [6, 7, 8, 10]), ([11, 6], [6, 11]), ([6, 12], [6, 12])])
def powlB8 : List Nat := [0, 1, 3, 7, 15, 31, 63, 127, 127, 127, 639, 2047, 4095, 8191]
theorem powlTab8 : rtab .any (opsOf Tryz.f16 8) = powlT8 := by kernel_rfl
theorem powlBits8 : waitsOk powlT8.2 powlB8 = true := by kernel_rfl
def powlT21 : Bool × List (List Nat × List Nat) := (true, [([], []), ([], []), ([0, 1, 1], [0, 1]), ([2], [2]), ([3], [3]), ([3], [3]), ([4, 2, 0, 1, 2, 3, 4], [4]), ([5, 6, 0, 1, 2, 3, 4, 5, 6], [5])])
def powlB21 : List Nat := [0, 0, 3, 7, 15, 15, 31, 127]
theorem powlTab21 : rtab .any (opsOf Tryz.f16 21) = powlT21 := by kernel_rfl
theorem powlBits21 : waitsOk powlT21.2 powlB21 = true := by kernel_rfl
theorem powl_c (k : Nat) (i n x0 x1 s0 s1 s2 p0 p1 p2 m0 m1 a0 a1 a2 b0 b1 c u0 u1 r0 r1 : Int) (hlo : -9223372036854775808 ≤ n) (hhi : n < 9223372036854775808) (hx : manorboylaw02_at.f i = some (x0, x1)) (hp1 : real_Pow.f k x0 x1 1 = some (x0, x1, 0)) (hp2 : real_Pow.f k x0 x1 2 = some (s0, s1, s2)) (hm : real_Mul.f k x0 x1 x0 x1 = some (s0, s1, s2)) (hf : real_FromIntN.f k 2 = some (8388608, -22)) (hpn : real_Pow.f k 8388608 (-22) n = some (p0, p1, p2)) (hin : -126 ≤ n → n ≤ 173 → p0 = 8388608 ∧ p1 = n - 23 ∧ p2 = 0) (hng : real_Neg.f x0 x1 = some (m0, m1, 0)) (hpa : real_Pow.f k x0 x1 n = some (a0, a1, a2)) (hpb : real_Pow.f k m0 m1 n = some (b0, b1, a2)) (hod : ¬ Int.tmod n 2 = 0 → real_Neg.f b0 b1 = some (a0, a1, 0)) (hev : Int.tmod n 2 = 0 → b0 = a0 ∧ b1 = a1) (hcm : real_Cmp.f s0 s1 8388608 (-123) = some (c, 0)) (hab : real_Abs.f x0 x1 = some (u0, u1, 0)) (hsq : s2 = 0 → SqrtIs s0 s1 r0 r1 0) (hfi : s2 = 0 → c < 0 ∨ (r0 = u0 ∧ r1 = u1)) (hs : manorboylaw02_sanity.f k = some true) (w : World) (ht : Table w) :
    Calls Tryz.prog 16 #[.int .i64 i, .int .i64 n] w fun e w' => e = .returned (.bool true) ∧ Below w.heap.size w w' := by
  have HT := Aside0.mk (Lib.tabBelow_of_tabIs ht)
  have HX := Lib.hid hx
  have HP1 := Lib.hid hp1
  have HP2 := Lib.hid hp2
  have HM := Lib.hid hm
  have HF := Lib.hid hf
  have HPN := Lib.hid hpn
  have HIN := Lib.hid hin
  have HNG := Lib.hid hng
  have HPA := Lib.hid hpa
  have HPB := Lib.hid hpb
  have HOD := Lib.hid hod
  have HEV := Lib.hid hev
  have HCM := Lib.hid hcm
  have HAB := Lib.hid hab
  have HSQ := Lib.hid hsq
  have HFI := Lib.hid hfi
  have HS := Lib.hid hs
  have HIS := Lib.hid (show manorboylaw02_is.f x0 x1 0 x0 x1 = some true by simp [manorboylaw02_is.f])
  have HEQ := Lib.hid (show manorboylaw02_equal.f s0 s1 s2 s0 s1 s2 = some true by simp [manorboylaw02_equal.f])
  clear ht hx hp1 hp2 hm hf hpn hin hng hpa hpb hod hev hcm hab hsq hfi hs
  go_enter Tryz.func16, Tryz.ntmps16
  have H := Lib.hid (Bs.nil w)
  go_wp2_with fail
  refine (manorboylaw02_at.calls i x0 x1 _ HX.out).mono ?_
  rintro _ w1 ⟨rfl, hb⟩
  replace H := Lib.hid (show Bs w [] w1 from (H.out).step hb)
  clear hb
  go_wp2_with fail
  refine (real_Pow.calls k x0 x1 1 x0 x1 0 _ HP1.out (by decide) (by decide)).mono ?_
  rintro _ w2 ⟨rfl, hb⟩
  replace H := Lib.hid (show Bs w [(w1.heap.size, x0, x1)] w2 from ((H.out).box (x0) (x1)).step hb)
  clear hb
  obtain ⟨⟨fx_0, fx_1, fx_2, fx_3, fx_4⟩, -⟩ := H.out.all
  go_wp2_with fail
  refine (real_Pow.calls k x0 x1 2 s0 s1 s2 _ HP2.out (by decide) (by decide)).mono ?_
  rintro _ w3 ⟨rfl, hb⟩
  replace H := Lib.hid (show Bs w [(w2.heap.size, x0, x1), (w1.heap.size, x0, x1)] w3 from ((H.out).box (x0) (x1)).step hb)
  clear fx_0 fx_1 fx_2 fx_3 fx_4
  clear hb
  obtain ⟨⟨fone_0, fone_1, fone_2, fone_3, fone_4⟩, ⟨fx_0, fx_1, fx_2, fx_3, fx_4⟩, -⟩ := H.out.all
  go_wp2_with fail
  refine (real_Mul.calls k x0 x1 x0 x1 s0 s1 s2 _ HM.out).mono ?_
  rintro _ w4 ⟨rfl, hb⟩
  replace H := Lib.hid (show Bs w [(w3.heap.size, s0, s1), (w2.heap.size, x0, x1), (w1.heap.size, x0, x1)] w4 from ((H.out).box (s0) (s1)).step hb)
  clear fone_0 fone_1 fone_2 fone_3 fone_4 fx_0 fx_1 fx_2 fx_3 fx_4
  clear hb
  obtain ⟨⟨fsq_0, fsq_1, fsq_2, fsq_3, fsq_4⟩, ⟨fone_0, fone_1, fone_2, fone_3, fone_4⟩, ⟨fx_0, fx_1, fx_2, fx_3, fx_4⟩, -⟩ := H.out.all
  go_wp2_with fail
  refine (manorboylaw02_is.calls x0 x1 0 x0 x1 true _ HIS.out).mono ?_
  rintro _ w5 ⟨rfl, hb⟩
  replace H := Lib.hid (show Bs w [(w4.heap.size, s0, s1), (w3.heap.size, s0, s1), (w2.heap.size, x0, x1), (w1.heap.size, x0, x1)] w5 from ((H.out).box (s0) (s1)).step hb)
  clear fsq_0 fsq_1 fsq_2 fsq_3 fsq_4 fone_0 fone_1 fone_2 fone_3 fone_4 fx_0 fx_1 fx_2 fx_3 fx_4
  clear hb
  obtain ⟨⟨fpr_0, fpr_1, fpr_2, fpr_3, fpr_4⟩, ⟨fsq_0, fsq_1, fsq_2, fsq_3, fsq_4⟩, ⟨fone_0, fone_1, fone_2, fone_3, fone_4⟩, ⟨fx_0, fx_1, fx_2, fx_3, fx_4⟩, -⟩ := H.out.all
  go_wp2_with fail
  refine (manorboylaw02_equal.calls s0 s1 s2 s0 s1 s2 true _ HEQ.out).mono ?_
  rintro _ w6 ⟨rfl, hb⟩
  replace H := Lib.hid (show Bs w [(w4.heap.size, s0, s1), (w3.heap.size, s0, s1), (w2.heap.size, x0, x1), (w1.heap.size, x0, x1)] w6 from (H.out).step hb)
  clear fpr_0 fpr_1 fpr_2 fpr_3 fpr_4 fsq_0 fsq_1 fsq_2 fsq_3 fsq_4 fone_0 fone_1 fone_2 fone_3 fone_4 fx_0 fx_1 fx_2 fx_3 fx_4
  clear hb
  obtain ⟨⟨fpr_0, fpr_1, fpr_2, fpr_3, fpr_4⟩, ⟨fsq_0, fsq_1, fsq_2, fsq_3, fsq_4⟩, ⟨fone_0, fone_1, fone_2, fone_3, fone_4⟩, ⟨fx_0, fx_1, fx_2, fx_3, fx_4⟩, -⟩ := H.out.all
  go_wp2_with fail
  refine (real_FromIntN.calls k 2 8388608 (-22) _ HF.out).mono ?_
  rintro _ w7 ⟨rfl, hb⟩
  replace H := Lib.hid (show Bs w [(w4.heap.size, s0, s1), (w3.heap.size, s0, s1), (w2.heap.size, x0, x1), (w1.heap.size, x0, x1)] w7 from (H.out).step hb)
  clear fpr_0 fpr_1 fpr_2 fpr_3 fpr_4 fsq_0 fsq_1 fsq_2 fsq_3 fsq_4 fone_0 fone_1 fone_2 fone_3 fone_4 fx_0 fx_1 fx_2 fx_3 fx_4
  clear hb
  obtain ⟨⟨fpr_0, fpr_1, fpr_2, fpr_3, fpr_4⟩, ⟨fsq_0, fsq_1, fsq_2, fsq_3, fsq_4⟩, ⟨fone_0, fone_1, fone_2, fone_3, fone_4⟩, ⟨fx_0, fx_1, fx_2, fx_3, fx_4⟩, -⟩ := H.out.all
  go_wp2_with fail
  refine (real_Pow.calls k 8388608 (-22) n p0 p1 p2 _ HPN.out hlo hhi).mono ?_
  rintro _ w8 ⟨rfl, hb⟩
  replace H := Lib.hid (show Bs w [(w4.heap.size, s0, s1), (w3.heap.size, s0, s1), (w2.heap.size, x0, x1), (w1.heap.size, x0, x1)] w8 from (H.out).step hb)
  clear fpr_0 fpr_1 fpr_2 fpr_3 fpr_4 fsq_0 fsq_1 fsq_2 fsq_3 fsq_4 fone_0 fone_1 fone_2 fone_3 fone_4 fx_0 fx_1 fx_2 fx_3 fx_4
  clear hb
  obtain ⟨⟨fpr_0, fpr_1, fpr_2, fpr_3, fpr_4⟩, ⟨fsq_0, fsq_1, fsq_2, fsq_3, fsq_4⟩, ⟨fone_0, fone_1, fone_2, fone_3, fone_4⟩, ⟨fx_0, fx_1, fx_2, fx_3, fx_4⟩, -⟩ := H.out.all
  go_upto_region 8 with fail
  replace H := Lib.hid (show Bs w [(w8.heap.size, p0, p1), (w4.heap.size, s0, s1), (w3.heap.size, s0, s1), (w2.heap.size, x0, x1), (w1.heap.size, x0, x1)] _ from (H.out).box (p0) (p1))
  clear fpr_0 fpr_1 fpr_2 fpr_3 fpr_4 fsq_0 fsq_1 fsq_2 fsq_3 fsq_4 fone_0 fone_1 fone_2 fone_3 fone_4 fx_0 fx_1 fx_2 fx_3 fx_4
  go_cut [70] (fun v70 wc => v70 = .bool false ∧ Aside0 (Bs w [(w8.heap.size, p0, p1), (w4.heap.size, s0, s1), (w3.heap.size, s0, s1), (w2.heap.size, x0, x1), (w1.heap.size, x0, x1)] wc))
  case first => as_aux_lemma =>
    by_cases hn1 : -126 ≤ n
    · by_cases hn2 : n ≤ 173
      · obtain ⟨rfl, rfl, rfl⟩ := HIN.out hn1 hn2
        have HTW := Lib.hid (show manorboylaw02_two.f n = some (8388608, n - 23) by unfold manorboylaw02_two.f; rw [show wrap64 (n - 23) = n - 23 from by unfold wrap64; omega])
        have HIT := Lib.hid (show manorboylaw02_is.f 8388608 (n - 23) 0 8388608 (n - 23) = some true by simp [manorboylaw02_is.f])
        replace H := Lib.hid H.out.drew
        refine start_ (n := 14) (S := fun w' => BsAll w' [(w8.heap.size, 8388608, n - 23), (w4.heap.size, s0, s1), (w3.heap.size, s0, s1), (w2.heap.size, x0, x1), (w1.heap.size, x0, x1)]) (ds := []) #[false, false, false, false, false, false, false, false, false, false, false, false, false, false] (by kernel_rfl) rfl rfl H.out.all (fun hHeld => ?_); refine with_tabW powlTab8 powlBits8 (fun HT_ HW_ => ?_)
        generalize World.drew _ = wd at H hHeld ⊢
        refine pur 0 (some 57) #[tt,ff,ff,ff,ff,ff,ff,ff,ff,ff,ff,ff,ff,ff] ?_
        refine pure_ (i := 1) (N := some 58) (v := .bool true) (a' := ?_) #[true, true, false, false, false, false, false, false, false, false, false, false, false, false] rfl rfl (any_of HT_.out (by kernel_rfl)) (fun _ _ _ h => h) (Or.inl ⟨by rfl, ?_⟩) ?_ ?_
        · intro w'
          go_simp
          all_goals (first | with_reducible rfl | (simp [*]; done))
        rotate_left
        · simp only [Act.put, List.setIfInBounds_toArray, List.set_cons_zero, List.set_cons_succ, i64_w, i32_w]
          rfl
        refine pur 2 (some 59) #[tt,tt,tt,ff,ff,ff,ff,ff,ff,ff,ff,ff,ff,ff] ?_
        refine pur 3 (some 60) #[tt,tt,tt,tt,ff,ff,ff,ff,ff,ff,ff,ff,ff,ff] ?_
        refine pure_ (i := 4) (N := some 61) (v := .bool true) (a' := ?_) #[true, true, true, true, true, false, false, false, false, false, false, false, false, false] rfl rfl (any_of HT_.out (by kernel_rfl)) (fun _ _ _ h => h) (Or.inl ⟨by rfl, ?_⟩) ?_ ?_
        · intro w'
          go_simp
          all_goals (first | with_reducible rfl | (simp [*]; done))
        rotate_left
        · simp only [Act.put, List.setIfInBounds_toArray, List.set_cons_zero, List.set_cons_succ, i64_w, i32_w]
          rfl
        refine pur 5 (some 62) #[tt,tt,tt,tt,tt,tt,ff,ff,ff,ff,ff,ff,ff,ff] ?_
        refine pur 6 (some 63) #[tt,tt,tt,tt,tt,tt,tt,ff,ff,ff,ff,ff,ff,ff] ?_
        refine pur 8 (some 65) #[tt,tt,tt,tt,tt,tt,tt,ff,tt,ff,ff,ff,ff,ff] ?_
        refine pur 9 (some 66) #[tt,tt,tt,tt,tt,tt,tt,ff,tt,tt,ff,ff,ff,ff] ?_
        refine take_ (i := 7) (N := some 64) (v := ?_) (a' := ?_) #[true, true, true, true, true, true, true, true, true, true, false, false, false, false] rfl rfl (take_ofW HT_.out HW_.out (by kernel_rfl)) (fun _ _ _ h => h) (Or.inl ⟨by rfl, ?_⟩) hHeld ?_ ?_
        rotate_left
        · intro w' hS
          obtain ⟨s0, s1, -⟩ := hS.1
          clear hS
          go_simp
          with_reducible rfl
        rotate_left
        · simp only [Act.put, List.setIfInBounds_toArray, List.set_cons_zero, List.set_cons_succ, i64_w, i32_w]
          rfl
        refine one_ (i := 10) (N := some 67) #[true, true, true, true, true, true, true, true, true, true, true, false, false, false] rfl rfl (one_of HT_.out (by kernel_rfl)) (by decide) (fun K hK => ?_)
        refine gsz Tryz.func49 #[.int .i64 n] ?_
        with_reducible refine (manorboylaw02_two.calls n 8388608 (n - 23) _ HTW.out).mono ?_
        rintro _ w' ⟨rfl, hb⟩
        refine ⟨_, rfl, ?_⟩
        replace H := Lib.hid (H.out.step hb)
        clear hb
        refine hK.out _ _ H.out.all (fun hHeld => ?_)
        clear hK K
        refine norm_ (a' := ?_) ?_ ?_
        rotate_left
        · show Act.put _ (some 67) _ = _
          simp only [Act.put, List.setIfInBounds_toArray, List.set_cons_zero, List.set_cons_succ, i64_w, i32_w]
          rfl
        refine one_ (i := 11) (N := some 68) #[true, true, true, true, true, true, true, true, true, true, true, true, false, false] rfl rfl (one_of HT_.out (by kernel_rfl)) (by decide) (fun K hK => ?_)
        refine gsz Tryz.func39 #[.agg #[.int .i64 8388608, .int .i64 (n - 23)], .int .i64 0, .agg #[.int .i64 8388608, .int .i64 (n - 23)]] ?_
        with_reducible refine (manorboylaw02_is.calls 8388608 (n - 23) 0 8388608 (n - 23) true _ HIT.out).mono ?_
        rintro _ w' ⟨rfl, hb⟩
        refine ⟨_, rfl, ?_⟩
        replace H := Lib.hid (H.out.step hb)
        clear hb
        refine hK.out _ _ H.out.all (fun hHeld => ?_)
        clear hK K
        refine norm_ (a' := ?_) ?_ ?_
        rotate_left
        · show Act.put _ (some 68) _ = _
          simp only [Act.put, List.setIfInBounds_toArray, List.set_cons_zero, List.set_cons_succ, i64_w, i32_w]
          rfl
        refine pur 12 (some 69) #[tt,tt,tt,tt,tt,tt,tt,tt,tt,tt,tt,tt,tt,ff] ?_
        refine pur 13 (some 70) #[tt,tt,tt,tt,tt,tt,tt,tt,tt,tt,tt,tt,tt,tt] ?_
        refine done_ (done_of HT_.out (by kernel_rfl)) ?_
        try go_wp2
        go_meet
        case rel => exact ⟨by first | rfl | (simp [*]; done), ⟨H.out⟩⟩
      · skip
        replace H := Lib.hid H.out.drew
        refine start_ (n := 14) (S := fun w' => BsAll w' [(w8.heap.size, p0, p1), (w4.heap.size, s0, s1), (w3.heap.size, s0, s1), (w2.heap.size, x0, x1), (w1.heap.size, x0, x1)]) (ds := []) #[false, false, false, false, false, false, false, false, false, false, false, false, false, false] (by kernel_rfl) rfl rfl H.out.all (fun hHeld => ?_); refine with_tabW powlTab8 powlBits8 (fun HT_ HW_ => ?_)
        generalize World.drew _ = wd at H hHeld ⊢
        refine pur 0 (some 57) #[tt,ff,ff,ff,ff,ff,ff,ff,ff,ff,ff,ff,ff,ff] ?_
        refine pure_ (i := 1) (N := some 58) (v := .bool true) (a' := ?_) #[true, true, false, false, false, false, false, false, false, false, false, false, false, false] rfl rfl (any_of HT_.out (by kernel_rfl)) (fun _ _ _ h => h) (Or.inl ⟨by rfl, ?_⟩) ?_ ?_
        · intro w'
          go_simp
          all_goals (first | with_reducible rfl | (simp [*]; done))
        rotate_left
        · simp only [Act.put, List.setIfInBounds_toArray, List.set_cons_zero, List.set_cons_succ, i64_w, i32_w]
          rfl
        refine pur 2 (some 59) #[tt,tt,tt,ff,ff,ff,ff,ff,ff,ff,ff,ff,ff,ff] ?_
        refine pur 3 (some 60) #[tt,tt,tt,tt,ff,ff,ff,ff,ff,ff,ff,ff,ff,ff] ?_
        refine pure_ (i := 4) (N := some 61) (v := .bool false) (a' := ?_) #[true, true, true, true, true, false, false, false, false, false, false, false, false, false] rfl rfl (any_of HT_.out (by kernel_rfl)) (fun _ _ _ h => h) (Or.inl ⟨by rfl, ?_⟩) ?_ ?_
        · intro w'
          go_simp
          all_goals (first | with_reducible rfl | (simp [*]; done))
        rotate_left
        · simp only [Act.put, List.setIfInBounds_toArray, List.set_cons_zero, List.set_cons_succ, i64_w, i32_w]
          rfl
        refine pur 5 (some 62) #[tt,tt,tt,tt,tt,tt,ff,ff,ff,ff,ff,ff,ff,ff] ?_
        refine pur 6 (some 63) #[tt,tt,tt,tt,tt,tt,tt,ff,ff,ff,ff,ff,ff,ff] ?_
        refine pure_ (i := 7) (N := some 64) (v := undef) (a' := ?_) #[true, true, true, true, true, true, true, true, false, false, false, false, false, false] rfl rfl (any_of HT_.out (by kernel_rfl)) (fun _ _ _ h => h) (Or.inr ⟨by rfl, rfl⟩) ?_ ?_
        rotate_left
        · simp only [Act.put, List.setIfInBounds_toArray, List.set_cons_zero, List.set_cons_succ, i64_w, i32_w]
          rfl
        refine pure_ (i := 8) (N := some 65) (v := undef) (a' := ?_) #[true, true, true, true, true, true, true, true, true, false, false, false, false, false] rfl rfl (any_of HT_.out (by kernel_rfl)) (fun _ _ _ h => h) (Or.inr ⟨by rfl, rfl⟩) ?_ ?_
        rotate_left
        · simp only [Act.put, List.setIfInBounds_toArray, List.set_cons_zero, List.set_cons_succ, i64_w, i32_w]
          rfl
        refine pure_ (i := 9) (N := some 66) (v := undef) (a' := ?_) #[true, true, true, true, true, true, true, true, true, true, false, false, false, false] rfl rfl (any_of HT_.out (by kernel_rfl)) (fun _ _ _ h => h) (Or.inr ⟨by rfl, rfl⟩) ?_ ?_
        rotate_left
        · simp only [Act.put, List.setIfInBounds_toArray, List.set_cons_zero, List.set_cons_succ, i64_w, i32_w]
          rfl
        refine pure_ (i := 10) (N := some 67) (v := undef) (a' := ?_) #[true, true, true, true, true, true, true, true, true, true, true, false, false, false] rfl rfl (any_of HT_.out (by kernel_rfl)) (fun _ _ _ h => h) (Or.inr ⟨by rfl, rfl⟩) ?_ ?_
        rotate_left
        · simp only [Act.put, List.setIfInBounds_toArray, List.set_cons_zero, List.set_cons_succ, i64_w, i32_w]
          rfl
        refine pure_ (i := 11) (N := some 68) (v := undef) (a' := ?_) #[true, true, true, true, true, true, true, true, true, true, true, true, false, false] rfl rfl (any_of HT_.out (by kernel_rfl)) (fun _ _ _ h => h) (Or.inr ⟨by rfl, rfl⟩) ?_ ?_
        rotate_left
        · simp only [Act.put, List.setIfInBounds_toArray, List.set_cons_zero, List.set_cons_succ, i64_w, i32_w]
          rfl
        refine pure_ (i := 12) (N := some 69) (v := undef) (a' := ?_) #[true, true, true, true, true, true, true, true, true, true, true, true, true, false] rfl rfl (any_of HT_.out (by kernel_rfl)) (fun _ _ _ h => h) (Or.inr ⟨by rfl, rfl⟩) ?_ ?_
        rotate_left
        · simp only [Act.put, List.setIfInBounds_toArray, List.set_cons_zero, List.set_cons_succ, i64_w, i32_w]
          rfl
        refine pur 13 (some 70) #[tt,tt,tt,tt,tt,tt,tt,tt,tt,tt,tt,tt,tt,tt] ?_
        refine done_ (done_of HT_.out (by kernel_rfl)) ?_
        try go_wp2
        go_meet
        case rel => exact ⟨by first | rfl | (simp [*]; done), ⟨H.out⟩⟩
    · skip
      replace H := Lib.hid H.out.drew
      refine start_ (n := 14) (S := fun w' => BsAll w' [(w8.heap.size, p0, p1), (w4.heap.size, s0, s1), (w3.heap.size, s0, s1), (w2.heap.size, x0, x1), (w1.heap.size, x0, x1)]) (ds := []) #[false, false, false, false, false, false, false, false, false, false, false, false, false, false] (by kernel_rfl) rfl rfl H.out.all (fun hHeld => ?_); refine with_tabW powlTab8 powlBits8 (fun HT_ HW_ => ?_)
      generalize World.drew _ = wd at H hHeld ⊢
      refine pur 0 (some 57) #[tt,ff,ff,ff,ff,ff,ff,ff,ff,ff,ff,ff,ff,ff] ?_
      refine pure_ (i := 1) (N := some 58) (v := .bool false) (a' := ?_) #[true, true, false, false, false, false, false, false, false, false, false, false, false, false] rfl rfl (any_of HT_.out (by kernel_rfl)) (fun _ _ _ h => h) (Or.inl ⟨by rfl, ?_⟩) ?_ ?_
      · intro w'
        go_simp
        all_goals (first | with_reducible rfl | (simp [*]; done))
      rotate_left
      · simp only [Act.put, List.setIfInBounds_toArray, List.set_cons_zero, List.set_cons_succ, i64_w, i32_w]
        rfl
      refine pur 2 (some 59) #[tt,tt,tt,ff,ff,ff,ff,ff,ff,ff,ff,ff,ff,ff] ?_
      refine pure_ (i := 3) (N := some 60) (v := undef) (a' := ?_) #[true, true, true, true, false, false, false, false, false, false, false, false, false, false] rfl rfl (any_of HT_.out (by kernel_rfl)) (fun _ _ _ h => h) (Or.inr ⟨by rfl, rfl⟩) ?_ ?_
      rotate_left
      · simp only [Act.put, List.setIfInBounds_toArray, List.set_cons_zero, List.set_cons_succ, i64_w, i32_w]
        rfl
      refine pure_ (i := 4) (N := some 61) (v := undef) (a' := ?_) #[true, true, true, true, true, false, false, false, false, false, false, false, false, false] rfl rfl (any_of HT_.out (by kernel_rfl)) (fun _ _ _ h => h) (Or.inr ⟨by rfl, rfl⟩) ?_ ?_
      rotate_left
      · simp only [Act.put, List.setIfInBounds_toArray, List.set_cons_zero, List.set_cons_succ, i64_w, i32_w]
        rfl
      refine pur 5 (some 62) #[tt,tt,tt,tt,tt,tt,ff,ff,ff,ff,ff,ff,ff,ff] ?_
      refine pur 6 (some 63) #[tt,tt,tt,tt,tt,tt,tt,ff,ff,ff,ff,ff,ff,ff] ?_
      refine pure_ (i := 7) (N := some 64) (v := undef) (a' := ?_) #[true, true, true, true, true, true, true, true, false, false, false, false, false, false] rfl rfl (any_of HT_.out (by kernel_rfl)) (fun _ _ _ h => h) (Or.inr ⟨by rfl, rfl⟩) ?_ ?_
      rotate_left
      · simp only [Act.put, List.setIfInBounds_toArray, List.set_cons_zero, List.set_cons_succ, i64_w, i32_w]
        rfl
      refine pure_ (i := 8) (N := some 65) (v := undef) (a' := ?_) #[true, true, true, true, true, true, true, true, true, false, false, false, false, false] rfl rfl (any_of HT_.out (by kernel_rfl)) (fun _ _ _ h => h) (Or.inr ⟨by rfl, rfl⟩) ?_ ?_
      rotate_left
      · simp only [Act.put, List.setIfInBounds_toArray, List.set_cons_zero, List.set_cons_succ, i64_w, i32_w]
        rfl
      refine pure_ (i := 9) (N := some 66) (v := undef) (a' := ?_) #[true, true, true, true, true, true, true, true, true, true, false, false, false, false] rfl rfl (any_of HT_.out (by kernel_rfl)) (fun _ _ _ h => h) (Or.inr ⟨by rfl, rfl⟩) ?_ ?_
      rotate_left
      · simp only [Act.put, List.setIfInBounds_toArray, List.set_cons_zero, List.set_cons_succ, i64_w, i32_w]
        rfl
      refine pure_ (i := 10) (N := some 67) (v := undef) (a' := ?_) #[true, true, true, true, true, true, true, true, true, true, true, false, false, false] rfl rfl (any_of HT_.out (by kernel_rfl)) (fun _ _ _ h => h) (Or.inr ⟨by rfl, rfl⟩) ?_ ?_
      rotate_left
      · simp only [Act.put, List.setIfInBounds_toArray, List.set_cons_zero, List.set_cons_succ, i64_w, i32_w]
        rfl
      refine pure_ (i := 11) (N := some 68) (v := undef) (a' := ?_) #[true, true, true, true, true, true, true, true, true, true, true, true, false, false] rfl rfl (any_of HT_.out (by kernel_rfl)) (fun _ _ _ h => h) (Or.inr ⟨by rfl, rfl⟩) ?_ ?_
      rotate_left
      · simp only [Act.put, List.setIfInBounds_toArray, List.set_cons_zero, List.set_cons_succ, i64_w, i32_w]
        rfl
      refine pure_ (i := 12) (N := some 69) (v := undef) (a' := ?_) #[true, true, true, true, true, true, true, true, true, true, true, true, true, false] rfl rfl (any_of HT_.out (by kernel_rfl)) (fun _ _ _ h => h) (Or.inr ⟨by rfl, rfl⟩) ?_ ?_
      rotate_left
      · simp only [Act.put, List.setIfInBounds_toArray, List.set_cons_zero, List.set_cons_succ, i64_w, i32_w]
        rfl
      refine pur 13 (some 70) #[tt,tt,tt,tt,tt,tt,tt,tt,tt,tt,tt,tt,tt,tt] ?_
      refine done_ (done_of HT_.out (by kernel_rfl)) ?_
      try go_wp2
      go_meet
      case rel => exact ⟨by first | rfl | (simp [*]; done), ⟨H.out⟩⟩
  case rest => as_aux_lemma =>
    obtain ⟨rfl, HJ⟩ := hcut
    replace H := Lib.hid HJ.out
    clear HJ
    obtain ⟨⟨fp_0, fp_1, fp_2, fp_3, fp_4⟩, ⟨fpr_0, fpr_1, fpr_2, fpr_3, fpr_4⟩, ⟨fsq_0, fsq_1, fsq_2, fsq_3, fsq_4⟩, ⟨fone_0, fone_1, fone_2, fone_3, fone_4⟩, ⟨fx_0, fx_1, fx_2, fx_3, fx_4⟩, -⟩ := H.out.all
    go_wp2_with fail
    refine (real_Neg.calls x0 x1 m0 m1 0 _ HNG.out).mono ?_
    rintro _ w9 ⟨rfl, hb⟩
    replace H := Lib.hid (show Bs w [(w8.heap.size, p0, p1), (w4.heap.size, s0, s1), (w3.heap.size, s0, s1), (w2.heap.size, x0, x1), (w1.heap.size, x0, x1)] w9 from (H.out).step hb)
    clear fp_0 fp_1 fp_2 fp_3 fp_4 fpr_0 fpr_1 fpr_2 fpr_3 fpr_4 fsq_0 fsq_1 fsq_2 fsq_3 fsq_4 fone_0 fone_1 fone_2 fone_3 fone_4 fx_0 fx_1 fx_2 fx_3 fx_4
    clear hb
    obtain ⟨⟨fp_0, fp_1, fp_2, fp_3, fp_4⟩, ⟨fpr_0, fpr_1, fpr_2, fpr_3, fpr_4⟩, ⟨fsq_0, fsq_1, fsq_2, fsq_3, fsq_4⟩, ⟨fone_0, fone_1, fone_2, fone_3, fone_4⟩, ⟨fx_0, fx_1, fx_2, fx_3, fx_4⟩, -⟩ := H.out.all
    go_wp2_with fail
    refine (real_Pow.calls k x0 x1 n a0 a1 a2 _ HPA.out hlo hhi).mono ?_
    rintro _ w10 ⟨rfl, hb⟩
    replace H := Lib.hid (show Bs w [(w9.heap.size, m0, m1), (w8.heap.size, p0, p1), (w4.heap.size, s0, s1), (w3.heap.size, s0, s1), (w2.heap.size, x0, x1), (w1.heap.size, x0, x1)] w10 from ((H.out).box (m0) (m1)).step hb)
    clear fp_0 fp_1 fp_2 fp_3 fp_4 fpr_0 fpr_1 fpr_2 fpr_3 fpr_4 fsq_0 fsq_1 fsq_2 fsq_3 fsq_4 fone_0 fone_1 fone_2 fone_3 fone_4 fx_0 fx_1 fx_2 fx_3 fx_4
    clear hb
    obtain ⟨⟨fmi_0, fmi_1, fmi_2, fmi_3, fmi_4⟩, ⟨fp_0, fp_1, fp_2, fp_3, fp_4⟩, ⟨fpr_0, fpr_1, fpr_2, fpr_3, fpr_4⟩, ⟨fsq_0, fsq_1, fsq_2, fsq_3, fsq_4⟩, ⟨fone_0, fone_1, fone_2, fone_3, fone_4⟩, ⟨fx_0, fx_1, fx_2, fx_3, fx_4⟩, -⟩ := H.out.all
    go_wp2_with fail
    refine (real_Pow.calls k m0 m1 n b0 b1 a2 _ HPB.out hlo hhi).mono ?_
    rintro _ w11 ⟨rfl, hb⟩
    replace H := Lib.hid (show Bs w [(w10.heap.size, a0, a1), (w9.heap.size, m0, m1), (w8.heap.size, p0, p1), (w4.heap.size, s0, s1), (w3.heap.size, s0, s1), (w2.heap.size, x0, x1), (w1.heap.size, x0, x1)] w11 from ((H.out).box (a0) (a1)).step hb)
    clear fmi_0 fmi_1 fmi_2 fmi_3 fmi_4 fp_0 fp_1 fp_2 fp_3 fp_4 fpr_0 fpr_1 fpr_2 fpr_3 fpr_4 fsq_0 fsq_1 fsq_2 fsq_3 fsq_4 fone_0 fone_1 fone_2 fone_3 fone_4 fx_0 fx_1 fx_2 fx_3 fx_4
    clear hb
    obtain ⟨⟨fa_0, fa_1, fa_2, fa_3, fa_4⟩, ⟨fmi_0, fmi_1, fmi_2, fmi_3, fmi_4⟩, ⟨fp_0, fp_1, fp_2, fp_3, fp_4⟩, ⟨fpr_0, fpr_1, fpr_2, fpr_3, fpr_4⟩, ⟨fsq_0, fsq_1, fsq_2, fsq_3, fsq_4⟩, ⟨fone_0, fone_1, fone_2, fone_3, fone_4⟩, ⟨fx_0, fx_1, fx_2, fx_3, fx_4⟩, -⟩ := H.out.all
    go_upto_if 97 with fail
    replace H := Lib.hid (show Bs w [(w11.heap.size, b0, b1), (w10.heap.size, a0, a1), (w9.heap.size, m0, m1), (w8.heap.size, p0, p1), (w4.heap.size, s0, s1), (w3.heap.size, s0, s1), (w2.heap.size, x0, x1), (w1.heap.size, x0, x1)] _ from (H.out).box (b0) (b1))
    clear fa_0 fa_1 fa_2 fa_3 fa_4 fmi_0 fmi_1 fmi_2 fmi_3 fmi_4 fp_0 fp_1 fp_2 fp_3 fp_4 fpr_0 fpr_1 fpr_2 fpr_3 fpr_4 fsq_0 fsq_1 fsq_2 fsq_3 fsq_4 fone_0 fone_1 fone_2 fone_3 fone_4 fx_0 fx_1 fx_2 fx_3 fx_4
    go_cut [7] (fun v7 we => v7 = .int .i64 0 ∧ Aside0 (Bs w [(w11.heap.size, a0, a1), (w10.heap.size, a0, a1), (w9.heap.size, m0, m1), (w8.heap.size, p0, p1), (w4.heap.size, s0, s1), (w3.heap.size, s0, s1), (w2.heap.size, x0, x1), (w1.heap.size, x0, x1)] we))
    case first => as_aux_lemma =>
      by_cases hz : Int.tmod n 2 = 0
      · have hzb : (Int.tmod n 2 != 0) = false := by simp [hz]
        obtain ⟨e1, e2⟩ := HEV.out hz
        (first | rw [hzb] | skip)
        go_wp2_with fail
        go_meet
        case rel => exact ⟨rfl, ⟨by subst e1 e2; exact H.out⟩⟩
      · have hzb : (Int.tmod n 2 != 0) = true := by simp [hz]
        (first | rw [hzb] | skip)
        obtain ⟨⟨fb_0, fb_1, fb_2, fb_3, fb_4⟩, -, -, -, -, -, -, -, -⟩ := H.out.all
        go_wp2_with fail
        refine (real_Neg.calls b0 b1 a0 a1 0 _ (HOD.out hz)).mono ?_
        rintro _ wf ⟨rfl, hb⟩
        replace H := Lib.hid (H.out.step hb)
        clear fb_0 fb_1 fb_2 fb_3 fb_4
        clear hb
        obtain ⟨⟨fb_0, fb_1, fb_2, fb_3, fb_4⟩, -, -, -, -, -, -, -, -⟩ := H.out.all
        go_wp2_with fail
        go_meet
        case rel => exact ⟨rfl, ⟨Bs.put [] [(w10.heap.size, a0, a1), (w9.heap.size, m0, m1), (w8.heap.size, p0, p1), (w4.heap.size, s0, s1), (w3.heap.size, s0, s1), (w2.heap.size, x0, x1), (w1.heap.size, x0, x1)] (w11.heap.size) (b0) (b1) H.out (a0) (a1)⟩⟩
    case rest => as_aux_lemma =>
      obtain ⟨rfl, HJ⟩ := hcut
      replace H := Lib.hid HJ.out
      clear HJ
      obtain ⟨⟨fb_0, fb_1, fb_2, fb_3, fb_4⟩, ⟨fa_0, fa_1, fa_2, fa_3, fa_4⟩, ⟨fmi_0, fmi_1, fmi_2, fmi_3, fmi_4⟩, ⟨fp_0, fp_1, fp_2, fp_3, fp_4⟩, ⟨fpr_0, fpr_1, fpr_2, fpr_3, fpr_4⟩, ⟨fsq_0, fsq_1, fsq_2, fsq_3, fsq_4⟩, ⟨fone_0, fone_1, fone_2, fone_3, fone_4⟩, ⟨fx_0, fx_1, fx_2, fx_3, fx_4⟩, -⟩ := H.out.all
      by_cases hs2 : s2 = 0
      · subst hs2
        go_upto_region 21 with fail
        clear fb_0 fb_1 fb_2 fb_3 fb_4 fa_0 fa_1 fa_2 fa_3 fa_4 fmi_0 fmi_1 fmi_2 fmi_3 fmi_4 fp_0 fp_1 fp_2 fp_3 fp_4 fpr_0 fpr_1 fpr_2 fpr_3 fpr_4 fsq_0 fsq_1 fsq_2 fsq_3 fsq_4 fone_0 fone_1 fone_2 fone_3 fone_4 fx_0 fx_1 fx_2 fx_3 fx_4
        replace H := Lib.hid H.out.drew
        refine start_ (n := 8) (S := fun w' => BsAll w' [(w11.heap.size, a0, a1), (w10.heap.size, a0, a1), (w9.heap.size, m0, m1), (w8.heap.size, p0, p1), (w4.heap.size, s0, s1), (w3.heap.size, s0, s1), (w2.heap.size, x0, x1), (w1.heap.size, x0, x1)]) (ds := []) #[false, false, false, false, false, false, false, false] (by kernel_rfl) rfl rfl H.out.all (fun hHeld => ?_); refine with_tabW powlTab21 powlBits21 (fun HT_ HW_ => ?_)
        generalize World.drew _ = wd at H hHeld ⊢
        refine take_ (i := 0) (N := some 114) (v := ?_) (a' := ?_) #[true, false, false, false, false, false, false, false] rfl rfl (take_ofW HT_.out HW_.out (by kernel_rfl)) (fun _ _ _ h => h) (Or.inl ⟨by rfl, ?_⟩) hHeld ?_ ?_
        rotate_left
        · intro w' hS
          obtain ⟨s0, s1, -⟩ := hS.2.2.2.2.1
          clear hS
          go_simp
          with_reducible rfl
        rotate_left
        · simp only [Act.put, List.setIfInBounds_toArray, List.set_cons_zero, List.set_cons_succ, i64_w, i32_w]
          rfl
        refine one_ (i := 1) (N := some 115) #[true, true, false, false, false, false, false, false] rfl rfl (one_of HT_.out (by kernel_rfl)) (by decide) (fun K hK => ?_)
        refine gsz Tryz.func49 #[.int .i64 (-100)] ?_
        with_reducible refine (manorboylaw02_two.calls (-100) 8388608 (-123) _ (by kernel_rfl)).mono ?_
        rintro _ w' ⟨rfl, hb⟩
        refine ⟨_, rfl, ?_⟩
        replace H := Lib.hid (H.out.step hb)
        clear hb
        refine hK.out _ _ H.out.all (fun hHeld => ?_)
        clear hK K
        refine norm_ (a' := ?_) ?_ ?_
        rotate_left
        · show Act.put _ (some 115) _ = _
          simp only [Act.put, List.setIfInBounds_toArray, List.set_cons_zero, List.set_cons_succ, i64_w, i32_w]
          rfl
        refine one_ (i := 2) (N := some 116) #[true, true, true, false, false, false, false, false] rfl rfl (one_of HT_.out (by kernel_rfl)) (by decide) (fun K hK => ?_)
        refine gsz Tryz.func48 #[.agg #[.int .i64 s0, .int .i64 s1], .agg #[.int .i64 8388608, .int .i64 (-123)]] ?_
        with_reducible refine (Q.real_Cmp.calls s0 s1 8388608 (-123) c 0 _ HCM.out).mono ?_
        rintro _ w' ⟨rfl, hb⟩
        refine ⟨_, rfl, ?_⟩
        replace H := Lib.hid (H.out.step hb)
        clear hb
        refine hK.out _ _ H.out.all (fun hHeld => ?_)
        clear hK K
        refine norm_ (a' := ?_) ?_ ?_
        rotate_left
        · show Act.put _ (some 116) _ = _
          simp only [Act.put, List.setIfInBounds_toArray, List.set_cons_zero, List.set_cons_succ, i64_w, i32_w]
          rfl
        refine pur 3 (some 113) #[tt,tt,tt,tt,ff,ff,ff,ff] ?_
        refine pur 4 (some 117) #[tt,tt,tt,tt,tt,ff,ff,ff] ?_
        refine pur 5 (some 118) #[tt,tt,tt,tt,tt,tt,ff,ff] ?_
        refine pur 6 (some 17) #[tt,tt,tt,tt,tt,tt,tt,ff] ?_
        refine pur 7 (some 7) #[tt,tt,tt,tt,tt,tt,tt,tt] ?_
        refine done_ (done_of HT_.out (by kernel_rfl)) ?_
        clear hHeld HT_ HW_
        generalize hwg : w' = wg at H ⊢
        clear hwg
        obtain ⟨⟨fb_0, fb_1, fb_2, fb_3, fb_4⟩, ⟨fa_0, fa_1, fa_2, fa_3, fa_4⟩, ⟨fmi_0, fmi_1, fmi_2, fmi_3, fmi_4⟩, ⟨fp_0, fp_1, fp_2, fp_3, fp_4⟩, ⟨fpr_0, fpr_1, fpr_2, fpr_3, fpr_4⟩, ⟨fsq_0, fsq_1, fsq_2, fsq_3, fsq_4⟩, ⟨fone_0, fone_1, fone_2, fone_3, fone_4⟩, ⟨fx_0, fx_1, fx_2, fx_3, fx_4⟩, -⟩ := H.out.all
        go_wp2_with fail
        refine (real_Abs.calls x0 x1 u0 u1 0 _ HAB.out).mono ?_
        rintro _ w12 ⟨rfl, hb⟩
        replace H := Lib.hid (show Bs w [(w11.heap.size, a0, a1), (w10.heap.size, a0, a1), (w9.heap.size, m0, m1), (w8.heap.size, p0, p1), (w4.heap.size, s0, s1), (w3.heap.size, s0, s1), (w2.heap.size, x0, x1), (w1.heap.size, x0, x1)] w12 from (H.out).step hb)
        clear fb_0 fb_1 fb_2 fb_3 fb_4 fa_0 fa_1 fa_2 fa_3 fa_4 fmi_0 fmi_1 fmi_2 fmi_3 fmi_4 fp_0 fp_1 fp_2 fp_3 fp_4 fpr_0 fpr_1 fpr_2 fpr_3 fpr_4 fsq_0 fsq_1 fsq_2 fsq_3 fsq_4 fone_0 fone_1 fone_2 fone_3 fone_4 fx_0 fx_1 fx_2 fx_3 fx_4
        clear hb
        obtain ⟨⟨fb_0, fb_1, fb_2, fb_3, fb_4⟩, ⟨fa_0, fa_1, fa_2, fa_3, fa_4⟩, ⟨fmi_0, fmi_1, fmi_2, fmi_3, fmi_4⟩, ⟨fp_0, fp_1, fp_2, fp_3, fp_4⟩, ⟨fpr_0, fpr_1, fpr_2, fpr_3, fpr_4⟩, ⟨fsq_0, fsq_1, fsq_2, fsq_3, fsq_4⟩, ⟨fone_0, fone_1, fone_2, fone_3, fone_4⟩, ⟨fx_0, fx_1, fx_2, fx_3, fx_4⟩, -⟩ := H.out.all
        go_wp2_with fail
        refine (HSQ.out (by first | rfl | trivial) _).mono ?_
        rintro _ w13 ⟨rfl, hb⟩
        replace H := Lib.hid (show Bs w [(w12.heap.size, u0, u1), (w11.heap.size, a0, a1), (w10.heap.size, a0, a1), (w9.heap.size, m0, m1), (w8.heap.size, p0, p1), (w4.heap.size, s0, s1), (w3.heap.size, s0, s1), (w2.heap.size, x0, x1), (w1.heap.size, x0, x1)] w13 from ((H.out).box (u0) (u1)).step hb)
        clear fb_0 fb_1 fb_2 fb_3 fb_4 fa_0 fa_1 fa_2 fa_3 fa_4 fmi_0 fmi_1 fmi_2 fmi_3 fmi_4 fp_0 fp_1 fp_2 fp_3 fp_4 fpr_0 fpr_1 fpr_2 fpr_3 fpr_4 fsq_0 fsq_1 fsq_2 fsq_3 fsq_4 fone_0 fone_1 fone_2 fone_3 fone_4 fx_0 fx_1 fx_2 fx_3 fx_4
        clear hb
        obtain ⟨⟨fab_0, fab_1, fab_2, fab_3, fab_4⟩, ⟨fb_0, fb_1, fb_2, fb_3, fb_4⟩, ⟨fa_0, fa_1, fa_2, fa_3, fa_4⟩, ⟨fmi_0, fmi_1, fmi_2, fmi_3, fmi_4⟩, ⟨fp_0, fp_1, fp_2, fp_3, fp_4⟩, ⟨fpr_0, fpr_1, fpr_2, fpr_3, fpr_4⟩, ⟨fsq_0, fsq_1, fsq_2, fsq_3, fsq_4⟩, ⟨fone_0, fone_1, fone_2, fone_3, fone_4⟩, ⟨fx_0, fx_1, fx_2, fx_3, fx_4⟩, -⟩ := H.out.all
        go_wp2_with fail
        replace H := Lib.hid (show Bs w [(w13.heap.size, r0, r1), (w12.heap.size, u0, u1), (w11.heap.size, a0, a1), (w10.heap.size, a0, a1), (w9.heap.size, m0, m1), (w8.heap.size, p0, p1), (w4.heap.size, s0, s1), (w3.heap.size, s0, s1), (w2.heap.size, x0, x1), (w1.heap.size, x0, x1)] _ from (H.out).box (r0) (r1))
        refine (manorboylaw02_sanity.calls k true _ HS.out rfl (tabAt HT.out H.out.1)).mono ?_
        rintro _ wz ⟨rfl, hb⟩
        replace H := Lib.hid (H.out.step hb)
        clear fab_0 fab_1 fab_2 fab_3 fab_4 fb_0 fb_1 fb_2 fb_3 fb_4 fa_0 fa_1 fa_2 fa_3 fa_4 fmi_0 fmi_1 fmi_2 fmi_3 fmi_4 fp_0 fp_1 fp_2 fp_3 fp_4 fpr_0 fpr_1 fpr_2 fpr_3 fpr_4 fsq_0 fsq_1 fsq_2 fsq_3 fsq_4 fone_0 fone_1 fone_2 fone_3 fone_4 fx_0 fx_1 fx_2 fx_3 fx_4
        clear hb
        obtain ⟨⟨fro_0, fro_1, fro_2, fro_3, fro_4⟩, ⟨fab_0, fab_1, fab_2, fab_3, fab_4⟩, -, -, -, -, -, -, -, -, -⟩ := H.out.all
        have hB := H.out.1
        by_cases hc0 : c < 0
        · have hcb : decide (c < 0) = true := decide_eq_true hc0
          go_wp2
          go_ret
          exact ⟨rfl, hB⟩
        · have hcb : decide (c < 0) = false := decide_eq_false hc0
          obtain ⟨rfl, rfl⟩ : r0 = u0 ∧ r1 = u1 := (HFI.out (by first | rfl | trivial)).resolve_left hc0
          go_wp2
          go_ret
          exact ⟨rfl, hB⟩
      · have hs2b : (s2 == 0) = false := beq_eq_false_iff_ne.mpr hs2
        have hs2c : (s2 != 0) = true := bne_iff_ne.mpr hs2
        go_wp2_with fail
        refine (manorboylaw02_sanity.calls k true _ HS.out rfl (tabAt HT.out H.out.1)).mono ?_
        rintro _ w' ⟨rfl, hb⟩
        have hB := (H.out.step hb).1
        clear hb
        go_wp2
        go_ret
        exact ⟨rfl, hB⟩
end Go.Proofs.YteigbokklclmbaaGreatDoor.Z.Y
end
section
namespace Go.Proofs.YteigbokklclmbaaGreatDoor.M
open Go Go.RowKit Go.Proofs.YteigbokklclmbaaGreatDoor.Given Go.Proofs.YteigbokklclmbaaGreatDoorW.PrintWords Go.Proofs.YteigbokklclmbaaGreatDoorW.PrintLast Go.Proofs.YteigbokklclmbaaGreatDoorW.PrintMore Go.Proofs.YteigbokklclmbaaGreatDoor.Z Go.Proofs.YteigbokklclmbaaGreatDoor.Z.Y Go.Proofs.YteigbokklclmbaaGreatDoor.Z.Y.V Go.Proofs.YteigbokklclmbaaGreatDoor.Z.Y.Q
theorem two_of2 : real_FromIntN.f 60 2 = some (8388608, -22) := by kernel_rfl
theorem from_two2 : Ev (fun k => real_FromIntN.f k 2) (8388608, -22) := Ev.of (fun k => real_FromIntN.mono 2 k) two_of2
theorem rl_two : rl 1082130432 = (8388608, -22) := by kernel_rfl
theorem rl_m100 : rl 234881024 = (8388608, -123) := by kernel_rfl
theorem VR_two : VR 8388608 (-22) := by have h := rl_VR (n := 1082130432) ⟨by decide, by decide⟩; rw [rl_two] at h; exact h
theorem VR_m100 : VR 8388608 (-123) := by have h := rl_VR (n := 234881024) ⟨by decide, by decide⟩; rw [rl_m100] at h; exact h
theorem w_23' : I64 8388608 := ⟨by decide, by decide⟩
theorem vv_m100 : vv 8388608 (-123) = 2 ^ 50 := by decide +kernel
theorem res3_VR' (n : Bool) (I : Nat) : VR (res3 n I).1 (res3 n I).2.1 ∧ I64 (res3 n I).1 := by
  by_cases h : 2533359615 < I
  · unfold res3; rw [if_pos h]; exact ⟨zero_VR, ⟨by decide, by decide⟩⟩
  · rw [res3_in (Nat.not_lt.1 h)]; exact res_VR (Nat.not_lt.1 h)
theorem res3_ok' {n : Bool} {I : Nat} (h : (res3 n I).2.2 = 0) : I ≤ 2533359615 := by
  by_cases hI : 2533359615 < I
  · unfold res3 at h; rw [if_pos hI] at h; exact absurd h (by decide)
  · omega
theorem cmpI_ge {x y : Int} (h : ¬ cmpI x y < 0) : y ≤ x := by
  unfold cmpI at h
  by_cases h1 : x < y
  · rw [if_pos h1] at h; exact absurd (by decide) h
  · omega
theorem Abs_ev {a b : Int} (hw : I64 a) (h : VR a b) : real_Abs.f a b = some ((atI (ix a b)).1, (atI (ix a b)).2, 0) := by
  obtain ⟨_, _, hw', _⟩ := neg_VR hw h
  rw [ix_at hw h, real_Abs.f, Valid_ev h, Option.bind_some, if_pos rfl, signed_is (decide (a < 0)) (a, b), Option.bind_some]
  by_cases hn : a < 0
  · rw [if_pos (decide_eq_true hn)]
    show some (wrap64 (-a), b, 0) = _
    rw [hw', show -a = ((a.natAbs : Nat) : Int) by omega]
  · rw [if_neg (by rw [decide_eq_false hn]; decide)]
    show some (a, b, 0) = _
    rw [show a = ((a.natAbs : Nat) : Int) by omega]; rfl
theorem sgn_f (p : Int × Int) : sgn false p = p := rfl
theorem atI_pow (u : Nat) : atI (8388608 + u * 8388608) = (8388608, (u : Int) - 150) := by
  have h1 : sh (8388608 + u * 8388608) = u := by unfold sh; omega
  have h2 : man (8388608 + u * 8388608) = 8388608 := by unfold man; rw [h1]; omega
  unfold atI
  rw [if_neg (by omega), h1, h2]; rfl
theorem pw_VR {u : Nat} (hu : u ≤ 300) : VR 8388608 ((u : Int) - 150) := by
  have h := (res_VR (neg := false) (I := 8388608 + u * 8388608) (by omega)).1
  rw [sgn_f, atI_pow] at h
  exact h
theorem pw_ix {u : Nat} : ix 8388608 ((u : Int) - 150) = 8388608 + u * 8388608 := by
  unfold ix
  rw [if_neg (by decide)]; omega
theorem pw_sgnr {u : Nat} (hu : u ≤ 300) : sgnr false (8388608 + u * 8388608) = (8388608, (u : Int) - 150) := by
  rw [sgnr_in (by omega), sgn_f, atI_pow]
theorem pw_G (u : Nat) : G (8388608 + u * 8388608) = 2 ^ (23 + u) := by rw [G_at 8388608 u (by decide) (.inr (by decide)), Nat.pow_add]
theorem prodP {u v t : Nat} (hu : u ≤ 300) (hv : v ≤ 300) (ht : t + 127 = u + v) (h2 : t ≤ 300) : Ev (fun k => real_product.f k 8388608 ((u : Int) - 150) 8388608 ((v : Int) - 150)) (8388608, (t : Int) - 150) := by
  have hp := product_ev2 w_23' w_23' (pw_VR hu) (pw_VR hv) (I := 8388608 + t * 8388608) (by
    have h := Rd.exact (8388608 + t * 8388608) (2 ^ 150) (Nat.two_pow_pos _)
    have e : G (8388608 + t * 8388608) * 2 ^ 150 = G (ix 8388608 ((u : Int) - 150)) * G (ix 8388608 ((v : Int) - 150)) := by
      rw [pw_ix, pw_ix, pw_G, pw_G, pw_G, ← Nat.pow_add, ← Nat.pow_add]
      congr 1; omega
    rw [e] at h; exact h)
  rw [bne_self_eq_false, pw_sgnr h2] at hp
  exact hp
theorem pw2 : ∀ n : Nat, n ≤ 173 → Ev (fun k => real_power.f k 8388608 (-22) (n : Int)) (8388608, ((n + 127 : Nat) : Int) - 150)
  | 0, _ => power_zero _ _
  | n + 1, hn => by
    by_cases ho : (n + 1) % 2 = 1
    · have h := pw2 n (by omega)
      have hp := prodP (u := 128) (v := n + 127) (t := n + 1 + 127) (by decide) (by omega) (by omega) (by omega)
      refine Ev.step (f := fun k => (real_power.f k 8388608 (-22) (n : Int)).bind fun y => if y.2 = 1000 then some y else real_product.f k 8388608 (-22) y.1 y.2) (fun k => by
        rw [real_power.f, if_neg (by omega), if_pos (by omega), show (((n + 1 : Nat) : Int) - 1) = (n : Int) by omega]) ?_
      exact Ev.bind h (Ev.congr (fun k => by rw [if_neg (by dsimp only; omega)]; rfl) hp)
    · have h := pw2 ((n + 1) / 2) (by omega)
      have hp := prodP (u := (n + 1) / 2 + 127) (v := (n + 1) / 2 + 127) (t := n + 1 + 127) (by omega) (by omega) (by omega) (by omega)
      refine Ev.step (f := fun k => (real_power.f k 8388608 (-22) (((n + 1) / 2 : Nat) : Int)).bind fun y => if y.2 = 1000 then some y else real_product.f k y.1 y.2 y.1 y.2) (fun k => by
        rw [real_power.f, if_neg (by omega), if_neg (by omega), show (((n + 1 : Nat) : Int) / 2) = (((n + 1) / 2 : Nat) : Int) by omega]) ?_
      exact Ev.bind h (Ev.congr (fun k => by rw [if_neg (by dsimp only; omega)]) hp)
  termination_by n => n
theorem pw_caught {u : Nat} (hu : u ≤ 300) : caughtS 8388608 ((u : Int) - 150) = (8388608, (u : Int) - 150, 0) := by
  have h := caught_is false (8388608 + u * 8388608)
  rw [pw_sgnr hu, res3_in (by omega)] at h
  rw [h, sgn_f, atI_pow]
theorem pow_two_all (n : Int) (h0 : -126 ≤ n) (h1 : n ≤ 173) : Ev (fun k => real_Pow.f k 8388608 (-22) n) (8388608, n - 23, 0) := by
  have v2 : VR 8388608 (-22) := VR_two
  by_cases hn : 0 ≤ n
  · have h := pw2 n.natAbs (by omega)
    rw [show ((n.natAbs : Nat) : Int) = n by omega] at h
    have e := pw_caught (u := n.natAbs + 127) (by omega)
    rw [show ((n.natAbs + 127 : Nat) : Int) - 150 = n - 23 by omega] at h e
    rw [← e]
    exact Ev.congr (f := fun k => (real_power.f k 8388608 (-22) n).bind fun r => some (caughtS r.1 r.2)) (fun k => by
      unfold real_Pow.f; rw [Valid_ev v2, Option.bind_some, if_pos rfl, if_neg (by omega), if_pos hn]) (Ev.bind h (Ev.now _))
  · have h := pw2 n.natAbs (by omega)
    rw [show ((n.natAbs : Nat) : Int) = -n by omega] at h
    have hq := quotient_ev2 (x0 := 8388608) (x1 := ((127 : Nat) : Int) - 150) w_23' w_23' (pw_VR (by decide)) (pw_VR (u := n.natAbs + 127) (by omega)) (by decide) (I := 8388608 + (127 - n.natAbs) * 8388608) (by
      have hr := Rd.exact (8388608 + (127 - n.natAbs) * 8388608) (G (ix 8388608 (((n.natAbs + 127 : Nat) : Int) - 150))) (by rw [pw_ix, pw_G]; exact Nat.two_pow_pos _)
      have e : G (8388608 + (127 - n.natAbs) * 8388608) * G (ix 8388608 (((n.natAbs + 127 : Nat) : Int) - 150)) = G (ix 8388608 (((127 : Nat) : Int) - 150)) * 2 ^ 150 := by
        rw [pw_ix, pw_ix, pw_G, pw_G, pw_G, ← Nat.pow_add, ← Nat.pow_add]
        congr 1; omega
      rw [e] at hr; exact hr)
    rw [bne_self_eq_false, pw_sgnr (by omega), show (((127 - n.natAbs : Nat) : Int) - 150) = n - 23 by omega] at hq
    have e := pw_caught (u := 127 - n.natAbs) (by omega)
    rw [show (((127 - n.natAbs : Nat) : Int) - 150) = n - 23 by omega] at e
    rw [← e]
    have h2 : Ev (fun k => real_pow2.f k 8388608 (-22) n) (8388608, n - 23) := Ev.bind h (Ev.congr (fun k => by rw [if_neg (by dsimp only; omega), if_neg (show ¬ (8388608 : Int) = 0 by decide)]; rfl) hq)
    exact Ev.congr (f := fun k => (real_pow2.f k 8388608 (-22) n).bind fun r => some (caughtS r.1 r.2)) (fun k => by
      unfold real_Pow.f; rw [Valid_ev v2, Option.bind_some, if_pos rfl, if_neg (fun h => absurd h.1 (by decide)), if_neg hn]) (Ev.bind h2 (Ev.now _))
def PowlH (k : Nat) (i n : Int) : Prop := I64 n ∧ ∃ x0 x1 s0 s1 s2 p0 p1 p2 m0 m1 a0 a1 a2 b0 b1 c u0 u1 r0 r1 : Int, (manorboylaw02_at.f i = some (x0, x1)) ∧ (real_Pow.f k x0 x1 1 = some (x0, x1, 0)) ∧ (real_Pow.f k x0 x1 2 = some (s0, s1, s2)) ∧ (real_Mul.f k x0 x1 x0 x1 = some (s0, s1, s2)) ∧ (real_FromIntN.f k 2 = some (8388608, -22)) ∧ (real_Pow.f k 8388608 (-22) n = some (p0, p1, p2)) ∧ (-126 ≤ n → n ≤ 173 → p0 = 8388608 ∧ p1 = n - 23 ∧ p2 = 0) ∧ (real_Neg.f x0 x1 = some (m0, m1, 0)) ∧ (real_Pow.f k x0 x1 n = some (a0, a1, a2)) ∧ (real_Pow.f k m0 m1 n = some (b0, b1, a2)) ∧ (¬ Int.tmod n 2 = 0 → real_Neg.f b0 b1 = some (a0, a1, 0)) ∧ (Int.tmod n 2 = 0 → b0 = a0 ∧ b1 = a1) ∧ (real_Cmp.f s0 s1 8388608 (-123) = some (c, 0)) ∧ (real_Abs.f x0 x1 = some (u0, u1, 0)) ∧ (s2 = 0 → SqrtIs s0 s1 r0 r1 0) ∧ (s2 = 0 → c < 0 ∨ (r0 = u0 ∧ r1 = u1)) ∧ (manorboylaw02_sanity.f k = some true)
theorem powl_pure (i n : Int) (_ : I64 i) (wn : I64 n) : ∃ k, PowlH k i n := by
  have hi := tmod_IR i
  have ei : manorboylaw02_at.f i = some ((rl (Int.tmod i 2533359616)).1, (rl (Int.tmod i 2533359616)).2) := law_at_ev i
  generalize Int.tmod i 2533359616 = I at *
  have wx := rl_64 hi
  have vx := rl_VR hi
  generalize (rl I).1 = x0 at *
  generalize (rl I).2 = x1 at *
  have hX := ix_le wx vx
  obtain ⟨Is, hR⟩ := rd_ex hX hX
  obtain ⟨k1, E1⟩ := Pow_one wx vx
  obtain ⟨⟨k2, E2⟩, ⟨k3, E3⟩⟩ := Pow_two wx vx hR
  obtain ⟨kf, Ef⟩ := from_two2
  obtain ⟨p, ⟨kp, Ep⟩, hp⟩ : ∃ p : Int × Int × Int, Ev (fun k => real_Pow.f k 8388608 (-22) n) p ∧ (-126 ≤ n → n ≤ 173 → p.1 = 8388608 ∧ p.2.1 = n - 23 ∧ p.2.2 = 0) := by
    by_cases h : -126 ≤ n ∧ n ≤ 173
    · exact ⟨_, pow_two_all n h.1 h.2, fun _ _ => ⟨rfl, rfl, rfl⟩⟩
    · rcases Pow_ex (ix_le w_23' VR_two) n with ⟨_, _, h'⟩ | ⟨J, _, h'⟩
      · exact ⟨_, h' _ _ w_23' VR_two rfl, fun h1 h2 => absurd ⟨h1, h2⟩ h⟩
      · exact ⟨_, h' _ _ w_23' VR_two rfl, fun h1 h2 => absurd ⟨h1, h2⟩ h⟩
  obtain ⟨a, b, ⟨ka, Ea⟩, ⟨kb, Eb⟩, hab, hod, hev⟩ := pow_sign wx vx n
  obtain ⟨ks, Es⟩ := sanity_ev
  obtain ⟨vs', ws'⟩ := res3_VR' false Is
  have hc := CmpV_ev ws' w_23' vs' VR_m100
  obtain ⟨r0, r1, hsq, hfi⟩ : ∃ r0 r1 : Int, ((res3 false Is).2.2 = 0 → SqrtIs (res3 false Is).1 (res3 false Is).2.1 r0 r1 0) ∧ ((res3 false Is).2.2 = 0 → cmpI (vv (res3 false Is).1 (res3 false Is).2.1) (vv 8388608 (-123)) < 0 ∨ (r0 = (atI (ix x0 x1)).1 ∧ r1 = (atI (ix x0 x1)).2)) := by
    by_cases hov : (res3 false Is).2.2 = 0
    · have hIs := res3_ok' hov
      have hv : vv (res3 false Is).1 (res3 false Is).2.1 = ((G Is : Nat) : Int) := by rw [res3_in hIs, vv_sgn false Is hIs]; rfl
      have h0 : 0 ≤ (res3 false Is).1 := by rw [res3_in hIs]; exact (atI_bd Is hIs).1
      obtain ⟨M, R, s, a, J, hS, hC⟩ := sqrt_ev ws' vs' h0
      rw [hv] at hS
      have hJ := root_in hIs hS
      refine ⟨(res3 false J).1, (res3 false J).2.1, fun _ w => ?_, fun _ => ?_⟩
      · have h := hC w
        rw [show (res3 false J).2.2 = 0 by rw [res3_in hJ]] at h
        exact h
      · by_cases hlt : cmpI (vv (res3 false Is).1 (res3 false Is).2.1) (vv 8388608 (-123)) < 0
        · exact .inl hlt
        · right
          have hge := cmpI_ge hlt
          rw [hv, vv_m100] at hge
          have hbig : 2 ^ 50 ≤ G Is := by
            have h2 : ((2 ^ 50 : Nat) : Int) ≤ ((G Is : Nat) : Int) := hge
            exact Int.ofNat_le.1 h2
          have := sq_root hR hbig hS
          subst this
          rw [res3_in hJ]
          exact ⟨rfl, rfl⟩
    · exact ⟨0, 0, fun h => absurd h hov, fun h => absurd h hov⟩
  obtain ⟨K, hK⟩ : ∃ K, K = k1 + k2 + k3 + kf + kp + ka + kb + ks := ⟨_, rfl⟩
  refine ⟨K, wn, x0, x1, (res3 false Is).1, (res3 false Is).2.1, (res3 false Is).2.2, p.1, p.2.1, p.2.2, -x0, x1, a.1, a.2.1, a.2.2, b.1, b.2.1, _, _, _, r0, r1,
    ei, E1 K (by omega), E2 K (by omega), E3 K (by omega), Ef K (by omega), Ep K (by omega), hp, Neg_ev wx vx, Ea K (by omega), ?_, hod, hev, hc, Abs_ev wx vx, hsq, hfi, Es K (by omega)⟩
  rw [← hab]; exact Eb K (by omega)
theorem powl_calls (k : Nat) (i n : Int) (r : Bool) (w : World) (h : PowlH k i n) (hr : r = true) (ht : Table w) :
    Calls Tryz.prog 16 #[.int .i64 i, .int .i64 n] w fun e w' => e = .returned (.bool r) ∧ Below w.heap.size w w' := by
  subst hr
  obtain ⟨hn, x0, x1, s0, s1, s2, p0, p1, p2, m0, m1, a0, a1, a2, b0, b1, c, u0, u1, r0, r1, gq0, gq1, gq2, gq3, gq4, gq5, gq6, gq7, gq8, gq9, gq10, gq11, gq12, gq13, gq14, gq15, gq16⟩ := h
  exact powl_c k i n x0 x1 s0 s1 s2 p0 p1 p2 m0 m1 a0 a1 a2 b0 b1 c u0 u1 r0 r1 hn.1 (by have := hn.2; omega) gq0 gq1 gq2 gq3 gq4 gq5 gq6 gq7 gq8 gq9 gq10 gq11 gq12 gq13 gq14 gq15 gq16 w ht
end Go.Proofs.YteigbokklclmbaaGreatDoor.M
end
section
namespace Go.Proofs.YteigbokklclmbaaGreatDoor.Given
open Go
theorem gT : Tryz.prog.globalNamed "internal/strconv.uint64pow10" = some 0 := by kernel_rfl
theorem gTType : (Tryz.prog.globals[0]?).map (·.type) = some 188 := by kernel_rfl
theorem pow10_datum : (Rows.laid_internal_strconv_uint64pow10 : DataW Unit) = Lib.tabData .u64 Lib.pow10Tab := by kernel_rfl
theorem table_of {W : World} (h : laidMet Tryz.prog [("math/bits.deBruijn32tab", Rows.laid_math_bits_deBruijn32tab), ("math/bits.deBruijn64tab", Rows.laid_math_bits_deBruijn64tab), ("internal/strconv.uint64pow10", Rows.laid_internal_strconv_uint64pow10), ("unicode/utf8.acceptRanges", Rows.laid_unicode_utf8_acceptRanges), ("unicode/utf8.first", Rows.laid_unicode_utf8_first)] W) : Z.Table W := by
  obtain ⟨ps, ⟨_, _, _, _, _, _, _, _, _, _, ⟨_, _, _, _, _, _, _, _, _, _, ⟨g, t, cs, f, p, q, hg, ht, hv, hd, _, _⟩, _⟩, _⟩, _⟩ := h
  obtain rfl := Option.some.inj (gT.symm.trans hg)
  obtain rfl := Option.some.inj (gTType.symm.trans ht)
  rw [pow10_datum] at hd
  show Lib.TabIs _ _ _ _ _
  unfold Lib.TabIs
  rw [hv, ← Lib.cells_of_tab Tryz.underlying188 Tryz.underlying72 (by kernel_rfl) (by kernel_rfl) hd]
theorem i64_lit {a : Int} (h : (Lit.int IntKind.i64 a).wf = true) : -9223372036854775808 ≤ a ∧ a ≤ 9223372036854775807 := by
  have h1 : (decide ((-9223372036854775808 : Int) ≤ a) && decide (a ≤ (9223372036854775807 : Int))) = true := h
  simpa using h1
end Go.Proofs.YteigbokklclmbaaGreatDoor.Given
end
