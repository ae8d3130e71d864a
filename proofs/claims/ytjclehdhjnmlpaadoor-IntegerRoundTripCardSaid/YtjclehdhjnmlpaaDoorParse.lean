/- The walk of Parse: what it returns for every text. -/
import Derived.Test.YtjclehdhjnmlpaaDoorGiven2
import Derived.Deep.LoopGhost
import Derived.Lib.ConvBytes
namespace Go.Proofs.YtjclehdhjnmlpaaDoor.Given
open Go Go.RowKit Go.Proofs.YtjclehdhjnmlpaaDoorW.PrintWords Go.Proofs.YtjclehdhjnmlpaaDoorW.PrintLast Go.Proofs.YtjclehdhjnmlpaaDoorW.PrintMore
attribute [local go_sem] max2_int min2_int max_two min_two max_three min_three max_four min_four
set_option linter.unusedVariables false
set_option linter.unusedSimpArgs false

def isDig (x : Int) : Bool := decide (48 ≤ x ∧ x ≤ 57)
def pstep (n x : Int) : Int := mn (10 * n + (x - 48)) 2147483648
def valP (d : ByteArray) : Nat → Int
  | 0 => 0
  | k + 1 => pstep (valP d k) (bt d k)
def parseD (neg : Bool) (d : ByteArray) : Int × Int :=
  if d.size = 0 then (0, 7) else if ∀ k : Nat, k < d.size → isDig (bt d k) = true then rng (if neg = true then -(valP d d.size) else valP d d.size) else (0, 7)
def integer_Parse.f (a : ByteArray) : Option (Int × Int) :=
  if a.size ≤ 9223372036854775807 then some (if a.size = 0 then (0, 7) else if bt a 0 = 45 then parseD true (a.extract 1 a.size) else if bt a 0 = 43 then parseD false (a.extract 1 a.size) else parseD false a) else none
theorem bt_in (d : ByteArray) (k : Int) : 0 ≤ bt d k ∧ bt d k ≤ 255 := by
  unfold bt; split
  · rename_i h
    have := (d[k.toNat]'h).toNat_lt
    omega
  · omega
theorem pstep_in {n x : Int} (h1 : 0 ≤ n) (h2 : n ≤ 2147483648) (h3 : 48 ≤ x) : 0 ≤ pstep n x ∧ pstep n x ≤ 2147483648 := by
  unfold pstep mn; split <;> omega
theorem valP_in (d : ByteArray) : ∀ k : Nat, (∀ i : Nat, i < k → isDig (bt d i) = true) → 0 ≤ valP d k ∧ valP d k ≤ 2147483648
  | 0, _ => ⟨Int.le_refl _, by show (0 : Int) ≤ _; omega⟩
  | k + 1, h => by
    have ih := valP_in d k (fun i hi => h i (by omega))
    have := h k (by omega)
    exact pstep_in ih.1 ih.2 (by unfold isDig at this; simp at this; omega)
theorem toList_size (a : ByteArray) : a.toList.isEmpty = decide (a.size = 0) := by
  rw [ByteArray.toList_eq]
  cases h : a.data.toList with
  | nil => have : a.data.toList.length = 0 := by rw [h]; rfl
           have : a.size = 0 := by simpa using this
           simp [this]
  | cons x r => have : a.data.toList.length = r.length + 1 := by rw [h]; rfl
                have : a.size = r.length + 1 := by simpa using this
                simp [this]
set_option maxRecDepth 100000 in
set_option maxHeartbeats 16000000 in
theorem parse_minus (a : ByteArray) (w : World) (h0 : 0 < a.size) (hc : bt a 0 = 45) (hm : a.size ≤ 9223372036854775807) :
    Calls Tryd.prog 5 #[.string a] w fun e w' => e = .returned (.tuple #[.int .i64 (parseD true (a.extract 1 a.size)).1, .int .i64 (parseD true (a.extract 1 a.size)).2]) ∧ Below w.heap.size w w' := by
  have hE : a.toList.isEmpty = false := by rw [toList_size]; exact decide_eq_false (by omega)
  have hx : ∀ h : 0 < a.size, ((a[0]'h).toNat : Int) = bt a 0 := bt_at a 0
  have q : (0 < a.size) = True := eq_true h0
  have qi : (0 < (a.size : Int)) = True := eq_true (by omega)
  have q1 : (1 : Int) ≤ (a.size : Int) := by omega
  have q2 : ((a.size : Int) < 1) = False := eq_false (by omega)
  have q3 : a.size ≤ 9223372036854775807 := hm
  obtain ⟨d, hd⟩ : ∃ d, a.extract 1 a.size = d := ⟨_, rfl⟩
  have hds : d.size ≤ 9223372036854775807 := by rw [← hd]; rw [ByteArray.size_extract]; exact Nat.le_trans (Nat.sub_le _ _) (by omega)
  rw [hd]
  have HD := Lib.hid hd
  by_cases hz : d.size = 0
  · have e : parseD true d = (0, 7) := by unfold parseD; rw [if_pos hz]
    rw [e]
    have hE2 : (a.extract 1 a.size).toList.isEmpty = true := by rw [hd]; rw [toList_size]; exact decide_eq_true hz
    clear e hz hds hd h0 hm
    go_enter Tryd.func5, Tryd.ntmps5
    go_wp2
    go_ret2
    exact ⟨rfl, Below.refl _ w⟩
  · have hE2 : (a.extract 1 a.size).toList.isEmpty = false := by rw [hd]; rw [toList_size]; exact decide_eq_false hz
    obtain ⟨r, hr⟩ : ∃ r, parseD true d = r := ⟨_, rfl⟩
    have HR := Lib.hid hr
    rw [hr]
    clear hr hd hm h0
    go_enter Tryd.func5, Tryd.ntmps5
    go_wp2
    rw [HD.out]
    rw [Lib.run_convert_string_bytes w 9 33 5 d (u := .string) Tryd.underlying9 Tryd.underlying33 Tryd.underlying5]
    have hcell : ∀ j : Nat, j < d.size → (Lib.bytesWorld w 5 d).cell? ⟨w.heap.size, j, none⟩ = some (.int .u8 (bt d j)) := fun j hj => by
      rw [Lib.bytesWorld_cell w 5 d j hj, ← bt_at d j hj]
      simp [List.getD, hj]; rfl
    have hBW : Below w.heap.size w (Lib.bytesWorld w 5 d) := bytes_below (Below.refl _ w) (Nat.le_refl _) 5 d
    generalize Lib.bytesWorld w 5 d = W1 at hcell hBW ⊢
    generalize grownCap w d.size 0 5 = cp
    have HC := Lib.hid hcell
    clear hcell
    go_wp2_with fail
    go_loopg [5, 7, 28] d.size (fun kq v5 v7 v28 wr => ∃ k : Nat, kq + k = d.size ∧ v28 = .int .i64 k ∧ v5 = .int .i64 (valP d k) ∧ wr = W1 ∧ Hid (∀ i : Nat, i < k → isDig (bt d i) = true))
    case atStart => exact ⟨0, rfl, rfl, rfl, rfl, fun i hi => by omega⟩
    case round =>
      obtain ⟨k, hk, rfl, rfl, rfl, HK⟩ := hrel
      by_cases hkd : k = d.size
      · have hb : d.size = k := hkd.symm
        have hv := valP_in d k HK.out
        have HR2 : Hid (r = rng (if true = true then -(valP d k) else valP d k)) := Lib.hid (by rw [← HR.out]; unfold parseD; rw [if_neg hz, if_pos (by rw [hb]; exact HK.out), hb])
        obtain ⟨n, hn⟩ : ∃ n, valP d k = n := ⟨_, rfl⟩
        rw [hn] at hv HR2 ⊢
        have HG := Lib.hid (wrap_small (n := -n) (by omega) (by omega))
        have HN := Lib.hid hn
        have hlt : ((k : Int) < (d.size : Int)) = False := eq_false (by omega)
        clear HR hz hk hkd hn
        go_wp2_with fail
        refine (ranged_c _ _).mono ?_
        rintro e w5 ⟨rfl, rfl⟩
        go_wp2
        go_ret2
        exact ⟨by rw [HR2.out]; simp [HG.out], hBW⟩
      · obtain ⟨x, hxk⟩ : ∃ x, bt d k = x := ⟨_, rfl⟩
        have hxr := bt_in d k
        have hc := HC.out k (by omega)
        rw [hxk] at hxr hc
        have hlt : ((k : Int) < (d.size : Int)) = True := eq_true (by omega)
        have hklt : (k : Int) < (d.size : Int) := by omega
        have hk0 : (0 : Int) ≤ (k : Int) := by omega
        have hkq : (k : Int).toNat = k := by omega
        have HW := Lib.hid (wrap_small (n := (k : Int) + 1) (by omega) (by omega))
        have hv := valP_in d k HK.out
        by_cases hdig : isDig x = true
        · have h1 : 48 ≤ x ∧ x ≤ 57 := by unfold isDig at hdig; simpa using hdig
          have HS : Hid (valP d (k + 1) = pstep (valP d k) x) := Lib.hid (by show pstep _ (bt d k) = _; rw [hxk])
          have HK2 : Hid (∀ i : Nat, i < k + 1 → isDig (bt d i) = true) := Lib.hid (fun i hi => by
            by_cases e : i = k
            · subst e; rw [hxk]; exact hdig
            · exact HK.out i (by omega))
          obtain ⟨n, hn⟩ : ∃ n, valP d k = n := ⟨_, rfl⟩
          rw [hn] at hv HS ⊢
          have u1 : wrap64 (10 * n) = 10 * n := wrap_small (by omega) (by omega)
          have u2 : wrap64 (10 * n + (x - 48)) = 10 * n + (x - 48) := wrap_small (by omega) (by omega)
          have u3 : (x - 48) % 256 = x - 48 := by omega
          have l1 : (x < 48) = False := eq_false (by omega)
          have l2 : (57 < x) = False := eq_false (by omega)
          clear hxk hdig hn
          go_wp2
          all_goals go_roundg (d.size - (k + 1))
          all_goals try (case measure => omega)
          all_goals exact ⟨k + 1, by omega, rfl, congrArg _ (by rw [HS.out]; unfold pstep mn; split <;> omega), rfl, HK2⟩
        · have HR2 : Hid (r = (0, 7)) := Lib.hid (by rw [← HR.out]; unfold parseD; rw [if_neg hz, if_neg (fun h => hdig (by rw [← hxk]; exact h k (by omega)))])
          have h1 : ¬ (48 ≤ x ∧ x ≤ 57) := by unfold isDig at hdig; simpa using hdig
          clear HR hxk hdig
          by_cases h2 : x < 48
          · go_wp2
            go_ret2
            exact ⟨by rw [HR2.out]; rfl, hBW⟩
          · have h3 : 57 < x := by omega
            go_wp2
            go_ret2
            exact ⟨by rw [HR2.out]; rfl, hBW⟩
set_option maxRecDepth 100000 in
set_option maxHeartbeats 16000000 in
theorem parse_plus (a : ByteArray) (w : World) (h0 : 0 < a.size) (hc : bt a 0 = 43) (hm : a.size ≤ 9223372036854775807) :
    Calls Tryd.prog 5 #[.string a] w fun e w' => e = .returned (.tuple #[.int .i64 (parseD false (a.extract 1 a.size)).1, .int .i64 (parseD false (a.extract 1 a.size)).2]) ∧ Below w.heap.size w w' := by
  have hE : a.toList.isEmpty = false := by rw [toList_size]; exact decide_eq_false (by omega)
  have hx : ∀ h : 0 < a.size, ((a[0]'h).toNat : Int) = bt a 0 := bt_at a 0
  have q : (0 < a.size) = True := eq_true h0
  have qi : (0 < (a.size : Int)) = True := eq_true (by omega)
  have q1 : (1 : Int) ≤ (a.size : Int) := by omega
  have q2 : ((a.size : Int) < 1) = False := eq_false (by omega)
  have q3 : a.size ≤ 9223372036854775807 := hm
  obtain ⟨d, hd⟩ : ∃ d, a.extract 1 a.size = d := ⟨_, rfl⟩
  have hds : d.size ≤ 9223372036854775807 := by rw [← hd]; rw [ByteArray.size_extract]; exact Nat.le_trans (Nat.sub_le _ _) (by omega)
  rw [hd]
  have HD := Lib.hid hd
  by_cases hz : d.size = 0
  · have e : parseD false d = (0, 7) := by unfold parseD; rw [if_pos hz]
    rw [e]
    have hE2 : (a.extract 1 a.size).toList.isEmpty = true := by rw [hd]; rw [toList_size]; exact decide_eq_true hz
    clear e hz hds hd h0 hm
    go_enter Tryd.func5, Tryd.ntmps5
    go_wp2
    go_ret2
    exact ⟨rfl, Below.refl _ w⟩
  · have hE2 : (a.extract 1 a.size).toList.isEmpty = false := by rw [hd]; rw [toList_size]; exact decide_eq_false hz
    obtain ⟨r, hr⟩ : ∃ r, parseD false d = r := ⟨_, rfl⟩
    have HR := Lib.hid hr
    rw [hr]
    clear hr hd hm h0
    go_enter Tryd.func5, Tryd.ntmps5
    go_wp2
    rw [HD.out]
    rw [Lib.run_convert_string_bytes w 9 33 5 d (u := .string) Tryd.underlying9 Tryd.underlying33 Tryd.underlying5]
    have hcell : ∀ j : Nat, j < d.size → (Lib.bytesWorld w 5 d).cell? ⟨w.heap.size, j, none⟩ = some (.int .u8 (bt d j)) := fun j hj => by
      rw [Lib.bytesWorld_cell w 5 d j hj, ← bt_at d j hj]
      simp [List.getD, hj]; rfl
    have hBW : Below w.heap.size w (Lib.bytesWorld w 5 d) := bytes_below (Below.refl _ w) (Nat.le_refl _) 5 d
    generalize Lib.bytesWorld w 5 d = W1 at hcell hBW ⊢
    generalize grownCap w d.size 0 5 = cp
    have HC := Lib.hid hcell
    clear hcell
    go_wp2_with fail
    go_loopg [5, 7, 28] d.size (fun kq v5 v7 v28 wr => ∃ k : Nat, kq + k = d.size ∧ v28 = .int .i64 k ∧ v5 = .int .i64 (valP d k) ∧ wr = W1 ∧ Hid (∀ i : Nat, i < k → isDig (bt d i) = true))
    case atStart => exact ⟨0, rfl, rfl, rfl, rfl, fun i hi => by omega⟩
    case round =>
      obtain ⟨k, hk, rfl, rfl, rfl, HK⟩ := hrel
      by_cases hkd : k = d.size
      · have hb : d.size = k := hkd.symm
        have hv := valP_in d k HK.out
        have HR2 : Hid (r = rng (if false = true then -(valP d k) else valP d k)) := Lib.hid (by rw [← HR.out]; unfold parseD; rw [if_neg hz, if_pos (by rw [hb]; exact HK.out), hb])
        obtain ⟨n, hn⟩ : ∃ n, valP d k = n := ⟨_, rfl⟩
        rw [hn] at hv HR2 ⊢
        have HG := Lib.hid (wrap_small (n := -n) (by omega) (by omega))
        have HN := Lib.hid hn
        have hlt : ((k : Int) < (d.size : Int)) = False := eq_false (by omega)
        clear HR hz hk hkd hn
        go_wp2_with fail
        refine (ranged_c _ _).mono ?_
        rintro e w5 ⟨rfl, rfl⟩
        go_wp2
        go_ret2
        exact ⟨by rw [HR2.out]; simp [HG.out], hBW⟩
      · obtain ⟨x, hxk⟩ : ∃ x, bt d k = x := ⟨_, rfl⟩
        have hxr := bt_in d k
        have hc := HC.out k (by omega)
        rw [hxk] at hxr hc
        have hlt : ((k : Int) < (d.size : Int)) = True := eq_true (by omega)
        have hklt : (k : Int) < (d.size : Int) := by omega
        have hk0 : (0 : Int) ≤ (k : Int) := by omega
        have hkq : (k : Int).toNat = k := by omega
        have HW := Lib.hid (wrap_small (n := (k : Int) + 1) (by omega) (by omega))
        have hv := valP_in d k HK.out
        by_cases hdig : isDig x = true
        · have h1 : 48 ≤ x ∧ x ≤ 57 := by unfold isDig at hdig; simpa using hdig
          have HS : Hid (valP d (k + 1) = pstep (valP d k) x) := Lib.hid (by show pstep _ (bt d k) = _; rw [hxk])
          have HK2 : Hid (∀ i : Nat, i < k + 1 → isDig (bt d i) = true) := Lib.hid (fun i hi => by
            by_cases e : i = k
            · subst e; rw [hxk]; exact hdig
            · exact HK.out i (by omega))
          obtain ⟨n, hn⟩ : ∃ n, valP d k = n := ⟨_, rfl⟩
          rw [hn] at hv HS ⊢
          have u1 : wrap64 (10 * n) = 10 * n := wrap_small (by omega) (by omega)
          have u2 : wrap64 (10 * n + (x - 48)) = 10 * n + (x - 48) := wrap_small (by omega) (by omega)
          have u3 : (x - 48) % 256 = x - 48 := by omega
          have l1 : (x < 48) = False := eq_false (by omega)
          have l2 : (57 < x) = False := eq_false (by omega)
          clear hxk hdig hn
          go_wp2
          all_goals go_roundg (d.size - (k + 1))
          all_goals try (case measure => omega)
          all_goals exact ⟨k + 1, by omega, rfl, congrArg _ (by rw [HS.out]; unfold pstep mn; split <;> omega), rfl, HK2⟩
        · have HR2 : Hid (r = (0, 7)) := Lib.hid (by rw [← HR.out]; unfold parseD; rw [if_neg hz, if_neg (fun h => hdig (by rw [← hxk]; exact h k (by omega)))])
          have h1 : ¬ (48 ≤ x ∧ x ≤ 57) := by unfold isDig at hdig; simpa using hdig
          clear HR hxk hdig
          by_cases h2 : x < 48
          · go_wp2
            go_ret2
            exact ⟨by rw [HR2.out]; rfl, hBW⟩
          · have h3 : 57 < x := by omega
            go_wp2
            go_ret2
            exact ⟨by rw [HR2.out]; rfl, hBW⟩
set_option maxRecDepth 100000 in
set_option maxHeartbeats 16000000 in
theorem parse_plain (a : ByteArray) (w : World) (h0 : 0 < a.size) (hc : bt a 0 ≠ 45) (hc' : bt a 0 ≠ 43) (hm : a.size ≤ 9223372036854775807) :
    Calls Tryd.prog 5 #[.string a] w fun e w' => e = .returned (.tuple #[.int .i64 (parseD false (a)).1, .int .i64 (parseD false (a)).2]) ∧ Below w.heap.size w w' := by
  have hE : a.toList.isEmpty = false := by rw [toList_size]; exact decide_eq_false (by omega)
  have hx : ∀ h : 0 < a.size, ((a[0]'h).toNat : Int) = bt a 0 := bt_at a 0
  have q : (0 < a.size) = True := eq_true h0
  have qi : (0 < (a.size : Int)) = True := eq_true (by omega)
  have q1 : (1 : Int) ≤ (a.size : Int) := by omega
  have q2 : ((a.size : Int) < 1) = False := eq_false (by omega)
  have q3 : a.size ≤ 9223372036854775807 := hm
  have e1 : (bt a 0 == 45) = false := beq_eq_false_iff_ne.mpr hc
  have e2 : (bt a 0 == 43) = false := beq_eq_false_iff_ne.mpr hc'
  obtain ⟨d, hd⟩ : ∃ d, d = a := ⟨_, rfl⟩
  subst hd
  have hds := hm
  by_cases hz : d.size = 0
  · have e : parseD false d = (0, 7) := by unfold parseD; rw [if_pos hz]
    rw [e]
    have hE2 : (d).toList.isEmpty = true := by rw [toList_size]; exact decide_eq_true hz
    clear e hz hds  h0 hm
    exact absurd hE2 (by rw [hE]; decide)
  · have hE2 : (d).toList.isEmpty = false := by rw [toList_size]; exact decide_eq_false hz
    obtain ⟨r, hr⟩ : ∃ r, parseD false d = r := ⟨_, rfl⟩
    have HR := Lib.hid hr
    rw [hr]
    clear hr  hm h0
    go_enter Tryd.func5, Tryd.ntmps5
    go_wp2
    skip
    rw [Lib.run_convert_string_bytes w 9 33 5 d (u := .string) Tryd.underlying9 Tryd.underlying33 Tryd.underlying5]
    have hcell : ∀ j : Nat, j < d.size → (Lib.bytesWorld w 5 d).cell? ⟨w.heap.size, j, none⟩ = some (.int .u8 (bt d j)) := fun j hj => by
      rw [Lib.bytesWorld_cell w 5 d j hj, ← bt_at d j hj]
      simp [List.getD, hj]; rfl
    have hBW : Below w.heap.size w (Lib.bytesWorld w 5 d) := bytes_below (Below.refl _ w) (Nat.le_refl _) 5 d
    generalize Lib.bytesWorld w 5 d = W1 at hcell hBW ⊢
    generalize grownCap w d.size 0 5 = cp
    have HC := Lib.hid hcell
    clear hcell
    go_wp2_with fail
    go_loopg [5, 7, 28] d.size (fun kq v5 v7 v28 wr => ∃ k : Nat, kq + k = d.size ∧ v28 = .int .i64 k ∧ v5 = .int .i64 (valP d k) ∧ wr = W1 ∧ Hid (∀ i : Nat, i < k → isDig (bt d i) = true))
    case atStart => exact ⟨0, rfl, rfl, rfl, rfl, fun i hi => by omega⟩
    case round =>
      obtain ⟨k, hk, rfl, rfl, rfl, HK⟩ := hrel
      by_cases hkd : k = d.size
      · have hb : d.size = k := hkd.symm
        have hv := valP_in d k HK.out
        have HR2 : Hid (r = rng (if false = true then -(valP d k) else valP d k)) := Lib.hid (by rw [← HR.out]; unfold parseD; rw [if_neg hz, if_pos (by rw [hb]; exact HK.out), hb])
        obtain ⟨n, hn⟩ : ∃ n, valP d k = n := ⟨_, rfl⟩
        rw [hn] at hv HR2 ⊢
        have HG := Lib.hid (wrap_small (n := -n) (by omega) (by omega))
        have HN := Lib.hid hn
        have hlt : ((k : Int) < (d.size : Int)) = False := eq_false (by omega)
        clear HR hz hk hkd hn
        go_wp2_with fail
        refine (ranged_c _ _).mono ?_
        rintro e w5 ⟨rfl, rfl⟩
        go_wp2
        go_ret2
        exact ⟨by rw [HR2.out]; simp [HG.out], hBW⟩
      · obtain ⟨x, hxk⟩ : ∃ x, bt d k = x := ⟨_, rfl⟩
        have hxr := bt_in d k
        have hc := HC.out k (by omega)
        rw [hxk] at hxr hc
        have hlt : ((k : Int) < (d.size : Int)) = True := eq_true (by omega)
        have hklt : (k : Int) < (d.size : Int) := by omega
        have hk0 : (0 : Int) ≤ (k : Int) := by omega
        have hkq : (k : Int).toNat = k := by omega
        have HW := Lib.hid (wrap_small (n := (k : Int) + 1) (by omega) (by omega))
        have hv := valP_in d k HK.out
        by_cases hdig : isDig x = true
        · have h1 : 48 ≤ x ∧ x ≤ 57 := by unfold isDig at hdig; simpa using hdig
          have HS : Hid (valP d (k + 1) = pstep (valP d k) x) := Lib.hid (by show pstep _ (bt d k) = _; rw [hxk])
          have HK2 : Hid (∀ i : Nat, i < k + 1 → isDig (bt d i) = true) := Lib.hid (fun i hi => by
            by_cases e : i = k
            · subst e; rw [hxk]; exact hdig
            · exact HK.out i (by omega))
          obtain ⟨n, hn⟩ : ∃ n, valP d k = n := ⟨_, rfl⟩
          rw [hn] at hv HS ⊢
          have u1 : wrap64 (10 * n) = 10 * n := wrap_small (by omega) (by omega)
          have u2 : wrap64 (10 * n + (x - 48)) = 10 * n + (x - 48) := wrap_small (by omega) (by omega)
          have u3 : (x - 48) % 256 = x - 48 := by omega
          have l1 : (x < 48) = False := eq_false (by omega)
          have l2 : (57 < x) = False := eq_false (by omega)
          clear hxk hdig hn
          go_wp2
          all_goals go_roundg (d.size - (k + 1))
          all_goals try (case measure => omega)
          all_goals exact ⟨k + 1, by omega, rfl, congrArg _ (by rw [HS.out]; unfold pstep mn; split <;> omega), rfl, HK2⟩
        · have HR2 : Hid (r = (0, 7)) := Lib.hid (by rw [← HR.out]; unfold parseD; rw [if_neg hz, if_neg (fun h => hdig (by rw [← hxk]; exact h k (by omega)))])
          have h1 : ¬ (48 ≤ x ∧ x ≤ 57) := by unfold isDig at hdig; simpa using hdig
          clear HR hxk hdig
          by_cases h2 : x < 48
          · go_wp2
            go_ret2
            exact ⟨by rw [HR2.out]; rfl, hBW⟩
          · have h3 : 57 < x := by omega
            go_wp2
            go_ret2
            exact ⟨by rw [HR2.out]; rfl, hBW⟩
theorem integer_Parse.calls (a : ByteArray) (r1 r2 : Int) (w : World) (h : integer_Parse.f a = some (r1, r2)) :
    Calls Tryd.prog 5 #[.string a] w fun e w' => e = .returned (.tuple #[.int .i64 r1, .int .i64 r2]) ∧ Below w.heap.size w w' := by
  have hm : a.size ≤ 9223372036854775807 := by
    unfold integer_Parse.f at h
    by_cases hm : a.size ≤ 9223372036854775807
    · exact hm
    · rw [if_neg hm] at h; cases h
  unfold integer_Parse.f at h
  rw [if_pos hm] at h
  have h := Option.some.inj h
  by_cases h0 : a.size = 0
  · rw [if_pos h0] at h
    cases h
    have hE : a.toList.isEmpty = true := by rw [toList_size]; exact decide_eq_true h0
    go_enter Tryd.func5, Tryd.ntmps5
    go_wp2
    go_ret2
    exact ⟨rfl, Below.refl _ w⟩
  · rw [if_neg h0] at h
    by_cases h1 : bt a 0 = 45
    · rw [if_pos h1] at h
      have := parse_minus a w (by omega) h1 hm
      rw [h] at this
      exact this
    · rw [if_neg h1] at h
      by_cases h2 : bt a 0 = 43
      · rw [if_pos h2] at h
        have := parse_plus a w (by omega) h2 hm
        rw [h] at this
        exact this
      · rw [if_neg h2] at h
        have := parse_plain a w (by omega) h1 h2 hm
        rw [h] at this
        exact this
end Go.Proofs.YtjclehdhjnmlpaaDoor.Given
