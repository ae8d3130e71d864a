/- The contracts of package integer's inner functions (validity, ranges, the functions that take an operation), over the seat's program; no condition on the inputs but what each theorem names. -/
import Derived.Test.YtjclehdhjnmlpaaDoorProg
import Derived.Test.YtjclehdhjnmlpaaDoorWWords
import Derived.Test.YtjclehdhjnmlpaaDoorWLast
import Derived.Test.YtjclehdhjnmlpaaDoorWMore
import Derived.WalkKit
import Derived.KernelRfl
import Derived.Handy
import Derived.Lib.Hide
namespace Go.Proofs.YtjclehdhjnmlpaaDoor.Given
open Go.RowKit Go.Proofs.YtjclehdhjnmlpaaDoorW.PrintWords Go.Proofs.YtjclehdhjnmlpaaDoorW.PrintLast Go.Proofs.YtjclehdhjnmlpaaDoorW.PrintMore
set_option linter.unusedVariables false
set_option linter.unusedSimpArgs false

/-- Is it an integer of a program? -/
def vld (n : Int) : Bool := decide (-2147483647 ≤ n ∧ n ≤ 2147483647)
theorem vld_yes {n : Int} (h : vld n = true) : -2147483647 ≤ n ∧ n ≤ 2147483647 := of_decide_eq_true h
theorem vld_no {n : Int} (h : vld n = false) : ¬ (-2147483647 ≤ n ∧ n ≤ 2147483647) := of_decide_eq_false h

theorem valid_c (n : Int) (w : World) : Calls Tryd.prog 10 #[.int .i64 n] w fun e w' => e = .returned (.bool (vld n)) ∧ w = w' := by
  by_cases h1 : -2147483647 ≤ n
  · by_cases h2 : n ≤ 2147483647
    · have e : vld n = true := decide_eq_true ⟨h1, h2⟩
      rw [e]; clear e
      go_enter Tryd.func10, Tryd.ntmps10
      go_wp2
      go_ret
      exact ⟨by simp, rfl⟩
    · have e : vld n = false := decide_eq_false (by omega)
      rw [e]; clear e
      go_enter Tryd.func10, Tryd.ntmps10
      go_wp2
      go_ret
      exact ⟨by simp, rfl⟩
  · have e : vld n = false := decide_eq_false (by omega)
    rw [e]; clear e
    go_enter Tryd.func10, Tryd.ntmps10
    go_wp2
    go_ret
    exact ⟨rfl, rfl⟩

theorem notvalid_c (n : Int) (w : World) : Calls Tryd.prog 29 #[.int .i64 n] w fun e w' => e = .returned (.bool (!vld n)) ∧ w = w' := by
  go_enter Tryd.func29, Tryd.ntmps29
  go_wp2_with (go_at_call 10; refine (valid_c _ _).mono ?_; rintro e w' ⟨rfl, rfl⟩)
  go_ret
  exact ⟨rfl, rfl⟩

/-- Where the first number that is not valid stands; -1: nowhere. -/
def bad (l : List Int) : Int := match l.findIdx? (fun n => !vld n) with | some i => i | none => -1

theorem bad_at (l : List Int) (k : Nat) (hk : k < l.length) (h0 : ∀ i, i < k → vld (l.getD i 0) = true) (h1 : vld (l.getD k 0) = false) : bad l = k := by
  have : l.findIdx? (fun n => !vld n) = some k := by
    rw [List.findIdx?_eq_some_iff_getElem]
    refine ⟨hk, ?_, ?_⟩
    · have : l.getD k 0 = l[k] := by simp [List.getD, hk]
      rw [this] at h1; simp [h1]
    · intro j hj
      have h := h0 j hj
      have : l.getD j 0 = l[j]'(by omega) := by simp [List.getD, show j < l.length by omega]
      rw [this] at h; simp [h]
  simp [bad, this]
theorem bad_none (l : List Int) (h0 : ∀ i, i < l.length → vld (l.getD i 0) = true) : bad l = -1 := by
  have : l.findIdx? (fun n => !vld n) = none := by
    rw [List.findIdx?_eq_none_iff]
    intro x hx
    obtain ⟨i, hi, rfl⟩ := List.getElem_of_mem hx
    have h := h0 i hi
    have : l.getD i 0 = l[i] := by simp [List.getD, hi]
    rw [this] at h; simp [h]
  simp [bad, this]
theorem bad_all (l : List Int) : decide (0 ≤ bad l) = !(l.all vld) := by
  cases h : l.findIdx? (fun n => !vld n) with
  | none =>
    have h' := h
    rw [List.findIdx?_eq_none_iff] at h
    have : l.all vld = true := by rw [List.all_eq_true]; intro x hx; simpa using h x hx
    simp [bad, h', this]
  | some i =>
    have h' := h
    rw [List.findIdx?_eq_some_iff_getElem] at h
    obtain ⟨hi, h1, _⟩ := h
    have : l.all vld = false := by
      rw [List.all_eq_false]; exact ⟨l[i], List.getElem_mem hi, by simpa using h1⟩
    simp [bad, h', this]

theorem index_c (A0 : Option Addr) (c0 : Nat) (l0 : List Int) (w : World) (hr0 : Kd.C (Kd.int .i64) w A0 l0.length l0) :
    Calls Tryd.prog 34 #[.slice A0 l0.length c0, .func (.func 29) #[] #[]] w fun e w' => e = .returned (.int .i64 (bad l0)) ∧ w = w' := by
  have hm := Kd.C_max hr0
  have HR := Lib.hid hr0
  clear hr0
  go_enter Tryd.func34, Tryd.ntmps34
  go_wp2
  go_loop [5, 8] (fun v5 v8 => ∃ k : Nat, k ≤ l0.length ∧ v8 = .int .i64 k ∧ Hid (∀ i, i < k → vld (l0.getD i 0) = true)) (fun _ v8 => l0.length - (intOf v8).toNat)
  case atStart => exact ⟨0, Nat.zero_le _, rfl, fun i hi => by omega⟩
  case round =>
    obtain ⟨k, hk, rfl, HK⟩ := hrel
    by_cases hlt : k < l0.length
    · obtain ⟨ad, e, hx⟩ := Kd.at_int HR.out (k : Int) (by omega) (by omega)
      subst e
      obtain ⟨z, hz⟩ : ∃ z, l0.getD k 0 = z := ⟨_, rfl⟩
      have er : rd l0 (k : Int) = z := by rw [← hz]; simp [rd]
      rw [er, Int.toNat_natCast] at hx
      have HZ := Lib.hid hz
      clear er hz
      cases hv : vld z with
      | true =>
        have HV := Lib.hid hv
        have hv' : (!vld z) = false := by rw [hv]; rfl
        clear hv
        go_wp2_with (go_at_call 29; refine (notvalid_c _ _).mono ?_; rintro e w' ⟨rfl, rfl⟩)
        go_round
        case rel => exact ⟨k + 1, by omega, by go_num, fun i hi => by
          by_cases e : i = k
          · subst e; rw [HZ.out]; exact HV.out
          · exact HK.out i (by omega)⟩
        case measure => simp [intOf]; omega
      | false =>
        have HB := Lib.hid (bad_at l0 k hlt HK.out (by rw [HZ.out]; exact hv))
        have hv' : (!vld z) = true := by rw [hv]; rfl
        clear hv
        go_wp2_with (go_at_call 29; refine (notvalid_c _ _).mono ?_; rintro e w' ⟨rfl, rfl⟩)
        go_ret
        exact ⟨by rw [HB.out]; rfl, rfl⟩
    · have HB := Lib.hid (bad_none l0 (fun i hi => HK.out i (by omega)))
      go_wp2
      go_ret
      exact ⟨by rw [HB.out]; rfl, rfl⟩

theorem contains_c (A0 : Option Addr) (c0 : Nat) (l0 : List Int) (w : World) (hr0 : Kd.C (Kd.int .i64) w A0 l0.length l0) :
    Calls Tryd.prog 28 #[.slice A0 l0.length c0, .func (.func 29) #[] #[]] w fun e w' => e = .returned (.bool (!(l0.all vld))) ∧ w = w' := by
  have HR := Lib.hid hr0
  have HB := Lib.hid (bad_all l0)
  clear hr0
  go_enter Tryd.func28, Tryd.ntmps28
  go_wp2_with (go_at_call 34; refine (index_c _ _ _ _ HR.out).mono ?_; rintro e w' ⟨rfl, rfl⟩)
  go_ret
  exact ⟨by rw [← HB.out]; rfl, rfl⟩

def integer_all.f (l0 : List Int) : Option Bool := some (l0.all vld)
theorem all_c (A0 : Option Addr) (c0 : Nat) (l0 : List Int) (w : World) (hr0 : Kd.C (Kd.int .i64) w A0 l0.length l0) :
    Calls Tryd.prog 26 #[.slice A0 l0.length c0] w fun e w' => e = .returned (.bool (l0.all vld)) ∧ w = w' := by
  have HR := Lib.hid hr0
  clear hr0
  go_enter Tryd.func26, Tryd.ntmps26
  go_wp2_with (go_at_call 28; refine (contains_c _ _ _ _ HR.out).mono ?_; rintro e w' ⟨rfl, rfl⟩)
  go_ret
  exact ⟨by simp, rfl⟩
theorem integer_all.calls (A0 : Option Addr) (c0 : Nat) (l0 : List Int) (r : Bool) (w : World) (hr0 : Kd.C (Kd.int .i64) w A0 l0.length l0) (hc0 : l0.length ≤ c0) (h : integer_all.f l0 = some r) :
    Calls Tryd.prog 26 #[.slice A0 l0.length c0] w fun e w' => e = .returned (.bool r) ∧ Drawn0 w w' := by
  cases h
  refine (all_c A0 c0 l0 w hr0).mono ?_
  rintro e w' ⟨rfl, rfl⟩
  exact ⟨rfl, Drawn0.refl _⟩


/-- The row of a literal of ints reads as its list. -/
theorem lit_C (w : World) (l : List Int) (t : TypeId) (hl : l.length ≤ 9223372036854775807) : Kd.C (Kd.int .i64) (w.alloc (.cells (l.map (Value.int .i64)).toArray t)) (some ⟨w.heap.size, 0, none⟩) l.length l := by
  refine Kd.C_of_reads (enc := Value.int .i64) (d := (0 : Int)) (h1 := fun _ => rfl) ⟨rfl, hl, fun _ => ⟨_, rfl, ?_⟩⟩
  intro j hj
  have h := World.cell?_alloc_new (w := w) (l.map (Value.int .i64)).toArray t j
  have e : (⟨w.heap.size, 0, none⟩ : Addr).add j = ⟨w.heap.size, j, none⟩ := by
    unfold Addr.add
    split
    · rename_i h0; subst h0; rfl
    · simp
  rw [e, h]
  simp [hj]

/-! ### results in range -/
def rng (n : Int) : Int × Int := if vld n then (n, 0) else (0, 3)
theorem ranged_c (n : Int) (w : World) : Calls Tryd.prog 13 #[.int .i64 n] w fun e w' => e = .returned (.tuple #[.int .i64 (rng n).1, .int .i64 (rng n).2]) ∧ w = w' := by
  cases hv : vld n with
  | true =>
    have e : rng n = (n, 0) := by simp [rng, hv]
    rw [e]; clear e
    go_enter Tryd.func13, Tryd.ntmps13
    go_wp2_with (go_at_call 10; refine (valid_c _ _).mono ?_; rintro e w' ⟨rfl, rfl⟩)
    go_ret2
    exact ⟨rfl, rfl⟩
  | false =>
    have e : rng n = (0, 3) := by simp [rng, hv]
    rw [e]; clear e
    go_enter Tryd.func13, Tryd.ntmps13
    go_wp2_with (go_at_call 10; refine (valid_c _ _).mono ?_; rintro e w' ⟨rfl, rfl⟩)
    go_ret2
    exact ⟨rfl, rfl⟩

/-! ### functions that take an operation -/
/-- A call of g is entered. -/
def Enters (g : FuncId) : Prop := ∀ args (w : World), (callFunc g args).run Tryd.prog w = .ok (.enter g args) w
theorem enters_of {g : FuncId} {fn : Func} (hf : Tryd.prog.funcs[g]? = some fn) (hn : (fn.name == "runtime.NumGoroutine") = false) (hb : fn.body.isNone = false) : Enters g := by
  intro args w
  show Sem.run Tryd.prog (Sem.bind (.program fun p => .pure p) _) w = _
  simp only [Sem.bind, Sem.run, hf, hn, hb]
  rfl

def oneS (a r : Int) : Int × Int := if vld a then rng r else (0, 1)
def twoS (a b r : Int) : Int × Int := if vld a && vld b then rng r else (0, 1)
theorem all2 (a b : Int) : [a, b].all vld = (vld a && vld b) := by simp
theorem all3 (a b c : Int) : [a, b, c].all vld = (vld a && (vld b && vld c)) := by simp
set_option maxRecDepth 100000 in
theorem two_c (g : FuncId) (a b r : Int) (w : World) (he : Enters g) (hg : vld a = true → vld b = true → ∀ w, Calls Tryd.prog g #[.int .i64 a, .int .i64 b] w fun e w' => e = .returned (.int .i64 r) ∧ w = w') :
    Calls Tryd.prog 19 #[.int .i64 a, .int .i64 b, .func (.func g) #[] #[]] w fun e w' => e = .returned (.tuple #[.int .i64 (twoS a b r).1, .int .i64 (twoS a b r).2]) ∧ Below w.heap.size w w' := by
  have HA := Lib.hid (lit_C w [a, b] 3 (by simp))
  cases hv : (vld a && vld b) with
  | true =>
    have e : twoS a b r = rng r := by simp [twoS, hv]
    rw [e]; clear e
    have HV := Lib.hid ((all2 a b).trans hv)
    have HG := Lib.hid (hg (by simp at hv; exact hv.1) (by simp at hv; exact hv.2))
    clear hg hv
    go_enter Tryd.func19, Tryd.ntmps19
    go_wp2_with fail
    refine (all_c _ _ _ _ HA.out).mono ?_
    rintro e w' ⟨rfl, rfl⟩
    rw [HV.out]
    go_wp2_with fail
    rw [he]
    go_wp2_with fail
    refine (HG.out _).mono ?_
    rintro e w' ⟨rfl, rfl⟩
    go_wp2_with fail
    refine (ranged_c _ _).mono ?_
    rintro e w' ⟨rfl, rfl⟩
    go_wp2
    go_ret2
    exact ⟨rfl, by go_grown⟩
  | false =>
    have e : twoS a b r = (0, 1) := by simp [twoS, hv]
    rw [e]; clear e hg
    have HV := Lib.hid ((all2 a b).trans hv)
    clear hv
    go_enter Tryd.func19, Tryd.ntmps19
    go_wp2_with fail
    refine (all_c _ _ _ _ HA.out).mono ?_
    rintro e w' ⟨rfl, rfl⟩
    rw [HV.out]
    go_wp2
    go_ret2
    exact ⟨rfl, by go_grown⟩

def divS (a b r : Int) : Int × Int := if vld a && vld b then (if b = 0 then (0, 5) else rng r) else (0, 1)
set_option maxRecDepth 100000 in
theorem divided_c (g : FuncId) (a b r : Int) (w : World) (he : Enters g) (hg : vld a = true → vld b = true → b ≠ 0 → ∀ w, Calls Tryd.prog g #[.int .i64 a, .int .i64 b] w fun e w' => e = .returned (.int .i64 r) ∧ w = w') :
    Calls Tryd.prog 23 #[.int .i64 a, .int .i64 b, .func (.func g) #[] #[]] w fun e w' => e = .returned (.tuple #[.int .i64 (divS a b r).1, .int .i64 (divS a b r).2]) ∧ Below w.heap.size w w' := by
  have HA := Lib.hid (lit_C w [a, b] 3 (by simp))
  cases hv : (vld a && vld b) with
  | true =>
    by_cases hb : b = 0
    · have e : divS a b r = (0, 5) := by unfold divS; rw [hv, if_pos rfl, if_pos hb]
      rw [e]; clear e hg
      have HV := Lib.hid ((all2 a b).trans hv)
      clear hv
      have hb' : (b == 0) = true := by simp [hb]
      clear hb
      go_enter Tryd.func23, Tryd.ntmps23
      go_wp2_with fail
      refine (all_c _ _ _ _ HA.out).mono ?_
      rintro e w' ⟨rfl, rfl⟩
      rw [HV.out]
      go_wp2
      go_ret2
      exact ⟨rfl, by go_grown⟩
    · have e : divS a b r = rng r := by simp [divS, hv, hb]
      rw [e]; clear e
      have HV := Lib.hid ((all2 a b).trans hv)
      have HG := Lib.hid (hg (by simp at hv; exact hv.1) (by simp at hv; exact hv.2) hb)
      clear hg hv
      have hb' : (b == 0) = false := by simp [hb]
      clear hb
      go_enter Tryd.func23, Tryd.ntmps23
      go_wp2_with fail
      refine (all_c _ _ _ _ HA.out).mono ?_
      rintro e w' ⟨rfl, rfl⟩
      rw [HV.out]
      go_wp2_with fail
      rw [he]
      go_wp2_with fail
      refine (HG.out _).mono ?_
      rintro e w' ⟨rfl, rfl⟩
      go_wp2_with fail
      refine (ranged_c _ _).mono ?_
      rintro e w' ⟨rfl, rfl⟩
      go_wp2
      go_ret2
      exact ⟨rfl, by go_grown⟩
  | false =>
    have e : divS a b r = (0, 1) := by simp [divS, hv]
    rw [e]; clear e hg
    have HV := Lib.hid ((all2 a b).trans hv)
    clear hv
    go_enter Tryd.func23, Tryd.ntmps23
    go_wp2_with fail
    refine (all_c _ _ _ _ HA.out).mono ?_
    rintro e w' ⟨rfl, rfl⟩
    rw [HV.out]
    go_wp2
    go_ret2
    exact ⟨rfl, by go_grown⟩

end Go.Proofs.YtjclehdhjnmlpaaDoor.Given
