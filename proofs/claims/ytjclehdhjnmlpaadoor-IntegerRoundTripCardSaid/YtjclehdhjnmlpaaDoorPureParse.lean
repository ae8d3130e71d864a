/- Both Parse functions in closed form, over the list of a text's bytes; what Print prints, read by Parse. -/
import Derived.Test.YtjclehdhjnmlpaaDoorDx4
namespace Go.Proofs.YtjclehdhjnmlpaaDoor.D
open Go Go.RowKit Go.Proofs.YtjclehdhjnmlpaaDoor.Given Go.Proofs.YtjclehdhjnmlpaaDoorW.PrintWords Go.Proofs.YtjclehdhjnmlpaaDoorW.PrintLast Go.Proofs.YtjclehdhjnmlpaaDoorW.PrintMore
set_option linter.unusedVariables false
set_option linter.unusedSimpArgs false

/-- What the digits behind a sign denote. -/
def digs (neg : Bool) (d : List Int) : Int × Int :=
  if d = [] then (0, 7) else if d.all isDig = true then rng (if neg = true then -(d.foldl pstep 0) else d.foldl pstep 0) else (0, 7)
def parseL : List Int → Int × Int
  | [] => (0, 7)
  | x :: r => if x = 45 then digs true r else if x = 43 then digs false r else digs false (x :: r)
theorem w64 {n : Int} (h1 : -9223372036854775808 ≤ n) (h2 : n ≤ 9223372036854775807) : wrap64 n = n := by unfold wrap64; omega

theorem bt_getD (a : ByteArray) (i : Nat) : bt a i = (bytesOf a).getD i 0 := by
  have h := rd_bytesOf a (i : Int)
  rw [← h]; simp [rd]
theorem bytes_take (d : ByteArray) : ∀ k : Nat, k ≤ d.size → valP d k = ((bytesOf d).take k).foldl pstep 0
  | 0, _ => by simp [valP]
  | k + 1, h => by
    have hk : k < (bytesOf d).length := by rw [bytesOf_length]; omega
    rw [List.take_succ_eq_append_getElem hk, List.foldl_append, ← bytes_take d k (by omega)]
    show pstep _ _ = pstep _ _
    rw [bt_getD]; simp [hk]
theorem valP_all (d : ByteArray) : valP d d.size = (bytesOf d).foldl pstep 0 := by
  rw [bytes_take d d.size (Nat.le_refl _), List.take_of_length_le (by rw [bytesOf_length]; exact Nat.le_refl _)]
theorem digs_of (neg : Bool) (d : ByteArray) : parseD neg d = digs neg (bytesOf d) := by
  unfold parseD digs
  have e1 : (bytesOf d = []) ↔ d.size = 0 := by rw [← bytesOf_length, List.length_eq_zero_iff]
  have e2 : ((bytesOf d).all isDig = true) ↔ (∀ k : Nat, k < d.size → isDig (bt d k) = true) := by
    rw [List.all_eq_true]
    constructor
    · intro h k hk
      have hk' : k < (bytesOf d).length := by rw [bytesOf_length]; exact hk
      have := h _ (List.getElem_mem hk')
      rw [bt_getD]; simpa [hk'] using this
    · intro h x hx
      obtain ⟨i, hi, rfl⟩ := List.getElem_of_mem hx
      have := h i (by rw [bytesOf_length] at hi; exact hi)
      rw [bt_getD] at this; simpa [hi] using this
  rw [valP_all]
  simp only [e1, e2]
theorem bytesOf_drop (a : ByteArray) : bytesOf (a.extract 1 a.size) = (bytesOf a).drop 1 := by
  unfold bytesOf
  rw [ByteArray.data_extract]
  simp [List.map_drop]
  rw [List.take_of_length_le (by simp)]
theorem parse_e (a : ByteArray) (h : a.size ≤ 9223372036854775807) : integer_Parse.f a = some (parseL (bytesOf a)) := by
  unfold integer_Parse.f
  rw [if_pos h]
  have hl := bytesOf_length a
  cases hb : bytesOf a with
  | nil => rw [hb] at hl; rw [if_pos (show a.size = 0 from hl.symm)]; rfl
  | cons x r =>
    rw [hb] at hl
    have h0 : bt a 0 = x := by have := bt_getD a 0; rw [hb] at this; exact this
    have hd : bytesOf (a.extract 1 a.size) = r := by rw [bytesOf_drop, hb]; rfl
    rw [if_neg (by simp at hl; omega), h0, digs_of, digs_of, digs_of, hd, hb]
    rfl

/-! ### the specification's Parse -/
def fin (x : Int) (v : Int) : Int × Int := if v > 2147483647 then (0, 3) else if x = 45 then (-v, 0) else (v, 0)
theorem bt_drop (a : ByteArray) {i : Nat} {x : Int} {r : List Int} (h : (bytesOf a).drop i = x :: r) : bt a i = x ∧ i < a.size ∧ (bytesOf a).drop (i + 1) = r := by
  have hl := congrArg List.length h
  have hi : i < (bytesOf a).length := by
    rw [List.length_drop] at hl; simp at hl; omega
  rw [List.drop_eq_getElem_cons hi] at h
  refine ⟨?_, by rw [bytesOf_length] at hi; exact hi, (List.cons.inj h).2⟩
  rw [bt_getD]; simpa [hi] using (List.cons.inj h).1
theorem bt_none (a : ByteArray) {i : Nat} (hi : i ≤ a.size) (h : (bytesOf a).drop i = []) : i = a.size := by
  have := List.drop_eq_nil_iff.mp h
  rw [bytesOf_length] at this
  omega
theorem dig_iff (x : Int) : isDig x = true ↔ 48 ≤ x ∧ x ≤ 57 := by unfold isDig; simp
theorem pstep_dig {n x : Int} (h1 : 0 ≤ n) (h2 : n ≤ 2147483648) (hx : isDig x = true) : 0 ≤ pstep n x ∧ pstep n x ≤ 2147483648 := pstep_in h1 h2 ((dig_iff x).mp hx).1
theorem l1_e (a : ByteArray) (hs : a.size ≤ 9223372036854775806) (h0 : 0 < a.size) (m : Nat) : ∀ (r : List Int) (i : Nat) (n : Int), i ≤ a.size → (bytesOf a).drop i = r → r.all isDig = true → 0 ≤ n → n ≤ 2147483648 →
    manorboyref01_Parse.l1 (r.length + 1 + m) a n i = some (fin (bt a 0) (r.foldl pstep n))
  | [], i, n, hi, h, hd, h1, h2 => by
    have e := bt_none a hi h
    show manorboyref01_Parse.l1 (0 + 1 + m) a n i = _
    rw [show 0 + 1 + m = m + 1 by omega]
    rw [manorboyref01_Parse.l1]
    rw [if_neg (by omega)]
    unfold fin
    by_cases hn : n > 2147483647
    · rw [if_pos hn]; simp [hn]
    · rw [if_neg hn, if_pos (by omega)]
      by_cases hx : bt a 0 = 45
      · rw [if_pos hx, w64 (by omega) (by omega)]; simp [hn, hx]
      · rw [if_neg hx]; simp [hn, hx]
  | x :: r, i, n, hi, h, hd, h1, h2 => by
    obtain ⟨e1, e2, e3⟩ := bt_drop a h
    rw [List.all_cons, Bool.and_eq_true] at hd
    have hx := (dig_iff x).mp hd.1
    have hp := pstep_dig h1 h2 hd.1
    show manorboyref01_Parse.l1 (r.length + 1 + 1 + m) a n i = _
    rw [show r.length + 1 + 1 + m = (r.length + 1 + m) + 1 by omega]
    rw [manorboyref01_Parse.l1]
    rw [if_pos (by omega), if_pos (by omega), e1, w64 (n := 10 * n) (by omega) (by omega), show (x - 48) % 256 = x - 48 by omega, w64 (n := 10 * n + (x - 48)) (by omega) (by omega), w64 (n := (i : Int) + 1) (by omega) (by omega)]
    have := l1_e a hs h0 m r (i + 1) (pstep n x) (by omega) e3 hd.2 hp.1 hp.2
    rw [show ((i : Int) + 1) = ((i + 1 : Nat) : Int) by omega]
    exact this
theorem l0_e (a : ByteArray) (hs : a.size ≤ 9223372036854775806) (o : Int) (m : Nat) : ∀ (r : List Int) (i : Nat), i ≤ a.size → (bytesOf a).drop i = r →
    manorboyref01_Parse.l0 (r.length + 1 + m) a o i = if r.all isDig = true then manorboyref01_Parse.l1 m a 0 o else some (0, 7)
  | [], i, hi, h => by
    have e := bt_none a hi h
    show manorboyref01_Parse.l0 (0 + 1 + m) a o i = _
    rw [show 0 + 1 + m = m + 1 by omega]
    rw [manorboyref01_Parse.l0]
    rw [if_neg (by omega)]; rfl
  | x :: r, i, hi, h => by
    obtain ⟨e1, e2, e3⟩ := bt_drop a h
    show manorboyref01_Parse.l0 (r.length + 1 + 1 + m) a o i = _
    rw [show r.length + 1 + 1 + m = (r.length + 1 + m) + 1 by omega]
    rw [manorboyref01_Parse.l0]
    rw [if_pos (by omega), if_pos (by omega), e1, w64 (n := (i : Int) + 1) (by omega) (by omega)]
    have ih := l0_e a hs o m r (i + 1) (by omega) e3
    rw [List.all_cons]
    by_cases c1 : x < 48
    · have hx : isDig x = false := by unfold isDig; simp; omega
      rw [if_pos c1, hx]; rfl
    · by_cases c2 : x > 57
      · have hx : isDig x = false := by unfold isDig; simp; omega
        rw [if_neg c1, if_pos c2, hx]; rfl
      · have hx : isDig x = true := (dig_iff x).mpr (by omega)
        rw [if_neg c1, if_neg c2, hx, Bool.true_and]
        simpa using ih
theorem foldl_in : ∀ (r : List Int) (n : Int), r.all isDig = true → 0 ≤ n → n ≤ 2147483648 → 0 ≤ r.foldl pstep n ∧ r.foldl pstep n ≤ 2147483648
  | [], n, _, h1, h2 => ⟨h1, h2⟩
  | x :: r, n, hd, h1, h2 => by
    rw [List.all_cons, Bool.and_eq_true] at hd
    have hp := pstep_dig h1 h2 hd.1
    exact foldl_in r (pstep n x) hd.2 hp.1 hp.2
theorem fin_rng {x v : Int} (h1 : 0 ≤ v) (h2 : v ≤ 2147483648) : fin x v = rng (if x = 45 then -v else v) := by
  unfold fin rng
  by_cases h : v > 2147483647
  · have e1 : vld v = false := by unfold vld; simp; omega
    have e2 : vld (-v) = false := by unfold vld; simp; omega
    rw [if_pos h]; split <;> simp [e1, e2]
  · have e1 : vld v = true := by unfold vld; simp; omega
    have e2 : vld (-v) = true := by unfold vld; simp; omega
    rw [if_neg h]; split <;> simp [e1, e2]
/-- The part behind the sign. -/
theorem rpart (a : ByteArray) (hs : a.size ≤ 9223372036854775806) (h0 : 0 < a.size) (o : Nat) (ho : o ≤ a.size) (neg : Bool) (hneg : neg = true ↔ bt a 0 = 45) (m : Nat) :
    manorboyref01_Parse.j1 (2 * a.size + 3 + m) a o = some (digs neg ((bytesOf a).drop o)) := by
  rw [show 2 * a.size + 3 + m = (2 * a.size + 2 + m) + 1 by omega]
  rw [manorboyref01_Parse.j1]
  unfold digs
  obtain ⟨r, hr⟩ : ∃ r, (bytesOf a).drop o = r := ⟨_, rfl⟩
  have hl := congrArg List.length hr
  rw [List.length_drop, bytesOf_length] at hl
  rw [hr]
  by_cases he : r = []
  · subst he
    have := bt_none a ho hr
    rw [if_pos (by omega), if_pos rfl]
  · have : r.length ≠ 0 := fun h => he (List.length_eq_zero_iff.mp h)
    rw [if_neg (by omega), if_neg he]
    have e := l0_e a hs (o : Int) (r.length + 1 + (2 * a.size - 2 * r.length + m)) r o ho hr
    rw [show r.length + 1 + (r.length + 1 + (2 * a.size - 2 * r.length + m)) = 2 * a.size + 2 + m by omega] at e
    rw [e]
    by_cases hd : r.all isDig = true
    · have hf := foldl_in r 0 hd (by decide) (by decide)
      rw [if_pos hd, if_pos hd, l1_e a hs h0 _ r o 0 ho hr hd (by decide) (by decide), fin_rng hf.1 hf.2]
      by_cases hn : bt a 0 = 45
      · rw [if_pos hn, if_pos (hneg.mpr hn)]
      · rw [if_neg hn, if_neg (fun h => hn (hneg.mp h))]
    · rw [if_neg hd, if_neg hd]
theorem rparse_e (a : ByteArray) (hs : a.size ≤ 9223372036854775806) (m : Nat) : manorboyref01_Parse.f (2 * a.size + 4 + m) a = some (parseL (bytesOf a)) := by
  unfold manorboyref01_Parse.f
  rw [show 2 * a.size + 4 + m = (2 * a.size + 3 + m) + 1 by omega]
  have hl := bytesOf_length a
  have J : ∀ b : Bool, manorboyref01_Parse.j0 ((2 * a.size + 3 + m) + 1) a 0 b = if b = true then manorboyref01_Parse.j1 (2 * a.size + 3 + m) a 1 else manorboyref01_Parse.j1 (2 * a.size + 3 + m) a 0 := fun b => by
    rw [manorboyref01_Parse.j0]
  rw [J, J, J]
  cases hb : bytesOf a with
  | nil =>
    rw [hb] at hl
    have h0 : a.size = 0 := hl.symm
    rw [if_neg (by omega), if_neg (by decide)]
    rw [show 2 * a.size + 3 + m = (2 * a.size + 2 + m) + 1 by omega]
    rw [manorboyref01_Parse.j1]
    rw [if_pos (by omega)]; rfl
  | cons x r =>
    rw [hb] at hl
    have h0 : 0 < a.size := by simp at hl; omega
    have hx : bt a 0 = x := by have := bt_getD a 0; rw [hb] at this; exact this
    have P1 := fun neg hn => rpart a hs h0 1 (by omega) neg hn m
    have P0 := fun neg hn => rpart a hs h0 0 (by omega) neg hn m
    rw [hb] at P1 P0
    rw [if_pos (by omega), if_pos (by omega), hx]
    rw [hx] at P1 P0
    rw [show parseL (x :: r) = (if x = 45 then digs true r else if x = 43 then digs false r else digs false (x :: r)) from rfl]
    by_cases c1 : x = 43
    · rw [if_pos c1, if_pos rfl, if_neg (by omega), if_pos c1]
      exact P1 false (by simp; omega)
    · by_cases c2 : x = 45
      · rw [if_neg c1, if_pos (by simp [c2]), if_pos c2]
        exact P1 true (by simp [c2])
      · rw [if_neg c1, if_neg (by simp [c2]), if_neg c2, if_neg c1]
        exact P0 false (by simp [c2])
theorem awake_e (k : Nat) : manorboylaw01_awake.f (k + 1) = some true := by
  have h1 : integer_Add.f 2147483646 1 = some (2147483647, 0) := by decide +kernel
  have h2 : integer_Mul.f 46341 46341 = some (0, 3) := by decide +kernel
  have h3 : integer_Quo.f (-7) 2 = some (-3, 0) := by decide +kernel
  have h4 : integer_Floor.f (-7) 2 = some (-4, 0) := by decide +kernel
  unfold manorboylaw01_awake.f
  rw [h1, h2, h3, h4]
  rfl
end Go.Proofs.YtjclehdhjnmlpaaDoor.D
