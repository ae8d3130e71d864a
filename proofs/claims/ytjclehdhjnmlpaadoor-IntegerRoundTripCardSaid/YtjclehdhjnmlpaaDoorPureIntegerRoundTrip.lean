/- The pure statement of the law IntegerRoundTrip: Parse reads what Print prints, and a further digit is ten times and the digit. -/
import Derived.Test.YtjclehdhjnmlpaaDoorPureParse
import Derived.Lib.ItoaLen
namespace Go.Proofs.YtjclehdhjnmlpaaDoor.Pure
open Go Go.RowKit Go.Proofs.YtjclehdhjnmlpaaDoor.Given Go.Proofs.YtjclehdhjnmlpaaDoor.D Go.Proofs.YtjclehdhjnmlpaaDoorW.PrintWords Go.Proofs.YtjclehdhjnmlpaaDoorW.PrintLast
set_option linter.unusedVariables false
set_option linter.unusedSimpArgs false

def codes (l : List UInt8) : List Int := l.map fun b => (b.toNat : Int)
theorem bytesOf_mk (l : List UInt8) : bytesOf ⟨l.toArray⟩ = codes l := by simp [bytesOf, codes]
theorem bytesOf_append (a b : ByteArray) : bytesOf (a ++ b) = bytesOf a ++ bytesOf b := by simp [bytesOf, ByteArray.data_append]
theorem code_dig {i : Nat} (h : i < 10) : ((UInt8.ofNat (48 + i)).toNat : Int) = 48 + i := by
  rw [UInt8.toNat_ofNat']; omega
theorem pstep_small {n : Int} {i : Nat} (h1 : 0 ≤ n) (h2 : 10 * n + i ≤ 2147483647) : pstep n (48 + i) = 10 * n + i := by
  unfold pstep mn; split <;> omega
theorem dec_codes (u : Nat) : u ≤ 2147483647 → codes (Lib.decDigits u) ≠ [] ∧ (codes (Lib.decDigits u)).all isDig = true ∧ (codes (Lib.decDigits u)).foldl pstep 0 = u := by
  induction u using Nat.strongRecOn with
  | _ u ih =>
    intro hu
    by_cases h : u < 10
    · rw [Lib.decDigits_one h]
      have e : codes [UInt8.ofNat (48 + u)] = [48 + (u : Int)] := by simp only [codes, List.map_cons, List.map_nil, code_dig h]
      rw [e]
      refine ⟨by simp, ?_, ?_⟩
      · simp only [List.all_cons, List.all_nil, Bool.and_true]; exact (dig_iff _).mpr (by omega)
      · show pstep 0 (48 + (u : Int)) = u
        rw [pstep_small (Int.le_refl _) (by omega)]; omega
    · have hd : Lib.decDigits u = Lib.decDigits (u / 10) ++ [UInt8.ofNat (48 + u % 10)] := by rw [Lib.decDigits, dif_neg h]
      obtain ⟨i1, i2, i3⟩ := ih (u / 10) (by omega) (by omega)
      have e : codes (Lib.decDigits u) = codes (Lib.decDigits (u / 10)) ++ [48 + ((u % 10 : Nat) : Int)] := by
        rw [hd]; simp only [codes, List.map_append, List.map_cons, List.map_nil, code_dig (Nat.mod_lt u (by decide : 0 < 10))]
      rw [e]
      refine ⟨by simp, ?_, ?_⟩
      · rw [List.all_append, i2, Bool.true_and]
        simp only [List.all_cons, List.all_nil, Bool.and_true]; exact (dig_iff _).mpr (by omega)
      · rw [List.foldl_append, i3]
        show pstep ((u / 10 : Nat) : Int) (48 + ((u % 10 : Nat) : Int)) = u
        rw [pstep_small (by omega) (by omega)]; omega
theorem parse_dig {d : List Int} (h1 : d ≠ []) (h2 : d.all isDig = true) : parseL d = digs false d := by
  cases d with
  | nil => exact absurd rfl h1
  | cons x r =>
    rw [List.all_cons, Bool.and_eq_true] at h2
    have := (dig_iff x).mp h2.1
    show (if x = 45 then digs true r else if x = 43 then digs false r else digs false (x :: r)) = _
    rw [if_neg (by omega), if_neg (by omega)]
theorem rng_ok {n : Int} (h : vld n = true) : rng n = (n, 0) := by unfold rng; rw [if_pos h]
theorem parse_itoa {n : Int} (h : vld n = true) : parseL (codes (Lib.itoa n)) = (n, 0) := by
  have hv := vld_yes h
  unfold Lib.itoa
  by_cases hn : n < 0
  · rw [if_pos hn]
    obtain ⟨i1, i2, i3⟩ := dec_codes n.natAbs (by omega)
    show digs true (codes (Lib.decDigits n.natAbs)) = _
    unfold digs
    rw [if_neg i1, if_pos i2, i3, if_pos rfl, show -((n.natAbs : Nat) : Int) = n by omega, rng_ok h]
  · rw [if_neg hn]
    obtain ⟨i1, i2, i3⟩ := dec_codes n.toNat (by omega)
    rw [parse_dig i1 i2]
    unfold digs
    rw [if_neg i1, if_pos i2, i3, if_neg (by decide), show ((n.toNat : Nat) : Int) = n by omega, rng_ok h]
/-- Ten times and the digit, as the law reckons it. -/
def due (v d : Int) : Int × Int := if (twoS v 10 (v * 10)).2 = 0 then twoS (twoS v 10 (v * 10)).1 d ((twoS v 10 (v * 10)).1 + d) else (0, (twoS v 10 (v * 10)).2)
theorem vld_iff (x : Int) : vld x = true ↔ -2147483647 ≤ x ∧ x ≤ 2147483647 := by unfold vld; simp
theorem vld_not (x : Int) : vld x = false ↔ ¬ (-2147483647 ≤ x ∧ x ≤ 2147483647) := by unfold vld; simp
theorem due_e {v d : Int} (hv : vld v = true) (hd : vld d = true) : due v d = if vld (v * 10) = true then rng (v * 10 + d) else (0, 3) := by
  have t : twoS v 10 (v * 10) = rng (v * 10) := by unfold twoS; rw [hv]; rfl
  unfold due
  rw [t]
  unfold rng
  cases h : vld (v * 10) with
  | true => simp [twoS, h, hd, rng]
  | false => simp
theorem digs_snoc (neg : Bool) {r : List Int} {v d : Int} (h : digs neg r = (v, 0)) (h0 : 0 ≤ d) (h9 : d ≤ 9) :
    vld v = true ∧ digs neg (r ++ [48 + d]) = due v (if neg = true then -d else d) := by
  unfold digs at h
  by_cases h1 : r = []
  · rw [if_pos h1] at h; cases h
  · rw [if_neg h1] at h
    by_cases h2 : r.all isDig = true
    · rw [if_pos h2] at h
      have hf := foldl_in r 0 h2 (by decide) (by decide)
      have hA : (r ++ [48 + d]).all isDig = true := by
        rw [List.all_append, h2, Bool.true_and]
        simp only [List.all_cons, List.all_nil, Bool.and_true]; exact (dig_iff _).mpr (by omega)
      unfold digs
      rw [if_neg (by simp), if_pos hA, List.foldl_append]
      show _ ∧ rng (if neg = true then -(pstep (r.foldl pstep 0) (48 + d)) else pstep (r.foldl pstep 0) (48 + d)) = _
      generalize r.foldl pstep 0 = F at hf h ⊢
      have hp : (10 * F + d ≤ 2147483647 ∧ pstep F (48 + d) = 10 * F + d) ∨ (10 * F + d > 2147483647 ∧ pstep F (48 + d) = 2147483648) := by
        unfold pstep mn; split <;> omega
      have hvv : vld v = true ∧ v = if neg = true then -F else F := by
        unfold rng at h
        by_cases hx : vld (if neg = true then -F else F) = true
        · rw [if_pos hx] at h
          have := (Prod.mk.inj h).1
          rw [← this]; exact ⟨hx, rfl⟩
        · rw [if_neg hx] at h
          exact absurd (Prod.mk.inj h).2 (by decide)
      obtain ⟨hv, e⟩ := hvv
      have hv' := (vld_iff _).mp hv
      refine ⟨hv, ?_⟩
      cases neg with
      | true =>
        rw [if_pos rfl] at e ⊢
        rw [if_pos rfl, due_e hv ((vld_iff _).mpr (by omega))]
        subst e
        rcases hp with ⟨p1, p2⟩ | ⟨p1, p2⟩
        · rw [if_pos ((vld_iff _).mpr (by omega)), p2, show -(10 * F + d) = -F * 10 + -d by omega]
        · rw [p2]
          have n1 : rng (-2147483648) = (0, 3) := by decide
          rw [n1]
          by_cases hq : vld (-F * 10) = true
          · rw [if_pos hq]
            have : vld (-F * 10 + -d) = false := (vld_not _).mpr (by omega)
            unfold rng; rw [this]; rfl
          · rw [if_neg hq]
      | false =>
        rw [if_neg (by decide)] at e ⊢
        rw [if_neg (by decide), due_e hv ((vld_iff _).mpr (by omega))]
        subst e
        rcases hp with ⟨p1, p2⟩ | ⟨p1, p2⟩
        · rw [if_pos ((vld_iff _).mpr (by omega)), p2, show 10 * v + d = v * 10 + d by omega]
        · rw [p2]
          have n1 : rng 2147483648 = (0, 3) := by decide
          rw [n1]
          by_cases hq : vld (v * 10) = true
          · rw [if_pos hq]
            have : vld (v * 10 + d) = false := (vld_not _).mpr (by omega)
            unfold rng; rw [this]; rfl
          · rw [if_neg hq]
    · rw [if_neg h2] at h; cases h
theorem parse_snoc {l : List Int} {v d : Int} (h : parseL l = (v, 0)) (h0 : 0 ≤ d) (h9 : d ≤ 9) :
    l ≠ [] ∧ vld v = true ∧ parseL (l ++ [48 + d]) = due v (if l.getD 0 0 = 45 then -d else d) := by
  cases l with
  | nil => cases h
  | cons x r =>
    refine ⟨by simp, ?_⟩
    show _ ∧ (if x = 45 then digs true (r ++ [48 + d]) else if x = 43 then digs false (r ++ [48 + d]) else digs false (x :: (r ++ [48 + d]))) = due v (if x = 45 then -d else d)
    have h' : (if x = 45 then digs true r else if x = 43 then digs false r else digs false (x :: r)) = (v, 0) := h
    by_cases c1 : x = 45
    · rw [if_pos c1] at h' ⊢
      rw [if_pos c1]
      exact digs_snoc true h' h0 h9
    · rw [if_neg c1] at h' ⊢
      rw [if_neg c1]
      by_cases c2 : x = 43
      · rw [if_pos c2] at h' ⊢
        exact digs_snoc false h' h0 h9
      · rw [if_neg c2] at h' ⊢
        exact digs_snoc false h' h0 h9
theorem valid_e (n : Int) : integer_Valid.f n = some (vld n) := by
  unfold integer_Valid.f vld
  split <;> simp [*]
theorem plus_e (t : Int × Int) (d : Int) : manorboylaw01_plus.f t.1 t.2 d 0 = some (if t.2 = 0 then twoS t.1 d (t.1 + d) else (0, t.2)) := by
  unfold manorboylaw01_plus.f integer_Add.f
  by_cases h : t.2 = 0
  · rw [if_pos h, if_pos rfl, if_pos h]; rfl
  · rw [if_neg h, if_neg h]
theorem last_e (k : Nat) (a : ByteArray) (d v e : Int) (ha : a.size ≤ 140737488351232) (hp : parseL (bytesOf a) = (v, e)) (b : Bool) (hb : b = (decide (e ≠ 0) || (decide (d < 0) || decide (d > 9)))) :
    manorboylaw01_IntegerRoundTrip.j1 (k + 1) a d true v b = some true := by
  rw [manorboylaw01_IntegerRoundTrip.j1]
  cases b with
  | true => rw [if_pos rfl]
  | false =>
    rw [if_neg (by decide)]
    have hc : e = 0 ∧ 0 ≤ d ∧ d ≤ 9 := by
      have := hb.symm
      simp at this; omega
    obtain ⟨rfl, h0, h9⟩ := hc
    obtain ⟨s1, s2, s3⟩ := parse_snoc hp h0 h9
    have hsz := bytesOf_length a
    have hpos : 0 < a.size := by
      rw [← hsz]; exact List.length_pos_iff.mpr s1
    have hnil : ¬ a.toList = ([] : List UInt8) := by
      rw [ByteArray.toList_eq]
      intro hx
      have : a.data.toList.length = 0 := by rw [hx]; rfl
      have : a.size = 0 := by simpa using this
      omega
    have hpr : integer_Print.f d = some (⟨(Lib.itoa d).toArray⟩, 0) := by
      unfold integer_Print.f printS
      rw [if_pos ((vld_iff _).mpr (by omega))]
    have hit : Lib.itoa d = [UInt8.ofNat (48 + d.toNat)] := by
      unfold Lib.itoa; rw [if_neg (by omega), Lib.decDigits_one (by omega)]
    have hby : bytesOf (a ++ ⟨(Lib.itoa d).toArray⟩) = bytesOf a ++ [48 + d] := by
      rw [bytesOf_append, bytesOf_mk (Lib.itoa d), hit]
      simp only [codes, List.map_cons, List.map_nil, code_dig (show d.toNat < 10 by omega)]
      rw [show ((d.toNat : Nat) : Int) = d by omega]
    have hs1 : (⟨(Lib.itoa d).toArray⟩ : ByteArray).size = 1 := by rw [hit]; rfl
    have hsa : (a ++ ⟨(Lib.itoa d).toArray⟩ : ByteArray).size = a.size + 1 := by rw [ByteArray.size_append, hs1]
    have hbt : bt a 0 = (bytesOf a).getD 0 0 := bt_getD a 0
    rw [if_neg hnil, hpr, Option.bind_some, if_pos (by show a.size + (⟨(Lib.itoa d).toArray⟩ : ByteArray).size ≤ _; rw [hs1]; omega)]
    rw [parse_e _ (by rw [hsa]; omega), hby, s3, Option.bind_some]
    unfold integer_Mul.f
    rw [Option.bind_some, if_pos (by omega), hbt, w64 (n := -d) (by omega) (by omega)]
    by_cases hc : (bytesOf a).getD 0 0 = 45
    · rw [if_pos hc, if_pos hc, plus_e, Option.bind_some, if_pos rfl]
      show (if (due v (-d)).1 = (due v (-d)).1 then _ else _) = _
      rw [if_pos rfl]
      show some ((due v (-d)).2 == (due v (-d)).2) = _
      simp
    · rw [if_neg hc, if_neg hc, plus_e, Option.bind_some, if_pos rfl]
      show (if (due v d).1 = (due v d).1 then _ else _) = _
      rw [if_pos rfl]
      show some ((due v d).2 == (due v d).2) = _
      simp
theorem IntegerRoundTrip : manorboylaw01_IntegerRoundTrip.Pure := by
  intro n a d _ ha _
  refine ⟨2, ?_⟩
  have J : ∀ x9 : Int, (x9 == 0) = vld n → manorboylaw01_IntegerRoundTrip.j0 2 n a d true x9 = some true := fun x9 hx => by
    obtain ⟨⟨v, e⟩, hp⟩ : ∃ p, parseL (bytesOf a) = p := ⟨_, rfl⟩
    rw [manorboylaw01_IntegerRoundTrip.j0, valid_e, Option.bind_some, hx, if_neg (by simp), parse_e a (by omega), hp, Option.bind_some]
    by_cases he : e = 0
    · rw [if_pos he]
      by_cases hd : d < 0
      · rw [if_pos hd]; exact last_e 0 a d v e ha hp true (by simp [hd])
      · rw [if_neg hd]; exact last_e 0 a d v e ha hp _ (by simp [hd, he])
    · rw [if_neg he]; exact last_e 0 a d v e ha hp true (by simp [he])
  unfold manorboylaw01_IntegerRoundTrip.f
  rw [awake_e, Option.bind_some]
  unfold integer_Print.f printS
  rw [Option.bind_some]
  cases hv : vld n with
  | true =>
    rw [if_pos rfl]
    have hs : (⟨(Lib.itoa n).toArray⟩ : ByteArray).size ≤ 9223372036854775807 := by
      have hv' := (vld_iff _).mp hv
      have := Lib.itoa_length_le n (by omega) (by omega)
      show (Lib.itoa n).toArray.size ≤ _
      rw [List.size_toArray]; omega
    rw [if_pos rfl, parse_e _ hs, bytesOf_mk, parse_itoa hv, Option.bind_some, if_pos rfl, if_pos rfl]
    exact J 0 (by rw [hv]; rfl)
  | false =>
    rw [if_neg (show ¬ false = true by decide), if_neg (show ¬ (1 : Int) = 0 by decide)]
    exact J 1 (by rw [hv]; rfl)
end Go.Proofs.YtjclehdhjnmlpaaDoor.Pure
