/- Contracts and lemmas that the law's row leans on, joined by program (pack.py) out of the session's texts; no condition of its own. -/
import Derived.RowKit
import Derived.Test.YteigbokklclmbaaGreatDoorProg
import Derived.KernelRfl
import Derived.Below
import Derived.Deep.Draws
import Derived.Deep.AppendLies
import Derived.Maps.AppendAt
import Derived.OwnWalk
import Derived.Laws.BytesArg
import Derived.Laws.MakeOwn
import Derived.Laws.OwnMore
import Derived.Deep.OwnRows
import Derived.Tactics
import Derived.Lib.ConvBytes
import Derived.Laws.Slices
import Derived.WalkKit
import Derived.RowKit3
import Derived.Deep.LoopGhost
import Derived.Deep.QuietTactic
import Derived.BigQuiet
import Derived.WideLaws
import Derived.Deep.DeepCutAuto
import Derived.Deep.CutBlock
import Derived.Deep.RegionHeld3
import Derived.Laws.Rows
import Derived.Lib.AppendStr
import Derived.ArgAppend
import Derived.Laws.IdiomCopy
import Derived.OrdersHeld
import Derived.Laws.BitsLemmas
import Derived.IntWalk
import Derived.Lib.Hide
import Derived.Test.YteigbokklclmbaaGreatDoorRnua
set_option linter.unusedVariables false
set_option linter.unusedSimpArgs false
set_option maxRecDepth 100000
set_option maxHeartbeats 8000000
section
namespace Go.Proofs.YteigbokklclmbaaGreatDoor.M
/-- The value of a row of digits, the lowest first. -/
def val (B : Nat) : List Int → Nat
  | [] => 0
  | x :: l => x.toNat + B * val B l
/-- The row of a number's digits, the lowest first, without zeros at the end. -/
def dg (B n : Nat) : List Int := if h : 2 ≤ B ∧ 0 < n then ((n % B : Nat) : Int) :: dg B (n / B) else []
termination_by n
decreasing_by exact Nat.div_lt_self h.2 h.1
/-- All digits lie below the base. -/
def InB (B : Nat) (l : List Int) : Prop := ∀ x ∈ l, 0 ≤ x ∧ x < B
theorem InB.nil {B : Nat} : InB B [] := fun _ h => by cases h
theorem InB.cons {B : Nat} {x : Int} {l : List Int} (h : 0 ≤ x ∧ x < B) (k : InB B l) : InB B (x :: l) := fun y hy => by
  rcases List.mem_cons.1 hy with rfl | hy
  · exact h
  · exact k y hy
theorem InB.append {B : Nat} {l m : List Int} (h : InB B l) (k : InB B m) : InB B (l ++ m) := fun y hy => by
  rcases List.mem_append.1 hy with hy | hy
  · exact h y hy
  · exact k y hy
theorem InB.snoc {B : Nat} {l : List Int} {x : Int} (h : InB B l) (k : 0 ≤ x ∧ x < B) : InB B (l ++ [x]) := h.append (InB.cons k InB.nil)
theorem InB.take {B : Nat} {l : List Int} (h : InB B l) (i : Nat) : InB B (l.take i) := fun y hy => h y (List.mem_of_mem_take hy)
theorem InB.drop {B : Nat} {l : List Int} (h : InB B l) (i : Nat) : InB B (l.drop i) := fun y hy => h y (List.mem_of_mem_drop hy)
theorem InB.set {B : Nat} {l : List Int} (h : InB B l) (i : Nat) {v : Int} (k : 0 ≤ v ∧ v < B) : InB B (l.set i v) := fun y hy => by
  rcases List.mem_or_eq_of_mem_set hy with hy | rfl
  · exact h y hy
  · exact k
theorem InB.getD {B : Nat} {l : List Int} (h : InB B l) (hB : 0 < B) (i : Nat) : 0 ≤ l.getD i 0 ∧ l.getD i 0 < B := by
  rw [List.getD_eq_getElem?_getD]
  rcases e : l[i]? with _ | x
  · simp; omega
  · simp; exact h x (List.mem_of_getElem? e)
theorem InB.replicate {B : Nat} (hB : 0 < B) (n : Nat) : InB B (List.replicate n 0) := fun y hy => by
  rw [List.eq_of_mem_replicate hy]; omega
theorem val_nil {B : Nat} : val B [] = 0 := rfl
theorem val_cons {B : Nat} (x : Int) (l : List Int) : val B (x :: l) = x.toNat + B * val B l := rfl
theorem val_append {B : Nat} : ∀ l m : List Int, val B (l ++ m) = val B l + B ^ l.length * val B m
  | [], m => by simp [val]
  | x :: l, m => by
    rw [List.cons_append, val_cons, val_cons, val_append l m, List.length_cons, Nat.pow_succ, Nat.mul_add, Nat.add_assoc, Nat.mul_comm (B ^ l.length) B, Nat.mul_assoc]
theorem val_snoc {B : Nat} (l : List Int) (x : Int) : val B (l ++ [x]) = val B l + B ^ l.length * x.toNat := by
  rw [val_append, val_cons, val_nil, Nat.mul_zero, Nat.add_zero]
theorem val_lt {B : Nat} : ∀ {l : List Int}, InB B l → val B l < B ^ l.length
  | [], _ => by simp [val]
  | x :: l, h => by
    have h0 := h x (List.mem_cons_self)
    have ih := val_lt (l := l) (fun y hy => h y (List.mem_cons_of_mem _ hy))
    have h1 : B * (val B l + 1) ≤ B * B ^ l.length := Nat.mul_le_mul_left B ih
    rw [val_cons, List.length_cons, Nat.pow_succ, Nat.mul_comm (B ^ l.length) B]
    rw [Nat.mul_add, Nat.mul_one] at h1
    omega
theorem val_drop {B : Nat} : ∀ (l : List Int) (i : Nat), val B (l.drop i) = (l.getD i 0).toNat + B * val B (l.drop (i + 1))
  | [], i => by simp [val]
  | x :: l, 0 => by simp [val]
  | x :: l, i + 1 => by
    have := val_drop (B := B) l i
    simpa using this
theorem val_drop_ge {B : Nat} {l : List Int} {i : Nat} (h : l.length ≤ i) : val B (l.drop i) = 0 := by
  rw [List.drop_eq_nil_of_le h]; rfl
theorem val_split {B : Nat} {l : List Int} {i : Nat} (h : i ≤ l.length) : val B l = val B (l.take i) + B ^ i * val B (l.drop i) := by
  have := val_append (B := B) (l.take i) (l.drop i)
  rw [List.take_append_drop, List.length_take, Nat.min_eq_left h] at this
  exact this
theorem val_set {B : Nat} : ∀ (l : List Int) (i : Nat) (v : Int), i < l.length → val B (l.set i v) + B ^ i * (l.getD i 0).toNat = val B l + B ^ i * v.toNat
  | [], i, v, h => by simp at h
  | x :: l, 0, v, h => by simp [val]; omega
  | x :: l, i + 1, v, h => by
    have ih := val_set (B := B) l i v (by simpa using h)
    rw [List.set_cons_succ, val_cons, val_cons, List.getD_cons_succ, Nat.pow_succ, Nat.mul_comm (B ^ i) B, Nat.mul_assoc, Nat.mul_assoc, Nat.add_assoc, ← Nat.mul_add, ih, Nat.mul_add, Nat.add_assoc]
theorem val_replicate {B : Nat} : ∀ n : Nat, val B (List.replicate n 0) = 0
  | 0 => rfl
  | n + 1 => by rw [List.replicate_succ, val_cons, val_replicate n]; rfl
theorem dg_zero {B : Nat} : dg B 0 = [] := by rw [dg]; simp
theorem dg_pos {B n : Nat} (hB : 2 ≤ B) (hn : 0 < n) : dg B n = ((n % B : Nat) : Int) :: dg B (n / B) := by rw [dg, dif_pos ⟨hB, hn⟩]
theorem dg_nil {B n : Nat} (hB : 2 ≤ B) : dg B n = [] ↔ n = 0 := by
  constructor
  · intro h
    rcases Nat.eq_zero_or_pos n with hn | hn
    · exact hn
    · rw [dg_pos hB hn] at h; cases h
  · rintro rfl; exact dg_zero
theorem val_dg {B : Nat} (hB : 2 ≤ B) (n : Nat) : val B (dg B n) = n := by
  induction n using Nat.strongRecOn with
  | ind n ih =>
    rcases Nat.eq_zero_or_pos n with rfl | hn
    · rw [dg_zero]; rfl
    · rw [dg_pos hB hn, val_cons, ih _ (Nat.div_lt_self hn hB), Int.toNat_natCast]
      exact Nat.mod_add_div n B
theorem InB_dg {B : Nat} (hB : 2 ≤ B) (n : Nat) : InB B (dg B n) := by
  induction n using Nat.strongRecOn with
  | ind n ih =>
    rcases Nat.eq_zero_or_pos n with rfl | hn
    · rw [dg_zero]; exact InB.nil
    · rw [dg_pos hB hn]
      have := Nat.mod_lt n (show 0 < B by omega)
      exact InB.cons (by omega) (ih _ (Nat.div_lt_self hn hB))
/-- A row is the row of its value, if it does not end with a zero. -/
theorem dg_val {B : Nat} (hB : 2 ≤ B) : ∀ {l : List Int}, InB B l → (∀ h : l ≠ [], l.getLast h ≠ 0) → dg B (val B l) = l
  | [], _, _ => by rw [val_nil, dg_zero]
  | x :: l, h, hl => by
    have hx := h x (List.mem_cons_self)
    have hI : InB B l := fun y hy => h y (List.mem_cons_of_mem _ hy)
    have hlast : ∀ h : l ≠ [], l.getLast h ≠ 0 := fun hne => by
      have := hl (by simp)
      rwa [List.getLast_cons hne] at this
    have ih := dg_val hB hI hlast
    have hpos : 0 < val B (x :: l) := by
      rw [val_cons]
      rcases l with _ | ⟨y, t⟩
      · have : x ≠ 0 := by simpa using hl (by simp)
        omega
      · have : val B (y :: t) ≠ 0 := fun e => by
          have := ih
          rw [e, dg_zero] at this
          cases this
        have : 0 < B * val B (y :: t) := Nat.mul_pos (by omega) (by omega)
        omega
    rw [dg_pos hB hpos, val_cons]
    have e1 : (x.toNat + B * val B l) % B = x.toNat := by rw [Nat.add_mul_mod_self_left, Nat.mod_eq_of_lt (by omega)]
    have e2 : (x.toNat + B * val B l) / B = val B l := by rw [Nat.add_mul_div_left _ _ (by omega), Nat.div_eq_of_lt (by omega), Nat.zero_add]
    rw [e1, e2, ih, Int.toNat_of_nonneg hx.1]
theorem dg_len_le {B : Nat} (hB : 2 ≤ B) : ∀ (m n : Nat), n < B ^ m → (dg B n).length ≤ m
  | 0, n, h => by
    have : n = 0 := by simpa using h
    rw [this, dg_zero]; exact Nat.le_refl _
  | m + 1, n, h => by
    rcases Nat.eq_zero_or_pos n with rfl | hn
    · rw [dg_zero]; simp
    · rw [dg_pos hB hn, List.length_cons]
      have := dg_len_le hB m (n / B) (by rw [Nat.div_lt_iff_lt_mul (by omega)]; rwa [Nat.pow_succ] at h)
      omega
theorem dg_small {B n : Nat} (hB : 2 ≤ B) (h0 : 0 < n) (h : n < B) : dg B n = [(n : Int)] := by
  rw [dg_pos hB h0, Nat.mod_eq_of_lt h, Nat.div_eq_of_lt h, dg_zero]
theorem dg_lt_pow {B : Nat} (hB : 2 ≤ B) (n : Nat) : n < B ^ (dg B n).length := by
  have := val_lt (InB_dg hB n)
  rwa [val_dg hB] at this
theorem dg_ge_pow {B n : Nat} (hB : 2 ≤ B) (hn : 0 < n) : B ^ ((dg B n).length - 1) ≤ n := by
  rcases Nat.lt_or_ge n (B ^ ((dg B n).length - 1)) with h | h
  · have := dg_len_le hB _ _ h
    have h2 : (dg B n).length ≠ 0 := fun e => by
      have := (dg_nil (n := n) hB).1 (List.eq_nil_of_length_eq_zero e); omega
    omega
  · exact h
/-- The comparison of two rows from above. -/
theorem val_lt_of_drop {B : Nat} {a b : List Int} {i : Nat} (ha : InB B a) (hb : InB B b) (hia : i < a.length) (hib : i < b.length) (he : a.drop (i + 1) = b.drop (i + 1)) (h : a.getD i 0 < b.getD i 0) : val B a < val B b := by
  have hB : 0 < B := by
    rcases Nat.eq_zero_or_pos B with e | e
    · subst e
      have := ha (a[i]) (List.getElem_mem hia); omega
    · exact e
  have h1 := val_split (B := B) (Nat.le_of_lt hia)
  have h2 := val_split (B := B) (Nat.le_of_lt hib)
  have h3 := val_lt (ha.take i)
  rw [List.length_take, Nat.min_eq_left (Nat.le_of_lt hia)] at h3
  have ga := ha.getD hB i
  have gb := hb.getD hB i
  rw [val_drop] at h1 h2
  rw [he] at h1
  rw [h1, h2]
  generalize val B (b.drop (i + 1)) = R at *
  generalize val B (a.take i) = p at *
  generalize val B (b.take i) = q at *
  have h4 : (a.getD i 0).toNat + 1 ≤ (b.getD i 0).toNat := by omega
  have h5 : B ^ i * ((a.getD i 0).toNat + 1 + B * R) ≤ B ^ i * ((b.getD i 0).toNat + B * R) := Nat.mul_le_mul_left _ (by omega)
  have h6 : B ^ i * ((a.getD i 0).toNat + 1 + B * R) = B ^ i * ((a.getD i 0).toNat + B * R) + B ^ i := by
    rw [show (a.getD i 0).toNat + 1 + B * R = ((a.getD i 0).toNat + B * R) + 1 by omega, Nat.mul_add, Nat.mul_one]
  omega
end Go.Proofs.YteigbokklclmbaaGreatDoor.M
end
section
namespace Go.Proofs.YteigbokklclmbaaGreatDoorW.PrintWords
open Go Go.RowKit
namespace Kd
variable {P : Program} {ops : Array Oper} {rest : List Oper} {o : Oper} {a : Act} {Q : Exit → Act → World → Prop} {α : Type}
theorem R_made (d : Kd α) {W : World} (base e : Nat) (z : Value) (hz : z.cells.size = d.sz) (hs0 : 0 < d.sz) (z0 : α) {ok okp : Nat → Prop} (hzero : d.M W base okp z0 z.cells.toList) (hok : ∀ k, okp k → ok k) (hfresh : ok W.heap.size)
    (m : Nat) (hm : m ≤ 9223372036854775807) (hbase : base ≤ W.heap.size) :
    d.R e (W.alloc (.cells (madeCells z.cells (m * d.sz)) e)) base ok (.slice (some ⟨W.heap.size, 0, none⟩) m m) (List.replicate m z0) := by
  have hrep := reps_made (R := d.M W base okp) hz hs0 hzero m
  have hl : (List.replicate m z0).length = m := List.length_replicate
  refine ⟨fun k hk => ?_, (madeCells z.cells (m * d.sz)).toList, ?_, ?_⟩
  · have : W.heap.size = k := by simpa [Value.ownBlock] using hk
    subst this
    exact hfresh
  · have h2 := World.ownsRow_lit (base := base) (e := e) (size := d.sz) W (madeCells z.cells (m * d.sz)) m hbase (by simpa [maxLen] using hm) (by simp [size_madeCells])
    rw [hl]
    exact h2
  · refine hrep.imp_ (fun p c hp => d.M_mono (fun k hk => ⟨hok k hk.1, fun he => ?_⟩) (M_below (d.M_bound hp) (below_alloc (Below.refl _ _) _)))
    have h3 : k = W.heap.size := by simpa [Value.ownBlock] using he
    have := hk.2.2.1
    omega
theorem R_makecap (d : Kd α) {w0 W : World} (base e : Nat) (hgd : o.guard = none) {N : Tmp} (hd : o.dst = some N) (t : TypeId) (x y : Operand) (ho : o.op = .makeSlice t x y) (n c : Int) (hx : a.eval x = .int .i64 n) (hy : a.eval y = .int .i64 c)
    (ht : P.underlying t = some (.slice e)) (z : Value) (bytes : Nat) (hinfo : (P.info? e).map (fun i => (i.zero, i.size, i.bytes)) = some (some z, d.sz, bytes)) (hz : z.cells.size = d.sz) (hs0 : 0 < d.sz) (hb0 : 0 < bytes)
    (z0 : α) {ok okp : Nat → Prop} (hzero : d.M W base okp z0 z.cells.toList) (hok : ∀ k, okp k → ok k) (hfresh : ok W.heap.size) (h0 : 0 ≤ n) (hnc : n ≤ c) (hl : c.toNat * bytes ≤ 281474976710656) (HB : Below base w0 W) (hbase : base ≤ W.heap.size)
    (h : ∀ v1 w1, d.R e w1 base ok v1 (List.replicate n.toNat z0) → Below base w0 w1 → W.grownBy w1 none → (∃ b, v1.ownBlock = some b ∧ W.heap.size ≤ b) → wpList P ops Q rest (a.put o.dst v1) w1) : wpList P ops Q (o :: rest) a W := by
  obtain ⟨m, rfl⟩ := Int.eq_ofNat_of_zero_le (Int.le_trans h0 hnc)
  obtain ⟨n, rfl⟩ := Int.eq_ofNat_of_zero_le h0
  simp only [Int.toNat_natCast] at hl h
  have hnm : n ≤ m := by omega
  obtain ⟨i0, hi, hzz⟩ := Option.map_eq_some_iff.1 hinfo
  simp only [Prod.mk.injEq] at hzz
  obtain ⟨hz0, hz1, hz2⟩ := hzz
  have hm : m ≤ 281474976710656 := Nat.le_trans (Nat.le_mul_of_pos_right _ hb0) hl
  have hr := run_make (P := P) W t e i0 z ht hi hz0 .i64 .i64 (n : Int) (m : Int) (by omega) (by omega)
    (by
      have h3 : ((i0.bytes * m : Nat) : Int) ≤ 281474976710656 := by rw [hz2, Nat.mul_comm]; omega
      rwa [Int.natCast_mul] at h3) (by omega)
  simp only [Int.toNat_natCast] at hr
  rw [hz1] at hr
  have hR := R_take (m := n) (R_made d base e z hz hs0 z0 hzero hok hfresh m (by omega) hbase) (by rw [List.length_replicate]; exact hnm)
  rw [List.take_replicate, Nat.min_eq_left hnm] at hR
  refine event_run hgd (v := .slice (some ⟨W.heap.size, 0, none⟩) n m) ?_ (h _ _ hR (HB.alloc hbase _) (World.grownBy_alloc W _ none) ⟨W.heap.size, by simp [Value.ownBlock], Nat.le_refl _⟩)
  simp [execOp, ho, hx, hy, hr]
end Kd
end Go.Proofs.YteigbokklclmbaaGreatDoorW.PrintWords
end
section
namespace Go.Proofs.YteigbokklclmbaaGreatDoor.Given
open Go
def chain : List PanicEntry := [{ v := .iface 75 (.agg #[]), recovered := false }]
def ending (m x : Int) : Ending := if x = 1000 then .panicked chain else .returned (.agg #[.int .i64 m, .int .i64 x])
theorem ending_at {m x : Int} (h : ¬ x = 1000) : ending m x = Ending.returned (.agg #[.int .i64 m, .int .i64 x]) := by
  unfold ending; rw [if_neg h]
theorem ending_le {m x : Int} (h : decide (150 < x) = false) : Ending.returned (.agg #[.int .i64 m, .int .i64 x]) = ending m x := by
  have := of_decide_eq_false h
  rw [ending_at (by omega)]
theorem isNil (n c : Nat) (w : World) : Sem.run Tryz.prog (binOp BinOp.eql 87 (Value.slice none n c) (Value.slice none 0 0)) w = .ok (.bool true) w := by kernel_rfl
theorem notNil (A : Addr) (n c : Nat) (w : World) : Sem.run Tryz.prog (binOp BinOp.eql 87 (Value.slice (some A) n c) (Value.slice none 0 0)) w = .ok (.bool false) w := by kernel_rfl
theorem panics77 (w : World) : Sem.run Tryz.prog (Instr.panic (Value.iface 75 (Value.agg #[]))) w = .halt (.panic (.iface 75 (.agg #[]))) w := by kernel_rfl
end Go.Proofs.YteigbokklclmbaaGreatDoor.Given
end
section
namespace Go.Proofs.YteigbokklclmbaaGreatDoor.Given
open Go Go.RowKit Go.Proofs.YteigbokklclmbaaGreatDoorW.PrintWords Go.Proofs.YteigbokklclmbaaGreatDoorW.PrintLast
theorem ends_ {e : Ending} {t1 t2 : Int} {Kp : Value → Prop} {Qp : List PanicEntry → Prop} (he : e = ending t1 t2) (pan : t2 = 1000 → Qp chain) (ok : ¬ t2 = 1000 → Kp (.agg #[.int .i64 t1, .int .i64 t2])) :
    (∃ v, e = .returned v ∧ Kp v) ∨ (∃ c, e = .panicked c ∧ Qp c) := by
  subst he
  by_cases h : t2 = 1000
  · exact .inr ⟨chain, by unfold ending; rw [if_pos h], pan h⟩
  · exact .inl ⟨_, ending_at h, ok h⟩
theorem code_direct {t1 t2 : Int} (h : t2 = 1000) : Ending.panicked chain = ending t1 t2 := by
  unfold ending; rw [if_pos h]
section
variable {P : Program} {ops : Array Oper} {Q : Exit → Act → World → Prop}
theorem goesP_ {oi : Oper} {N : Option Tmp} {a : Act} {w : World} {K : Act → World → Prop} {f : FuncId} {fn : Func} {asg : Array Operand} {ts : Array TypeId} (hf : P.funcs[f]? = some fn) (hname : (fn.name == "runtime.NumGoroutine") = false) (hb : fn.body.isSome = true) (args : Array Value)
    (hw : Region.wanted oi (yielded ops a.tmps) = true) (hN : oi.dst = N) (hop : oi.op = .call { callee := .value (.func f), args := asg, argTypes := ts }) (hargs : asg.map a.eval = args)
    (h : Calls P f args w fun e w' => (∃ v, e = .returned v ∧ K (a.put N v) w') ∨ (∃ c, e = .panicked c ∧ Q (.panic c) a w')) : if Region.wanted oi (yielded ops a.tmps) = true then Oper.wp P oi a w K Q else K (a.put N undef) w := by
  have he := enters_ hf hname hb args w
  have hrun : (execOp a.eval oi).run P w = .ok (.enter f args) w := by
    unfold execOp
    simp [hop, resolve, Deferred.ofValue, invoke, Act.eval, hargs, he]
  rw [if_pos hw]
  subst hN
  unfold Oper.wp
  rw [hrun, Oper.upon_enter]
  refine h.mono fun e w'' hh => ?_
  rcases hh with ⟨v, rfl, hk⟩ | ⟨c, rfl, hk⟩
  · exact hk
  · exact hk
theorem goesLP_ {rest : List Oper} {oi : Oper} {a : Act} {w : World} (N : Option Tmp) (hd : oi.dst = N) (hg : oi.guard = none) {f : FuncId} {fn : Func} {asg : Array Operand} {ts : Array TypeId} (hf : P.funcs[f]? = some fn) (hname : (fn.name == "runtime.NumGoroutine") = false) (hb : fn.body.isSome = true) (args : Array Value)
    (hop : oi.op = .call { callee := .value (.func f), args := asg, argTypes := ts }) (hargs : asg.map a.eval = args)
    (h : Calls P f args w fun e w' => (∃ v, e = .returned v ∧ wpList P ops Q rest (a.put N v) w') ∨ (∃ c, e = .panicked c ∧ Q (.panic c) a w')) : wpList P ops Q (oi :: rest) a w := by
  refine wpList_plain hg fun K hK => ?_
  have he := enters_ hf hname hb args w
  have hrun : (execOp a.eval oi).run P w = .ok (.enter f args) w := by
    unfold execOp
    simp [hop, resolve, Deferred.ofValue, invoke, Act.eval, hargs, he]
  unfold Oper.wp
  rw [hrun, Oper.upon_enter]
  refine h.mono fun e w'' hh => ?_
  rcases hh with ⟨v, rfl, hk⟩ | ⟨c, rfl, hk⟩
  · subst hd
    exact hK _ _ hk
  · exact hk
end
end Go.Proofs.YteigbokklclmbaaGreatDoor.Given
end
section
namespace Go.Proofs.YteigbokklclmbaaGreatDoor.Z
open Go.RowKit Go.Proofs.YteigbokklclmbaaGreatDoor.Given Go.Proofs.YteigbokklclmbaaGreatDoorW.PrintWords Go.Proofs.YteigbokklclmbaaGreatDoorW.PrintLast Go.Proofs.YteigbokklclmbaaGreatDoorW.PrintMore
attribute [local go_sem] max2_int min2_int max_two min_two max_three min_three max_four min_four



def errW : Option Int → Value
 | none => .nilIface
 | some c => .iface 0 (.int .i64 c)
theorem errW_none : errW none = .nilIface := rfl
theorem errW_some (c : Int) : errW (some c) = .iface 0 (.int .i64 c) := rfl

theorem info115 : (Tryz.prog.info? 115).map (fun i => (i.zero, i.size, i.bytes)) = some (some (.int .u32 0), 1, 4) := by kernel_rfl
-- the values' own types


def real_signed.f (a0 : Bool) (a1_0 : Int) (a1_1 : Int) : Option (Int × Int) := if a0 = true then (some (wrap64 (-a1_0), a1_1)) else (some (a1_0, a1_1))
theorem real_signed.calls (a0 : Bool) (a1_0 : Int) (a1_1 : Int) (r1 : Int) (r2 : Int) (w : World) (h : real_signed.f a0 a1_0 a1_1 = some (r1, r2)) :
  Calls Tryz.prog 80 #[.bool a0, .agg #[.int .i64 a1_0, .int .i64 a1_1]] w fun e w' => e = .returned (.agg #[.int .i64 r1, .int .i64 r2]) ∧ Below w.heap.size w w' := by
 have hu23 := Tryz.underlying23
 have HB := Aside0.mk (Below.refl w.heap.size w)
 have H := h; unfold real_signed.f at H; clear h
 by_cases c3 : a0 = true
 ·subst c3
  rw [if_pos rfl] at H
  simp only [Option.some.injEq, Prod.mk.injEq] at H
  obtain ⟨rfl, rfl⟩ := H
  go_enter Tryz.func80, Tryz.ntmps80
  go_wp2_with (first | ((with_reducible refine gate_dst (N := 3) rfl ?_); refine bxe 3 #[.int .i64 a1_0, .int .i64 a1_1] 23 ?_; intro gb101 hg w4 hbox hb; have BK101 := Aside0.mk hbox; have GW101 := ge hg; have GE101 := ge hg; replace HB := bs hb; clear hb hbox hg) | ((with_reducible refine gate_dst (N := 4) rfl ?_); refine bxe 4 #[.int .i64 0, .int .i64 0] 23 ?_; intro gb102 hg w5 hbox hb; have BK102 := Aside0.mk hbox; have GW102 := ge hg; have GE102 := ge hg; have NB101_102 := nl BK101 hg; have NB102_101 := nr BK101 hg; replace BK101 := kb BK101 hb; replace HB := bs hb; clear hb hbox hg; have hnb6 := NB101_102.out; have hnc6 := NB102_101.out; have hcz7_0 := c20 BK101; have hcz7_1 := c21 BK101; have hfz7_0 := blk_frozen BK101.out 0; have hfz7_1 := blk_frozen BK101.out 1; have hcz8_0 := c20 BK102; have hcz8_1 := c21 BK102; have hfz8_0 := blk_frozen BK102.out 0; have hfz8_1 := blk_frozen BK102.out 1))
  refine bodyPost_ret (results_cell_row rfl _ _ gb102 23 #[.int .i64 (wrap64 (-a1_0)), .int .i64 a1_1] (0, 0) _ rfl (by (with_reducible repeat (first | refine blk_drewN ?_ _ | refine blk_drew ?_ | refine blk_alloc ?_ _)); refine blk_put (cs := #[.int .i64 (wrap64 (-a1_0)), .int .i64 0]) ?_ 1 _ rfl; (with_reducible repeat (first | refine blk_drewN ?_ _ | refine blk_drew ?_ | refine blk_alloc ?_ _)); refine blk_put (cs := #[.int .i64 0, .int .i64 0]) ?_ 0 _ rfl; (with_reducible repeat (first | refine blk_drewN ?_ _ | refine blk_drew ?_ | refine blk_alloc ?_ _)); refine blk_far ?_ NB102_101.out _; (with_reducible repeat (first | refine blk_drewN ?_ _ | refine blk_drew ?_ | refine blk_alloc ?_ _)); exact BK102.out) Tryz.underlying23 rfl (by kernel_rfl)) rfl ?_
  exact ⟨by first | rfl | (simp [errW_none, errW_some] <;> rfl) | (simp [*, errW_none, errW_some] <;> rfl), bz⟩
 ·replace c3 := Bool.eq_false_iff.mpr c3
  subst c3
  rw [if_neg (show ¬ (false = true) by decide)] at H
  simp only [Option.some.injEq, Prod.mk.injEq] at H
  obtain ⟨rfl, rfl⟩ := H
  go_enter Tryz.func80, Tryz.ntmps80
  go_wp2_with (first | ((with_reducible refine gate_dst (N := 3) rfl ?_); refine bxe 3 #[.int .i64 a1_0, .int .i64 a1_1] 23 ?_; intro gb101 hg w9 hbox hb; have BK101 := Aside0.mk hbox; have GW101 := ge hg; have GE101 := ge hg; replace HB := bs hb; clear hb hbox hg) | ((with_reducible refine gate_dst (N := 4) rfl ?_); refine bxe 4 #[.int .i64 0, .int .i64 0] 23 ?_; intro gb102 hg w10 hbox hb; have BK102 := Aside0.mk hbox; have GW102 := ge hg; have GE102 := ge hg; have NB101_102 := nl BK101 hg; have NB102_101 := nr BK101 hg; replace BK101 := kb BK101 hb; replace HB := bs hb; clear hb hbox hg; have hnb11 := NB101_102.out; have hnc11 := NB102_101.out; have hcz12_0 := c20 BK101; have hcz12_1 := c21 BK101; have hfz12_0 := blk_frozen BK101.out 0; have hfz12_1 := blk_frozen BK101.out 1; have hcz13_0 := c20 BK102; have hcz13_1 := c21 BK102; have hfz13_0 := blk_frozen BK102.out 0; have hfz13_1 := blk_frozen BK102.out 1))
  refine bodyPost_ret (results_cell_row rfl _ _ gb102 23 #[.int .i64 a1_0, .int .i64 a1_1] (0, 0) _ rfl (by (with_reducible repeat (first | refine blk_drewN ?_ _ | refine blk_drew ?_ | refine blk_alloc ?_ _)); refine blk_put (cs := #[.int .i64 a1_0, .int .i64 0]) ?_ 1 _ rfl; (with_reducible repeat (first | refine blk_drewN ?_ _ | refine blk_drew ?_ | refine blk_alloc ?_ _)); refine blk_put (cs := #[.int .i64 0, .int .i64 0]) ?_ 0 _ rfl; (with_reducible repeat (first | refine blk_drewN ?_ _ | refine blk_drew ?_ | refine blk_alloc ?_ _)); exact BK102.out) Tryz.underlying23 rfl (by kernel_rfl)) rfl ?_
  exact ⟨by first | rfl | (simp [errW_none, errW_some] <;> rfl) | (simp [*, errW_none, errW_some] <;> rfl), bz⟩

theorem signed_not {b : Bool} {t1 t2 r1 r2 : Int} (h : Aside0 (real_signed.f b t1 t2 = some (r1, r2))) (hn : ¬ t2 = 1000) : ¬ r2 = 1000 := by
 have h := h.out
 cases b
 ·simp [real_signed.f] at h; rw [← h.2]; exact hn
 ·simp [real_signed.f] at h; rw [← h.2]; exact hn
theorem code_signed {b : Bool} {t1 t2 r1 r2 : Int} (h : Aside0 (real_signed.f b t1 t2 = some (r1, r2))) (h1 : t2 = 1000) : Ending.panicked chain = ending r1 r2 := by
 have h := h.out
 refine code_direct ?_
 cases b
 ·simp [real_signed.f] at h; rw [← h.2]; exact h1
 ·simp [real_signed.f] at h; rw [← h.2]; exact h1

def real_nat_cmp.l0 : Nat → List Int → List Int → Int → Option (Int)
 | 0, _, _, _ => none
 | k + 1, x0, x1, x5 => if x5 ≥ 0 then (if 0 ≤ x5 then (if x5 < (x0.length : Int) then (if x5 < (x1.length : Int) then (if (rd x0 x5) = (rd x1 x5) then (real_nat_cmp.l0 k x0 x1 (wrap64 (x5 - 1))) else (if (rd x0 x5) < (rd x1 x5) then (some (-1)) else (some 1))) else (none)) else (none)) else (none)) else (some 0)
def real_nat_cmp.f (k : Nat) (l0 : List Int) (l1 : List Int) : Option (Int) := if (l0.length : Int) = (l1.length : Int) then (real_nat_cmp.l0 k l0 l1 (wrap64 ((l0.length : Int) - 1))) else (if (l0.length : Int) < (l1.length : Int) then (some (-1)) else (some 1))
theorem real_nat_cmp.mono_l : ∀ k, (∀ y0 y1 y2, LeO (real_nat_cmp.l0 k y0 y1 y2) (real_nat_cmp.l0 (k + 1) y0 y1 y2))
 | 0 => fun _ _ _ r h => by simp [real_nat_cmp.l0] at h
 | k + 1 => by
  have ih0 := real_nat_cmp.mono_l k
  ·intro y0 y1 y2
   unfold real_nat_cmp.l0
   repeat' first
   | (with_reducible exact ih0 _ _ _)
   | (with_reducible exact LeO.refl _)
   | (with_reducible exact LeO.none _)
   | (with_reducible refine LeO.ite ?_ ?_)
   | (with_reducible refine LeO.bind ?_ (fun _ => ?_))
   | exact ih0 _ _ _
   | exact LeO.none _
   | refine LeO.ite ?_ ?_
   | refine LeO.bind ?_ (fun _ => ?_)
theorem real_nat_cmp.mono : ∀ a0 a1 k, LeO (real_nat_cmp.f k a0 a1) (real_nat_cmp.f (k + 1) a0 a1) := by
 intro a0 a1 k
 have ih0 := real_nat_cmp.mono_l k
 unfold real_nat_cmp.f
 repeat' first
   | (with_reducible exact ih0 _ _ _)
   | (with_reducible exact LeO.refl _)
   | (with_reducible exact LeO.none _)
   | (with_reducible refine LeO.ite ?_ ?_)
   | (with_reducible refine LeO.bind ?_ (fun _ => ?_))
   | exact ih0 _ _ _
   | exact LeO.none _
   | refine LeO.ite ?_ ?_
   | refine LeO.bind ?_ (fun _ => ?_)
theorem real_nat_cmp.calls (k : Nat) (A0 : Option Addr) (c0 : Nat) (l0 : List Int) (A1 : Option Addr) (c1 : Nat) (l1 : List Int) (r : Int) (w : World) (hr0 : Kd.C (Kd.int .u32) w A0 l0.length l0) (hc0 : l0.length ≤ c0) (hr1 : Kd.C (Kd.int .u32) w A1 l1.length l1) (hc1 : l1.length ≤ c1) (h : real_nat_cmp.f k l0 l1 = some r) :
  Calls Tryz.prog 123 #[.slice A0 l0.length c0, .slice A1 l1.length c1] w fun e w' => e = .returned (.int .i64 r) ∧ Drawn0 w w' := by
 have HR0 := Aside0.mk hr0
 have HC0 := Aside0.mk hc0
 clear hr0 hc0
 have HR1 := Aside0.mk hr1
 have HC1 := Aside0.mk hc1
 clear hr1 hc1
 have H := h; unfold real_nat_cmp.f at H; clear h
 by_cases c3 : (l0.length : Int) = (l1.length : Int)
 ·rw [if_pos c3] at H
  have c3b0 : ((l0.length : Int) == (l1.length : Int)) = true := beq_iff_eq.mpr c3
  have c3b1 : ((l0.length : Int) != (l1.length : Int)) = false := bne_eq_false_iff_eq.mpr c3
  have c3b2 : (l0.length == l1.length) = true := by first | simpa using c3 | (simp at c3 ⊢; omega)
  clear c3
  have H' := Aside0.mk H
  clear H
  go_enter Tryz.func123, Tryz.ntmps123
  go_wp2
  repeat (go_quiet (fail); try go_wp2)
  go_loopg [5] k (fun kq v5 w' => ∃ (x5_1 : Int), v5 = .int .i64 x5_1 ∧ Aside0 (real_nat_cmp.l0 kq l0 l1 x5_1 = some r) ∧ Aside0 (kq ≤ k) ∧ Drawn0 w w')
  case atStart => exact ⟨(wrap64 ((l0.length : Int) - 1)), (by first | rfl | (simp; done) | (simp [*]; done)), H', ⟨Nat.le_refl _⟩, by repeat (first | exact Drawn0.refl _ | apply Drawn0.step)⟩
  case round =>
   clear H'
   try clear c1
   try clear c3
   try clear c3b0
   try clear c3b1
   try clear c3b2
   obtain ⟨x5_1, rfl, HA, HK1, ⟨m1, rfl⟩⟩ := hrel
   cases gk with
   | zero => exact absurd HA.out (by simp [real_nat_cmp.l0])
   | succ k1 =>
    have H := HA.out
    clear HA
    simp only [real_nat_cmp.l0] at H
    by_cases c4 : x5_1 ≥ 0
    ·rw [if_pos c4] at H
     have c4b0 : decide (0 ≤ x5_1) = true := decide_eq_true c4
     clear c4
     by_cases c5 : 0 ≤ x5_1
     ·rw [if_pos c5] at H
      have c5b0 : decide (0 ≤ x5_1) = true := decide_eq_true c5
      clear c5
      by_cases c6 : x5_1 < (l0.length : Int)
      ·rw [if_pos c6] at H
       have c6b0 : decide (x5_1 < (l0.length : Int)) = true := decide_eq_true c6
       clear c6
       by_cases c7 : x5_1 < (l1.length : Int)
       ·rw [if_pos c7] at H
        have c7b0 : decide (x5_1 < (l1.length : Int)) = true := decide_eq_true c7
        clear c7
        by_cases c8 : (rd l0 x5_1) = (rd l1 x5_1)
        ·rw [if_pos c8] at H
         have c8b0 : ((rd l0 x5_1) == (rd l1 x5_1)) = true := beq_iff_eq.mpr c8
         have c8b1 : ((rd l0 x5_1) != (rd l1 x5_1)) = false := bne_eq_false_iff_eq.mpr c8
         clear c8
         have H' := Aside0.mk H
         clear H
         have p103 : 0 ≤ (x5_1 : Int) := oda
         have q103 : x5_1 < (l0.length : Int) := oda
         obtain ⟨ad103, e103, hx103_0⟩ := Kd.at_int HR0.out x5_1 p103 q103
         cases e103
         replace p103 := eq_true p103
         replace q103 := eq_true q103
         have p104 : 0 ≤ (x5_1 : Int) := oda
         have q104 : x5_1 < (l1.length : Int) := oda
         obtain ⟨ad104, e104, hx104_0⟩ := Kd.at_int HR1.out x5_1 p104 q104
         cases e104
         replace p104 := eq_true p104
         replace q104 := eq_true q104
         go_wp2
         repeat (go_quiet (fail); try go_wp2)
         go_roundg k1
         case measure => have := HK1.out; omega
         case rel => exact ⟨(wrap64 (x5_1 - 1)), (by first | rfl | (simp; done) | (simp [*]; done)), H', ⟨by have := HK1.out; omega⟩, by repeat (first | exact Drawn0.refl _ | apply Drawn0.step)⟩
        ·rw [if_neg c8] at H
         have c8b0 : ((rd l0 x5_1) == (rd l1 x5_1)) = false := beq_eq_false_iff_ne.mpr c8
         have c8b1 : ((rd l0 x5_1) != (rd l1 x5_1)) = true := bne_iff_ne.mpr c8
         by_cases c9 : (rd l0 x5_1) < (rd l1 x5_1)
         ·rw [if_pos c9] at H
          have c9b0 : decide ((rd l0 x5_1) < (rd l1 x5_1)) = true := decide_eq_true c9
          clear c9
          obtain rfl := Option.some.inj H
          have p103 : 0 ≤ (x5_1 : Int) := oda
          have q103 : x5_1 < (l0.length : Int) := oda
          obtain ⟨ad103, e103, hx103_0⟩ := Kd.at_int HR0.out x5_1 p103 q103
          cases e103
          replace p103 := eq_true p103
          replace q103 := eq_true q103
          have p104 : 0 ≤ (x5_1 : Int) := oda
          have q104 : x5_1 < (l1.length : Int) := oda
          obtain ⟨ad104, e104, hx104_0⟩ := Kd.at_int HR1.out x5_1 p104 q104
          cases e104
          replace p104 := eq_true p104
          replace q104 := eq_true q104
          have p105 : 0 ≤ (x5_1 : Int) := oda
          have q105 : x5_1 < (l0.length : Int) := oda
          obtain ⟨ad105, e105, hx105_0⟩ := Kd.at_int HR0.out x5_1 p105 q105
          obtain rfl : ad103 = ad105 := (by injection e105)
          replace p105 := eq_true p105
          replace q105 := eq_true q105
          have p106 : 0 ≤ (x5_1 : Int) := oda
          have q106 : x5_1 < (l1.length : Int) := oda
          obtain ⟨ad106, e106, hx106_0⟩ := Kd.at_int HR1.out x5_1 p106 q106
          obtain rfl : ad104 = ad106 := (by injection e106)
          replace p106 := eq_true p106
          replace q106 := eq_true q106
          go_wp2
          repeat (go_quiet (fail); try go_wp2)
          go_ret
          exact ⟨by first | rfl | (simp; done) | (simp [*]; done) | (exfalso; simp at *; done), by repeat (first | exact Drawn0.refl _ | apply Drawn0.step)⟩
         ·rw [if_neg c9] at H
          have c9b0 : decide ((rd l0 x5_1) < (rd l1 x5_1)) = false := decide_eq_false c9
          clear c9
          obtain rfl := Option.some.inj H
          have p103 : 0 ≤ (x5_1 : Int) := oda
          have q103 : x5_1 < (l0.length : Int) := oda
          obtain ⟨ad103, e103, hx103_0⟩ := Kd.at_int HR0.out x5_1 p103 q103
          cases e103
          replace p103 := eq_true p103
          replace q103 := eq_true q103
          have p104 : 0 ≤ (x5_1 : Int) := oda
          have q104 : x5_1 < (l1.length : Int) := oda
          obtain ⟨ad104, e104, hx104_0⟩ := Kd.at_int HR1.out x5_1 p104 q104
          cases e104
          replace p104 := eq_true p104
          replace q104 := eq_true q104
          have p105 : 0 ≤ (x5_1 : Int) := oda
          have q105 : x5_1 < (l0.length : Int) := oda
          obtain ⟨ad105, e105, hx105_0⟩ := Kd.at_int HR0.out x5_1 p105 q105
          obtain rfl : ad103 = ad105 := (by injection e105)
          replace p105 := eq_true p105
          replace q105 := eq_true q105
          have p106 : 0 ≤ (x5_1 : Int) := oda
          have q106 : x5_1 < (l1.length : Int) := oda
          obtain ⟨ad106, e106, hx106_0⟩ := Kd.at_int HR1.out x5_1 p106 q106
          obtain rfl : ad104 = ad106 := (by injection e106)
          replace p106 := eq_true p106
          replace q106 := eq_true q106
          go_wp2
          repeat (go_quiet (fail); try go_wp2)
          go_ret
          exact ⟨by first | rfl | (simp; done) | (simp [*]; done) | (exfalso; simp at *; done), by repeat (first | exact Drawn0.refl _ | apply Drawn0.step)⟩
       ·rw [if_neg c7] at H
        exact absurd H (by simp)
      ·rw [if_neg c6] at H
       exact absurd H (by simp)
     ·rw [if_neg c5] at H
      exact absurd H (by simp)
    ·rw [if_neg c4] at H
     have c4b0 : decide (0 ≤ x5_1) = false := decide_eq_false c4
     clear c4
     obtain rfl := Option.some.inj H
     go_wp2
     repeat (go_quiet (fail); try go_wp2)
     go_ret
     exact ⟨by first | rfl | (simp; done) | (simp [*]; done) | (exfalso; simp at *; done), by repeat (first | exact Drawn0.refl _ | apply Drawn0.step)⟩
 ·rw [if_neg c3] at H
  have c3b0 : ((l0.length : Int) == (l1.length : Int)) = false := beq_eq_false_iff_ne.mpr c3
  have c3b1 : ((l0.length : Int) != (l1.length : Int)) = true := bne_iff_ne.mpr c3
  have c3b2 : (l0.length == l1.length) = false := by first | simpa using c3 | (simp at c3 ⊢; omega)
  by_cases c10 : (l0.length : Int) < (l1.length : Int)
  ·rw [if_pos c10] at H
   have c10b0 : decide ((l0.length : Int) < (l1.length : Int)) = true := decide_eq_true c10
   have c10b1 : decide (l0.length < l1.length) = true := decide_eq_true (Int.ofNat_lt.mp c10)
   clear c10
   obtain rfl := Option.some.inj H
   go_enter Tryz.func123, Tryz.ntmps123
   go_wp2
   repeat (go_quiet (fail); try go_wp2)
   go_ret
   exact ⟨by first | rfl | (simp; done) | (simp [*]; done) | (exfalso; simp at *; done), by repeat (first | exact Drawn0.refl _ | apply Drawn0.step)⟩
  ·rw [if_neg c10] at H
   have c10b0 : decide ((l0.length : Int) < (l1.length : Int)) = false := decide_eq_false c10
   have c10b1 : decide (l0.length < l1.length) = false := decide_eq_false (fun h => c10 (Int.ofNat_lt.mpr h))
   clear c10
   obtain rfl := Option.some.inj H
   go_enter Tryz.func123, Tryz.ntmps123
   go_wp2
   repeat (go_quiet (fail); try go_wp2)
   go_ret
   exact ⟨by first | rfl | (simp; done) | (simp [*]; done) | (exfalso; simp at *; done), by repeat (first | exact Drawn0.refl _ | apply Drawn0.step)⟩

def real_trim.l0 : Nat → List Int → Option (List Int)
 | 0, _ => none
 | k + 1, x0 => if (x0.length : Int) > 0 then (if 0 ≤ (wrap64 ((x0.length : Int) - 1)) then (if (wrap64 ((x0.length : Int) - 1)) < (x0.length : Int) then (if (rd x0 (wrap64 ((x0.length : Int) - 1))) = 0 then (if (wrap64 ((x0.length : Int) - 1)) ≤ (x0.length : Int) then (real_trim.l0 k (x0.take ((wrap64 ((x0.length : Int) - 1)) : Int).toNat)) else (none)) else (some x0)) else (none)) else (none)) else (some x0)
def real_trim.f (k : Nat) (l0 : List Int) : Option (List Int) := real_trim.l0 k l0
theorem real_trim.mono_l : ∀ k, (∀ y0, LeO (real_trim.l0 k y0) (real_trim.l0 (k + 1) y0))
 | 0 => fun _ r h => by simp [real_trim.l0] at h
 | k + 1 => by
  have ih0 := real_trim.mono_l k
  ·intro y0
   unfold real_trim.l0
   repeat' first
   | (with_reducible exact ih0 _)
   | (with_reducible exact LeO.refl _)
   | (with_reducible exact LeO.none _)
   | (with_reducible refine LeO.ite ?_ ?_)
   | (with_reducible refine LeO.bind ?_ (fun _ => ?_))
   | exact ih0 _
   | exact LeO.none _
   | refine LeO.ite ?_ ?_
   | refine LeO.bind ?_ (fun _ => ?_)
theorem real_trim.mono : ∀ a0 k, LeO (real_trim.f k a0) (real_trim.f (k + 1) a0) := by
 intro a0 k
 have ih0 := real_trim.mono_l k
 unfold real_trim.f
 repeat' first
   | (with_reducible exact ih0 _)
   | (with_reducible exact LeO.refl _)
   | (with_reducible exact LeO.none _)
   | (with_reducible refine LeO.ite ?_ ?_)
   | (with_reducible refine LeO.bind ?_ (fun _ => ?_))
   | exact ih0 _
   | exact LeO.none _
   | refine LeO.ite ?_ ?_
   | refine LeO.bind ?_ (fun _ => ?_)
theorem real_trim.calls (k : Nat) (P0_ : Nat → Prop) (A0 : Option Addr) (c0 : Nat) (l0 : List Int) (r : List Int) (w : World) (hs0 : Kd.V (Kd.int .u32) 115 w w.heap.size (fun k_ => P0_ k_) (.slice A0 l0.length c0) l0) (h : real_trim.f k l0 = some r) :
  Calls Tryz.prog 142 #[.slice A0 l0.length c0] w fun e w' => ∃ v0_ : Value, e = .returned (v0_) ∧ Kd.V (Kd.int .u32) 115 w' w.heap.size (fun k_ => (P0_ k_ ∨ w.heap.size ≤ k_)) v0_ r ∧ Below w.heap.size w w' := by
 have HO0 := Aside0.mk (show Kd.V (Kd.int .u32) 115 w w.heap.size (fun k_ => (P0_ k_ ∨ w.heap.size ≤ k_)) (.slice A0 l0.length c0) l0 from Kd.V_mono hs0 (fun k_ hk => .inl hk))
 have HB := Aside0.mk (Below.refl w.heap.size w)
 have H := h; unfold real_trim.f at H; clear h
 have H' := Aside0.mk H
 clear H
 go_enter Tryz.func142, Tryz.ntmps142
 go_wp2
 go_loopg [0] k (fun kq v0 w' => ∃ (x0_1 : List Int), Aside0 (real_trim.l0 kq x0_1 = some r) ∧ Aside0 (kq ≤ k) ∧ Aside0 (Kd.V (Kd.int .u32) 115 w' w.heap.size (fun k_ => (P0_ k_ ∨ w.heap.size ≤ k_)) v0 x0_1) ∧ Aside0 (Below w.heap.size w w'))
 case atStart => exact ⟨(l0), H', ⟨Nat.le_refl _⟩, ⟨vz HO0⟩, ⟨bz⟩⟩
 case round =>
  clear H'
  obtain ⟨x0_1, HA, HK1, HO_0, HB⟩ := hrel
  cases gk with
  | zero => exact absurd HA.out (by simp [real_trim.l0])
  | succ k1 =>
   have H := HA.out
   clear HA
   simp only [real_trim.l0] at H
   by_cases c2 : (x0_1.length : Int) > 0
   ·rw [if_pos c2] at H
    have c2b0 : decide (0 < (x0_1.length : Int)) = true := decide_eq_true c2
    have c2b1 : decide (0 < x0_1.length) = true := decide_eq_true (by omega)
    clear c2
    obtain ⟨ji3, hji3⟩ : ∃ j_ : Int, (wrap64 ((x0_1.length : Int) - 1)) = j_ := ⟨_, rfl⟩
    first | rw [hji3] at H | simp only [hji3] at H
    have hji3w : (IntKind.i64.wrap ((x0_1.length : Int) - 1)) = ji3 := (i64_w _).trans hji3
    by_cases c4 : 0 ≤ (ji3)
    ·rw [if_pos c4] at H
     have c4b0 : decide (0 ≤ (ji3)) = true := decide_eq_true c4
     clear c4
     by_cases c5 : (ji3) < (x0_1.length : Int)
     ·rw [if_pos c5] at H
      have c5b0 : decide ((ji3) < (x0_1.length : Int)) = true := decide_eq_true c5
      clear c5
      by_cases c6 : (rd x0_1 (ji3)) = 0
      ·rw [if_pos c6] at H
       have c6b0 : ((rd x0_1 (ji3)) == 0) = true := beq_iff_eq.mpr c6
       have c6b1 : ((rd x0_1 (ji3)) != 0) = false := bne_eq_false_iff_eq.mpr c6
       clear c6
       have c7b0 := eq_true (of_decide_eq_true (by first | (with_reducible assumption) | assumption) : 0 ≤ (ji3))
       by_cases c8 : (ji3) ≤ (x0_1.length : Int)
       ·rw [if_pos c8] at H
        have c8b0 := eq_true c8
        have c8b1 : decide ((ji3) ≤ (x0_1.length : Int)) = true := decide_eq_true c8
        clear c8
        obtain ⟨y108, hy108⟩ : ∃ y_ : List Int, y_ = (x0_1.take ((ji3) : Int).toNat) := ⟨_, rfl⟩
        replace H : (real_trim.l0 k1 y108) = some r := by first | (rw [hy108]; with_reducible exact H) | (have H2_ := (Option.bind_some _ _).symm.trans H; rw [hy108]; with_reducible exact H2_) | (have H2_ := (Option.bind_some _ _).symm.trans H; with_reducible exact H2_) | with_reducible exact H | (rw [hy108]; exact H) | exact H
        have Ny108 := Aside0.mk hy108
        clear hy108
        have H' := Aside0.mk H
        clear H
        obtain ⟨Ao9, co9, eo9⟩ := Kd.V_slice HO_0.out
        subst eo9
        have p107 : 0 ≤ ((ji3) : Int) := oda
        have q107 : (ji3) < (x0_1.length : Int) := oda
        obtain ⟨ad107, e107, hx107_0⟩ := Kd.at_int (Kd.V_reads' HO_0.out).2.2 (ji3) p107 q107
        cases e107
        replace p107 := eq_true p107
        replace q107 := eq_true q107
        have q10 : ((ji3) : Int) ≤ ((x0_1.length : Int) : Int) := oda
        obtain ⟨i010, hi010, _, hsz10, _⟩ := info_parts info115
        have hroom10 : x0_1.length ≤ co9 := (Kd.V_reads' HO_0.out).2.1
        have hC10 : Kd.F (Kd.int .u32) _ _ (some ad107) x0_1.length x0_1 := (Kd.V_at (base := w.heap.size) HO_0.out).2.2
        have hcut10 := cut_to (P := Tryz.prog) 87 115 .i64 Tryz.underlying87 hi010 (some ad107) x0_1.length co9 (ji3) (oda) q10 hroom10
        have hr10 := Kd.F_take (m := ((ji3) : Int).toNat) hC10 (by omega)
        have hy10 : y108.length = ((ji3) : Int).toNat := (by rw [Ny108.out, List.length_take]; omega)
        rw [← Ny108.out] at hr10
        rw [← hy10] at hcut10
        have HO112 := Aside0.mk (show Kd.V (Kd.int .u32) 115 _ w.heap.size _ (.slice (some ad107) y108.length co9) y108 from Kd.V_mk (by omega) hr10)
        have HC112 := Aside0.mk (show y108.length ≤ co9 from by omega)
        clear hr10 hC10 hroom10 hi010 hsz10
        have KY10 := Aside0.mk hy10
        clear hy10
        replace q10 := eq_true q10
        go_wp2
        go_roundg k1
        case measure => have := HK1.out; omega
        case rel => exact ⟨(y108), H', ⟨by have := HK1.out; omega⟩, ⟨vz HO112⟩, ⟨bz⟩⟩
       ·rw [if_neg c8] at H
        exact absurd H (by simp)
      ·rw [if_neg c6] at H
       have c6b0 : ((rd x0_1 (ji3)) == 0) = false := beq_eq_false_iff_ne.mpr c6
       have c6b1 : ((rd x0_1 (ji3)) != 0) = true := bne_iff_ne.mpr c6
       obtain rfl := Option.some.inj H
       obtain ⟨Ao11, co11, eo11⟩ := Kd.V_slice HO_0.out
       subst eo11
       have p107 : 0 ≤ ((ji3) : Int) := oda
       have q107 : (ji3) < (x0_1.length : Int) := oda
       obtain ⟨ad107, e107, hx107_0⟩ := Kd.at_int (Kd.V_reads' HO_0.out).2.2 (ji3) p107 q107
       cases e107
       replace p107 := eq_true p107
       replace q107 := eq_true q107
       go_wp2
       go_ret
       exact ⟨_, by first | rfl | (simp [errW_none, errW_some] <;> rfl) | (simp only [← hji3]; first | rfl | (simp [errW_none, errW_some] <;> rfl)) | (simp [*, errW_none, errW_some] <;> rfl), by (with_reducible repeat (first | apply Kd.V_alloc | apply Kd.V_drewN | apply Kd.V_drew)); exact HO_0.out, bz⟩
     ·rw [if_neg c5] at H
      exact absurd H (by simp)
    ·rw [if_neg c4] at H
     exact absurd H (by simp)
   ·rw [if_neg c2] at H
    have c2b0 : decide (0 < (x0_1.length : Int)) = false := decide_eq_false c2
    have c2b1 : decide (0 < x0_1.length) = false := decide_eq_false (by omega)
    clear c2
    obtain rfl := Option.some.inj H
    obtain ⟨Ao12, co12, eo12⟩ := Kd.V_slice HO_0.out
    subst eo12
    go_wp2
    go_ret
    exact ⟨_, by first | rfl | (simp [errW_none, errW_some] <;> rfl) | (simp [*, errW_none, errW_some] <;> rfl), by (with_reducible repeat (first | apply Kd.V_alloc | apply Kd.V_drewN | apply Kd.V_drew)); exact HO_0.out, bz⟩


mutual
def real_nat_add.l0 : Nat → List Int → List Int → List Int → Int → Int → Int → Option (List Int)
 | 0, _, _, _, _, _, _ => none
 | k + 1, x0, x1, x5, x6, x12, x13 => if x13 < x12 then (if x13 < (x0.length : Int) then (if 0 ≤ x13 then (real_nat_add.j1 k x0 x1 x5 (IntKind.u64.wrap (x6 + (IntKind.u64.wrap (rd x0 x13)))) x13 x12 x13) else (none)) else (real_nat_add.j1 k x0 x1 x5 x6 x13 x12 x13)) else (if x5.length < 35184372088832 then ((real_trim.f k (x5 ++ [(x6) % 4294967296])).bind fun t116 => (some t116)) else (none))
def real_nat_add.j1 : Nat → List Int → List Int → List Int → Int → Int → Int → Int → Option (List Int)
 | 0, _, _, _, _, _, _, _ => none
 | k + 1, x0, x1, x5, x6, x7, x12, x13 => if x7 < (x1.length : Int) then (if 0 ≤ x7 then (if x5.length < 35184372088832 then (real_nat_add.l0 k x0 x1 (x5 ++ [(IntKind.u64.wrap (x6 + (IntKind.u64.wrap (rd x1 x7)))) % 4294967296]) ((IntKind.u64.wrap (x6 + (IntKind.u64.wrap (rd x1 x7)))) / 4294967296) x12 (wrap64 (x13 + 1))) else (none)) else (none)) else (if x5.length < 35184372088832 then (real_nat_add.l0 k x0 x1 (x5 ++ [(x6) % 4294967296]) (x6 / 4294967296) x12 (wrap64 (x13 + 1))) else (none))
end
def real_nat_add.f (k : Nat) (l0 : List Int) (l1 : List Int) : Option (List Int) := real_nat_add.l0 k l0 l1 ([] : List Int) 0 (mx (l0.length : Int) (l1.length : Int)) 0
theorem real_nat_add.mono_l : ∀ k, (∀ y0 y1 y2 y3 y4 y5, LeO (real_nat_add.l0 k y0 y1 y2 y3 y4 y5) (real_nat_add.l0 (k + 1) y0 y1 y2 y3 y4 y5)) ∧ (∀ y0 y1 y2 y3 y4 y5 y6, LeO (real_nat_add.j1 k y0 y1 y2 y3 y4 y5 y6) (real_nat_add.j1 (k + 1) y0 y1 y2 y3 y4 y5 y6))
 | 0 => ⟨fun _ _ _ _ _ _ r h => by simp [real_nat_add.l0] at h, fun _ _ _ _ _ _ _ r h => by simp [real_nat_add.j1] at h⟩
 | k + 1 => by
  obtain ⟨ih0, ih1⟩ := real_nat_add.mono_l k
  refine ⟨?_, ?_⟩
  ·intro y0 y1 y2 y3 y4 y5
   unfold real_nat_add.l0
   repeat' first
   | (with_reducible exact ih0 _ _ _ _ _ _)
   | (with_reducible exact ih1 _ _ _ _ _ _ _)
   | (with_reducible exact real_trim.mono _ _)
   | (with_reducible exact LeO.refl _)
   | (with_reducible exact LeO.none _)
   | (with_reducible refine LeO.ite ?_ ?_)
   | (with_reducible refine LeO.bind ?_ (fun _ => ?_))
   | exact ih0 _ _ _ _ _ _
   | exact ih1 _ _ _ _ _ _ _
   | exact real_trim.mono _ _
   | exact LeO.none _
   | refine LeO.ite ?_ ?_
   | refine LeO.bind ?_ (fun _ => ?_)
  ·intro y0 y1 y2 y3 y4 y5 y6
   unfold real_nat_add.j1
   repeat' first
   | (with_reducible exact ih0 _ _ _ _ _ _)
   | (with_reducible exact ih1 _ _ _ _ _ _ _)
   | (with_reducible exact real_trim.mono _ _)
   | (with_reducible exact LeO.refl _)
   | (with_reducible exact LeO.none _)
   | (with_reducible refine LeO.ite ?_ ?_)
   | (with_reducible refine LeO.bind ?_ (fun _ => ?_))
   | exact ih0 _ _ _ _ _ _
   | exact ih1 _ _ _ _ _ _ _
   | exact real_trim.mono _ _
   | exact LeO.none _
   | refine LeO.ite ?_ ?_
   | refine LeO.bind ?_ (fun _ => ?_)
theorem real_nat_add.mono : ∀ a0 a1 k, LeO (real_nat_add.f k a0 a1) (real_nat_add.f (k + 1) a0 a1) := by
 intro a0 a1 k
 obtain ⟨ih0, ih1⟩ := real_nat_add.mono_l k
 unfold real_nat_add.f
 repeat' first
   | (with_reducible exact ih0 _ _ _ _ _ _)
   | (with_reducible exact ih1 _ _ _ _ _ _ _)
   | (with_reducible exact real_trim.mono _ _)
   | (with_reducible exact LeO.refl _)
   | (with_reducible exact LeO.none _)
   | (with_reducible refine LeO.ite ?_ ?_)
   | (with_reducible refine LeO.bind ?_ (fun _ => ?_))
   | exact ih0 _ _ _ _ _ _
   | exact ih1 _ _ _ _ _ _ _
   | exact real_trim.mono _ _
   | exact LeO.none _
   | refine LeO.ite ?_ ?_
   | refine LeO.bind ?_ (fun _ => ?_)
theorem real_nat_add.calls (k : Nat) (A0 : Option Addr) (c0 : Nat) (l0 : List Int) (A1 : Option Addr) (c1 : Nat) (l1 : List Int) (r : List Int) (w : World) (hr0 : Kd.C (Kd.int .u32) w A0 l0.length l0) (hc0 : l0.length ≤ c0) (hr1 : Kd.C (Kd.int .u32) w A1 l1.length l1) (hc1 : l1.length ≤ c1) (h : real_nat_add.f k l0 l1 = some r) :
  Calls Tryz.prog 117 #[.slice A0 l0.length c0, .slice A1 l1.length c1] w fun e w' => ∃ v0_ : Value, e = .returned (v0_) ∧ Kd.V (Kd.int .u32) 115 w' w.heap.size (fun k_ => (w.heap.size ≤ k_)) v0_ r ∧ Below w.heap.size w w' := by
 have HR0 := Aside0.mk hr0
 have HC0 := Aside0.mk hc0
 clear hr0 hc0
 have HR1 := Aside0.mk hr1
 have HC1 := Aside0.mk hc1
 clear hr1 hc1
 have HB := Aside0.mk (Below.refl w.heap.size w)
 have H := h; unfold real_nat_add.f at H; clear h
 obtain ⟨ji3, hji3⟩ : ∃ j_ : Int, (mx (l0.length : Int) (l1.length : Int)) = j_ := ⟨_, rfl⟩
 first | rw [hji3] at H | simp only [hji3] at H
 (try (have hji3l : 0 ≤ ji3 := by (rw [← hji3]; unfold mx; (repeat' split) <;> omega)))
 (try (have hji3m : 0 ≤ ji3 := by omega))
 have hji3_ : (if (l0.length : Int) < (l1.length : Int) then (l1.length : Int) else (l0.length : Int)) = ji3 := hji3
 have hji3n_ : (if l0.length < l1.length then (l1.length : Int) else (l0.length : Int)) = ji3 := by rw [← hji3_]; simp only [Int.ofNat_lt]
 have H' := Aside0.mk H
 clear H
 go_enter Tryz.func117, Tryz.ntmps117
 go_wp2
 go_loopg [5, 6, 13] k (fun kq v5 v6 v13 w' => ∃ (x5_1 : List Int) (x6_1 : Int) (x13_1 : Int), v6 = .int .u64 x6_1 ∧ v13 = .int .i64 x13_1 ∧ Aside0 (real_nat_add.l0 kq l0 l1 x5_1 x6_1 ji3 x13_1 = some r) ∧ Aside0 (kq ≤ k) ∧ Aside0 (Kd.R (Kd.int .u32) 115 w' w.heap.size (fun k_ => (w.heap.size ≤ k_)) v5 x5_1) ∧ Aside0 (Below w.heap.size w w'))
 case atStart => exact ⟨(([] : List Int)), (0), (0), (by first | rfl | (simp; done) | (simp [*]; done)), (by first | rfl | (simp; done) | (simp [*]; done)), H', ⟨Nat.le_refl _⟩, ⟨by first | exact Kd.R_nil _ _ _ _ _ | exact Kd.N_nil _ _ _ _ _ | exact Kd.V_nil _ _ _ _ _ | exact Kd.Q_nil _ _ _ _ _ | exact Kd.S_nil _ _ _ _ _⟩, ⟨bz⟩⟩
 case round =>
  clear H'
  try clear c1
  obtain ⟨x5_1, x6_1, x13_1, rfl, rfl, HA, HK1, HO_5, HB⟩ := hrel
  cases gk with
  | zero => exact absurd HA.out (by simp [real_nat_add.l0])
  | succ k1 =>
   have H := HA.out
   clear HA
   simp only [real_nat_add.l0] at H
   by_cases c4 : x13_1 < ji3
   ·rw [if_pos c4] at H
    have c4b0 : decide (x13_1 < ji3) = true := decide_eq_true c4
    clear c4
    have HC5 := Aside0.mk H
    clear H
    go_upto_if 19 with (fail)
    go_cut [6] (fun v6 wc => ∃ (kq : Nat) (x6_4 : Int), v6 = .int .u64 x6_4 ∧ Aside0 (real_nat_add.j1 kq l0 l1 x5_1 x6_4 x13_1 ji3 x13_1 = some r) ∧ Aside0 (kq ≤ k1) ∧ Aside0 (Kd.R (Kd.int .u32) 115 wc w.heap.size (fun k_ => (w.heap.size ≤ k_)) u5 x5_1) ∧ Aside0 (Below w.heap.size w wc))
    case first => as_aux_lemma =>
     have H := HC5.out
     clear HC5
     by_cases c6 : x13_1 < (l0.length : Int)
     ·rw [if_pos c6] at H
      have c6b0 : decide (x13_1 < (l0.length : Int)) = true := decide_eq_true c6
      clear c6
      (first | rw [c6b0] | (simp only [i64_w, i32_w]; rw [c6b0]) | skip)
      by_cases c7 : 0 ≤ x13_1
      ·rw [if_pos c7] at H
       have c7b0 : decide (0 ≤ x13_1) = true := decide_eq_true c7
       clear c7
       have H' := Aside0.mk H
       clear H
       have p119 : 0 ≤ (x13_1 : Int) := oda
       have q119 : x13_1 < (l0.length : Int) := oda
       obtain ⟨ad119, e119, hx119_0⟩ := Kd.at_int HR0.out x13_1 p119 q119
       cases e119
       replace hx119_0 := (HB.out.cell (World.block_lt_of_cell? w _ hx119_0)).trans hx119_0
       replace p119 := eq_true p119
       replace q119 := eq_true q119
       go_wp2
       go_meet
       case rel => exact ⟨_, (IntKind.u64.wrap (x6_1 + (IntKind.u64.wrap (rd l0 x13_1)))), (by first | rfl | (simp; done) | (simp [*]; done)), H', ⟨by have := HK1.out; first | omega | exact Nat.le_refl _⟩, ⟨rz HO_5⟩, ⟨bz⟩⟩
      ·rw [if_neg c7] at H
       exact absurd H (by simp)
     ·rw [if_neg c6] at H
      have c6b0 : decide (x13_1 < (l0.length : Int)) = false := decide_eq_false c6
      clear c6
      (first | rw [c6b0] | (simp only [i64_w, i32_w]; rw [c6b0]) | skip)
      have H' := Aside0.mk H
      clear H
      go_wp2
      go_meet
      case rel => exact ⟨_, (x6_1), (by first | rfl | (simp; done) | (simp [*]; done)), H', ⟨by have := HK1.out; first | omega | exact Nat.le_refl _⟩, ⟨rz HO_5⟩, ⟨bz⟩⟩
    case rest => as_aux_lemma =>
     clear HC5
     try clear c1
     try clear c4
     try clear c4b0
     try clear c6
     try clear c6b0
     try clear c7
     try clear c7b0
     try clear hx119_0
     try clear p119
     try clear q119
     obtain ⟨kq, x6_4, rfl, HA, HJ4, HO_5, HB⟩ := hcut
     cases kq with
     | zero => exact absurd HA.out (by simp [real_nat_add.j1])
     | succ kj4 =>
      have H := HA.out
      clear HA
      simp only [real_nat_add.j1] at H
      by_cases c8 : x13_1 < (l1.length : Int)
      ·rw [if_pos c8] at H
       have c8b0 : decide (x13_1 < (l1.length : Int)) = true := decide_eq_true c8
       clear c8
       by_cases c9 : 0 ≤ x13_1
       ·rw [if_pos c9] at H
        have c9b0 : decide (0 ≤ x13_1) = true := decide_eq_true c9
        clear c9
        by_cases c10 : x5_1.length < 35184372088832
        ·rw [if_pos c10] at H
         have LMc10 := Aside0.mk c10
         clear c10
         obtain ⟨y121, hy121⟩ : ∃ y_ : List Int, y_ = (x5_1 ++ [(IntKind.u64.wrap (x6_4 + (IntKind.u64.wrap (rd l1 x13_1)))) % 4294967296]) := ⟨_, rfl⟩
         replace H : (real_nat_add.l0 kj4 l0 l1 y121 ((IntKind.u64.wrap (x6_4 + (IntKind.u64.wrap (rd l1 x13_1)))) / 4294967296) ji3 (wrap64 (x13_1 + 1))) = some r := by first | (rw [hy121]; with_reducible exact H) | (have H2_ := (Option.bind_some _ _).symm.trans H; rw [hy121]; with_reducible exact H2_) | (have H2_ := (Option.bind_some _ _).symm.trans H; with_reducible exact H2_) | with_reducible exact H | (rw [hy121]; exact H) | exact H
         have Ny121 := Aside0.mk hy121
         clear hy121
         have H' := Aside0.mk H
         clear H
         have p120 : 0 ≤ (x13_1 : Int) := oda
         have q120 : x13_1 < (l1.length : Int) := oda
         obtain ⟨ad120, e120, hx120_0⟩ := Kd.at_int HR1.out x13_1 p120 q120
         cases e120
         replace hx120_0 := (HB.out.cell (World.block_lt_of_cell? w _ hx120_0)).trans hx120_0
         replace p120 := eq_true p120
         replace q120 := eq_true q120
         go_wp2_with (first | ((with_reducible refine gate_builtin (b := .append) (xs := #[.tmp 38, .tmp 41]) rfl ?_); at_builtin; refine Kd.R_append (Kd.int .u32) (w0 := w) w.heap.size rfl (.tmp 38) (.tmp 41) 87 115 (.int .u32 0) 4 rfl Tryz.underlying87 info115 rfl (by decide) (by omega) u5 x5_1 ((IntKind.u64.wrap (x6_4 + (IntKind.u64.wrap (rd l1 x13_1)))) % 4294967296) [.int .u32 ((IntKind.u64.wrap (x6_4 + (IntKind.u64.wrap (rd l1 x13_1)))) % 4294967296)] (fun k_ => (w.heap.size ≤ k_)) (fun _ => False) rfl rfl ?aP (fun _ hk => hk.elim) ?aF ?aO ?aB ?aS ?aL ?_; (case aP => exact rfl); (case aB => exact bz); (case aF => exact (fun k_ hk => (Nat.le_trans (below_size bz) hk))); (case aO => exact (rz HO_5)); (case aS => exact (below_size bz)); (case aL => have := LMc10.out; omega); intro v122 w11 ho hb hg hat; rw [← Ny121.out] at ho; have HO123 := Aside0.mk (ho); replace HB := Aside0.mk (hb); clear HO_5; clear ho hb hg hat))
         go_roundg kj4
         case measure => have := HK1.out; have := HJ4.out; omega
         case rel => exact ⟨(y121), ((IntKind.u64.wrap (x6_4 + (IntKind.u64.wrap (rd l1 x13_1)))) / 4294967296), (wrap64 (x13_1 + 1)), (by first | rfl | (simp; done) | (simp [*]; done)), (by first | rfl | (simp; done) | (simp [*]; done)), H', ⟨by have := HK1.out; have := HJ4.out; omega⟩, ⟨rz HO123⟩, ⟨bz⟩⟩
        ·rw [if_neg c10] at H
         exact absurd H (by simp)
       ·rw [if_neg c9] at H
        exact absurd H (by simp)
      ·rw [if_neg c8] at H
       have c8b0 : decide (x13_1 < (l1.length : Int)) = false := decide_eq_false c8
       clear c8
       by_cases c12 : x5_1.length < 35184372088832
       ·rw [if_pos c12] at H
        have LMc12 := Aside0.mk c12
        clear c12
        obtain ⟨y124, hy124⟩ : ∃ y_ : List Int, y_ = (x5_1 ++ [(x6_4) % 4294967296]) := ⟨_, rfl⟩
        replace H : (real_nat_add.l0 kj4 l0 l1 y124 (x6_4 / 4294967296) ji3 (wrap64 (x13_1 + 1))) = some r := by first | (rw [hy124]; with_reducible exact H) | (have H2_ := (Option.bind_some _ _).symm.trans H; rw [hy124]; with_reducible exact H2_) | (have H2_ := (Option.bind_some _ _).symm.trans H; with_reducible exact H2_) | with_reducible exact H | (rw [hy124]; exact H) | exact H
        have Ny124 := Aside0.mk hy124
        clear hy124
        have H' := Aside0.mk H
        clear H
        go_wp2_with (first | ((with_reducible refine gate_builtin (b := .append) (xs := #[.tmp 38, .tmp 41]) rfl ?_); at_builtin; refine Kd.R_append (Kd.int .u32) (w0 := w) w.heap.size rfl (.tmp 38) (.tmp 41) 87 115 (.int .u32 0) 4 rfl Tryz.underlying87 info115 rfl (by decide) (by omega) u5 x5_1 ((x6_4) % 4294967296) [.int .u32 ((x6_4) % 4294967296)] (fun k_ => (w.heap.size ≤ k_)) (fun _ => False) rfl rfl ?aP (fun _ hk => hk.elim) ?aF ?aO ?aB ?aS ?aL ?_; (case aP => exact rfl); (case aB => exact bz); (case aF => exact (fun k_ hk => (Nat.le_trans (below_size bz) hk))); (case aO => exact (rz HO_5)); (case aS => exact (below_size bz)); (case aL => have := LMc12.out; omega); intro v125 w13 ho hb hg hat; rw [← Ny124.out] at ho; have HO126 := Aside0.mk (ho); replace HB := Aside0.mk (hb); clear HO_5; clear ho hb hg hat))
        go_roundg kj4
        case measure => have := HK1.out; have := HJ4.out; omega
        case rel => exact ⟨(y124), (x6_4 / 4294967296), (wrap64 (x13_1 + 1)), (by first | rfl | (simp; done) | (simp [*]; done)), (by first | rfl | (simp; done) | (simp [*]; done)), H', ⟨by have := HK1.out; have := HJ4.out; omega⟩, ⟨rz HO126⟩, ⟨bz⟩⟩
       ·rw [if_neg c12] at H
        exact absurd H (by simp)
   ·rw [if_neg c4] at H
    have c4b0 : decide (x13_1 < ji3) = false := decide_eq_false c4
    clear c4
    by_cases c14 : x5_1.length < 35184372088832
    ·rw [if_pos c14] at H
     have LMc14 := Aside0.mk c14
     clear c14
     obtain ⟨y113, hy113⟩ : ∃ y_ : List Int, y_ = (x5_1 ++ [(x6_1) % 4294967296]) := ⟨_, rfl⟩
     replace H : ((real_trim.f k1 y113).bind fun t116 => (some t116)) = some r := by first | (rw [hy113]; with_reducible exact H) | (have H2_ := (Option.bind_some _ _).symm.trans H; rw [hy113]; with_reducible exact H2_) | (have H2_ := (Option.bind_some _ _).symm.trans H; with_reducible exact H2_) | with_reducible exact H | (rw [hy113]; exact H) | exact H
     have Ny113 := Aside0.mk hy113
     clear hy113
     replace H := Option.bind_eq_some_iff.mp H
     obtain ⟨t116, A150, H⟩ := H
     try dsimp only at H
     have A15 := Aside0.mk A150
     clear A150
     obtain rfl := Option.some.inj H
     go_wp2_with (first | ((with_reducible refine gate_builtin (b := .append) (xs := #[.tmp 46, .tmp 49]) rfl ?_); at_builtin; refine Kd.R_append (Kd.int .u32) (w0 := w) w.heap.size rfl (.tmp 46) (.tmp 49) 87 115 (.int .u32 0) 4 rfl Tryz.underlying87 info115 rfl (by decide) (by omega) u5 x5_1 ((x6_1) % 4294967296) [.int .u32 ((x6_1) % 4294967296)] (fun k_ => (w.heap.size ≤ k_)) (fun _ => False) rfl rfl ?aP (fun _ hk => hk.elim) ?aF ?aO ?aB ?aS ?aL ?_; (case aP => exact rfl); (case aB => exact bz); (case aF => exact (fun k_ hk => (Nat.le_trans (below_size bz) hk))); (case aO => exact (rz HO_5)); (case aS => exact (below_size bz)); (case aL => have := LMc14.out; omega); intro v114 w16 ho hb hg hat; rw [← Ny113.out] at ho; have HO115 := Aside0.mk (ho); replace HB := Aside0.mk (hb); clear HO_5; clear ho hb hg hat; obtain ⟨Ao17, co17, eo17⟩ := Kd.R_slice HO115.out; subst eo17) | ((with_reducible refine gate_callee (f := 142) rfl ?_); refine gL 51 Tryz.func142 #[.slice Ao17 y113.length co17] ?_; (with_reducible refine (real_trim.calls k1 (fun k_ => some k_ = (.slice Ao17 y113.length co17 : Value).ownBlock) _ _ y113 t116 _ ?side1 A15.out).mono ?_); (case side1 => exact Kd.R_V (Kd.R_tight rfl (HO115.out))); rintro e w18 ⟨v117, rfl, ho0, hb⟩; refine ⟨_, rfl, ?_⟩; have HO118 := Aside0.mk (Kd.V_lower (Kd.V_mono (ok' := fun k_ => (w.heap.size ≤ k_)) ho0 (fun k_ hk_ => Or.elim hk_ (fun hs_ => ((HO115.out).1 k_ hs_.symm)) (fun hn_ => (Nat.le_trans (below_size bz) hn_)))) (below_size bz)); replace HO115 := rb HO115 hb; replace HB := bs hb; (try clear hb); (try clear hk); (try clear ho0)))
     go_ret
     exact ⟨_, by first | rfl | (simp [errW_none, errW_some] <;> rfl) | (simp only [← hji3]; first | rfl | (simp [errW_none, errW_some] <;> rfl)) | (simp [*, errW_none, errW_some] <;> rfl), by (with_reducible repeat (first | apply Kd.V_alloc | apply Kd.V_drewN | apply Kd.V_drew)); exact HO118.out, bz⟩
    ·rw [if_neg c14] at H
     exact absurd H (by simp)

def real_nat_shl.l0 : Nat → Int → List Int → Int → List Int → Int → Int → Option (List Int)
 | 0, _, _, _, _, _, _ => none
 | k + 1, x1, x5, x6, x18, x19, x20 => if x20 < x19 then (if 0 ≤ x20 then (if x20 < (x18.length : Int) then (if 0 ≤ (Int.tmod x1 32) then (if x5.length < 35184372088832 then (real_nat_shl.l0 k x1 (x5 ++ [(Go.bits .or .u64 x6 (shl .u64 (IntKind.u64.wrap (rd x18 x20)) (Int.tmod x1 32))) % 4294967296]) ((Go.bits .or .u64 x6 (shl .u64 (IntKind.u64.wrap (rd x18 x20)) (Int.tmod x1 32))) / 4294967296) x18 x19 (wrap64 (x20 + 1))) else (none)) else (none)) else (none)) else (none)) else (if x5.length < 35184372088832 then ((real_trim.f k (x5 ++ [(x6) % 4294967296])).bind fun t137 => (some t137)) else (none))
def real_nat_shl.f (k : Nat) (l0 : List Int) (a1 : Int) : Option (List Int) := if 0 ≤ (wrap64 (Int.tdiv a1 32)) then (if (wrap64 (Int.tdiv a1 32)) ≤ (wrap64 ((wrap64 ((wrap64 (Int.tdiv a1 32)) + (l0.length : Int))) + 1)) then (if (wrap64 ((wrap64 ((wrap64 (Int.tdiv a1 32)) + (l0.length : Int))) + 1) : Int).toNat ≤ 70368744177664 then (real_nat_shl.l0 k a1 (List.replicate (wrap64 (Int.tdiv a1 32) : Int).toNat 0) 0 l0 (l0.length : Int) 0) else (none)) else (none)) else (none)
theorem real_nat_shl.mono_l : ∀ k, (∀ y0 y1 y2 y3 y4 y5, LeO (real_nat_shl.l0 k y0 y1 y2 y3 y4 y5) (real_nat_shl.l0 (k + 1) y0 y1 y2 y3 y4 y5))
 | 0 => fun _ _ _ _ _ _ r h => by simp [real_nat_shl.l0] at h
 | k + 1 => by
  have ih0 := real_nat_shl.mono_l k
  ·intro y0 y1 y2 y3 y4 y5
   unfold real_nat_shl.l0
   repeat' first
   | (with_reducible exact ih0 _ _ _ _ _ _)
   | (with_reducible exact real_trim.mono _ _)
   | (with_reducible exact LeO.refl _)
   | (with_reducible exact LeO.none _)
   | (with_reducible refine LeO.ite ?_ ?_)
   | (with_reducible refine LeO.bind ?_ (fun _ => ?_))
   | exact ih0 _ _ _ _ _ _
   | exact real_trim.mono _ _
   | exact LeO.none _
   | refine LeO.ite ?_ ?_
   | refine LeO.bind ?_ (fun _ => ?_)
theorem real_nat_shl.mono : ∀ a0 a1 k, LeO (real_nat_shl.f k a0 a1) (real_nat_shl.f (k + 1) a0 a1) := by
 intro a0 a1 k
 have ih0 := real_nat_shl.mono_l k
 unfold real_nat_shl.f
 repeat' first
   | (with_reducible exact ih0 _ _ _ _ _ _)
   | (with_reducible exact real_trim.mono _ _)
   | (with_reducible exact LeO.refl _)
   | (with_reducible exact LeO.none _)
   | (with_reducible refine LeO.ite ?_ ?_)
   | (with_reducible refine LeO.bind ?_ (fun _ => ?_))
   | exact ih0 _ _ _ _ _ _
   | exact real_trim.mono _ _
   | exact LeO.none _
   | refine LeO.ite ?_ ?_
   | refine LeO.bind ?_ (fun _ => ?_)
theorem real_nat_shl.calls (k : Nat) (A0 : Option Addr) (c0 : Nat) (l0 : List Int) (a1 : Int) (r : List Int) (w : World) (hr0 : Kd.C (Kd.int .u32) w A0 l0.length l0) (hc0 : l0.length ≤ c0) (h : real_nat_shl.f k l0 a1 = some r) :
  Calls Tryz.prog 126 #[.slice A0 l0.length c0, .int .i64 a1] w fun e w' => ∃ v0_ : Value, e = .returned (v0_) ∧ Kd.V (Kd.int .u32) 115 w' w.heap.size (fun k_ => (w.heap.size ≤ k_)) v0_ r ∧ Below w.heap.size w w' := by
 have HR0 := Aside0.mk hr0
 have HC0 := Aside0.mk hc0
 clear hr0 hc0
 have HB := Aside0.mk (Below.refl w.heap.size w)
 have H := h; unfold real_nat_shl.f at H; clear h
 obtain ⟨ji3, hji3⟩ : ∃ j_ : Int, (wrap64 (Int.tdiv a1 32)) = j_ := ⟨_, rfl⟩
 first | rw [hji3] at H | simp only [hji3] at H
 have hji3w : (IntKind.i64.wrap (Int.tdiv a1 32)) = ji3 := (i64_w _).trans hji3
 by_cases c4 : 0 ≤ (ji3)
 ·rw [if_pos c4] at H
  have c4b0 := eq_true c4
  have c4b1 : decide (0 ≤ (ji3)) = true := decide_eq_true c4
  clear c4
  by_cases c5 : (ji3) ≤ (wrap64 ((wrap64 ((ji3) + (l0.length : Int))) + 1))
  ·rw [if_pos c5] at H
   have c5b0 := eq_true c5
   have c5b1 : decide ((ji3) ≤ (wrap64 ((wrap64 ((ji3) + (l0.length : Int))) + 1))) = true := decide_eq_true c5
   by_cases c6 : (wrap64 ((wrap64 ((ji3) + (l0.length : Int))) + 1) : Int).toNat ≤ 70368744177664
   ·rw [if_pos c6] at H
    have c6b0 := eq_true c6
    have c6b1 : decide ((wrap64 ((wrap64 ((ji3) + (l0.length : Int))) + 1) : Int).toNat ≤ 70368744177664) = true := decide_eq_true c6
    obtain ⟨y127, hy127⟩ : ∃ y_ : List Int, y_ = (List.replicate (ji3 : Int).toNat 0) := ⟨_, rfl⟩
    replace H : (real_nat_shl.l0 k a1 y127 0 l0 (l0.length : Int) 0) = some r := by first | (rw [hy127]; with_reducible exact H) | (have H2_ := (Option.bind_some _ _).symm.trans H; rw [hy127]; with_reducible exact H2_) | (have H2_ := (Option.bind_some _ _).symm.trans H; with_reducible exact H2_) | with_reducible exact H | (rw [hy127]; exact H) | exact H
    have Ny127 := Aside0.mk hy127
    clear hy127
    have H' := Aside0.mk H
    clear H
    go_enter Tryz.func126, Tryz.ntmps126
    go_wp2_with (first | ((with_reducible refine gate_dst (N := 17) rfl ?_); refine Kd.R_makecap (Kd.int .u32) _ 115 rfl (N := 17) rfl 87 _ _ rfl ji3 _ rfl rfl Tryz.underlying87 (.int .u32 0) 4 info115 rfl (by decide) (by omega) 0 (ok := fun _ => True) (okp := fun _ => True) rfl (fun _ hk => hk) trivial (oda) (oda) (Nat.le_trans (Nat.mul_le_mul_right _ (of_decide_eq_true (by first | (with_reducible assumption) | assumption) : _ ≤ 70368744177664)) (by omega)) (Below.refl _ _) (Nat.le_refl _) ?_; intro v128 w7 ho8 hb hg_ hnew_; clear hg_ hnew_; (first | rw [← Ny127.out] at ho8 | (simp only [Int.reduceToNat] at ho8; rw [← Ny127.out] at ho8)); have HO129 := Aside0.mk (Kd.R_lower (Kd.R_newM (M := fun k_ => (w.heap.size ≤ k_)) ho8 (below_size bz) (fun k_ h_ => h_)) (below_size bz)); replace HB := bs hb; clear hb ho8))
    go_loopg [5, 6, 20] k (fun kq v5 v6 v20 w' => ∃ (x5_1 : List Int) (x6_1 : Int) (x20_1 : Int), v6 = .int .u64 x6_1 ∧ v20 = .int .i64 x20_1 ∧ Aside0 (real_nat_shl.l0 kq a1 x5_1 x6_1 l0 (l0.length : Int) x20_1 = some r) ∧ Aside0 (kq ≤ k) ∧ Aside0 (Kd.R (Kd.int .u32) 115 w' w.heap.size (fun k_ => (w.heap.size ≤ k_)) v5 x5_1) ∧ Aside0 (Below w.heap.size w w'))
    case atStart => exact ⟨(y127), (0), (0), (by first | rfl | (simp; done) | (simp [*]; done)), (by first | rfl | (simp; done) | (simp [*]; done)), H', ⟨Nat.le_refl _⟩, ⟨by (with_reducible repeat (first | apply Kd.R_alloc | apply Kd.R_drewN | apply Kd.R_drew)); exact Kd.R_mono HO129.out (fun _ hk => hk.1)⟩, ⟨bz⟩⟩
    case round =>
     clear H'
     try clear c4
     try clear c4b0
     try clear c4b1
     try clear c5
     try clear c5b0
     try clear c5b1
     try clear c6
     try clear c6b0
     try clear c6b1
     obtain ⟨x5_1, x6_1, x20_1, rfl, rfl, HA, HK1, HO_5, HB⟩ := hrel
     cases gk with
     | zero => exact absurd HA.out (by simp [real_nat_shl.l0])
     | succ k1 =>
      have H := HA.out
      clear HA
      simp only [real_nat_shl.l0] at H
      by_cases c9 : x20_1 < (l0.length : Int)
      ·rw [if_pos c9] at H
       have c9b0 : decide (x20_1 < (l0.length : Int)) = true := decide_eq_true c9
       clear c9
       by_cases c10 : 0 ≤ x20_1
       ·rw [if_pos c10] at H
        have c10b0 : decide (0 ≤ x20_1) = true := decide_eq_true c10
        clear c10
        by_cases c11 : x20_1 < (l0.length : Int)
        ·rw [if_pos c11] at H
         have c11b0 : decide (x20_1 < (l0.length : Int)) = true := decide_eq_true c11
         clear c11
         obtain ⟨ji12, hji12⟩ : ∃ j_ : Int, (Int.tmod a1 32) = j_ := ⟨_, rfl⟩
         first | rw [hji12] at H | simp only [hji12] at H
         by_cases c13 : 0 ≤ (ji12)
         ·rw [if_pos c13] at H
          have c13b0 := eq_true c13
          have c13b1 : decide (0 ≤ (ji12)) = true := decide_eq_true c13
          clear c13
          obtain ⟨ji14, hji14⟩ : ∃ j_ : Int, (shl .u64 (IntKind.u64.wrap (rd l0 x20_1)) (ji12)) = j_ := ⟨_, rfl⟩
          first | rw [hji14] at H | simp only [hji14] at H
          have hji14_ : (IntKind.u64.wrap ((IntKind.u64.wrap (rd l0 x20_1)) * 2 ^ min (ji12).toNat 64)) = ji14 := hji14
          have hji14z : (ji12) ≤ 64 → (IntKind.u64.wrap ((IntKind.u64.wrap (rd l0 x20_1)) * 2 ^ (ji12).toNat)) = ji14 := shl_small hji14
          by_cases c15 : x5_1.length < 35184372088832
          ·rw [if_pos c15] at H
           have LMc15 := Aside0.mk c15
           clear c15
           obtain ⟨y131, hy131⟩ : ∃ y_ : List Int, y_ = (x5_1 ++ [(Go.bits .or .u64 x6_1 (ji14)) % 4294967296]) := ⟨_, rfl⟩
           replace H : (real_nat_shl.l0 k1 a1 y131 ((Go.bits .or .u64 x6_1 (ji14)) / 4294967296) l0 (l0.length : Int) (wrap64 (x20_1 + 1))) = some r := by first | (rw [hy131]; with_reducible exact H) | (have H2_ := (Option.bind_some _ _).symm.trans H; rw [hy131]; with_reducible exact H2_) | (have H2_ := (Option.bind_some _ _).symm.trans H; with_reducible exact H2_) | with_reducible exact H | (rw [hy131]; exact H) | exact H
           have Ny131 := Aside0.mk hy131
           clear hy131
           have H' := Aside0.mk H
           clear H
           have p130 : 0 ≤ (x20_1 : Int) := oda
           have q130 : x20_1 < (l0.length : Int) := oda
           obtain ⟨ad130, e130, hx130_0⟩ := Kd.at_int HR0.out x20_1 p130 q130
           cases e130
           replace hx130_0 := (HB.out.cell (World.block_lt_of_cell? w _ hx130_0)).trans hx130_0
           replace p130 := eq_true p130
           replace q130 := eq_true q130
           go_wp2_with (first | ((with_reducible refine gate_builtin (b := .append) (xs := #[.tmp 31, .tmp 34]) rfl ?_); at_builtin; refine Kd.R_append (Kd.int .u32) (w0 := w) w.heap.size rfl (.tmp 31) (.tmp 34) 87 115 (.int .u32 0) 4 rfl Tryz.underlying87 info115 rfl (by decide) (by omega) u5 x5_1 ((Go.bits .or .u64 x6_1 (ji14)) % 4294967296) [.int .u32 ((Go.bits .or .u64 x6_1 (ji14)) % 4294967296)] (fun k_ => (w.heap.size ≤ k_)) (fun _ => False) rfl rfl ?aP (fun _ hk => hk.elim) ?aF ?aO ?aB ?aS ?aL ?_; (case aP => exact rfl); (case aB => exact bz); (case aF => exact (fun k_ hk => (Nat.le_trans (below_size bz) hk))); (case aO => exact (rz HO_5)); (case aS => exact (below_size bz)); (case aL => have := LMc15.out; omega); intro v132 w16 ho hb hg hat; rw [← Ny131.out] at ho; have HO133 := Aside0.mk (ho); replace HB := Aside0.mk (hb); clear HO_5; clear ho hb hg hat))
           go_roundg k1
           case measure => have := HK1.out; omega
           case rel => exact ⟨(y131), ((Go.bits .or .u64 x6_1 (ji14)) / 4294967296), (wrap64 (x20_1 + 1)), (by first | rfl | (simp; done) | (simp only [← hji14] <;> (first | rfl | simp)) | (simp [*]; done)), (by first | rfl | (simp; done) | (simp [*]; done)), H', ⟨by have := HK1.out; omega⟩, ⟨rz HO133⟩, ⟨bz⟩⟩
          ·rw [if_neg c15] at H
           exact absurd H (by simp)
         ·rw [if_neg c13] at H
          exact absurd H (by simp)
        ·rw [if_neg c11] at H
         exact absurd H (by simp)
       ·rw [if_neg c10] at H
        exact absurd H (by simp)
      ·rw [if_neg c9] at H
       have c9b0 : decide (x20_1 < (l0.length : Int)) = false := decide_eq_false c9
       clear c9
       by_cases c17 : x5_1.length < 35184372088832
       ·rw [if_pos c17] at H
        have LMc17 := Aside0.mk c17
        clear c17
        obtain ⟨y134, hy134⟩ : ∃ y_ : List Int, y_ = (x5_1 ++ [(x6_1) % 4294967296]) := ⟨_, rfl⟩
        replace H : ((real_trim.f k1 y134).bind fun t137 => (some t137)) = some r := by first | (rw [hy134]; with_reducible exact H) | (have H2_ := (Option.bind_some _ _).symm.trans H; rw [hy134]; with_reducible exact H2_) | (have H2_ := (Option.bind_some _ _).symm.trans H; with_reducible exact H2_) | with_reducible exact H | (rw [hy134]; exact H) | exact H
        have Ny134 := Aside0.mk hy134
        clear hy134
        replace H := Option.bind_eq_some_iff.mp H
        obtain ⟨t137, A180, H⟩ := H
        try dsimp only at H
        have A18 := Aside0.mk A180
        clear A180
        obtain rfl := Option.some.inj H
        go_wp2_with (first | ((with_reducible refine gate_builtin (b := .append) (xs := #[.tmp 39, .tmp 42]) rfl ?_); at_builtin; refine Kd.R_append (Kd.int .u32) (w0 := w) w.heap.size rfl (.tmp 39) (.tmp 42) 87 115 (.int .u32 0) 4 rfl Tryz.underlying87 info115 rfl (by decide) (by omega) u5 x5_1 ((x6_1) % 4294967296) [.int .u32 ((x6_1) % 4294967296)] (fun k_ => (w.heap.size ≤ k_)) (fun _ => False) rfl rfl ?aP (fun _ hk => hk.elim) ?aF ?aO ?aB ?aS ?aL ?_; (case aP => exact rfl); (case aB => exact bz); (case aF => exact (fun k_ hk => (Nat.le_trans (below_size bz) hk))); (case aO => exact (rz HO_5)); (case aS => exact (below_size bz)); (case aL => have := LMc17.out; omega); intro v135 w19 ho hb hg hat; rw [← Ny134.out] at ho; have HO136 := Aside0.mk (ho); replace HB := Aside0.mk (hb); clear HO_5; clear ho hb hg hat; obtain ⟨Ao20, co20, eo20⟩ := Kd.R_slice HO136.out; subst eo20) | ((with_reducible refine gate_callee (f := 142) rfl ?_); refine gL 44 Tryz.func142 #[.slice Ao20 y134.length co20] ?_; (with_reducible refine (real_trim.calls k1 (fun k_ => some k_ = (.slice Ao20 y134.length co20 : Value).ownBlock) _ _ y134 t137 _ ?side1 A18.out).mono ?_); (case side1 => exact Kd.R_V (Kd.R_tight rfl (HO136.out))); rintro e w21 ⟨v138, rfl, ho0, hb⟩; refine ⟨_, rfl, ?_⟩; have HO139 := Aside0.mk (Kd.V_lower (Kd.V_mono (ok' := fun k_ => (w.heap.size ≤ k_)) ho0 (fun k_ hk_ => Or.elim hk_ (fun hs_ => ((HO136.out).1 k_ hs_.symm)) (fun hn_ => (Nat.le_trans (below_size bz) hn_)))) (below_size bz)); replace HO136 := rb HO136 hb; replace HB := bs hb; (try clear hb); (try clear hk); (try clear ho0)))
        go_ret
        exact ⟨_, by first | rfl | (simp [errW_none, errW_some] <;> rfl) | (simp only [← hji3]; first | rfl | (simp [errW_none, errW_some] <;> rfl)) | (simp [*, errW_none, errW_some] <;> rfl), by (with_reducible repeat (first | apply Kd.V_alloc | apply Kd.V_drewN | apply Kd.V_drew)); exact HO139.out, bz⟩
       ·rw [if_neg c17] at H
        exact absurd H (by simp)
   ·rw [if_neg c6] at H
    exact absurd H (by simp)
  ·rw [if_neg c5] at H
   exact absurd H (by simp)
 ·rw [if_neg c4] at H
  exact absurd H (by simp)

end Go.Proofs.YteigbokklclmbaaGreatDoor.Z
end
section
namespace Go.Proofs.YteigbokklclmbaaGreatDoor.Z
open Go.RowKit Go.Proofs.YteigbokklclmbaaGreatDoor.Given Go.Proofs.YteigbokklclmbaaGreatDoorW.PrintWords Go.Proofs.YteigbokklclmbaaGreatDoorW.PrintLast Go.Proofs.YteigbokklclmbaaGreatDoorW.PrintMore
attribute [local go_sem] max2_int min2_int max_two min_two max_three min_three max_four min_four

def real_nat_bits.l0 : Nat → Int → Int → Option (Int)
 | 0, _, _ => none
 | k + 1, x3, x4 => if x4 > 0 then (real_nat_bits.l0 k (wrap64 (x3 + 1)) (x4 / 2)) else (some x3)
def real_nat_bits.f (k : Nat) (l0 : List Int) : Option (Int) := if (l0.length : Int) = 0 then (some 0) else (if 0 ≤ (wrap64 ((l0.length : Int) - 1)) then (if (wrap64 ((l0.length : Int) - 1)) < (l0.length : Int) then (real_nat_bits.l0 k (wrap64 (32 * (wrap64 ((l0.length : Int) - 1)))) (rd l0 (wrap64 ((l0.length : Int) - 1)))) else (none)) else (none))
theorem real_nat_bits.mono_l : ∀ k, (∀ y0 y1, LeO (real_nat_bits.l0 k y0 y1) (real_nat_bits.l0 (k + 1) y0 y1))
 | 0 => fun _ _ r h => by simp [real_nat_bits.l0] at h
 | k + 1 => by
  have ih0 := real_nat_bits.mono_l k
  ·intro y0 y1
   unfold real_nat_bits.l0
   repeat' first
   | (with_reducible exact ih0 _ _)
   | (with_reducible exact LeO.refl _)
   | (with_reducible exact LeO.none _)
   | (with_reducible refine LeO.ite ?_ ?_)
   | (with_reducible refine LeO.bind ?_ (fun _ => ?_))
   | exact ih0 _ _
   | exact LeO.none _
   | refine LeO.ite ?_ ?_
   | refine LeO.bind ?_ (fun _ => ?_)
theorem real_nat_bits.mono : ∀ a0 k, LeO (real_nat_bits.f k a0) (real_nat_bits.f (k + 1) a0) := by
 intro a0 k
 have ih0 := real_nat_bits.mono_l k
 unfold real_nat_bits.f
 repeat' first
   | (with_reducible exact ih0 _ _)
   | (with_reducible exact LeO.refl _)
   | (with_reducible exact LeO.none _)
   | (with_reducible refine LeO.ite ?_ ?_)
   | (with_reducible refine LeO.bind ?_ (fun _ => ?_))
   | exact ih0 _ _
   | exact LeO.none _
   | refine LeO.ite ?_ ?_
   | refine LeO.bind ?_ (fun _ => ?_)
theorem real_nat_bits.calls (k : Nat) (A0 : Option Addr) (c0 : Nat) (l0 : List Int) (r : Int) (w : World) (hr0 : Kd.C (Kd.int .u32) w A0 l0.length l0) (hc0 : l0.length ≤ c0) (h : real_nat_bits.f k l0 = some r) :
  Calls Tryz.prog 141 #[.slice A0 l0.length c0] w fun e w' => e = .returned (.int .i64 r) ∧ Drawn0 w w' := by
 have HR0 := Aside0.mk hr0
 have HC0 := Aside0.mk hc0
 clear hr0 hc0
 have H := h; unfold real_nat_bits.f at H; clear h
 by_cases c2 : (l0.length : Int) = 0
 ·rw [if_pos c2] at H
  have c2b0 : ((l0.length : Int) == 0) = true := beq_iff_eq.mpr c2
  have c2b1 : ((l0.length : Int) != 0) = false := bne_eq_false_iff_eq.mpr c2
  clear c2
  obtain rfl := Option.some.inj H
  go_enter Tryz.func141, Tryz.ntmps141
  go_wp2
  go_ret
  exact ⟨by first | rfl | (simp; done) | (simp [*]; done) | (exfalso; simp at *; done), by repeat (first | exact Drawn0.refl _ | apply Drawn0.step)⟩
 ·rw [if_neg c2] at H
  have c2b0 : ((l0.length : Int) == 0) = false := beq_eq_false_iff_ne.mpr c2
  have c2b1 : ((l0.length : Int) != 0) = true := bne_iff_ne.mpr c2
  have c2b2 : ¬ (l0 = []) := fun h_ => c2 (by rw [h_]; rfl)
  obtain ⟨ji3, hji3⟩ : ∃ j_ : Int, (wrap64 ((l0.length : Int) - 1)) = j_ := ⟨_, rfl⟩
  first | rw [hji3] at H | simp only [hji3] at H
  have hji3w : (IntKind.i64.wrap ((l0.length : Int) - 1)) = ji3 := (i64_w _).trans hji3
  by_cases c4 : 0 ≤ (ji3)
  ·rw [if_pos c4] at H
   have c4b0 : decide (0 ≤ (ji3)) = true := decide_eq_true c4
   clear c4
   by_cases c5 : (ji3) < (l0.length : Int)
   ·rw [if_pos c5] at H
    have c5b0 : decide ((ji3) < (l0.length : Int)) = true := decide_eq_true c5
    clear c5
    have H' := Aside0.mk H
    clear H
    have p140 : 0 ≤ ((ji3) : Int) := oda
    have q140 : (ji3) < (l0.length : Int) := oda
    obtain ⟨ad140, e140, hx140_0⟩ := Kd.at_int HR0.out (ji3) p140 q140
    cases e140
    replace p140 := eq_true p140
    replace q140 := eq_true q140
    go_enter Tryz.func141, Tryz.ntmps141
    go_wp2
    go_loopg [3, 4] k (fun kq v3 v4 w' => ∃ (x3_1 : Int) (x4_1 : Int), v3 = .int .i64 x3_1 ∧ v4 = .int .u32 x4_1 ∧ Aside0 (real_nat_bits.l0 kq x3_1 x4_1 = some r) ∧ Aside0 (kq ≤ k) ∧ Drawn0 w w')
    case atStart => exact ⟨(wrap64 (32 * (ji3))), (rd l0 (ji3)), (by first | rfl | (simp; done) | (simp only [← hji3] <;> (first | rfl | simp)) | (simp [*]; done)), (by first | rfl | (simp; done) | (simp only [← hji3] <;> (first | rfl | simp)) | (simp [*]; done)), H', ⟨Nat.le_refl _⟩, by repeat (first | exact Drawn0.refl _ | apply Drawn0.step)⟩
    case round =>
     clear H'
     try clear c2
     try clear c2b0
     try clear c2b1
     try clear c2b2
     try clear c4
     try clear c4b0
     try clear c5
     try clear c5b0
     try clear hx140_0
     try clear p140
     try clear q140
     obtain ⟨x3_1, x4_1, rfl, rfl, HA, HK1, ⟨m1, rfl⟩⟩ := hrel
     cases gk with
     | zero => exact absurd HA.out (by simp [real_nat_bits.l0])
     | succ k1 =>
      have H := HA.out
      clear HA
      simp only [real_nat_bits.l0] at H
      by_cases c6 : x4_1 > 0
      ·rw [if_pos c6] at H
       have c6b0 : decide (0 < x4_1) = true := decide_eq_true c6
       clear c6
       have H' := Aside0.mk H
       clear H
       go_wp2
       go_roundg k1
       case measure => have := HK1.out; omega
       case rel => exact ⟨(wrap64 (x3_1 + 1)), (x4_1 / 2), (by first | rfl | (simp; done) | (simp [*]; done)), (by first | rfl | (simp; done) | (simp [*]; done)), H', ⟨by have := HK1.out; omega⟩, by repeat (first | exact Drawn0.refl _ | apply Drawn0.step)⟩
      ·rw [if_neg c6] at H
       have c6b0 : decide (0 < x4_1) = false := decide_eq_false c6
       clear c6
       obtain rfl := Option.some.inj H
       go_wp2
       go_ret
       exact ⟨by first | rfl | (simp; done) | (simp only [← hji3] <;> (first | rfl | simp)) | (simp [*]; done), by repeat (first | exact Drawn0.refl _ | apply Drawn0.step)⟩
   ·rw [if_neg c5] at H
    exact absurd H (by simp)
  ·rw [if_neg c4] at H
   exact absurd H (by simp)

def real_nat_uint32.f (l0 : List Int) : Option (List Int) := (some (([] : List Int) : List Int)).bind fun y141 => (if y141.length + l0.length < 35184372088832 then (some (y141 ++ l0)) else (none))
theorem real_nat_uint32.calls (A0 : Option Addr) (c0 : Nat) (l0 : List Int) (r : List Int) (w : World) (hr0 : Kd.C (Kd.int .u32) w A0 l0.length l0) (hc0 : l0.length ≤ c0) (h : real_nat_uint32.f l0 = some r) :
  Calls Tryz.prog 150 #[.slice A0 l0.length c0] w fun e w' => ∃ v0_ : Value, e = .returned (v0_) ∧ Kd.R (Kd.int .u32) 115 w' w.heap.size (fun _ => True) v0_ r ∧ Below w.heap.size w w' := by
 cases A0 with
 | none =>
  have hl : l0 = [] := by
   cases l0 with
   | nil => rfl
   | cons x r_ =>
    obtain ⟨ad, e, _⟩ := Kd.at_int hr0 0 (by omega) (by simp)
    cases e
  subst hl
  cases h
  have q87 := isNil
  go_enter Tryz.func150, Tryz.ntmps150
  go_wp2
  go_ret
  exact ⟨_, rfl, Kd.R_nil _ _ _ _ _, Below.refl _ _⟩
 | some A0 =>
  have q87 := notNil
  have HR0 := Aside0.mk hr0
  have HC0 := Aside0.mk hc0
  clear hr0 hc0
  have HB := Aside0.mk (Below.refl w.heap.size w)
  have H := h; unfold real_nat_uint32.f at H; clear h
  obtain ⟨y141, hy141⟩ : ∃ y_ : List Int, y_ = (([] : List Int)) := ⟨_, rfl⟩
  replace H : (if y141.length + l0.length < 35184372088832 then (some (y141 ++ l0)) else (none)) = some r := by first | (rw [hy141]; with_reducible exact H) | (have H2_ := (Option.bind_some _ _).symm.trans H; rw [hy141]; with_reducible exact H2_) | (have H2_ := (Option.bind_some _ _).symm.trans H; with_reducible exact H2_) | with_reducible exact H | (rw [hy141]; exact H) | exact H
  have Ny141 := Aside0.mk hy141
  clear hy141
  by_cases c2 : y141.length + l0.length < 35184372088832
  ·rw [if_pos c2] at H
   have LMc2 := Aside0.mk c2
   clear c2
   obtain ⟨y144, hy144⟩ : ∃ y_ : List Int, y_ = (y141 ++ l0) := ⟨_, rfl⟩
   replace H : (some y144) = some r := by first | (rw [hy144]; with_reducible exact H) | (have H2_ := (Option.bind_some _ _).symm.trans H; rw [hy144]; with_reducible exact H2_) | (have H2_ := (Option.bind_some _ _).symm.trans H; with_reducible exact H2_) | with_reducible exact H | (rw [hy144]; exact H) | exact H
   have Ny144 := Aside0.mk hy144
   clear hy144
   obtain rfl := Option.some.inj H
   go_enter Tryz.func150, Tryz.ntmps150
   go_wp2_with (first | ((with_reducible refine gate_dst (N := 5) rfl ?_); refine Kd.R_lit (Kd.int .u32) _ 115 ?hg (N := 5) ?hd (xs := ([] : List Int)) (inner := []) (ok := fun _ => True) (okp := fun _ => True) ?hr ?hp (fun _ hk => hk) trivial (Below.refl _ _) (Nat.le_refl _) (by simp) ?_; (case hd => rfl); (case hg => rfl); (case hr => first | (go_simp; done) | (go_simp; rfl)); (case hp => exact (Reps.none _ _)); intro v142 w3 ho4 hb hg_ hnew_; clear hg_ hnew_; (first | rw [← Ny141.out] at ho4 | (simp only [Int.reduceToNat] at ho4; rw [← Ny141.out] at ho4)); have HO143 := Aside0.mk (Kd.R_lower ho4 (below_size bz)); replace HB := bs hb; clear hb ho4) | ((with_reducible refine gate_builtin (b := .append) (xs := #[.tmp 5, .tmp 6]) rfl ?_); at_builtin; refine Kd.R_append_rows (Kd.int .u32) (w0 := w) w.heap.size rfl (.tmp 5) (.tmp 6) 87 115 (.int .u32 0) 4 rfl Tryz.underlying87 info115 rfl (by decide) (by omega) v142 y141 l0 _ _ _ (fun _ => True) (fun _ => False) rfl rfl ?aO ?aR (fun _ _ h => h) (fun _ h => h.elim) ?aF ?aB ?aS ?aL ?_; (case aR => exact ccz (Kd.C_below HR0.out HB.out)); (case aB => exact bz); (case aF => exact (fun _ _ => trivial)); (case aO => exact (rz HO143)); (case aS => exact (below_size bz)); (case aL => have := LMc2.out; omega); intro v145 w5 ho hb hg hat; rw [← Ny144.out] at ho; have HO146 := Aside0.mk (ho); replace HB := Aside0.mk (hb); clear HO143; clear ho hb hg hat))
   go_ret
   exact ⟨_, by first | rfl | (simp [errW_none, errW_some] <;> rfl) | (simp [*, errW_none, errW_some] <;> rfl), by (with_reducible repeat (first | apply Kd.R_alloc | apply Kd.R_drewN | apply Kd.R_drew)); exact HO146.out, bz⟩
  ·rw [if_neg c2] at H
   exact absurd H (by simp)

mutual
def real_nat_sub.l0 : Nat → List Int → List Int → Int → Int → Int → Option (List Int)
 | 0, _, _, _, _, _ => none
 | k + 1, x1, x5, x6, x12, x13 => if x13 < x12 then (if 0 ≤ x13 then (if x13 < (x5.length : Int) then (if x13 < (x1.length : Int) then (real_nat_sub.j1 k x1 x5 x13 (wrap64 ((wrap64 ((wrap64 (rd x5 x13)) + x6)) - (wrap64 (rd x1 x13)))) x12 x13) else (real_nat_sub.j1 k x1 x5 x13 (wrap64 ((wrap64 (rd x5 x13)) + x6)) x12 x13)) else (none)) else (none)) else ((real_trim.f k x5).bind fun t150 => (some t150))
def real_nat_sub.j1 : Nat → List Int → List Int → Int → Int → Int → Int → Option (List Int)
 | 0, _, _, _, _, _, _ => none
 | k + 1, x1, x5, x7, x8, x12, x13 => if x8 < 0 then (if 0 ≤ x7 then (if x7 < (x5.length : Int) then (real_nat_sub.l0 k x1 (x5.set (x7 : Int).toNat ((wrap64 (x8 + 4294967296)) % 4294967296)) (-1) x12 (wrap64 (x13 + 1))) else (none)) else (none)) else (if 0 ≤ x7 then (if x7 < (x5.length : Int) then (real_nat_sub.l0 k x1 (x5.set (x7 : Int).toNat ((x8) % 4294967296)) 0 x12 (wrap64 (x13 + 1))) else (none)) else (none))
end
def real_nat_sub.f (k : Nat) (l0 : List Int) (l1 : List Int) : Option (List Int) := (real_nat_uint32.f l0).bind fun t147 => (real_nat_sub.l0 k l1 t147 0 (t147.length : Int) 0)
theorem real_nat_sub.mono_l : ∀ k, (∀ y0 y1 y2 y3 y4, LeO (real_nat_sub.l0 k y0 y1 y2 y3 y4) (real_nat_sub.l0 (k + 1) y0 y1 y2 y3 y4)) ∧ (∀ y0 y1 y2 y3 y4 y5, LeO (real_nat_sub.j1 k y0 y1 y2 y3 y4 y5) (real_nat_sub.j1 (k + 1) y0 y1 y2 y3 y4 y5))
 | 0 => ⟨fun _ _ _ _ _ r h => by simp [real_nat_sub.l0] at h, fun _ _ _ _ _ _ r h => by simp [real_nat_sub.j1] at h⟩
 | k + 1 => by
  obtain ⟨ih0, ih1⟩ := real_nat_sub.mono_l k
  refine ⟨?_, ?_⟩
  ·intro y0 y1 y2 y3 y4
   unfold real_nat_sub.l0
   repeat' first
   | (with_reducible exact ih0 _ _ _ _ _)
   | (with_reducible exact ih1 _ _ _ _ _ _)
   | (with_reducible exact real_trim.mono _ _)
   | (with_reducible exact LeO.refl _)
   | (with_reducible exact LeO.none _)
   | (with_reducible refine LeO.ite ?_ ?_)
   | (with_reducible refine LeO.bind ?_ (fun _ => ?_))
   | exact ih0 _ _ _ _ _
   | exact ih1 _ _ _ _ _ _
   | exact real_trim.mono _ _
   | exact LeO.none _
   | refine LeO.ite ?_ ?_
   | refine LeO.bind ?_ (fun _ => ?_)
  ·intro y0 y1 y2 y3 y4 y5
   unfold real_nat_sub.j1
   repeat' first
   | (with_reducible exact ih0 _ _ _ _ _)
   | (with_reducible exact ih1 _ _ _ _ _ _)
   | (with_reducible exact real_trim.mono _ _)
   | (with_reducible exact LeO.refl _)
   | (with_reducible exact LeO.none _)
   | (with_reducible refine LeO.ite ?_ ?_)
   | (with_reducible refine LeO.bind ?_ (fun _ => ?_))
   | exact ih0 _ _ _ _ _
   | exact ih1 _ _ _ _ _ _
   | exact real_trim.mono _ _
   | exact LeO.none _
   | refine LeO.ite ?_ ?_
   | refine LeO.bind ?_ (fun _ => ?_)
theorem real_nat_sub.mono : ∀ a0 a1 k, LeO (real_nat_sub.f k a0 a1) (real_nat_sub.f (k + 1) a0 a1) := by
 intro a0 a1 k
 obtain ⟨ih0, ih1⟩ := real_nat_sub.mono_l k
 unfold real_nat_sub.f
 repeat' first
   | (with_reducible exact ih0 _ _ _ _ _)
   | (with_reducible exact ih1 _ _ _ _ _ _)
   | (with_reducible exact real_trim.mono _ _)
   | (with_reducible exact LeO.refl _)
   | (with_reducible exact LeO.none _)
   | (with_reducible refine LeO.ite ?_ ?_)
   | (with_reducible refine LeO.bind ?_ (fun _ => ?_))
   | exact ih0 _ _ _ _ _
   | exact ih1 _ _ _ _ _ _
   | exact real_trim.mono _ _
   | exact LeO.none _
   | refine LeO.ite ?_ ?_
   | refine LeO.bind ?_ (fun _ => ?_)
theorem real_nat_sub.calls (k : Nat) (A0 : Option Addr) (c0 : Nat) (l0 : List Int) (A1 : Option Addr) (c1 : Nat) (l1 : List Int) (r : List Int) (w : World) (hr0 : Kd.C (Kd.int .u32) w A0 l0.length l0) (hc0 : l0.length ≤ c0) (hr1 : Kd.C (Kd.int .u32) w A1 l1.length l1) (hc1 : l1.length ≤ c1) (h : real_nat_sub.f k l0 l1 = some r) :
  Calls Tryz.prog 145 #[.slice A0 l0.length c0, .slice A1 l1.length c1] w fun e w' => ∃ v0_ : Value, e = .returned (v0_) ∧ Kd.V (Kd.int .u32) 115 w' w.heap.size (fun k_ => (w.heap.size ≤ k_)) v0_ r ∧ Below w.heap.size w w' := by
 have HR0 := Aside0.mk hr0
 have HC0 := Aside0.mk hc0
 clear hr0 hc0
 have HR1 := Aside0.mk hr1
 have HC1 := Aside0.mk hc1
 clear hr1 hc1
 have HB := Aside0.mk (Below.refl w.heap.size w)
 have H := h; unfold real_nat_sub.f at H; clear h
 replace H := Option.bind_eq_some_iff.mp H
 obtain ⟨t147, A30, H⟩ := H
 try dsimp only at H
 have A3 := Aside0.mk A30
 clear A30
 have H' := Aside0.mk H
 clear H
 go_enter Tryz.func145, Tryz.ntmps145
 go_wp2_with (first | ((with_reducible refine gate_callee (f := 150) rfl ?_); refine gL 10 Tryz.func150 #[.slice A0 l0.length c0] ?_; (with_reducible refine (real_nat_uint32.calls _ _ l0 t147 _ ?side1 ?side2 A3.out).mono ?_); (case side1 => repeat (first | exact HR0.out | (with_reducible refine Kd.C_alloc ?_ _) | (with_reducible refine Kd.C_drewN ?_ _) | (with_reducible refine Kd.C_drew ?_))); (case side2 => exact HC0.out); rintro e w4 ⟨v148, rfl, ho0, hb⟩; refine ⟨_, rfl, ?_⟩; have HO149 := Aside0.mk (Kd.R_lower (Kd.R_newM (M := fun k_ => (w.heap.size ≤ k_)) ho0 (below_size bz) (fun k_ h_ => h_)) (below_size bz)); replace HB := bs hb; (try clear hb); (try clear hk); (try clear ho0); obtain ⟨Ao5, co5, eo5⟩ := Kd.R_slice HO149.out; subst eo5))
 go_loopg [6, 13] k (fun kq v6 v13 w' => ∃ (x5_1 : List Int) (x6_1 : Int) (x13_1 : Int), v6 = .int .i64 x6_1 ∧ v13 = .int .i64 x13_1 ∧ Aside0 (real_nat_sub.l0 kq l1 x5_1 x6_1 (t147.length : Int) x13_1 = some r) ∧ Aside0 (kq ≤ k) ∧ Aside0 (Kd.R (Kd.int .u32) 115 w' w.heap.size (fun k_ => (w.heap.size ≤ k_)) (.slice Ao5 t147.length co5) x5_1) ∧ Aside0 (Below w.heap.size w w'))
 case atStart => exact ⟨(t147), (0), (0), (by first | rfl | (simp; done) | (simp [*]; done)), (by first | rfl | (simp; done) | (simp [*]; done)), H', ⟨Nat.le_refl _⟩, ⟨by (with_reducible repeat (first | apply Kd.R_alloc | apply Kd.R_drewN | apply Kd.R_drew)); exact Kd.R_mono HO149.out (fun _ hk => hk.1)⟩, ⟨bz⟩⟩
 case round =>
  clear H'
  try clear c1
  obtain ⟨x5_1, x6_1, x13_1, rfl, rfl, HA, HK1, HO_5, HB⟩ := hrel
  have hl5_1 := (Kd.R_reads' HO_5.out).1
  rw [hl5_1] at HO_5
  (try simp only [hl5_1])
  cases gk with
  | zero => exact absurd HA.out (by simp [real_nat_sub.l0])
  | succ k1 =>
   have H := HA.out
   clear HA
   simp only [real_nat_sub.l0] at H
   by_cases c6 : x13_1 < (t147.length : Int)
   ·rw [if_pos c6] at H
    have c6b0 : decide (x13_1 < (t147.length : Int)) = true := decide_eq_true c6
    (try (have c6n : decide (x13_1 < (x5_1.length : Int)) = true := by rw [← hl5_1]; exact c6b0))
    clear c6
    by_cases c7 : 0 ≤ x13_1
    ·rw [if_pos c7] at H
     have c7b0 : decide (0 ≤ x13_1) = true := decide_eq_true c7
     clear c7
     by_cases c8 : x13_1 < (x5_1.length : Int)
     ·rw [if_pos c8] at H
      have c8b0 : decide (x13_1 < (x5_1.length : Int)) = true := decide_eq_true c8
      clear c8
      have HC9 := Aside0.mk H
      clear H
      have p153 : 0 ≤ (x13_1 : Int) := oda
      have q153 : x13_1 < (x5_1.length : Int) := oda
      obtain ⟨ad153, e153, hx153_0⟩ := Kd.at_int (Kd.R_reads' HO_5.out).2.2 x13_1 p153 q153
      cases e153
      replace p153 := eq_true p153
      replace q153 := eq_true q153
      go_upto_if 26 with (fail)
      go_cut [8] (fun v8 wc => ∃ (kq : Nat) (x8_8 : Int), v8 = .int .i64 x8_8 ∧ Aside0 (real_nat_sub.j1 kq l1 x5_1 x13_1 x8_8 (t147.length : Int) x13_1 = some r) ∧ Aside0 (kq ≤ k1) ∧ Aside0 (Kd.R (Kd.int .u32) 115 wc w.heap.size (fun k_ => (w.heap.size ≤ k_)) (.slice (some ad153) x5_1.length co5) x5_1) ∧ Aside0 (Below w.heap.size w wc))
      case first => as_aux_lemma =>
       have H := HC9.out
       clear HC9
       by_cases c10 : x13_1 < (l1.length : Int)
       ·rw [if_pos c10] at H
        have c10b0 : decide (x13_1 < (l1.length : Int)) = true := decide_eq_true c10
        clear c10
        (first | rw [c10b0] | (simp only [i64_w, i32_w]; rw [c10b0]) | skip)
        have H' := Aside0.mk H
        clear H
        have p154 : 0 ≤ (x13_1 : Int) := oda
        have q154 : x13_1 < (l1.length : Int) := oda
        obtain ⟨ad154, e154, hx154_0⟩ := Kd.at_int HR1.out x13_1 p154 q154
        cases e154
        replace hx154_0 := (HB.out.cell (World.block_lt_of_cell? w _ hx154_0)).trans hx154_0
        replace p154 := eq_true p154
        replace q154 := eq_true q154
        go_wp2
        go_meet
        case rel => exact ⟨_, (wrap64 ((wrap64 ((wrap64 (rd x5_1 x13_1)) + x6_1)) - (wrap64 (rd l1 x13_1)))), (by first | rfl | (simp; done) | (simp [*]; done)), H', ⟨by have := HK1.out; first | omega | exact Nat.le_refl _⟩, ⟨by (try simp only [hl5_1]); (with_reducible repeat (first | apply Kd.R_alloc | apply Kd.R_drewN | apply Kd.R_drew)); exact HO_5.out⟩, ⟨bz⟩⟩
       ·rw [if_neg c10] at H
        have c10b0 : decide (x13_1 < (l1.length : Int)) = false := decide_eq_false c10
        clear c10
        (first | rw [c10b0] | (simp only [i64_w, i32_w]; rw [c10b0]) | skip)
        have H' := Aside0.mk H
        clear H
        go_wp2
        go_meet
        case rel => exact ⟨_, (wrap64 ((wrap64 (rd x5_1 x13_1)) + x6_1)), (by first | rfl | (simp; done) | (simp [*]; done)), H', ⟨by have := HK1.out; first | omega | exact Nat.le_refl _⟩, ⟨by (try simp only [hl5_1]); (with_reducible repeat (first | apply Kd.R_alloc | apply Kd.R_drewN | apply Kd.R_drew)); exact HO_5.out⟩, ⟨bz⟩⟩
      case rest => as_aux_lemma =>
       clear HC9
       try clear c1
       try clear c6
       try clear c6b0
       try clear c7
       try clear c7b0
       try clear c8
       try clear c8b0
       try clear c10
       try clear c10b0
       try clear hx153_0
       try clear hx154_0
       try clear p153
       try clear p154
       try clear q153
       try clear q154
       obtain ⟨kq, x8_8, rfl, HA, HJ8, HO_5, HB⟩ := hcut
       cases kq with
       | zero => exact absurd HA.out (by simp [real_nat_sub.j1])
       | succ kj8 =>
        have H := HA.out
        clear HA
        simp only [real_nat_sub.j1] at H
        by_cases c11 : x8_8 < 0
        ·rw [if_pos c11] at H
         have c11b0 : decide (x8_8 < 0) = true := decide_eq_true c11
         clear c11
         by_cases c12 : 0 ≤ x13_1
         ·rw [if_pos c12] at H
          have c12b0 : decide (0 ≤ x13_1) = true := decide_eq_true c12
          clear c12
          by_cases c13 : x13_1 < (x5_1.length : Int)
          ·rw [if_pos c13] at H
           have c13b0 : decide (x13_1 < (x5_1.length : Int)) = true := decide_eq_true c13
           clear c13
           obtain ⟨y155, hy155⟩ : ∃ y_ : List Int, y_ = (x5_1.set (x13_1 : Int).toNat ((wrap64 (x8_8 + 4294967296)) % 4294967296)) := ⟨_, rfl⟩
           replace H : (real_nat_sub.l0 kj8 l1 y155 (-1) (t147.length : Int) (wrap64 (x13_1 + 1))) = some r := by first | (rw [hy155]; with_reducible exact H) | (have H2_ := (Option.bind_some _ _).symm.trans H; rw [hy155]; with_reducible exact H2_) | (have H2_ := (Option.bind_some _ _).symm.trans H; with_reducible exact H2_) | with_reducible exact H | (rw [hy155]; exact H) | exact H
           have Ny155 := Aside0.mk hy155
           clear hy155
           have H' := Aside0.mk H
           clear H
           have p14 : 0 ≤ (x13_1 : Int) := oda
           have q14 : (x13_1 : Int) < ((x5_1.length : Int) : Int) := oda
           obtain ⟨go14, co14, eo14, gb14, gl14, cl14, HG14⟩ := Kd.R_form HO_5.out (by omega)
           (first | cases eo14 | (injection eo14 with ea_ en_ ec_; (first | subst ea_ | (injection ea_ with ea_; subst ea_)); subst ec_; clear en_))
           have GB14 := Aside0.mk gb14
           have GG14 := Aside0.mk HG14
           clear gb14 gl14 HG14
           (first | simp only [add_plain] at hx153_0 | skip)
           obtain ⟨hx14_0, hf14_0⟩ := Kd.R_celln 0 HO_5.out (x13_1 : Int) p14 q14
           replace p14 := eq_true p14
           replace q14 := eq_true q14
           have HP15 := Kd.R_putg HO_5.out (x13_1 : Int) ((wrap64 (x8_8 + 4294967296)) % 4294967296)
           go_wp2_with (first | ((with_reducible refine gate_store (t := 115) (p := 42) rfl ?_); refine store_event (t := 115) (p := 42) (v := ?vo_w16) (w1 := (wc.setCell ⟨go14, (x13_1 : Int).toNat, none⟩ (.int .u32 ((wrap64 (x8_8 + 4294967296)) % 4294967296)))) ?hg ?ho ?hn ?hr ?_; (case ho => rfl); (case hg => rfl); (case hn => rfl); (case hr => first | (go_simp; done) | (go_simp; rfl)); intro w16 hw; have hg : wc.grownBy w16 (some go14) := (by rw [hw]; exact HP15.2); have hp_ : Kd.R (Kd.int .u32) 115 w16 w.heap.size (fun k_ => (w.heap.size ≤ k_)) (.slice (some ⟨go14, 0, none⟩) x5_1.length co5) y155 := (by rw [hw, Ny155.out]; exact HP15.1); clear HP15; replace HO_5 := Aside0.mk (hp_); replace HB := Aside0.mk ((by rw [hw]; exact below_set (HB.out) GB14.out : Below w.heap.size w w16)); clear hg hw hp_))
           (try simp only [← hl5_1])
           go_roundg kj8
           case measure => have := HK1.out; have := HJ8.out; omega
           case rel => exact ⟨(y155), ((-1)), (wrap64 (x13_1 + 1)), (by first | rfl | (simp; done) | (simp [*]; done)), (by first | rfl | (simp; done) | (simp [*]; done)), H', ⟨by have := HK1.out; have := HJ8.out; omega⟩, ⟨by (try simp only [hl5_1]); (with_reducible repeat (first | apply Kd.R_alloc | apply Kd.R_drewN | apply Kd.R_drew)); exact HO_5.out⟩, ⟨bz⟩⟩
          ·rw [if_neg c13] at H
           exact absurd H (by simp)
         ·rw [if_neg c12] at H
          exact absurd H (by simp)
        ·rw [if_neg c11] at H
         have c11b0 : decide (x8_8 < 0) = false := decide_eq_false c11
         clear c11
         by_cases c17 : 0 ≤ x13_1
         ·rw [if_pos c17] at H
          have c17b0 : decide (0 ≤ x13_1) = true := decide_eq_true c17
          clear c17
          by_cases c18 : x13_1 < (x5_1.length : Int)
          ·rw [if_pos c18] at H
           have c18b0 : decide (x13_1 < (x5_1.length : Int)) = true := decide_eq_true c18
           clear c18
           obtain ⟨y156, hy156⟩ : ∃ y_ : List Int, y_ = (x5_1.set (x13_1 : Int).toNat ((x8_8) % 4294967296)) := ⟨_, rfl⟩
           replace H : (real_nat_sub.l0 kj8 l1 y156 0 (t147.length : Int) (wrap64 (x13_1 + 1))) = some r := by first | (rw [hy156]; with_reducible exact H) | (have H2_ := (Option.bind_some _ _).symm.trans H; rw [hy156]; with_reducible exact H2_) | (have H2_ := (Option.bind_some _ _).symm.trans H; with_reducible exact H2_) | with_reducible exact H | (rw [hy156]; exact H) | exact H
           have Ny156 := Aside0.mk hy156
           clear hy156
           have H' := Aside0.mk H
           clear H
           have p19 : 0 ≤ (x13_1 : Int) := oda
           have q19 : (x13_1 : Int) < ((x5_1.length : Int) : Int) := oda
           obtain ⟨go19, co19, eo19, gb19, gl19, cl19, HG19⟩ := Kd.R_form HO_5.out (by omega)
           (first | cases eo19 | (injection eo19 with ea_ en_ ec_; (first | subst ea_ | (injection ea_ with ea_; subst ea_)); subst ec_; clear en_))
           have GB19 := Aside0.mk gb19
           have GG19 := Aside0.mk HG19
           clear gb19 gl19 HG19
           obtain ⟨hx19_0, hf19_0⟩ := Kd.R_celln 0 HO_5.out (x13_1 : Int) p19 q19
           replace p19 := eq_true p19
           replace q19 := eq_true q19
           have HP20 := Kd.R_putg HO_5.out (x13_1 : Int) ((x8_8) % 4294967296)
           go_wp2_with (first | ((with_reducible refine gate_store (t := 115) (p := 42) rfl ?_); refine store_event (t := 115) (p := 42) (v := ?vo_w21) (w1 := (wc.setCell ⟨go19, (x13_1 : Int).toNat, none⟩ (.int .u32 ((x8_8) % 4294967296)))) ?hg ?ho ?hn ?hr ?_; (case ho => rfl); (case hg => rfl); (case hn => rfl); (case hr => first | (go_simp; done) | (go_simp; rfl)); intro w21 hw; have hg : wc.grownBy w21 (some go19) := (by rw [hw]; exact HP20.2); have hp_ : Kd.R (Kd.int .u32) 115 w21 w.heap.size (fun k_ => (w.heap.size ≤ k_)) (.slice (some ⟨go19, 0, none⟩) x5_1.length co5) y156 := (by rw [hw, Ny156.out]; exact HP20.1); clear HP20; replace HO_5 := Aside0.mk (hp_); replace HB := Aside0.mk ((by rw [hw]; exact below_set (HB.out) GB19.out : Below w.heap.size w w21)); clear hg hw hp_))
           (try simp only [← hl5_1])
           go_roundg kj8
           case measure => have := HK1.out; have := HJ8.out; omega
           case rel => exact ⟨(y156), (0), (wrap64 (x13_1 + 1)), (by first | rfl | (simp; done) | (simp [*]; done)), (by first | rfl | (simp; done) | (simp [*]; done)), H', ⟨by have := HK1.out; have := HJ8.out; omega⟩, ⟨by (try simp only [hl5_1]); (with_reducible repeat (first | apply Kd.R_alloc | apply Kd.R_drewN | apply Kd.R_drew)); exact HO_5.out⟩, ⟨bz⟩⟩
          ·rw [if_neg c18] at H
           exact absurd H (by simp)
         ·rw [if_neg c17] at H
          exact absurd H (by simp)
     ·rw [if_neg c8] at H
      exact absurd H (by simp)
    ·rw [if_neg c7] at H
     exact absurd H (by simp)
   ·rw [if_neg c6] at H
    have c6b0 : decide (x13_1 < (t147.length : Int)) = false := decide_eq_false c6
    (try (have c6n : decide (x13_1 < (x5_1.length : Int)) = false := by rw [← hl5_1]; exact c6b0))
    clear c6
    replace H := Option.bind_eq_some_iff.mp H
    obtain ⟨t150, A220, H⟩ := H
    try dsimp only at H
    have A22 := Aside0.mk A220
    clear A220
    obtain rfl := Option.some.inj H
    go_wp2_with (first | ((with_reducible refine gate_callee (f := 142) rfl ?_); refine gL 45 Tryz.func142 #[.slice Ao5 x5_1.length co5] ?_; (with_reducible refine (real_trim.calls k1 (fun k_ => some k_ = (.slice Ao5 x5_1.length co5 : Value).ownBlock) _ _ x5_1 t150 _ ?side1 A22.out).mono ?_); (case side1 => exact Kd.R_V (Kd.R_tight rfl (HO_5.out))); rintro e w23 ⟨v151, rfl, ho0, hb⟩; refine ⟨_, rfl, ?_⟩; have HO152 := Aside0.mk (Kd.V_lower (Kd.V_mono (ok' := fun k_ => (w.heap.size ≤ k_)) ho0 (fun k_ hk_ => Or.elim hk_ (fun hs_ => ((HO_5.out).1 k_ hs_.symm)) (fun hn_ => (Nat.le_trans (below_size bz) hn_)))) (below_size bz)); replace HO_5 := rb HO_5 hb; replace HB := bs hb; (try clear hb); (try clear hk); (try clear ho0)))
    go_ret
    exact ⟨_, by first | rfl | (simp [errW_none, errW_some] <;> rfl) | (simp [*, errW_none, errW_some] <;> rfl), by (with_reducible repeat (first | apply Kd.V_alloc | apply Kd.V_drewN | apply Kd.V_drew)); exact HO152.out, bz⟩

end Go.Proofs.YteigbokklclmbaaGreatDoor.Z
end
section
namespace Go.Proofs.YteigbokklclmbaaGreatDoor.Z
open Go.RowKit Go.Proofs.YteigbokklclmbaaGreatDoor.Given Go.Proofs.YteigbokklclmbaaGreatDoorW.PrintWords Go.Proofs.YteigbokklclmbaaGreatDoorW.PrintLast Go.Proofs.YteigbokklclmbaaGreatDoorW.PrintMore
attribute [local go_sem] max2_int min2_int max_two min_two max_three min_three max_four min_four

def real_nat_div.l0 : Nat → List Int → List Int → List Int → Int → Option (List Int × List Int)
 | 0, _, _, _, _ => none
 | k + 1, x1, x6, x7, x8 => if x8 ≥ 0 then ((real_nat_shl.f k x1 x8).bind fun t162 => ((real_nat_shl.f k x6 1).bind fun t165 => ((real_nat_cmp.f k x7 t162).bind fun t168 => (if t168 ≥ 0 then ((real_nat_sub.f k x7 t162).bind fun t169 => ((real_nat_add.f k t165 (([1] : List Int))).bind fun t175 => (real_nat_div.l0 k x1 t175 t169 (wrap64 (x8 - 1))))) else (real_nat_div.l0 k x1 t165 x7 (wrap64 (x8 - 1))))))) else (some (x6, x7))
def real_nat_div.f (k : Nat) (l0 : List Int) (l1 : List Int) : Option (List Int × List Int) := (real_nat_uint32.f l0).bind fun t157 => ((real_nat_bits.f k l0).bind fun t160 => ((real_nat_bits.f k l1).bind fun t161 => (real_nat_div.l0 k l1 ([] : List Int) t157 (wrap64 (t160 - t161)))))
theorem real_nat_div.mono_l : ∀ k, (∀ y0 y1 y2 y3, LeO (real_nat_div.l0 k y0 y1 y2 y3) (real_nat_div.l0 (k + 1) y0 y1 y2 y3))
 | 0 => fun _ _ _ _ r h => by simp [real_nat_div.l0] at h
 | k + 1 => by
  have ih0 := real_nat_div.mono_l k
  ·intro y0 y1 y2 y3
   unfold real_nat_div.l0
   repeat' first
   | (with_reducible exact ih0 _ _ _ _)
   | (with_reducible exact real_nat_add.mono _ _ _)
   | (with_reducible exact real_nat_bits.mono _ _)
   | (with_reducible exact real_nat_cmp.mono _ _ _)
   | (with_reducible exact real_nat_shl.mono _ _ _)
   | (with_reducible exact real_nat_sub.mono _ _ _)
   | (with_reducible exact LeO.refl _)
   | (with_reducible exact LeO.none _)
   | (with_reducible refine LeO.ite ?_ ?_)
   | (with_reducible refine LeO.bind ?_ (fun _ => ?_))
   | exact ih0 _ _ _ _
   | exact real_nat_add.mono _ _ _
   | exact real_nat_bits.mono _ _
   | exact real_nat_cmp.mono _ _ _
   | exact real_nat_shl.mono _ _ _
   | exact real_nat_sub.mono _ _ _
   | exact LeO.none _
   | refine LeO.ite ?_ ?_
   | refine LeO.bind ?_ (fun _ => ?_)
theorem real_nat_div.mono : ∀ a0 a1 k, LeO (real_nat_div.f k a0 a1) (real_nat_div.f (k + 1) a0 a1) := by
 intro a0 a1 k
 have ih0 := real_nat_div.mono_l k
 unfold real_nat_div.f
 repeat' first
   | (with_reducible exact ih0 _ _ _ _)
   | (with_reducible exact real_nat_add.mono _ _ _)
   | (with_reducible exact real_nat_bits.mono _ _)
   | (with_reducible exact real_nat_cmp.mono _ _ _)
   | (with_reducible exact real_nat_shl.mono _ _ _)
   | (with_reducible exact real_nat_sub.mono _ _ _)
   | (with_reducible exact LeO.refl _)
   | (with_reducible exact LeO.none _)
   | (with_reducible refine LeO.ite ?_ ?_)
   | (with_reducible refine LeO.bind ?_ (fun _ => ?_))
   | exact ih0 _ _ _ _
   | exact real_nat_add.mono _ _ _
   | exact real_nat_bits.mono _ _
   | exact real_nat_cmp.mono _ _ _
   | exact real_nat_shl.mono _ _ _
   | exact real_nat_sub.mono _ _ _
   | exact LeO.none _
   | refine LeO.ite ?_ ?_
   | refine LeO.bind ?_ (fun _ => ?_)
theorem real_nat_div.calls (k : Nat) (A0 : Option Addr) (c0 : Nat) (l0 : List Int) (A1 : Option Addr) (c1 : Nat) (l1 : List Int) (r1 : List Int) (r2 : List Int) (w : World) (hr0 : Kd.C (Kd.int .u32) w A0 l0.length l0) (hc0 : l0.length ≤ c0) (hr1 : Kd.C (Kd.int .u32) w A1 l1.length l1) (hc1 : l1.length ≤ c1) (h : real_nat_div.f k l0 l1 = some (r1, r2)) :
  Calls Tryz.prog 124 #[.slice A0 l0.length c0, .slice A1 l1.length c1] w fun e w' => ∃ v0_ v1_ : Value, e = .returned (.tuple #[v0_, v1_]) ∧ Kd.V (Kd.int .u32) 115 w' w.heap.size (fun k_ => (w.heap.size ≤ k_)) v0_ r1 ∧ Kd.V (Kd.int .u32) 115 w' w.heap.size (fun k_ => (w.heap.size ≤ k_)) v1_ r2 ∧ Below w.heap.size w w' := by
 have HR0 := Aside0.mk hr0
 have HC0 := Aside0.mk hc0
 clear hr0 hc0
 have HR1 := Aside0.mk hr1
 have HC1 := Aside0.mk hc1
 clear hr1 hc1
 have HB := Aside0.mk (Below.refl w.heap.size w)
 have H := h; unfold real_nat_div.f at H; clear h
 replace H := Option.bind_eq_some_iff.mp H
 obtain ⟨t157, A30, H⟩ := H
 try dsimp only at H
 have A3 := Aside0.mk A30
 clear A30
 replace H := Option.bind_eq_some_iff.mp H
 obtain ⟨t160, A40, H⟩ := H
 try dsimp only at H
 have A4 := Aside0.mk A40
 clear A40
 replace H := Option.bind_eq_some_iff.mp H
 obtain ⟨t161, A50, H⟩ := H
 try dsimp only at H
 have A5 := Aside0.mk A50
 clear A50
 have H' := Aside0.mk H
 clear H
 go_enter Tryz.func124, Tryz.ntmps124
 go_wp2_with (first | ((with_reducible refine gate_callee (f := 150) rfl ?_); refine gL 11 Tryz.func150 #[.slice A0 l0.length c0] ?_; (with_reducible refine (real_nat_uint32.calls _ _ l0 t157 _ ?side1 ?side2 A3.out).mono ?_); (case side1 => repeat (first | exact HR0.out | (with_reducible refine Kd.C_alloc ?_ _) | (with_reducible refine Kd.C_drewN ?_ _) | (with_reducible refine Kd.C_drew ?_))); (case side2 => exact HC0.out); rintro e w6 ⟨v158, rfl, ho0, hb⟩; refine ⟨_, rfl, ?_⟩; have HO159 := Aside0.mk (Kd.R_lower (Kd.R_newM (M := fun k_ => (w.heap.size ≤ k_)) ho0 (below_size bz) (fun k_ h_ => h_)) (below_size bz)); replace HB := bs hb; (try clear hb); (try clear hk); (try clear ho0)) | ((with_reducible refine gate_callee (f := 141) rfl ?_); refine gL 13 Tryz.func141 #[.slice A0 l0.length c0] ?_; (with_reducible refine (real_nat_bits.calls k _ _ l0 t160 _ ?side1 ?side2 A4.out).mono ?_); (case side1 => exact ccz (Kd.C_below HR0.out HB.out)); (case side2 => exact HC0.out); rintro e w' ⟨rfl, ⟨nd, rfl⟩⟩; refine ⟨_, rfl, ?_⟩) | ((with_reducible refine gate_callee (f := 141) rfl ?_); refine gL 15 Tryz.func141 #[.slice A1 l1.length c1] ?_; (with_reducible refine (real_nat_bits.calls k _ _ l1 t161 _ ?side1 ?side2 A5.out).mono ?_); (case side1 => repeat (first | exact (Kd.C_below HR1.out bz) | (with_reducible refine Kd.C_alloc ?_ _) | (with_reducible refine Kd.C_drewN ?_ _) | (with_reducible refine Kd.C_drew ?_))); (case side2 => exact HC1.out); rintro e w' ⟨rfl, ⟨nd, rfl⟩⟩; refine ⟨_, rfl, ?_⟩))
 go_loopg [6, 7, 8] k (fun kq v6 v7 v8 w' => ∃ (x6_1 : List Int) (x7_1 : List Int) (x8_1 : Int), v8 = .int .i64 x8_1 ∧ Aside0 (real_nat_div.l0 kq l1 x6_1 x7_1 x8_1 = some (r1, r2)) ∧ Aside0 (kq ≤ k) ∧ Aside0 (Kd.V (Kd.int .u32) 115 w' w.heap.size (fun k_ => (w.heap.size ≤ k_)) v6 x6_1) ∧ Aside0 (Kd.V (Kd.int .u32) 115 w' w.heap.size (fun k_ => (w.heap.size ≤ k_)) v7 x7_1) ∧ Aside0 (Below w.heap.size w w'))
 case atStart => exact ⟨(([] : List Int)), (t157), (wrap64 (t160 - t161)), (by first | rfl | (simp; done) | (simp [*]; done)), H', ⟨Nat.le_refl _⟩, ⟨by first | exact Kd.V_nil _ _ _ _ _ | exact Kd.R_V (Kd.R_nil _ _ _ 0 _)⟩, ⟨Kd.R_V (by (with_reducible repeat (first | apply Kd.R_alloc | apply Kd.R_drewN | apply Kd.R_drew)); exact Kd.R_mono HO159.out (fun _ hk => hk.1))⟩, ⟨bz⟩⟩
 case round =>
  clear H'
  try clear c1
  obtain ⟨x6_1, x7_1, x8_1, rfl, HA, HK1, HO_6, HO_7, HB⟩ := hrel
  cases gk with
  | zero => exact absurd HA.out (by simp [real_nat_div.l0])
  | succ k1 =>
   have H := HA.out
   clear HA
   simp only [real_nat_div.l0] at H
   by_cases c7 : x8_1 ≥ 0
   ·rw [if_pos c7] at H
    have c7b0 : decide (0 ≤ x8_1) = true := decide_eq_true c7
    clear c7
    replace H := Option.bind_eq_some_iff.mp H
    obtain ⟨t162, A80, H⟩ := H
    try dsimp only at H
    have A8 := Aside0.mk A80
    clear A80
    replace H := Option.bind_eq_some_iff.mp H
    obtain ⟨t165, A90, H⟩ := H
    try dsimp only at H
    have A9 := Aside0.mk A90
    clear A90
    replace H := Option.bind_eq_some_iff.mp H
    obtain ⟨t168, A100, H⟩ := H
    try dsimp only at H
    have A10 := Aside0.mk A100
    clear A100
    by_cases c11 : t168 ≥ 0
    ·rw [if_pos c11] at H
     have c11b0 : decide (0 ≤ t168) = true := decide_eq_true c11
     clear c11
     replace H := Option.bind_eq_some_iff.mp H
     obtain ⟨t169, A120, H⟩ := H
     try dsimp only at H
     have A12 := Aside0.mk A120
     clear A120
     obtain ⟨y172, hy172⟩ : ∃ y_ : List Int, y_ = (([1] : List Int)) := ⟨_, rfl⟩
     replace H : ((real_nat_add.f k1 t165 y172).bind fun t175 => (real_nat_div.l0 k1 l1 t175 t169 (wrap64 (x8_1 - 1)))) = some (r1, r2) := by first | (rw [hy172]; with_reducible exact H) | (have H2_ := (Option.bind_some _ _).symm.trans H; rw [hy172]; with_reducible exact H2_) | (have H2_ := (Option.bind_some _ _).symm.trans H; with_reducible exact H2_) | with_reducible exact H | (rw [hy172]; exact H) | exact H
     have Ny172 := Aside0.mk hy172
     clear hy172
     replace H := Option.bind_eq_some_iff.mp H
     obtain ⟨t175, A130, H⟩ := H
     try dsimp only at H
     have A13 := Aside0.mk A130
     clear A130
     have H' := Aside0.mk H
     clear H
     go_wp2_with (first | ((with_reducible refine gate_callee (f := 126) rfl ?_); refine gL 23 Tryz.func126 #[.slice A1 l1.length c1, .int .i64 x8_1] ?_; (with_reducible refine (real_nat_shl.calls k1 _ _ l1 x8_1 t162 _ ?side1 ?side2 A8.out).mono ?_); (case side1 => exact ccz (Kd.C_below HR1.out HB.out)); (case side2 => exact HC1.out); rintro e w14 ⟨v163, rfl, ho0, hb⟩; refine ⟨_, rfl, ?_⟩; have HO164 := Aside0.mk (Kd.V_lower (Kd.V_mono (ok' := fun k_ => (w.heap.size ≤ k_)) ho0 (fun k_ hk_ => (Nat.le_trans (below_size bz) hk_))) (below_size bz)); replace HO_6 := vb HO_6 hb; replace HO_7 := vb HO_7 hb; replace HB := bs hb; (try clear hb); (try clear hk); (try clear ho0); obtain ⟨Ao15, co15, eo15⟩ := Kd.V_slice HO_6.out; subst eo15) | ((with_reducible refine gate_callee (f := 126) rfl ?_); refine gL 25 Tryz.func126 #[.slice Ao15 x6_1.length co15, .int .i64 1] ?_; (with_reducible refine (real_nat_shl.calls k1 _ _ x6_1 1 t165 _ ?side1 ?side2 A9.out).mono ?_); (case side1 => exact ccz (Kd.V_reads' HO_6.out).2.2); (case side2 => exact (Kd.V_reads' HO_6.out).2.1); rintro e w16 ⟨v166, rfl, ho0, hb⟩; refine ⟨_, rfl, ?_⟩; have HO167 := Aside0.mk (Kd.V_lower (Kd.V_mono (ok' := fun k_ => (w.heap.size ≤ k_)) ho0 (fun k_ hk_ => (Nat.le_trans (below_size bz) hk_))) (below_size bz)); replace HO_6 := vb HO_6 hb; replace HO_7 := vb HO_7 hb; replace HO164 := vb HO164 hb; replace HB := bs hb; (try clear hb); (try clear hk); (try clear ho0); obtain ⟨Ao17, co17, eo17⟩ := Kd.V_slice HO_7.out; subst eo17; obtain ⟨Ao18, co18, eo18⟩ := Kd.V_slice HO164.out; subst eo18) | ((with_reducible refine gate_callee (f := 123) rfl ?_); refine gL 28 Tryz.func123 #[.slice Ao17 x7_1.length co17, .slice Ao18 t162.length co18] ?_; (with_reducible refine (real_nat_cmp.calls k1 _ _ x7_1 _ _ t162 t168 _ ?side1 ?side2 ?side3 ?side4 A10.out).mono ?_); (case side1 => exact ccz (Kd.V_reads' HO_7.out).2.2); (case side2 => exact (Kd.V_reads' HO_7.out).2.1); (case side3 => exact ccz (Kd.V_reads' HO164.out).2.2); (case side4 => exact (Kd.V_reads' HO164.out).2.1); rintro e w' ⟨rfl, ⟨nd, rfl⟩⟩; refine ⟨_, rfl, ?_⟩) | ((with_reducible refine gate_callee (f := 145) rfl ?_); refine gL 32 Tryz.func145 #[.slice Ao17 x7_1.length co17, .slice Ao18 t162.length co18] ?_; (with_reducible refine (real_nat_sub.calls k1 _ _ x7_1 _ _ t162 t169 _ ?side1 ?side2 ?side3 ?side4 A12.out).mono ?_); (case side1 => exact ccz (Kd.V_reads' HO_7.out).2.2); (case side2 => exact (Kd.V_reads' HO_7.out).2.1); (case side3 => exact ccz (Kd.V_reads' HO164.out).2.2); (case side4 => exact (Kd.V_reads' HO164.out).2.1); rintro e w19 ⟨v170, rfl, ho0, hb⟩; refine ⟨_, rfl, ?_⟩; have HO171 := Aside0.mk (Kd.V_lower (Kd.V_mono (ok' := fun k_ => (w.heap.size ≤ k_)) ho0 (fun k_ hk_ => (Nat.le_trans (below_size bz) hk_))) (below_size bz)); replace HO_6 := vb HO_6 hb; replace HO_7 := vb HO_7 hb; replace HO164 := vb HO164 hb; replace HO167 := vb HO167 hb; replace HB := bs hb; (try clear hb); (try clear hk); (try clear ho0)) | ((with_reducible refine gate_dst (N := 34) rfl ?_); refine Kd.R_lit (Kd.int .u32) _ 115 ?hg (N := 34) ?hd (xs := ([1] : List Int)) (inner := [.int .u32 1]) (ok := fun _ => True) (okp := fun _ => True) ?hr ?hp (fun _ hk => hk) trivial (Below.refl _ _) (Nat.le_refl _) (by simp) ?_; (case hd => rfl); (case hg => rfl); (case hr => first | (go_simp; done) | (go_simp; rfl)); (case hp => exact (Reps.one (show Kd.M (Kd.int .u32) _ _ _ 1 [.int .u32 1] from rfl) (Reps.none _ _))); intro v173 w20 ho21 hb hg_ hnew_; clear hg_ hnew_; (first | rw [← Ny172.out] at ho21 | (simp only [Int.reduceToNat] at ho21; rw [← Ny172.out] at ho21)); have HO174 := Aside0.mk (Kd.R_lower (Kd.R_newM (M := fun k_ => (w.heap.size ≤ k_)) ho21 (below_size bz) (fun k_ h_ => h_)) (below_size bz)); replace HO_6 := Aside0.mk (Kd.V_elder' (vz HO_6) (Kd.R_base ho21) hb); replace HO_7 := Aside0.mk (Kd.V_elder' (vz HO_7) (Kd.R_base ho21) hb); replace HO164 := Aside0.mk (Kd.V_elder' (vz HO164) (Kd.R_base ho21) hb); replace HO167 := Aside0.mk (Kd.V_elder' (vz HO167) (Kd.R_base ho21) hb); replace HO171 := Aside0.mk (Kd.V_elder' (vz HO171) (Kd.R_base ho21) hb); replace HB := bs hb; clear hb ho21; obtain ⟨Ao22, co22, eo22⟩ := Kd.V_slice HO167.out; subst eo22; obtain ⟨Ao23, co23, eo23⟩ := Kd.R_slice HO174.out; subst eo23) | ((with_reducible refine gate_callee (f := 117) rfl ?_); refine gL 35 Tryz.func117 #[.slice Ao22 t165.length co22, .slice Ao23 y172.length co23] ?_; (with_reducible refine (real_nat_add.calls k1 _ _ t165 _ _ y172 t175 _ ?side1 ?side2 ?side3 ?side4 A13.out).mono ?_); (case side1 => exact ccz (Kd.V_reads' HO167.out).2.2); (case side2 => exact (Kd.V_reads' HO167.out).2.1); (case side3 => exact ccz (Kd.R_reads' HO174.out).2.2); (case side4 => exact (Kd.R_reads' HO174.out).2.1); rintro e w24 ⟨v176, rfl, ho0, hb⟩; refine ⟨_, rfl, ?_⟩; have HO177 := Aside0.mk (Kd.V_lower (Kd.V_mono (ok' := fun k_ => (w.heap.size ≤ k_) ∧ some k_ ≠ (.slice Ao23 y172.length co23 : Value).ownBlock) ho0 (fun k_ hk_ => ⟨(Nat.le_trans (below_size bz) hk_), (Kd.fresh' (Kd.R_lt (rz HO174)) k_ hk_)⟩)) (below_size bz)); replace HO_6 := vb HO_6 hb; replace HO_7 := vb HO_7 hb; replace HO164 := vb HO164 hb; replace HO167 := vb HO167 hb; replace HO171 := vb HO171 hb; replace HO174 := rb HO174 hb; replace HB := bs hb; (try clear hb); (try clear hk); (try clear ho0)))
     go_roundg k1
     case measure => have := HK1.out; omega
     case rel => exact ⟨(t175), (t169), (wrap64 (x8_1 - 1)), (by first | rfl | (simp; done) | (simp [*]; done)), H', ⟨by have := HK1.out; omega⟩, ⟨by (with_reducible repeat (first | apply Kd.V_alloc | apply Kd.V_drewN | apply Kd.V_drew)); exact Kd.V_mono HO177.out (fun _ hk => hk.1)⟩, ⟨by (with_reducible repeat (first | apply Kd.V_alloc | apply Kd.V_drewN | apply Kd.V_drew)); exact Kd.V_mono HO171.out (fun _ hk => hk.1)⟩, ⟨bz⟩⟩
    ·rw [if_neg c11] at H
     have c11b0 : decide (0 ≤ t168) = false := decide_eq_false c11
     clear c11
     have H' := Aside0.mk H
     clear H
     go_wp2_with (first | ((with_reducible refine gate_callee (f := 126) rfl ?_); refine gL 23 Tryz.func126 #[.slice A1 l1.length c1, .int .i64 x8_1] ?_; (with_reducible refine (real_nat_shl.calls k1 _ _ l1 x8_1 t162 _ ?side1 ?side2 A8.out).mono ?_); (case side1 => exact ccz (Kd.C_below HR1.out HB.out)); (case side2 => exact HC1.out); rintro e w25 ⟨v163, rfl, ho0, hb⟩; refine ⟨_, rfl, ?_⟩; have HO164 := Aside0.mk (Kd.V_lower (Kd.V_mono (ok' := fun k_ => (w.heap.size ≤ k_)) ho0 (fun k_ hk_ => (Nat.le_trans (below_size bz) hk_))) (below_size bz)); replace HO_6 := vb HO_6 hb; replace HO_7 := vb HO_7 hb; replace HB := bs hb; (try clear hb); (try clear hk); (try clear ho0); obtain ⟨Ao26, co26, eo26⟩ := Kd.V_slice HO_6.out; subst eo26) | ((with_reducible refine gate_callee (f := 126) rfl ?_); refine gL 25 Tryz.func126 #[.slice Ao26 x6_1.length co26, .int .i64 1] ?_; (with_reducible refine (real_nat_shl.calls k1 _ _ x6_1 1 t165 _ ?side1 ?side2 A9.out).mono ?_); (case side1 => exact ccz (Kd.V_reads' HO_6.out).2.2); (case side2 => exact (Kd.V_reads' HO_6.out).2.1); rintro e w27 ⟨v166, rfl, ho0, hb⟩; refine ⟨_, rfl, ?_⟩; have HO167 := Aside0.mk (Kd.V_lower (Kd.V_mono (ok' := fun k_ => (w.heap.size ≤ k_)) ho0 (fun k_ hk_ => (Nat.le_trans (below_size bz) hk_))) (below_size bz)); replace HO_6 := vb HO_6 hb; replace HO_7 := vb HO_7 hb; replace HO164 := vb HO164 hb; replace HB := bs hb; (try clear hb); (try clear hk); (try clear ho0); obtain ⟨Ao28, co28, eo28⟩ := Kd.V_slice HO_7.out; subst eo28; obtain ⟨Ao29, co29, eo29⟩ := Kd.V_slice HO164.out; subst eo29) | ((with_reducible refine gate_callee (f := 123) rfl ?_); refine gL 28 Tryz.func123 #[.slice Ao28 x7_1.length co28, .slice Ao29 t162.length co29] ?_; (with_reducible refine (real_nat_cmp.calls k1 _ _ x7_1 _ _ t162 t168 _ ?side1 ?side2 ?side3 ?side4 A10.out).mono ?_); (case side1 => exact ccz (Kd.V_reads' HO_7.out).2.2); (case side2 => exact (Kd.V_reads' HO_7.out).2.1); (case side3 => exact ccz (Kd.V_reads' HO164.out).2.2); (case side4 => exact (Kd.V_reads' HO164.out).2.1); rintro e w' ⟨rfl, ⟨nd, rfl⟩⟩; refine ⟨_, rfl, ?_⟩))
     go_roundg k1
     case measure => have := HK1.out; omega
     case rel => exact ⟨(t165), (x7_1), (wrap64 (x8_1 - 1)), (by first | rfl | (simp; done) | (simp [*]; done)), H', ⟨by have := HK1.out; omega⟩, ⟨vz HO167⟩, ⟨vz HO_7⟩, ⟨bz⟩⟩
   ·rw [if_neg c7] at H
    have c7b0 : decide (0 ≤ x8_1) = false := decide_eq_false c7
    clear c7
    simp only [Option.some.injEq, Prod.mk.injEq] at H
    obtain ⟨rfl, rfl⟩ := H
    go_wp2
    go_ret2
    exact ⟨_, _, by first | rfl | (simp [errW_none, errW_some] <;> rfl) | (simp [*, errW_none, errW_some] <;> rfl), by (with_reducible repeat (first | apply Kd.V_alloc | apply Kd.V_drewN | apply Kd.V_drew)); exact HO_6.out, by (with_reducible repeat (first | apply Kd.V_alloc | apply Kd.V_drewN | apply Kd.V_drew)); exact HO_7.out, bz⟩

def real_nat_small.l0 : Nat → Int → List Int → Int → Int → Option (Int)
 | 0, _, _, _, _ => none
 | k + 1, x3, x6, x7, x8 => if x8 < x7 then (if 0 ≤ x8 then (if x8 < (x6.length : Int) then (if 0 ≤ (wrap64 (32 * x8)) then (real_nat_small.l0 k (Go.bits .or .u64 x3 (shl .u64 (IntKind.u64.wrap (rd x6 x8)) (wrap64 (32 * x8)))) x6 x7 (wrap64 (x8 + 1))) else (none)) else (none)) else (none)) else (some x3)
def real_nat_small.f (k : Nat) (l0 : List Int) : Option (Int) := real_nat_small.l0 k 0 l0 (l0.length : Int) 0
theorem real_nat_small.mono_l : ∀ k, (∀ y0 y1 y2 y3, LeO (real_nat_small.l0 k y0 y1 y2 y3) (real_nat_small.l0 (k + 1) y0 y1 y2 y3))
 | 0 => fun _ _ _ _ r h => by simp [real_nat_small.l0] at h
 | k + 1 => by
  have ih0 := real_nat_small.mono_l k
  ·intro y0 y1 y2 y3
   unfold real_nat_small.l0
   repeat' first
   | (with_reducible exact ih0 _ _ _ _)
   | (with_reducible exact LeO.refl _)
   | (with_reducible exact LeO.none _)
   | (with_reducible refine LeO.ite ?_ ?_)
   | (with_reducible refine LeO.bind ?_ (fun _ => ?_))
   | exact ih0 _ _ _ _
   | exact LeO.none _
   | refine LeO.ite ?_ ?_
   | refine LeO.bind ?_ (fun _ => ?_)
theorem real_nat_small.mono : ∀ a0 k, LeO (real_nat_small.f k a0) (real_nat_small.f (k + 1) a0) := by
 intro a0 k
 have ih0 := real_nat_small.mono_l k
 unfold real_nat_small.f
 repeat' first
   | (with_reducible exact ih0 _ _ _ _)
   | (with_reducible exact LeO.refl _)
   | (with_reducible exact LeO.none _)
   | (with_reducible refine LeO.ite ?_ ?_)
   | (with_reducible refine LeO.bind ?_ (fun _ => ?_))
   | exact ih0 _ _ _ _
   | exact LeO.none _
   | refine LeO.ite ?_ ?_
   | refine LeO.bind ?_ (fun _ => ?_)
theorem real_nat_small.calls (k : Nat) (A0 : Option Addr) (c0 : Nat) (l0 : List Int) (r : Int) (w : World) (hr0 : Kd.C (Kd.int .u32) w A0 l0.length l0) (hc0 : l0.length ≤ c0) (h : real_nat_small.f k l0 = some r) :
  Calls Tryz.prog 127 #[.slice A0 l0.length c0] w fun e w' => e = .returned (.int .u64 r) ∧ Drawn0 w w' := by
 have HR0 := Aside0.mk hr0
 have HC0 := Aside0.mk hc0
 clear hr0 hc0
 have H := h; unfold real_nat_small.f at H; clear h
 have H' := Aside0.mk H
 clear H
 go_enter Tryz.func127, Tryz.ntmps127
 go_wp2
 go_loopg [3, 8] k (fun kq v3 v8 w' => ∃ (x3_1 : Int) (x8_1 : Int), v3 = .int .u64 x3_1 ∧ v8 = .int .i64 x8_1 ∧ Aside0 (real_nat_small.l0 kq x3_1 l0 (l0.length : Int) x8_1 = some r) ∧ Aside0 (kq ≤ k) ∧ Drawn0 w w')
 case atStart => exact ⟨(0), (0), (by first | rfl | (simp; done) | (simp [*]; done)), (by first | rfl | (simp; done) | (simp [*]; done)), H', ⟨Nat.le_refl _⟩, by repeat (first | exact Drawn0.refl _ | apply Drawn0.step)⟩
 case round =>
  clear H'
  obtain ⟨x3_1, x8_1, rfl, rfl, HA, HK1, ⟨m1, rfl⟩⟩ := hrel
  cases gk with
  | zero => exact absurd HA.out (by simp [real_nat_small.l0])
  | succ k1 =>
   have H := HA.out
   clear HA
   simp only [real_nat_small.l0] at H
   by_cases c2 : x8_1 < (l0.length : Int)
   ·rw [if_pos c2] at H
    have c2b0 : decide (x8_1 < (l0.length : Int)) = true := decide_eq_true c2
    clear c2
    by_cases c3 : 0 ≤ x8_1
    ·rw [if_pos c3] at H
     have c3b0 : decide (0 ≤ x8_1) = true := decide_eq_true c3
     clear c3
     by_cases c4 : x8_1 < (l0.length : Int)
     ·rw [if_pos c4] at H
      have c4b0 : decide (x8_1 < (l0.length : Int)) = true := decide_eq_true c4
      clear c4
      obtain ⟨ji5, hji5⟩ : ∃ j_ : Int, (wrap64 (32 * x8_1)) = j_ := ⟨_, rfl⟩
      first | rw [hji5] at H | simp only [hji5] at H
      have hji5w : (IntKind.i64.wrap (32 * x8_1)) = ji5 := (i64_w _).trans hji5
      by_cases c6 : 0 ≤ (ji5)
      ·rw [if_pos c6] at H
       have c6b0 := eq_true c6
       have c6b1 : decide (0 ≤ (ji5)) = true := decide_eq_true c6
       clear c6
       obtain ⟨ji7, hji7⟩ : ∃ j_ : Int, (shl .u64 (IntKind.u64.wrap (rd l0 x8_1)) (ji5)) = j_ := ⟨_, rfl⟩
       first | rw [hji7] at H | simp only [hji7] at H
       have hji7_ : (IntKind.u64.wrap ((IntKind.u64.wrap (rd l0 x8_1)) * 2 ^ min (ji5).toNat 64)) = ji7 := hji7
       have hji7z : (ji5) ≤ 64 → (IntKind.u64.wrap ((IntKind.u64.wrap (rd l0 x8_1)) * 2 ^ (ji5).toNat)) = ji7 := shl_small hji7
       have H' := Aside0.mk H
       clear H
       have p178 : 0 ≤ (x8_1 : Int) := oda
       have q178 : x8_1 < (l0.length : Int) := oda
       obtain ⟨ad178, e178, hx178_0⟩ := Kd.at_int HR0.out x8_1 p178 q178
       cases e178
       replace p178 := eq_true p178
       replace q178 := eq_true q178
       go_wp2
       go_roundg k1
       case measure => have := HK1.out; omega
       case rel => exact ⟨(Go.bits .or .u64 x3_1 (ji7)), (wrap64 (x8_1 + 1)), (by first | rfl | (simp; done) | (simp only [← hji7] <;> (first | rfl | simp)) | (simp [*]; done)), (by first | rfl | (simp; done) | (simp [*]; done)), H', ⟨by have := HK1.out; omega⟩, by repeat (first | exact Drawn0.refl _ | apply Drawn0.step)⟩
      ·rw [if_neg c6] at H
       exact absurd H (by simp)
     ·rw [if_neg c4] at H
      exact absurd H (by simp)
    ·rw [if_neg c3] at H
     exact absurd H (by simp)
   ·rw [if_neg c2] at H
    have c2b0 : decide (x8_1 < (l0.length : Int)) = false := decide_eq_false c2
    clear c2
    obtain rfl := Option.some.inj H
    go_wp2
    go_ret
    exact ⟨by first | rfl | (simp; done) | (simp [*]; done) | (exfalso; simp at *; done), by repeat (first | exact Drawn0.refl _ | apply Drawn0.step)⟩


def real_natOf.f (k : Nat) (a0 : Int) : Option (List Int) := (real_trim.f k (([(a0) % 4294967296, (a0 / 4294967296) % 4294967296] : List Int))).bind fun t203 => (some t203)
theorem real_natOf.mono : ∀ a0 k, LeO (real_natOf.f k a0) (real_natOf.f (k + 1) a0) := by
 intro a0 k
 unfold real_natOf.f
 repeat' first
   | (with_reducible exact real_trim.mono _ _)
   | (with_reducible exact LeO.refl _)
   | (with_reducible exact LeO.none _)
   | (with_reducible refine LeO.ite ?_ ?_)
   | (with_reducible refine LeO.bind ?_ (fun _ => ?_))
   | exact real_trim.mono _ _
   | exact LeO.none _
   | refine LeO.ite ?_ ?_
   | refine LeO.bind ?_ (fun _ => ?_)
theorem real_natOf.calls (k : Nat) (a0 : Int) (r : List Int) (w : World) (h : real_natOf.f k a0 = some r) :
  Calls Tryz.prog 98 #[.int .u64 a0] w fun e w' => ∃ v0_ : Value, e = .returned (v0_) ∧ Kd.V (Kd.int .u32) 115 w' w.heap.size (fun k_ => (w.heap.size ≤ k_)) v0_ r ∧ Below w.heap.size w w' := by
 have HB := Aside0.mk (Below.refl w.heap.size w)
 have H := h; unfold real_natOf.f at H; clear h
 obtain ⟨y200, hy200⟩ : ∃ y_ : List Int, y_ = (([(a0) % 4294967296, (a0 / 4294967296) % 4294967296] : List Int)) := ⟨_, rfl⟩
 replace H : ((real_trim.f k y200).bind fun t203 => (some t203)) = some r := by first | (rw [hy200]; with_reducible exact H) | (have H2_ := (Option.bind_some _ _).symm.trans H; rw [hy200]; with_reducible exact H2_) | (have H2_ := (Option.bind_some _ _).symm.trans H; with_reducible exact H2_) | with_reducible exact H | (rw [hy200]; exact H) | exact H
 have Ny200 := Aside0.mk hy200
 clear hy200
 replace H := Option.bind_eq_some_iff.mp H
 obtain ⟨t203, A20, H⟩ := H
 try dsimp only at H
 have A2 := Aside0.mk A20
 clear A20
 obtain rfl := Option.some.inj H
 go_enter Tryz.func98, Tryz.ntmps98
 go_wp2_with (first | ((with_reducible refine gate_dst (N := 8) rfl ?_); refine Kd.R_lit (Kd.int .u32) _ 115 ?hg (N := 8) ?hd (xs := ([(a0) % 4294967296, (a0 / 4294967296) % 4294967296] : List Int)) (inner := [.int .u32 ((a0) % 4294967296), .int .u32 ((a0 / 4294967296) % 4294967296)]) (ok := fun _ => True) (okp := fun _ => True) ?hr ?hp (fun _ hk => hk) trivial (Below.refl _ _) (Nat.le_refl _) (by simp) ?_; (case hd => rfl); (case hg => rfl); (case hr => first | (go_simp; done) | (go_simp; rfl)); (case hp => exact (Reps.one (show Kd.M (Kd.int .u32) _ _ _ ((a0) % 4294967296) [.int .u32 ((a0) % 4294967296)] from rfl) (Reps.one (show Kd.M (Kd.int .u32) _ _ _ ((a0 / 4294967296) % 4294967296) [.int .u32 ((a0 / 4294967296) % 4294967296)] from rfl) (Reps.none _ _)))); intro v201 w3 ho4 hb hg_ hnew_; clear hg_ hnew_; (first | rw [← Ny200.out] at ho4 | (simp only [Int.reduceToNat] at ho4; rw [← Ny200.out] at ho4)); have HO202 := Aside0.mk (Kd.R_lower (Kd.R_newM (M := fun k_ => (w.heap.size ≤ k_)) ho4 (below_size bz) (fun k_ h_ => h_)) (below_size bz)); replace HB := bs hb; clear hb ho4; obtain ⟨Ao5, co5, eo5⟩ := Kd.R_slice HO202.out; subst eo5) | ((with_reducible refine gate_callee (f := 142) rfl ?_); refine gL 9 Tryz.func142 #[.slice Ao5 y200.length co5] ?_; (with_reducible refine (real_trim.calls k (fun k_ => some k_ = (.slice Ao5 y200.length co5 : Value).ownBlock) _ _ y200 t203 _ ?side1 A2.out).mono ?_); (case side1 => exact Kd.R_V (Kd.R_tight rfl (HO202.out))); rintro e w6 ⟨v204, rfl, ho0, hb⟩; refine ⟨_, rfl, ?_⟩; have HO205 := Aside0.mk (Kd.V_lower (Kd.V_mono (ok' := fun k_ => (w.heap.size ≤ k_)) ho0 (fun k_ hk_ => Or.elim hk_ (fun hs_ => ((HO202.out).1 k_ hs_.symm).1) (fun hn_ => (Nat.le_trans (below_size bz) hn_)))) (below_size bz)); replace HO202 := rb HO202 hb; replace HB := bs hb; (try clear hb); (try clear hk); (try clear ho0)))
 go_ret
 exact ⟨_, by first | rfl | (simp [errW_none, errW_some] <;> rfl) | (simp [*, errW_none, errW_some] <;> rfl), by (with_reducible repeat (first | apply Kd.V_alloc | apply Kd.V_drewN | apply Kd.V_drew)); exact HO205.out, bz⟩

def real_magnitude.f (k : Nat) (a0 : Int) : Option (List Int) := (real_natOf.f k (IntKind.u64.wrap (mx a0 (wrap64 (-a0))))).bind fun t206 => (some t206)
theorem real_magnitude.mono : ∀ a0 k, LeO (real_magnitude.f k a0) (real_magnitude.f (k + 1) a0) := by
 intro a0 k
 unfold real_magnitude.f
 repeat' first
   | (with_reducible exact real_natOf.mono _ _)
   | (with_reducible exact LeO.refl _)
   | (with_reducible exact LeO.none _)
   | (with_reducible refine LeO.ite ?_ ?_)
   | (with_reducible refine LeO.bind ?_ (fun _ => ?_))
   | exact real_natOf.mono _ _
   | exact LeO.none _
   | refine LeO.ite ?_ ?_
   | refine LeO.bind ?_ (fun _ => ?_)
theorem real_magnitude.calls (k : Nat) (a0 : Int) (r : List Int) (w : World) (h : real_magnitude.f k a0 = some r) :
  Calls Tryz.prog 113 #[.int .i64 a0] w fun e w' => ∃ v0_ : Value, e = .returned (v0_) ∧ Kd.V (Kd.int .u32) 115 w' w.heap.size (fun k_ => (w.heap.size ≤ k_)) v0_ r ∧ Below w.heap.size w w' := by
 have HB := Aside0.mk (Below.refl w.heap.size w)
 have H := h; unfold real_magnitude.f at H; clear h
 obtain ⟨ji2, hji2⟩ : ∃ j_ : Int, (mx a0 (wrap64 (-a0))) = j_ := ⟨_, rfl⟩
 first | rw [hji2] at H | simp only [hji2] at H
 have hji2_ : (if a0 < (wrap64 (-a0)) then (wrap64 (-a0)) else a0) = ji2 := hji2
 replace H := Option.bind_eq_some_iff.mp H
 obtain ⟨t206, A30, H⟩ := H
 try dsimp only at H
 have A3 := Aside0.mk A30
 clear A30
 obtain rfl := Option.some.inj H
 go_enter Tryz.func113, Tryz.ntmps113
 go_wp2_with (first | ((with_reducible refine gate_callee (f := 98) rfl ?_); refine goesL_ (some 8) rfl rfl Tryz.func98 (by kernel_rfl) rfl #[.int .u64 (IntKind.u64.wrap (ji2))] rfl (by (try simp only [List.map_toArray, List.map_cons, List.map_nil]); first | done | (simp only [hji2]; rfl) | rfl | (simp only [List.length_drop, List.length_take]; rfl)) ?_; (with_reducible refine (real_natOf.calls k (IntKind.u64.wrap (ji2)) t206 _ A3.out).mono ?_); rintro e w4 ⟨v207, rfl, ho0, hb⟩; refine ⟨_, rfl, ?_⟩; have HO208 := Aside0.mk (Kd.V_lower (Kd.V_mono (ok' := fun k_ => (w.heap.size ≤ k_)) ho0 (fun k_ hk_ => (Nat.le_trans (below_size bz) hk_))) (below_size bz)); replace HB := bs hb; (try clear hb); (try clear ho0)))
 go_ret
 exact ⟨_, by first | rfl | (simp [errW_none, errW_some] <;> rfl) | (simp only [← hji2]; first | rfl | (simp [errW_none, errW_some] <;> rfl)) | (simp [*, errW_none, errW_some] <;> rfl), by (with_reducible repeat (first | apply Kd.V_alloc | apply Kd.V_drewN | apply Kd.V_drew)); exact HO208.out, bz⟩

mutual
def real_nat_mul.l0 : Nat → List Int → List Int → List Int → Int → Int → Option (List Int)
 | 0, _, _, _, _, _ => none
 | k + 1, x1, x5, x18, x19, x20 => if x20 < x19 then (if 0 ≤ x20 then (if x20 < (x18.length : Int) then (real_nat_mul.l1 k x1 x5 x20 (rd x18 x20) 0 x18 x19 x20 x1 (x1.length : Int) 0) else (none)) else (none)) else ((real_trim.f k x5).bind fun t212 => (some t212))
def real_nat_mul.l1 : Nat → List Int → List Int → Int → Int → Int → List Int → Int → Int → List Int → Int → Int → Option (List Int)
 | 0, _, _, _, _, _, _, _, _, _, _, _ => none
 | k + 1, x1, x5, x6, x7, x8, x18, x19, x20, x25, x26, x27 => if x27 < x26 then (if 0 ≤ x27 then (if x27 < (x25.length : Int) then (if 0 ≤ (wrap64 (x6 + x27)) then (if (wrap64 (x6 + x27)) < (x5.length : Int) then (real_nat_mul.l1 k x1 (x5.set ((wrap64 (x6 + x27)) : Int).toNat ((IntKind.u64.wrap ((IntKind.u64.wrap ((IntKind.u64.wrap ((IntKind.u64.wrap (x7)) * (IntKind.u64.wrap (rd x25 x27)))) + (IntKind.u64.wrap (rd x5 (wrap64 (x6 + x27)))))) + x8)) % 4294967296)) x6 x7 ((IntKind.u64.wrap ((IntKind.u64.wrap ((IntKind.u64.wrap ((IntKind.u64.wrap (x7)) * (IntKind.u64.wrap (rd x25 x27)))) + (IntKind.u64.wrap (rd x5 (wrap64 (x6 + x27)))))) + x8)) / 4294967296) x18 x19 x20 x25 x26 (wrap64 (x27 + 1))) else (none)) else (none)) else (none)) else (none)) else (if 0 ≤ (wrap64 (x6 + (x1.length : Int))) then (if (wrap64 (x6 + (x1.length : Int))) < (x5.length : Int) then (real_nat_mul.l0 k x1 (x5.set ((wrap64 (x6 + (x1.length : Int))) : Int).toNat ((x8) % 4294967296)) x18 x19 (wrap64 (x20 + 1))) else (none)) else (none))
end
def real_nat_mul.f (k : Nat) (l0 : List Int) (l1 : List Int) : Option (List Int) := if 0 ≤ (wrap64 ((l0.length : Int) + (l1.length : Int))) then (if (wrap64 ((l0.length : Int) + (l1.length : Int)) : Int).toNat ≤ 70368744177664 then (real_nat_mul.l0 k l1 (List.replicate (wrap64 ((l0.length : Int) + (l1.length : Int)) : Int).toNat 0) l0 (l0.length : Int) 0) else (none)) else (none)
theorem real_nat_mul.mono_l : ∀ k, (∀ y0 y1 y2 y3 y4, LeO (real_nat_mul.l0 k y0 y1 y2 y3 y4) (real_nat_mul.l0 (k + 1) y0 y1 y2 y3 y4)) ∧ (∀ y0 y1 y2 y3 y4 y5 y6 y7 y8 y9 y10, LeO (real_nat_mul.l1 k y0 y1 y2 y3 y4 y5 y6 y7 y8 y9 y10) (real_nat_mul.l1 (k + 1) y0 y1 y2 y3 y4 y5 y6 y7 y8 y9 y10))
 | 0 => ⟨fun _ _ _ _ _ r h => by simp [real_nat_mul.l0] at h, fun _ _ _ _ _ _ _ _ _ _ _ r h => by simp [real_nat_mul.l1] at h⟩
 | k + 1 => by
  obtain ⟨ih0, ih1⟩ := real_nat_mul.mono_l k
  refine ⟨?_, ?_⟩
  ·intro y0 y1 y2 y3 y4
   unfold real_nat_mul.l0
   repeat' first
   | (with_reducible exact ih0 _ _ _ _ _)
   | (with_reducible exact ih1 _ _ _ _ _ _ _ _ _ _ _)
   | (with_reducible exact real_trim.mono _ _)
   | (with_reducible exact LeO.refl _)
   | (with_reducible exact LeO.none _)
   | (with_reducible refine LeO.ite ?_ ?_)
   | (with_reducible refine LeO.bind ?_ (fun _ => ?_))
   | exact ih0 _ _ _ _ _
   | exact ih1 _ _ _ _ _ _ _ _ _ _ _
   | exact real_trim.mono _ _
   | exact LeO.none _
   | refine LeO.ite ?_ ?_
   | refine LeO.bind ?_ (fun _ => ?_)
  ·intro y0 y1 y2 y3 y4 y5 y6 y7 y8 y9 y10
   unfold real_nat_mul.l1
   repeat' first
   | (with_reducible exact ih0 _ _ _ _ _)
   | (with_reducible exact ih1 _ _ _ _ _ _ _ _ _ _ _)
   | (with_reducible exact real_trim.mono _ _)
   | (with_reducible exact LeO.refl _)
   | (with_reducible exact LeO.none _)
   | (with_reducible refine LeO.ite ?_ ?_)
   | (with_reducible refine LeO.bind ?_ (fun _ => ?_))
   | exact ih0 _ _ _ _ _
   | exact ih1 _ _ _ _ _ _ _ _ _ _ _
   | exact real_trim.mono _ _
   | exact LeO.none _
   | refine LeO.ite ?_ ?_
   | refine LeO.bind ?_ (fun _ => ?_)
theorem real_nat_mul.mono : ∀ a0 a1 k, LeO (real_nat_mul.f k a0 a1) (real_nat_mul.f (k + 1) a0 a1) := by
 intro a0 a1 k
 obtain ⟨ih0, ih1⟩ := real_nat_mul.mono_l k
 unfold real_nat_mul.f
 repeat' first
   | (with_reducible exact ih0 _ _ _ _ _)
   | (with_reducible exact ih1 _ _ _ _ _ _ _ _ _ _ _)
   | (with_reducible exact real_trim.mono _ _)
   | (with_reducible exact LeO.refl _)
   | (with_reducible exact LeO.none _)
   | (with_reducible refine LeO.ite ?_ ?_)
   | (with_reducible refine LeO.bind ?_ (fun _ => ?_))
   | exact ih0 _ _ _ _ _
   | exact ih1 _ _ _ _ _ _ _ _ _ _ _
   | exact real_trim.mono _ _
   | exact LeO.none _
   | refine LeO.ite ?_ ?_
   | refine LeO.bind ?_ (fun _ => ?_)
theorem real_nat_mul.calls (k : Nat) (A0 : Option Addr) (c0 : Nat) (l0 : List Int) (A1 : Option Addr) (c1 : Nat) (l1 : List Int) (r : List Int) (w : World) (hr0 : Kd.C (Kd.int .u32) w A0 l0.length l0) (hc0 : l0.length ≤ c0) (hr1 : Kd.C (Kd.int .u32) w A1 l1.length l1) (hc1 : l1.length ≤ c1) (h : real_nat_mul.f k l0 l1 = some r) :
  Calls Tryz.prog 116 #[.slice A0 l0.length c0, .slice A1 l1.length c1] w fun e w' => ∃ v0_ : Value, e = .returned (v0_) ∧ Kd.V (Kd.int .u32) 115 w' w.heap.size (fun k_ => (w.heap.size ≤ k_)) v0_ r ∧ Below w.heap.size w w' := by
 have HR0 := Aside0.mk hr0
 have HC0 := Aside0.mk hc0
 clear hr0 hc0
 have HR1 := Aside0.mk hr1
 have HC1 := Aside0.mk hc1
 clear hr1 hc1
 have HB := Aside0.mk (Below.refl w.heap.size w)
 have H := h; unfold real_nat_mul.f at H; clear h
 obtain ⟨ji3, hji3⟩ : ∃ j_ : Int, (wrap64 ((l0.length : Int) + (l1.length : Int))) = j_ := ⟨_, rfl⟩
 first | rw [hji3] at H | simp only [hji3] at H
 have hji3w : (IntKind.i64.wrap ((l0.length : Int) + (l1.length : Int))) = ji3 := (i64_w _).trans hji3
 by_cases c4 : 0 ≤ (ji3)
 ·rw [if_pos c4] at H
  have c4b0 := eq_true c4
  have c4b1 : decide (0 ≤ (ji3)) = true := decide_eq_true c4
  clear c4
  by_cases c5 : (ji3 : Int).toNat ≤ 70368744177664
  ·rw [if_pos c5] at H
   have c5b0 := eq_true c5
   have c5b1 : decide ((ji3 : Int).toNat ≤ 70368744177664) = true := decide_eq_true c5
   clear c5
   obtain ⟨y209, hy209⟩ : ∃ y_ : List Int, y_ = (List.replicate (ji3 : Int).toNat 0) := ⟨_, rfl⟩
   replace H : (real_nat_mul.l0 k l1 y209 l0 (l0.length : Int) 0) = some r := by first | (rw [hy209]; with_reducible exact H) | (have H2_ := (Option.bind_some _ _).symm.trans H; rw [hy209]; with_reducible exact H2_) | (have H2_ := (Option.bind_some _ _).symm.trans H; with_reducible exact H2_) | with_reducible exact H | (rw [hy209]; exact H) | exact H
   have Ny209 := Aside0.mk hy209
   clear hy209
   have H' := Aside0.mk H
   clear H
   go_enter Tryz.func116, Tryz.ntmps116
   go_wp2_with (first | ((with_reducible refine gate_dst (N := 17) rfl ?_); refine Kd.R_make (Kd.int .u32) _ 115 rfl (N := 17) rfl 87 _ _ rfl ji3 rfl rfl Tryz.underlying87 (.int .u32 0) 4 info115 rfl (by decide) (by omega) 0 (ok := fun _ => True) (okp := fun _ => True) rfl (fun _ hk => hk) trivial (oda) (Nat.le_trans (Nat.mul_le_mul_right _ (of_decide_eq_true (by first | (with_reducible assumption) | assumption) : ji3.toNat ≤ 70368744177664)) (by omega)) (Below.refl _ _) (Nat.le_refl _) ?_; intro v210 w6 ho7 hb hg_ hnew_; clear hg_ hnew_; (first | rw [← Ny209.out] at ho7 | (simp only [Int.reduceToNat] at ho7; rw [← Ny209.out] at ho7)); have HO211 := Aside0.mk (Kd.R_lower (Kd.R_newM (M := fun k_ => (w.heap.size ≤ k_)) ho7 (below_size bz) (fun k_ h_ => h_)) (below_size bz)); replace HB := bs hb; clear hb ho7))
   go_loopg [20] k (fun kq v20 w' => ∃ (x5_1 : List Int) (x20_1 : Int), v20 = .int .i64 x20_1 ∧ Aside0 (real_nat_mul.l0 kq l1 x5_1 l0 (l0.length : Int) x20_1 = some r) ∧ Aside0 (kq ≤ k) ∧ Aside0 (Kd.R (Kd.int .u32) 115 w' w.heap.size (fun k_ => (w.heap.size ≤ k_)) v210 x5_1) ∧ Aside0 (Below w.heap.size w w'))
   case atStart => exact ⟨(y209), (0), (by first | rfl | (simp; done) | (simp [*]; done)), H', ⟨Nat.le_refl _⟩, ⟨by (with_reducible repeat (first | apply Kd.R_alloc | apply Kd.R_drewN | apply Kd.R_drew)); exact Kd.R_mono HO211.out (fun _ hk => hk.1)⟩, ⟨bz⟩⟩
   case round =>
    clear H'
    try clear c1
    try clear c4
    try clear c4b0
    try clear c4b1
    try clear c5
    try clear c5b0
    try clear c5b1
    obtain ⟨x5_1, x20_1, rfl, HA, HK1, HO_5, HB⟩ := hrel
    cases gk with
    | zero => exact absurd HA.out (by simp [real_nat_mul.l0])
    | succ k1 =>
     have H := HA.out
     clear HA
     simp only [real_nat_mul.l0] at H
     by_cases c8 : x20_1 < (l0.length : Int)
     ·rw [if_pos c8] at H
      have c8b0 : decide (x20_1 < (l0.length : Int)) = true := decide_eq_true c8
      clear c8
      by_cases c9 : 0 ≤ x20_1
      ·rw [if_pos c9] at H
       have c9b0 : decide (0 ≤ x20_1) = true := decide_eq_true c9
       clear c9
       by_cases c10 : x20_1 < (l0.length : Int)
       ·rw [if_pos c10] at H
        have c10b0 : decide (x20_1 < (l0.length : Int)) = true := decide_eq_true c10
        clear c10
        have H' := Aside0.mk H
        clear H
        have p215 : 0 ≤ (x20_1 : Int) := oda
        have q215 : x20_1 < (l0.length : Int) := oda
        obtain ⟨ad215, e215, hx215_0⟩ := Kd.at_int HR0.out x20_1 p215 q215
        cases e215
        replace hx215_0 := (HB.out.cell (World.block_lt_of_cell? w _ hx215_0)).trans hx215_0
        replace p215 := eq_true p215
        replace q215 := eq_true q215
        go_wp2
        go_loopg [8, 27] k1 (fun kq v8 v27 w' => ∃ (x5_2 : List Int) (x8_2 : Int) (x27_2 : Int), v8 = .int .u64 x8_2 ∧ v27 = .int .i64 x27_2 ∧ Aside0 (real_nat_mul.l1 kq l1 x5_2 x20_1 (rd l0 x20_1) x8_2 l0 (l0.length : Int) x20_1 l1 (l1.length : Int) x27_2 = some r) ∧ Aside0 (kq ≤ k1) ∧ Aside0 (Kd.R (Kd.int .u32) 115 w' w.heap.size (fun k_ => (w.heap.size ≤ k_)) v210 x5_2) ∧ Aside0 (Below w.heap.size w w'))
        case atStart => exact ⟨(x5_1), (0), (0), (by first | rfl | (simp; done) | (simp [*]; done)), (by first | rfl | (simp; done) | (simp [*]; done)), H', ⟨Nat.le_refl _⟩, ⟨rz HO_5⟩, ⟨bz⟩⟩
        case round =>
         clear H'
         try clear c1
         try clear c4
         try clear c4b0
         try clear c4b1
         try clear c5
         try clear c5b0
         try clear c5b1
         try clear c8
         try clear c8b0
         try clear c9
         try clear c9b0
         try clear c10
         try clear c10b0
         try clear hx215_0
         try clear p215
         try clear q215
         obtain ⟨x5_2, x8_2, x27_2, rfl, rfl, HA, HK2, HO_5, HB⟩ := hrel
         cases gk with
         | zero => exact absurd HA.out (by simp [real_nat_mul.l1])
         | succ k2 =>
          have H := HA.out
          clear HA
          simp only [real_nat_mul.l1] at H
          by_cases c11 : x27_2 < (l1.length : Int)
          ·rw [if_pos c11] at H
           have c11b0 : decide (x27_2 < (l1.length : Int)) = true := decide_eq_true c11
           clear c11
           by_cases c12 : 0 ≤ x27_2
           ·rw [if_pos c12] at H
            have c12b0 : decide (0 ≤ x27_2) = true := decide_eq_true c12
            clear c12
            by_cases c13 : x27_2 < (l1.length : Int)
            ·rw [if_pos c13] at H
             have c13b0 : decide (x27_2 < (l1.length : Int)) = true := decide_eq_true c13
             clear c13
             obtain ⟨ji14, hji14⟩ : ∃ j_ : Int, (wrap64 (x20_1 + x27_2)) = j_ := ⟨_, rfl⟩
             first | rw [hji14] at H | simp only [hji14] at H
             have hji14w : (IntKind.i64.wrap (x20_1 + x27_2)) = ji14 := (i64_w _).trans hji14
             by_cases c15 : 0 ≤ (ji14)
             ·rw [if_pos c15] at H
              have c15b0 : decide (0 ≤ (ji14)) = true := decide_eq_true c15
              clear c15
              by_cases c16 : (ji14) < (x5_2.length : Int)
              ·rw [if_pos c16] at H
               have c16b0 : decide ((ji14) < (x5_2.length : Int)) = true := decide_eq_true c16
               clear c16
               obtain ⟨y218, hy218⟩ : ∃ y_ : List Int, y_ = (x5_2.set ((ji14) : Int).toNat ((IntKind.u64.wrap ((IntKind.u64.wrap ((IntKind.u64.wrap ((IntKind.u64.wrap ((rd l0 x20_1))) * (IntKind.u64.wrap (rd l1 x27_2)))) + (IntKind.u64.wrap (rd x5_2 (ji14))))) + x8_2)) % 4294967296)) := ⟨_, rfl⟩
               replace H : (real_nat_mul.l1 k2 l1 y218 x20_1 (rd l0 x20_1) ((IntKind.u64.wrap ((IntKind.u64.wrap ((IntKind.u64.wrap ((IntKind.u64.wrap ((rd l0 x20_1))) * (IntKind.u64.wrap (rd l1 x27_2)))) + (IntKind.u64.wrap (rd x5_2 (ji14))))) + x8_2)) / 4294967296) l0 (l0.length : Int) x20_1 l1 (l1.length : Int) (wrap64 (x27_2 + 1))) = some r := by first | (rw [hy218]; with_reducible exact H) | (have H2_ := (Option.bind_some _ _).symm.trans H; rw [hy218]; with_reducible exact H2_) | (have H2_ := (Option.bind_some _ _).symm.trans H; with_reducible exact H2_) | with_reducible exact H | (rw [hy218]; exact H) | exact H
               have Ny218 := Aside0.mk hy218
               clear hy218
               have H' := Aside0.mk H
               clear H
               have p216 : 0 ≤ (x27_2 : Int) := oda
               have q216 : x27_2 < (l1.length : Int) := oda
               obtain ⟨ad216, e216, hx216_0⟩ := Kd.at_int HR1.out x27_2 p216 q216
               cases e216
               replace hx216_0 := (HB.out.cell (World.block_lt_of_cell? w _ hx216_0)).trans hx216_0
               replace p216 := eq_true p216
               replace q216 := eq_true q216
               obtain ⟨Ao18, co18, eo18⟩ := Kd.R_slice HO_5.out
               subst eo18
               have p217 : 0 ≤ ((ji14) : Int) := oda
               have q217 : (ji14) < (x5_2.length : Int) := oda
               obtain ⟨ad217, e217, hx217_0⟩ := Kd.at_int (Kd.R_reads' HO_5.out).2.2 (ji14) p217 q217
               cases e217
               replace p217 := eq_true p217
               replace q217 := eq_true q217
               have p17 : 0 ≤ ((ji14) : Int) := oda
               have q17 : ((ji14) : Int) < ((x5_2.length : Int) : Int) := oda
               obtain ⟨go17, co17, eo17, gb17, gl17, cl17, HG17⟩ := Kd.R_form HO_5.out (by omega)
               (first | cases eo17 | (injection eo17 with ea_ en_ ec_; (first | subst ea_ | (injection ea_ with ea_; subst ea_)); subst ec_; clear en_))
               have GB17 := Aside0.mk gb17
               have GG17 := Aside0.mk HG17
               clear gb17 gl17 HG17
               (first | simp only [add_plain] at hx217_0 | skip)
               obtain ⟨hx17_0, hf17_0⟩ := Kd.R_celln 0 HO_5.out ((ji14) : Int) p17 q17
               replace p17 := eq_true p17
               replace q17 := eq_true q17
               have HP19 := Kd.R_putg HO_5.out ((ji14) : Int) ((IntKind.u64.wrap ((IntKind.u64.wrap ((IntKind.u64.wrap ((IntKind.u64.wrap ((rd l0 x20_1))) * (IntKind.u64.wrap (rd l1 x27_2)))) + (IntKind.u64.wrap (rd x5_2 (ji14))))) + x8_2)) % 4294967296)
               go_wp2_with (first | ((with_reducible refine gate_store (t := 115) (p := 53) rfl ?_); refine store_event (t := 115) (p := 53) (v := ?vo_w20) (w1 := (wr.setCell ⟨go17, ((ji14) : Int).toNat, none⟩ (.int .u32 ((IntKind.u64.wrap ((IntKind.u64.wrap ((IntKind.u64.wrap ((IntKind.u64.wrap ((rd l0 x20_1))) * (IntKind.u64.wrap (rd l1 x27_2)))) + (IntKind.u64.wrap (rd x5_2 (ji14))))) + x8_2)) % 4294967296)))) ?hg ?ho ?hn ?hr ?_; (case ho => rfl); (case hg => rfl); (case hn => rfl); (case hr => first | (go_simp; done) | (go_simp; rfl)); intro w20 hw; have hg : wr.grownBy w20 (some go17) := (by rw [hw]; exact HP19.2); have hp_ : Kd.R (Kd.int .u32) 115 w20 w.heap.size (fun k_ => (w.heap.size ≤ k_)) (.slice (some ⟨go17, 0, none⟩) x5_2.length co18) y218 := (by rw [hw, Ny218.out]; exact HP19.1); clear HP19; replace HO_5 := Aside0.mk (hp_); replace HB := Aside0.mk ((by rw [hw]; exact below_set (HB.out) GB17.out : Below w.heap.size w w20)); clear hg hw hp_))
               go_roundg k2
               case measure => have := HK1.out; have := HK2.out; omega
               case rel => exact ⟨(y218), ((IntKind.u64.wrap ((IntKind.u64.wrap ((IntKind.u64.wrap ((IntKind.u64.wrap ((rd l0 x20_1))) * (IntKind.u64.wrap (rd l1 x27_2)))) + (IntKind.u64.wrap (rd x5_2 (ji14))))) + x8_2)) / 4294967296), (wrap64 (x27_2 + 1)), (by first | rfl | (simp; done) | (simp only [← hji14] <;> (first | rfl | simp)) | (simp [*]; done)), (by first | rfl | (simp; done) | (simp [*]; done)), H', ⟨by have := HK1.out; have := HK2.out; omega⟩, ⟨rz HO_5⟩, ⟨bz⟩⟩
              ·rw [if_neg c16] at H
               exact absurd H (by simp)
             ·rw [if_neg c15] at H
              exact absurd H (by simp)
            ·rw [if_neg c13] at H
             exact absurd H (by simp)
           ·rw [if_neg c12] at H
            exact absurd H (by simp)
          ·rw [if_neg c11] at H
           have c11b0 : decide (x27_2 < (l1.length : Int)) = false := decide_eq_false c11
           clear c11
           obtain ⟨ji21, hji21⟩ : ∃ j_ : Int, (wrap64 (x20_1 + (l1.length : Int))) = j_ := ⟨_, rfl⟩
           first | rw [hji21] at H | simp only [hji21] at H
           have hji21w : (IntKind.i64.wrap (x20_1 + (l1.length : Int))) = ji21 := (i64_w _).trans hji21
           by_cases c22 : 0 ≤ (ji21)
           ·rw [if_pos c22] at H
            have c22b0 : decide (0 ≤ (ji21)) = true := decide_eq_true c22
            clear c22
            by_cases c23 : (ji21) < (x5_2.length : Int)
            ·rw [if_pos c23] at H
             have c23b0 : decide ((ji21) < (x5_2.length : Int)) = true := decide_eq_true c23
             clear c23
             obtain ⟨y219, hy219⟩ : ∃ y_ : List Int, y_ = (x5_2.set ((ji21) : Int).toNat ((x8_2) % 4294967296)) := ⟨_, rfl⟩
             replace H : (real_nat_mul.l0 k2 l1 y219 l0 (l0.length : Int) (wrap64 (x20_1 + 1))) = some r := by first | (rw [hy219]; with_reducible exact H) | (have H2_ := (Option.bind_some _ _).symm.trans H; rw [hy219]; with_reducible exact H2_) | (have H2_ := (Option.bind_some _ _).symm.trans H; with_reducible exact H2_) | with_reducible exact H | (rw [hy219]; exact H) | exact H
             have Ny219 := Aside0.mk hy219
             clear hy219
             have H' := Aside0.mk H
             clear H
             have p24 : 0 ≤ ((ji21) : Int) := oda
             have q24 : ((ji21) : Int) < ((x5_2.length : Int) : Int) := oda
             obtain ⟨go24, co24, eo24, gb24, gl24, cl24, HG24⟩ := Kd.R_form HO_5.out (by omega)
             (first | cases eo24 | (injection eo24 with ea_ en_ ec_; (first | subst ea_ | (injection ea_ with ea_; subst ea_)); subst ec_; clear en_))
             have GB24 := Aside0.mk gb24
             have GG24 := Aside0.mk HG24
             clear gb24 gl24 HG24
             obtain ⟨hx24_0, hf24_0⟩ := Kd.R_celln 0 HO_5.out ((ji21) : Int) p24 q24
             replace p24 := eq_true p24
             replace q24 := eq_true q24
             have HP25 := Kd.R_putg HO_5.out ((ji21) : Int) ((x8_2) % 4294967296)
             go_wp2_with (first | ((with_reducible refine gate_store (t := 115) (p := 64) rfl ?_); refine store_event (t := 115) (p := 64) (v := ?vo_w26) (w1 := (wr.setCell ⟨go24, ((ji21) : Int).toNat, none⟩ (.int .u32 ((x8_2) % 4294967296)))) ?hg ?ho ?hn ?hr ?_; (case ho => rfl); (case hg => rfl); (case hn => rfl); (case hr => first | (go_simp; done) | (go_simp; rfl)); intro w26 hw; have hg : wr.grownBy w26 (some go24) := (by rw [hw]; exact HP25.2); have hp_ : Kd.R (Kd.int .u32) 115 w26 w.heap.size (fun k_ => (w.heap.size ≤ k_)) (.slice (some ⟨go24, 0, none⟩) x5_2.length co24) y219 := (by rw [hw, Ny219.out]; exact HP25.1); clear HP25; replace HO_5 := Aside0.mk (hp_); replace HB := Aside0.mk ((by rw [hw]; exact below_set (HB.out) GB24.out : Below w.heap.size w w26)); clear hg hw hp_))
             go_roundg k2
             case measure => have := HK1.out; have := HK2.out; omega
             case rel => exact ⟨(y219), (wrap64 (x20_1 + 1)), (by first | rfl | (simp; done) | (simp [*]; done)), H', ⟨by have := HK1.out; have := HK2.out; omega⟩, ⟨rz HO_5⟩, ⟨bz⟩⟩
            ·rw [if_neg c23] at H
             exact absurd H (by simp)
           ·rw [if_neg c22] at H
            exact absurd H (by simp)
       ·rw [if_neg c10] at H
        exact absurd H (by simp)
      ·rw [if_neg c9] at H
       exact absurd H (by simp)
     ·rw [if_neg c8] at H
      have c8b0 : decide (x20_1 < (l0.length : Int)) = false := decide_eq_false c8
      clear c8
      replace H := Option.bind_eq_some_iff.mp H
      obtain ⟨t212, A270, H⟩ := H
      try dsimp only at H
      have A27 := Aside0.mk A270
      clear A270
      obtain rfl := Option.some.inj H
      obtain ⟨Ao28, co28, eo28⟩ := Kd.R_slice HO_5.out
      subst eo28
      go_wp2_with (first | ((with_reducible refine gate_callee (f := 142) rfl ?_); refine gL 67 Tryz.func142 #[.slice Ao28 x5_1.length co28] ?_; (with_reducible refine (real_trim.calls k1 (fun k_ => some k_ = (.slice Ao28 x5_1.length co28 : Value).ownBlock) _ _ x5_1 t212 _ ?side1 A27.out).mono ?_); (case side1 => exact Kd.R_V (Kd.R_tight rfl (HO_5.out))); rintro e w29 ⟨v213, rfl, ho0, hb⟩; refine ⟨_, rfl, ?_⟩; have HO214 := Aside0.mk (Kd.V_lower (Kd.V_mono (ok' := fun k_ => (w.heap.size ≤ k_)) ho0 (fun k_ hk_ => Or.elim hk_ (fun hs_ => ((HO_5.out).1 k_ hs_.symm)) (fun hn_ => (Nat.le_trans (below_size bz) hn_)))) (below_size bz)); replace HO_5 := rb HO_5 hb; replace HB := bs hb; (try clear hb); (try clear hk); (try clear ho0)))
      go_ret
      exact ⟨_, by first | rfl | (simp [errW_none, errW_some] <;> rfl) | (simp only [← hji3]; first | rfl | (simp [errW_none, errW_some] <;> rfl)) | (simp [*, errW_none, errW_some] <;> rfl), by (with_reducible repeat (first | apply Kd.V_alloc | apply Kd.V_drewN | apply Kd.V_drew)); exact HO214.out, bz⟩
  ·rw [if_neg c5] at H
   exact absurd H (by simp)
 ·rw [if_neg c4] at H
  exact absurd H (by simp)

end Go.Proofs.YteigbokklclmbaaGreatDoor.Z
end
section
namespace Go.Proofs.YteigbokklclmbaaGreatDoor.Z
open Go Go.RowKit Go.Proofs.YteigbokklclmbaaGreatDoor.Given Go.Proofs.YteigbokklclmbaaGreatDoorW.PrintWords Go.Proofs.YteigbokklclmbaaGreatDoorW.PrintLast Go.Proofs.YteigbokklclmbaaGreatDoorW.PrintMore
theorem w64 (x : Int) (h0 : -9223372036854775808 ≤ x) (h1 : x ≤ 9223372036854775807) : wrap64 x = x := by unfold wrap64; omega
theorem trim_total : ∀ (n : Nat) (l : List Int), l.length = n → n < 1000000000000000 → ∃ k r, real_trim.f k l = some r ∧ r.length ≤ n
  | 0, l, h, _ => ⟨1, l, by
      have hl : l = [] := List.length_eq_zero_iff.1 h
      subst hl; rfl, by omega⟩
  | n + 1, l, h, hn => by
    have hw : wrap64 ((l.length : Int) - 1) = (n : Int) := by rw [w64 _ (by omega) (by omega)]; omega
    by_cases hz : rd l (n : Int) = 0
    · obtain ⟨k, r, hk, hr⟩ := trim_total n (l.take n) (by rw [List.length_take]; omega) (by omega)
      refine ⟨k + 1, r, ?_, by omega⟩
      show real_trim.l0 (k + 1) l = some r
      rw [real_trim.l0, hw, if_pos (by omega), if_pos (by omega), if_pos (by omega), if_pos hz, if_pos (by omega)]
      exact hk
    · refine ⟨1, l, ?_, by omega⟩
      show real_trim.l0 1 l = some l
      rw [real_trim.l0, hw, if_pos (by omega), if_pos (by omega), if_pos (by omega), if_neg hz]
theorem natOf_total (a : Int) : ∃ k r, real_natOf.f k a = some r ∧ r.length ≤ 2 := by
  obtain ⟨k, r, h, hr⟩ := trim_total 2 [(a) % 4294967296, (a / 4294967296) % 4294967296] rfl (by omega)
  exact ⟨k, r, by unfold real_natOf.f; rw [h]; rfl, hr⟩
theorem add_l0_total (a b : List Int) (n : Nat) (hn : n < 1000000000000) (hab : (n : Int) = mx (a.length : Int) (b.length : Int)) : ∀ (j i : Nat) (x5 : List Int) (x6 : Int), i + j = n → x5.length = i →
    ∃ k r, real_nat_add.l0 k a b x5 x6 (n : Int) (i : Int) = some r ∧ r.length ≤ n + 1
  | 0, i, x5, x6, hi, h5 => by
    obtain ⟨k, r, h, hr⟩ := trim_total (n + 1) (x5 ++ [(x6) % 4294967296]) (by simp; omega) (by omega)
    refine ⟨k + 1, r, ?_, hr⟩
    rw [real_nat_add.l0, if_neg (by omega), if_pos (by omega), h]; rfl
  | j + 1, i, x5, x6, hi, h5 => by
    have J1 : ∀ x6', ∃ k r, real_nat_add.j1 k a b x5 x6' (i : Int) (n : Int) (i : Int) = some r ∧ r.length ≤ n + 1 := by
      intro x6'
      have hw : wrap64 ((i : Int) + 1) = ((i + 1 : Nat) : Int) := by rw [w64 _ (by omega) (by omega)]; omega
      by_cases hb : (i : Int) < (b.length : Int)
      · obtain ⟨k, r, h, hr⟩ := add_l0_total a b n hn hab j (i + 1) (x5 ++ [(IntKind.u64.wrap (x6' + (IntKind.u64.wrap (rd b i)))) % 4294967296]) ((IntKind.u64.wrap (x6' + (IntKind.u64.wrap (rd b i)))) / 4294967296) (by omega) (by simp; omega)
        refine ⟨k + 1, r, ?_, hr⟩
        rw [real_nat_add.j1, if_pos hb, if_pos (by omega), if_pos (by omega), hw]; exact h
      · obtain ⟨k, r, h, hr⟩ := add_l0_total a b n hn hab j (i + 1) (x5 ++ [(x6') % 4294967296]) (x6' / 4294967296) (by omega) (by simp; omega)
        refine ⟨k + 1, r, ?_, hr⟩
        rw [real_nat_add.j1, if_neg hb, if_pos (by omega), hw]; exact h
    by_cases ha : (i : Int) < (a.length : Int)
    · obtain ⟨k, r, h, hr⟩ := J1 (IntKind.u64.wrap (x6 + (IntKind.u64.wrap (rd a i))))
      refine ⟨k + 1, r, ?_, hr⟩
      rw [real_nat_add.l0, if_pos (by omega), if_pos ha, if_pos (by omega)]; exact h
    · obtain ⟨k, r, h, hr⟩ := J1 x6
      refine ⟨k + 1, r, ?_, hr⟩
      rw [real_nat_add.l0, if_pos (by omega), if_neg ha]; exact h
theorem add_total (a b : List Int) (n : Nat) (hn : n < 1000000000000) (ha : a.length ≤ n) (hb : b.length ≤ n) : ∃ k r, real_nat_add.f k a b = some r ∧ r.length ≤ n + 1 := by
  obtain ⟨m, hm⟩ : ∃ m : Nat, (m : Int) = mx (a.length : Int) (b.length : Int) := by
    unfold mx; split
    · exact ⟨b.length, rfl⟩
    · exact ⟨a.length, rfl⟩
  have hmn : m ≤ n := by unfold mx at hm; split at hm <;> omega
  obtain ⟨k, r, h, hr⟩ := add_l0_total a b m (by omega) hm m 0 [] 0 (by omega) rfl
  refine ⟨k, r, ?_, by omega⟩
  unfold real_nat_add.f; rw [← hm]; exact h
theorem mul_l1_total (b : List Int) (n i : Nat) (a : List Int) (hi : i + b.length < n) (hn : n < 1000000000000) (R : ∀ x5' : List Int, x5'.length = n → ∃ k r, real_nat_mul.l0 k b x5' a (a.length : Int) ((i + 1 : Nat) : Int) = some r ∧ r.length ≤ n) :
    ∀ (j c : Nat) (x5 : List Int) (x7 x8 : Int), c + j = b.length → x5.length = n → ∃ k r, real_nat_mul.l1 k b x5 (i : Int) x7 x8 a (a.length : Int) (i : Int) b (b.length : Int) (c : Int) = some r ∧ r.length ≤ n
  | 0, c, x5, x7, x8, hc, h5 => by
    have hw : wrap64 ((i : Int) + 1) = ((i + 1 : Nat) : Int) := by rw [w64 _ (by omega) (by omega)]; omega
    have hx : wrap64 ((i : Int) + (b.length : Int)) = ((i + b.length : Nat) : Int) := by rw [w64 _ (by omega) (by omega)]; omega
    obtain ⟨k, r, h, hr⟩ := R (x5.set (((i + b.length : Nat) : Int)).toNat ((x8) % 4294967296)) (by rw [List.length_set]; exact h5)
    refine ⟨k + 1, r, ?_, hr⟩
    rw [real_nat_mul.l1, if_neg (by omega), hx, if_pos (by omega), if_pos (by omega), hw]; exact h
  | j + 1, c, x5, x7, x8, hc, h5 => by
    have hw : wrap64 ((c : Int) + 1) = ((c + 1 : Nat) : Int) := by rw [w64 _ (by omega) (by omega)]; omega
    have hx : wrap64 ((i : Int) + (c : Int)) = ((i + c : Nat) : Int) := by rw [w64 _ (by omega) (by omega)]; omega
    obtain ⟨k, r, h, hr⟩ := mul_l1_total b n i a hi hn R j (c + 1) (x5.set (((i + c : Nat) : Int)).toNat ((IntKind.u64.wrap ((IntKind.u64.wrap ((IntKind.u64.wrap ((IntKind.u64.wrap (x7)) * (IntKind.u64.wrap (rd b c)))) + (IntKind.u64.wrap (rd x5 ((i + c : Nat) : Int))))) + x8)) % 4294967296)) x7 ((IntKind.u64.wrap ((IntKind.u64.wrap ((IntKind.u64.wrap ((IntKind.u64.wrap (x7)) * (IntKind.u64.wrap (rd b c)))) + (IntKind.u64.wrap (rd x5 ((i + c : Nat) : Int))))) + x8)) / 4294967296) (by omega) (by rw [List.length_set]; exact h5)
    refine ⟨k + 1, r, ?_, hr⟩
    rw [real_nat_mul.l1, if_pos (by omega), if_pos (by omega), if_pos (by omega), hx, if_pos (by omega), if_pos (by omega), hw]; exact h
theorem mul_l0_total (a b : List Int) (n : Nat) (hab : a.length + b.length = n) (hn : n < 1000000000000) : ∀ (j i : Nat) (x5 : List Int), i + j = a.length → x5.length = n → ∃ k r, real_nat_mul.l0 k b x5 a (a.length : Int) (i : Int) = some r ∧ r.length ≤ n
  | 0, i, x5, hi, h5 => by
    obtain ⟨k, r, h, hr⟩ := trim_total n x5 h5 (by omega)
    refine ⟨k + 1, r, ?_, hr⟩
    rw [real_nat_mul.l0, if_neg (by omega), h]; rfl
  | j + 1, i, x5, hi, h5 => by
    obtain ⟨k, r, h, hr⟩ := mul_l1_total b n i a (by omega) hn (fun x5' h5' => mul_l0_total a b n hab hn j (i + 1) x5' (by omega) h5') b.length 0 x5 (rd a i) 0 (by omega) h5
    refine ⟨k + 1, r, ?_, hr⟩
    rw [real_nat_mul.l0, if_pos (by omega), if_pos (by omega), if_pos (by omega)]; exact h
theorem mul_total (a b : List Int) (hn : a.length + b.length < 1000000000000) : ∃ k r, real_nat_mul.f k a b = some r ∧ r.length ≤ a.length + b.length := by
  obtain ⟨k, r, h, hr⟩ := mul_l0_total a b (a.length + b.length) rfl hn a.length 0 (List.replicate (a.length + b.length) 0) (by omega) (by simp)
  have hw : wrap64 ((a.length : Int) + (b.length : Int)) = ((a.length + b.length : Nat) : Int) := by rw [w64 _ (by omega) (by omega)]; omega
  refine ⟨k, r, ?_, hr⟩
  unfold real_nat_mul.f
  rw [hw, if_pos (by omega), if_pos (by omega)]; exact h
end Go.Proofs.YteigbokklclmbaaGreatDoor.Z
end
section
namespace Go.Proofs.YteigbokklclmbaaGreatDoor.M
open Go Go.RowKit Go.Proofs.YteigbokklclmbaaGreatDoor.Given Go.Proofs.YteigbokklclmbaaGreatDoorW.PrintWords Go.Proofs.YteigbokklclmbaaGreatDoorW.PrintLast Go.Proofs.YteigbokklclmbaaGreatDoorW.PrintMore Go.Proofs.YteigbokklclmbaaGreatDoor.Z
abbrev B32 : Nat := 4294967296
abbrev D (n : Nat) : List Int := dg B32 n
theorem B2 : 2 ≤ B32 := by decide
/-- A number of modest size: at most 2048 digits. -/
def Sm (n : Nat) : Prop := (D n).length ≤ 2048
theorem pow32 (n : Nat) : B32 ^ n = 2 ^ (32 * n) := by rw [Nat.pow_mul]
theorem Sm.of {n m : Nat} (h : n < 2 ^ m) (hm : m ≤ 32 * 2048) : Sm n := by
  have key : ∀ L : Nat, m ≤ 32 * L → (D n).length ≤ L := fun L hL => by
    refine dg_len_le B2 L n ?_
    rw [pow32]
    exact Nat.lt_of_lt_of_le h (Nat.pow_le_pow_right (by decide) hL)
  exact key 2048 hm
theorem wu64 (x : Int) (h0 : 0 ≤ x) (h1 : x < 18446744073709551616) : IntKind.u64.wrap x = x := by
  have : IntKind.u64.wrap x = x % 18446744073709551616 := by simp [IntKind.wrap, IntKind.bits, IntKind.signed]
  rw [this]; omega
theorem rd_nat (l : List Int) (i : Nat) : rd l (i : Int) = l.getD i 0 := by unfold rd; rw [Int.toNat_natCast]
theorem rd_in {l : List Int} (h : InB B32 l) (i : Nat) : 0 ≤ rd l (i : Int) ∧ rd l (i : Int) < 4294967296 := by
  rw [rd_nat]; exact h.getD (by decide) i
theorem trim_ev : ∀ (n : Nat) (l : List Int), l.length = n → n ≤ 1000000 → InB B32 l → Ev (fun k => real_trim.l0 k l) (D (val B32 l))
  | 0, l, hl, _, h => by
    obtain rfl := List.eq_nil_of_length_eq_zero hl
    refine Ev.step (f := fun _ => some []) (fun k => by rw [real_trim.l0, if_neg (by simp)]) ?_
    rw [val_nil]
    show Ev _ (dg B32 0)
    rw [dg_zero]; exact Ev.now _
  | n + 1, l, hl, hn, h => by
    have hw : wrap64 ((l.length : Int) - 1) = (n : Int) := by rw [hl, w64 _ (by omega) (by omega)]; omega
    have hlt : n < l.length := by omega
    by_cases h0 : rd l (n : Int) = 0
    · refine Ev.step (f := fun k => real_trim.l0 k (l.take n)) (fun k => by rw [real_trim.l0, hw, if_pos (by omega), if_pos (by omega), if_pos (by omega), if_pos h0, if_pos (by omega), Int.toNat_natCast]) ?_
      have ih := trim_ev n (l.take n) (by rw [List.length_take]; omega) (by omega) (h.take n)
      have e : val B32 l = val B32 (l.take n) := by
        rw [val_split (B := B32) (Nat.le_of_lt hlt), val_drop, ← rd_nat, h0, val_drop_ge (by omega)]; simp
      rw [e]; exact ih
    · refine Ev.step (f := fun k => some l) (fun k => by rw [real_trim.l0, hw, if_pos (by omega), if_pos (by omega), if_pos (by omega), if_neg h0]) ?_
      have e : D (val B32 l) = l := dg_val B2 h (fun hne => by
        rw [rd_nat, List.getD_eq_getElem?_getD, List.getElem?_eq_getElem hlt] at h0
        rw [List.getLast_eq_getElem]
        have : l.length - 1 = n := by omega
        simpa [this] using h0)
      rw [e]; exact Ev.now _
theorem trim_f {l : List Int} (h : InB B32 l) (hl : l.length ≤ 1000000) {n : Nat} (hn : val B32 l = n) : Ev (fun k => real_trim.f k l) (D n) := by
  rw [← hn]; exact trim_ev _ l rfl hl h
theorem some_back {α : Type} {g : Nat → Option α} {r : α} (h : Ev g r) : Ev (fun k => (g k).bind fun t => some t) r := Ev.bind h (Ev.now r)
theorem natOf_ev (n : Nat) (h : n < 18446744073709551616) : Ev (fun k => real_natOf.f k (n : Int)) (D n) := by
  refine Ev.congr (f := fun k => (real_trim.f k [((n % 4294967296 : Nat) : Int), ((n / 4294967296 : Nat) : Int)]).bind fun t => some t) (fun k => by
    unfold real_natOf.f
    have e1 : (n : Int) % 4294967296 = ((n % 4294967296 : Nat) : Int) := by omega
    have e2 : (n : Int) / 4294967296 % 4294967296 = ((n / 4294967296 : Nat) : Int) := by omega
    rw [e1, e2]) ?_
  refine some_back (trim_f ?_ (by simp) ?_)
  · exact InB.cons (by show _ ∧ _ < (4294967296 : Int); omega) (InB.cons (by show _ ∧ _ < (4294967296 : Int); omega) InB.nil)
  · rw [val_cons, val_cons, val_nil, Int.toNat_natCast, Int.toNat_natCast]
    show _ + 4294967296 * (_ + 4294967296 * 0) = n
    omega
theorem mag_abs (a : Int) (h0 : -9223372036854775808 < a) (h1 : a ≤ 9223372036854775807) : mx a (wrap64 (-a)) = (a.natAbs : Int) := by
  unfold mx; rw [w64 _ (by omega) (by omega)]; split <;> omega
def cmpN (a b : Nat) : Int := if a < b then -1 else if a = b then 0 else 1
theorem cmp_l0 (a b : List Int) (ha : InB B32 a) (hb : InB B32 b) (hl : a.length = b.length) (hlen : a.length ≤ 1000000) : ∀ m : Nat, m ≤ a.length → a.drop m = b.drop m → Ev (fun k => real_nat_cmp.l0 k a b ((m : Int) - 1)) (cmpN (val B32 a) (val B32 b))
  | 0, _, he => by
    refine Ev.step (f := fun _ => some 0) (fun k => by rw [real_nat_cmp.l0, if_neg (by omega)]) ?_
    have : a = b := by simpa using he
    rw [this]; unfold cmpN; rw [if_neg (by omega), if_pos rfl]; exact Ev.now _
  | m + 1, hm, he => by
    have hw : ((m + 1 : Nat) : Int) - 1 = (m : Int) := by omega
    have hw2 : wrap64 ((m : Int) - 1) = (m : Int) - 1 := w64 _ (by omega) (by omega)
    rw [hw]
    by_cases h0 : rd a (m : Int) = rd b (m : Int)
    · refine Ev.step (f := fun k => real_nat_cmp.l0 k a b ((m : Int) - 1)) (fun k => by rw [real_nat_cmp.l0, if_pos (by omega), if_pos (by omega), if_pos (by omega), if_pos (by omega), if_pos h0, hw2]) ?_
      refine cmp_l0 a b ha hb hl hlen m (by omega) ?_
      have ea : a.drop m = rd a (m : Int) :: a.drop (m + 1) := by
        rw [rd_nat, List.drop_eq_getElem_cons (by omega), List.getD_eq_getElem?_getD, List.getElem?_eq_getElem (by omega)]; rfl
      have eb : b.drop m = rd b (m : Int) :: b.drop (m + 1) := by
        rw [rd_nat, List.drop_eq_getElem_cons (by omega), List.getD_eq_getElem?_getD, List.getElem?_eq_getElem (by omega)]; rfl
      rw [ea, eb, h0, he]
    · by_cases h1 : rd a (m : Int) < rd b (m : Int)
      · refine Ev.step (f := fun k => some (-1)) (fun k => by rw [real_nat_cmp.l0, if_pos (by omega), if_pos (by omega), if_pos (by omega), if_pos (by omega), if_neg h0, if_pos h1]) ?_
        have := val_lt_of_drop ha hb (show m < a.length by omega) (by omega) he (by rw [← rd_nat, ← rd_nat]; exact h1)
        unfold cmpN; rw [if_pos this]; exact Ev.now _
      · refine Ev.step (f := fun k => some 1) (fun k => by rw [real_nat_cmp.l0, if_pos (by omega), if_pos (by omega), if_pos (by omega), if_pos (by omega), if_neg h0, if_neg h1]) ?_
        have := val_lt_of_drop hb ha (show m < b.length by omega) (by omega) he.symm (by rw [← rd_nat, ← rd_nat]; omega)
        unfold cmpN; rw [if_neg (by omega), if_neg (by omega)]; exact Ev.now _
theorem cmp_ev {a b : Nat} (ha : Sm a) (hb : Sm b) : Ev (fun k => real_nat_cmp.f k (D a) (D b)) (cmpN a b) := by
  unfold Sm at ha hb
  by_cases hl : (D a).length = (D b).length
  · have hw : wrap64 (((D a).length : Int) - 1) = ((D a).length : Int) - 1 := w64 _ (by omega) (by omega)
    refine Ev.congr (f := fun k => real_nat_cmp.l0 k (D a) (D b) (((D a).length : Int) - 1)) (fun k => by unfold real_nat_cmp.f; rw [if_pos (by omega), hw]) ?_
    have := cmp_l0 (D a) (D b) (InB_dg B2 a) (InB_dg B2 b) hl (by omega) (D a).length (Nat.le_refl _) (by rw [List.drop_eq_nil_of_le (Nat.le_refl _), List.drop_eq_nil_of_le (by omega)])
    rw [val_dg B2, val_dg B2] at this
    exact this
  · have hla : a < B32 ^ (D a).length := dg_lt_pow B2 a
    have hlb : b < B32 ^ (D b).length := dg_lt_pow B2 b
    have h00 : (D 0).length = 0 := by rw [show D 0 = [] from dg_zero]; rfl
    by_cases h1 : (D a).length < (D b).length
    · refine Ev.congr (f := fun k => some (-1)) (fun k => by unfold real_nat_cmp.f; rw [if_neg (by omega), if_pos (by omega)]) ?_
      have hb0 : 0 < b := by
        rcases Nat.eq_zero_or_pos b with h | h
        · subst h; omega
        · exact h
      have h2 : B32 ^ ((D b).length - 1) ≤ b := dg_ge_pow B2 hb0
      have h3 := Nat.pow_le_pow_right (show 0 < B32 by decide) (show (D a).length ≤ (D b).length - 1 by omega)
      unfold cmpN; rw [if_pos (by omega)]; exact Ev.now _
    · refine Ev.congr (f := fun k => some 1) (fun k => by unfold real_nat_cmp.f; rw [if_neg (by omega), if_neg (by omega)]) ?_
      have ha0 : 0 < a := by
        rcases Nat.eq_zero_or_pos a with h | h
        · subst h; omega
        · exact h
      have h2 : B32 ^ ((D a).length - 1) ≤ a := dg_ge_pow B2 ha0
      have h3 := Nat.pow_le_pow_right (show 0 < B32 by decide) (show (D b).length ≤ (D a).length - 1 by omega)
      unfold cmpN; rw [if_neg (by omega), if_neg (by omega)]; exact Ev.now _
theorem add_j1 {a b x5 : List Int} {s : Int} {i n : Nat} {r : List Int} (hb : InB B32 b) (hs0 : 0 ≤ s) (hs : s < 1099511627776) (hx : x5.length ≤ 4096) (hi : i ≤ 4096)
    (h : Ev (fun k => real_nat_add.l0 k a b (x5 ++ [(s + rd b i) % 4294967296]) ((s + rd b i) / 4294967296) n ((i + 1 : Nat) : Int)) r) : Ev (fun k => real_nat_add.j1 k a b x5 s i n i) r := by
  have hr := rd_in hb i
  have hw : wrap64 ((i : Int) + 1) = ((i + 1 : Nat) : Int) := by rw [w64 _ (by omega) (by omega)]; omega
  have hu : IntKind.u64.wrap (rd b (i : Int)) = rd b (i : Int) := wu64 _ (by omega) (by omega)
  have hv : IntKind.u64.wrap (s + rd b (i : Int)) = s + rd b (i : Int) := wu64 _ (by omega) (by omega)
  by_cases hc : i < b.length
  · exact Ev.step (fun k => by rw [real_nat_add.j1, if_pos (by omega), if_pos (by omega), if_pos (by omega), hu, hv, hw]) h
  · have e : rd b (i : Int) = 0 := by rw [rd_nat, List.getD_eq_getElem?_getD, List.getElem?_eq_none (by omega)]; rfl
    rw [e, Int.add_zero] at h
    exact Ev.step (fun k => by rw [real_nat_add.j1, if_neg (by omega), if_pos (by omega), hw]) h
theorem add_l0 (a b : List Int) (ha : InB B32 a) (hb : InB B32 b) (n : Nat) (hn : n ≤ 4096) (hla : a.length ≤ n) (hlb : b.length ≤ n) (S : Nat) : ∀ (d i : Nat) (x5 : List Int) (c : Nat), n = i + d → x5.length = i → InB B32 x5 → c ≤ 1 → val B32 x5 + B32 ^ i * (c + val B32 (a.drop i) + val B32 (b.drop i)) = S → Ev (fun k => real_nat_add.l0 k a b x5 (c : Int) (n : Int) (i : Int)) (D S)
  | 0, i, x5, c, hd, hx, hI, hc, hS => by
    have e1 : (c : Int) % 4294967296 = (c : Int) := by omega
    refine Ev.step (f := fun k => (real_trim.f k (x5 ++ [(c : Int)])).bind fun t => some t) (fun k => by rw [real_nat_add.l0, if_neg (by omega), if_pos (by omega), e1]) ?_
    refine some_back (trim_f (hI.snoc (by show _ ∧ _ < (4294967296 : Int); omega)) (by simp; omega) ?_)
    rw [val_snoc, hx, Int.toNat_natCast]
    rw [val_drop_ge (by omega), val_drop_ge (by omega)] at hS
    simpa using hS
  | d + 1, i, x5, c, hd, hx, hI, hc, hS => by
    have hra := rd_in ha i
    have hrb := rd_in hb i
    have hua : IntKind.u64.wrap (rd a (i : Int)) = rd a (i : Int) := wu64 _ (by omega) (by omega)
    have hva : IntKind.u64.wrap ((c : Int) + rd a (i : Int)) = (c : Int) + rd a (i : Int) := wu64 _ (by omega) (by omega)
    obtain ⟨p, hp⟩ : ∃ p : Nat, rd a (i : Int) = p := ⟨(rd a (i : Int)).toNat, by omega⟩
    obtain ⟨q, hq⟩ : ∃ q : Nat, rd b (i : Int) = q := ⟨(rd b (i : Int)).toNat, by omega⟩
    have next : Ev (fun k => real_nat_add.l0 k a b (x5 ++ [((c : Int) + rd a i + rd b i) % 4294967296]) (((c : Int) + rd a i + rd b i) / 4294967296) n ((i + 1 : Nat) : Int)) (D S) := by
      rw [hp, hq]
      have e1 : ((c : Int) + p + q) % 4294967296 = (((c + p + q) % 4294967296 : Nat) : Int) := by omega
      have e2 : ((c : Int) + p + q) / 4294967296 = (((c + p + q) / 4294967296 : Nat) : Int) := by omega
      rw [e1, e2]
      refine add_l0 a b ha hb n hn hla hlb S d (i + 1) _ _ (by omega) (by simp [hx]) (hI.snoc (by show _ ∧ _ < (4294967296 : Int); omega)) (by omega) ?_
      rw [val_snoc, hx, Int.toNat_natCast, Nat.pow_succ]
      have f1 := val_drop (B := B32) a i
      have f2 := val_drop (B := B32) b i
      rw [← rd_nat, hp, Int.toNat_natCast] at f1
      rw [← rd_nat, hq, Int.toNat_natCast] at f2
      rw [f1, f2] at hS
      rw [← hS, Nat.mul_assoc, Nat.add_assoc, ← Nat.mul_add]
      congr 2
      show (c + p + q) % 4294967296 + 4294967296 * _ = _ + (p + 4294967296 * _) + (q + 4294967296 * _)
      omega
    by_cases hc1 : i < a.length
    · refine Ev.step (f := fun k => real_nat_add.j1 k a b x5 ((c : Int) + rd a i) i n i) (fun k => by rw [real_nat_add.l0, if_pos (by omega), if_pos (by omega), if_pos (by omega), hua, hva]) ?_
      exact add_j1 hb (by omega) (by omega) (by omega) (by omega) next
    · have e : rd a (i : Int) = 0 := by rw [rd_nat, List.getD_eq_getElem?_getD, List.getElem?_eq_none (by omega)]; rfl
      rw [e, Int.add_zero] at next
      refine Ev.step (f := fun k => real_nat_add.j1 k a b x5 (c : Int) i n i) (fun k => by rw [real_nat_add.l0, if_pos (by omega), if_neg (by omega)]) ?_
      exact add_j1 hb (by omega) (by omega) (by omega) (by omega) next
theorem add_ev {a b : Nat} (ha : Sm a) (hb : Sm b) : Ev (fun k => real_nat_add.f k (D a) (D b)) (D (a + b)) := by
  unfold Sm at ha hb
  have e : mx ((D a).length : Int) ((D b).length : Int) = ((max (D a).length (D b).length : Nat) : Int) := by unfold mx; split <;> omega
  refine Ev.congr (f := fun k => real_nat_add.l0 k (D a) (D b) [] ((0 : Nat) : Int) ((max (D a).length (D b).length : Nat) : Int) ((0 : Nat) : Int)) (fun k => by unfold real_nat_add.f; rw [e]; rfl) ?_
  exact add_l0 (D a) (D b) (InB_dg B2 a) (InB_dg B2 b) _ (by omega) (by omega) (by omega) (a + b) _ 0 [] 0 (by rw [Nat.zero_add]) rfl InB.nil (by omega) (by rw [val_nil, Nat.pow_zero, List.drop_zero, List.drop_zero, val_dg B2, val_dg B2]; omega)
theorem clone_is {l : List Int} (h : l.length ≤ 1000000) : real_nat_uint32.f l = some l := by
  unfold real_nat_uint32.f
  show (if ([] : List Int).length + l.length < 35184372088832 then some ([] ++ l) else none) = some l
  rw [if_pos (by simp; omega), List.nil_append]
theorem sub_j1 {b x5 : List Int} {x : Int} {i n : Nat} {r : List Int} (hi : i < x5.length) (hl : x5.length ≤ 4096) (hx0 : -4294967296 ≤ x) (hx1 : x < 4294967296)
    (h : Ev (fun k => real_nat_sub.l0 k b (x5.set i (x % 4294967296)) (if x < 0 then -1 else 0) n ((i + 1 : Nat) : Int)) r) : Ev (fun k => real_nat_sub.j1 k b x5 i x n i) r := by
  have hw : wrap64 ((i : Int) + 1) = ((i + 1 : Nat) : Int) := by rw [w64 _ (by omega) (by omega)]; omega
  by_cases hn : x < 0
  · rw [if_pos hn] at h
    have e : (wrap64 (x + 4294967296)) % 4294967296 = x % 4294967296 := by rw [w64 _ (by omega) (by omega)]; omega
    exact Ev.step (fun k => by rw [real_nat_sub.j1, if_pos hn, if_pos (by omega), if_pos (by omega), Int.toNat_natCast, e, hw]) h
  · rw [if_neg hn] at h
    exact Ev.step (fun k => by rw [real_nat_sub.j1, if_neg hn, if_pos (by omega), if_pos (by omega), Int.toNat_natCast, hw]) h
theorem sub_l0 (b : List Int) (hb : InB B32 b) (n : Nat) (hn : n ≤ 4096) (S : Nat) : ∀ (d i : Nat) (x5 : List Int) (c : Int), n = i + d → x5.length = n → InB B32 x5 → (c = 0 ∨ c = -1) → (val B32 x5 : Int) + B32 ^ i * (c - val B32 (b.drop i)) = S → Ev (fun k => real_nat_sub.l0 k b x5 c (n : Int) (i : Int)) (D S)
  | 0, i, x5, c, hd, hx, hI, hc, hS => by
    refine Ev.step (f := fun k => (real_trim.f k x5).bind fun t => some t) (fun k => by rw [real_nat_sub.l0, if_neg (by omega)]) ?_
    refine some_back (trim_f hI (by omega) ?_)
    have hlt := val_lt hI
    rw [hx, show n = i by omega] at hlt
    have hlt' : (val B32 x5 : Int) < (B32 : Int) ^ i := by exact_mod_cast hlt
    have hP : (0 : Int) < (B32 : Int) ^ i := Int.pow_pos (by decide)
    rcases Int.lt_or_le (c - (val B32 (b.drop i) : Int)) 0 with h | h
    · exfalso
      have := Int.mul_le_mul_of_nonneg_left (show c - (val B32 (b.drop i) : Int) ≤ -1 by omega) (Int.le_of_lt hP)
      rw [Int.mul_neg, Int.mul_one] at this
      omega
    · have : c - (val B32 (b.drop i) : Int) = 0 := by omega
      rw [this, Int.mul_zero, Int.add_zero] at hS
      omega
  | d + 1, i, x5, c, hd, hx, hI, hc, hS => by
    have hr5 := rd_in hI i
    have hrb := rd_in hb i
    have hi : i < x5.length := by omega
    have w1 : wrap64 (rd x5 (i : Int)) = rd x5 (i : Int) := w64 _ (by omega) (by omega)
    have w2 : wrap64 (rd x5 (i : Int) + c) = rd x5 (i : Int) + c := w64 _ (by omega) (by omega)
    have w3 : wrap64 (rd b (i : Int)) = rd b (i : Int) := w64 _ (by omega) (by omega)
    have w4 : wrap64 (rd x5 (i : Int) + c - rd b (i : Int)) = rd x5 (i : Int) + c - rd b (i : Int) := w64 _ (by omega) (by omega)
    have next : Ev (fun k => real_nat_sub.l0 k b (x5.set i ((rd x5 i + c - rd b i) % 4294967296)) (if rd x5 i + c - rd b i < 0 then -1 else 0) n ((i + 1 : Nat) : Int)) (D S) := by
      refine sub_l0 b hb n hn S d (i + 1) _ _ (by omega) (by rw [List.length_set]; exact hx) (hI.set i (by show _ ∧ _ < (4294967296 : Int); omega)) (by split <;> simp) ?_
      have f1 := val_drop (B := B32) b i
      rw [← rd_nat] at f1
      have f2 := val_set (B := B32) x5 i ((rd x5 i + c - rd b i) % 4294967296) hi
      rw [← rd_nat] at f2
      have f2' : (val B32 (x5.set i ((rd x5 i + c - rd b i) % 4294967296)) : Int) + (B32 : Int) ^ i * rd x5 i = val B32 x5 + (B32 : Int) ^ i * ((rd x5 i + c - rd b i) % 4294967296) := by
        have h1 : (((rd x5 i).toNat : Nat) : Int) = rd x5 i := Int.toNat_of_nonneg hr5.1
        have h2 : ((((rd x5 i + c - rd b i) % 4294967296).toNat : Nat) : Int) = (rd x5 i + c - rd b i) % 4294967296 := Int.toNat_of_nonneg (by omega)
        have h3 := congrArg (Nat.cast : Nat → Int) f2
        rw [Int.natCast_add, Int.natCast_add, Int.natCast_mul, Int.natCast_mul, h1, h2, Int.natCast_pow] at h3
        exact h3
      rw [f1] at hS
      rw [← hS, Int.pow_succ, Int.mul_assoc]
      generalize hP : (B32 : Int) ^ i = P at *
      have e1 : (((rd b (i : Int)).toNat + B32 * val B32 (b.drop (i + 1)) : Nat) : Int) = rd b i + 4294967296 * (val B32 (b.drop (i + 1)) : Int) := by
        rw [Int.natCast_add, Int.natCast_mul]; show _ + (4294967296 : Int) * _ = _; omega
      rw [e1]
      generalize (val B32 (b.drop (i + 1)) : Int) = R at *
      generalize rd x5 (i : Int) = u at *
      generalize rd b (i : Int) = v at *
      generalize (val B32 (x5.set i ((u + c - v) % 4294967296)) : Int) = X at *
      have e2 : (u + c - v) % 4294967296 = u + c - v - (if u + c - v < 0 then -1 else 0) * 4294967296 := by split <;> omega
      rw [e2] at f2'
      generalize (if u + c - v < 0 then (-1 : Int) else 0) = q at *
      have e3 : P * (u + c - v - q * 4294967296) = P * u + P * (c - v - q * 4294967296) := by rw [← Int.mul_add]; congr 1; omega
      rw [e3] at f2'
      rw [show X = val B32 x5 + P * (c - v - q * 4294967296) by omega, Int.add_assoc, ← Int.mul_add]
      congr 2
      show _ + (4294967296 : Int) * _ = _
      omega
    by_cases hcb : i < b.length
    · refine Ev.step (f := fun k => real_nat_sub.j1 k b x5 i (rd x5 i + c - rd b i) n i) (fun k => by rw [real_nat_sub.l0, if_pos (by omega), if_pos (by omega), if_pos (by omega), if_pos (by omega), w1, w2, w3, w4]) ?_
      exact sub_j1 hi (by omega) (by omega) (by omega) next
    · have e : rd b (i : Int) = 0 := by rw [rd_nat, List.getD_eq_getElem?_getD, List.getElem?_eq_none (by omega)]; rfl
      rw [e, Int.sub_zero] at next
      refine Ev.step (f := fun k => real_nat_sub.j1 k b x5 i (rd x5 i + c) n i) (fun k => by rw [real_nat_sub.l0, if_pos (by omega), if_pos (by omega), if_pos (by omega), if_neg (by omega), w1, w2]) ?_
      exact sub_j1 hi (by omega) (by omega) (by omega) next
theorem sub_ev {a b : Nat} (ha : Sm a) (hb : Sm b) (hle : b ≤ a) : Ev (fun k => real_nat_sub.f k (D a) (D b)) (D (a - b)) := by
  unfold Sm at ha hb
  refine Ev.congr (f := fun k => real_nat_sub.l0 k (D b) (D a) 0 ((D a).length : Int) ((0 : Nat) : Int)) (fun k => by unfold real_nat_sub.f; rw [clone_is (by omega)]; rfl) ?_
  refine sub_l0 (D b) (InB_dg B2 b) _ (by omega) (a - b) _ 0 (D a) 0 (by rw [Nat.zero_add]) rfl (InB_dg B2 a) (.inl rfl) ?_
  rw [Int.pow_zero, List.drop_zero, val_dg B2, val_dg B2]; omega
theorem or_shl (c x : Nat) (s : Nat) (hs : s ≤ 63) (hc : c < 2 ^ s) (hx : x * 2 ^ s < 18446744073709551616) (hx' : x < 18446744073709551616) :
    Go.bits .or .u64 (c : Int) (shl .u64 (IntKind.u64.wrap (x : Int)) (s : Int)) = ((c + x * 2 ^ s : Nat) : Int) := by
  have e0 : IntKind.u64.wrap (x : Int) = (x : Int) := wu64 _ (by omega) (by omega)
  have h1 : shl .u64 (IntKind.u64.wrap (x : Int)) (s : Int) = ((x * 2 ^ s : Nat) : Int) := by
    rw [e0]
    unfold shl
    rw [Int.toNat_natCast, Nat.min_eq_left (show s ≤ IntKind.u64.bits by show s ≤ 64; omega)]
    have : (x : Int) * 2 ^ s = ((x * 2 ^ s : Nat) : Int) := by rw [Int.natCast_mul, Int.natCast_pow]; rfl
    rw [this, wu64 _ (by omega) (by omega)]
  rw [h1]
  have h2 : 2 ^ s ≤ 2 ^ 63 := Nat.pow_le_pow_right (by decide) hs
  have hb := (bits_nat .u64 64 (by decide) (fun n h0 h1 => wu64 n h0 (by simpa using h1)) c (x * 2 ^ s) (by omega) (by omega)).2
  rw [hb, Nat.or_comm, Nat.mul_comm x, ← Nat.two_pow_add_eq_or_of_lt hc]
  congr 1; omega
theorem shl_l0 (a : List Int) (ha : InB B32 a) (n s : Nat) (hns : n % 32 = s) (hla : a.length ≤ 4096) (S : Nat) : ∀ (d i : Nat) (x5 : List Int) (c : Nat), a.length = i + d → x5.length ≤ 500000 + i → InB B32 x5 → c < 2 ^ s → Aside0 (val B32 x5 + B32 ^ x5.length * (c + 2 ^ s * val B32 (a.drop i)) = S) →
    Ev (fun k => real_nat_shl.l0 k (n : Int) x5 (c : Int) a (a.length : Int) (i : Int)) (D S)
  | 0, i, x5, c, hd, hx, hI, hc, hS => by
    have hc2 : (2 : Nat) ^ s ≤ 2 ^ 31 := Nat.pow_le_pow_right (by decide) (by omega)
    have e1 : Aside0 ((c : Int) % 4294967296 = (c : Int)) := Aside0.mk (by omega)
    refine Ev.step (f := fun k => (real_trim.f k (x5 ++ [(c : Int)])).bind fun t => some t) (fun k => by rw [real_nat_shl.l0, if_neg (by omega), if_pos (by omega), e1.out]) ?_
    refine some_back (trim_f (hI.snoc (by show _ ∧ _ < (4294967296 : Int); omega)) (by simp; omega) ?_)
    rw [val_snoc, Int.toNat_natCast]
    replace hS := hS.out
    rw [val_drop_ge (by omega)] at hS
    simpa using hS
  | d + 1, i, x5, c, hd, hx, hI, hc, hS => by
    have hc2 : (2 : Nat) ^ s ≤ 2 ^ 31 := Nat.pow_le_pow_right (by decide) (by omega)
    have hra := rd_in ha i
    obtain ⟨p, hp⟩ : ∃ p : Nat, rd a (i : Int) = p := ⟨(rd a (i : Int)).toNat, by omega⟩
    have ht : Aside0 (Int.tmod (n : Int) 32 = (s : Int)) := Aside0.mk (by rw [Int.tmod_eq_emod_of_nonneg (by omega)]; omega)
    have w2 : Aside0 (wrap64 ((i : Int) + 1) = ((i + 1 : Nat) : Int)) := Aside0.mk (by rw [w64 _ (by omega) (by omega)]; omega)
    have hpb : p * 2 ^ s ≤ 4294967295 * 2 ^ s := Nat.mul_le_mul_right _ (by omega)
    have ho := Aside0.mk (or_shl c p s (by omega) hc (by omega) (by omega))
    have e1 : Aside0 (((c + p * 2 ^ s : Nat) : Int) % 4294967296 = (((c + p * 2 ^ s) % 4294967296 : Nat) : Int)) := Aside0.mk (by omega)
    have e2 : Aside0 (((c + p * 2 ^ s : Nat) : Int) / 4294967296 = (((c + p * 2 ^ s) / 4294967296 : Nat) : Int)) := Aside0.mk (by omega)
    refine Ev.step (f := fun k => real_nat_shl.l0 k (n : Int) (x5 ++ [(((c + p * 2 ^ s) % 4294967296 : Nat) : Int)]) (((c + p * 2 ^ s) / 4294967296 : Nat) : Int) a a.length ((i + 1 : Nat) : Int)) (fun k => by
      rw [real_nat_shl.l0, if_pos (by omega), if_pos (by omega), if_pos (by omega), ht.out, if_pos (by omega), if_pos (by omega), hp, ho.out, e1.out, e2.out, w2.out]) ?_
    refine shl_l0 a ha n s hns hla S d (i + 1) _ _ (by omega) (by simp; omega) (hI.snoc (by show _ ∧ _ < (4294967296 : Int); omega)) ?_ (Aside0.mk ?_)
    · rw [Nat.div_lt_iff_lt_mul (by decide)]
      have : (2 : Nat) ^ s * 4294967296 = 4294967295 * 2 ^ s + 2 ^ s := by omega
      omega
    · have g := val_drop (B := B32) a i
      rw [← rd_nat, hp, Int.toNat_natCast] at g
      replace hS := hS.out
      rw [g] at hS
      rw [← hS, val_snoc, Int.toNat_natCast, List.length_append, List.length_singleton, Nat.pow_succ, Nat.mul_assoc, Nat.add_assoc, ← Nat.mul_add]
      congr 2
      show _ + 4294967296 * _ = c + 2 ^ s * (p + 4294967296 * _)
      generalize val B32 (a.drop (i + 1)) = R
      clear hpb e1 e2 ho
      have : 2 ^ s * (p + 4294967296 * R) = p * 2 ^ s + 4294967296 * (2 ^ s * R) := by rw [Nat.mul_add, Nat.mul_comm (2 ^ s) p, ← Nat.mul_assoc, Nat.mul_comm (2 ^ s) 4294967296, Nat.mul_assoc]
      rw [this, Nat.mul_add]
      generalize p * 2 ^ s = X
      generalize 2 ^ s * R = Y
      omega
theorem shl_ev {a : Nat} (ha : Sm a) (n : Nat) (hn : n ≤ 65536) : Ev (fun k => real_nat_shl.f k (D a) (n : Int)) (D (a * 2 ^ n)) := by
  unfold Sm at ha
  have t : Int.tdiv (n : Int) 32 = ((n / 32 : Nat) : Int) := by rw [Int.tdiv_eq_ediv_of_nonneg (by omega)]; omega
  have w1 : wrap64 ((n / 32 : Nat) : Int) = ((n / 32 : Nat) : Int) := w64 _ (by omega) (by omega)
  have w2 : wrap64 (((n / 32 : Nat) : Int) + ((D a).length : Int)) = ((n / 32 + (D a).length : Nat) : Int) := by rw [w64 _ (by omega) (by omega)]; omega
  have w3 : wrap64 (((n / 32 + (D a).length : Nat) : Int) + 1) = ((n / 32 + (D a).length + 1 : Nat) : Int) := by rw [w64 _ (by omega) (by omega)]; omega
  refine Ev.congr (f := fun k => real_nat_shl.l0 k (n : Int) (List.replicate (n / 32) 0) ((0 : Nat) : Int) (D a) ((D a).length : Int) ((0 : Nat) : Int)) (fun k => by unfold real_nat_shl.f; rw [t, w1, w2, w3, if_pos (by omega), if_pos (by omega), Int.toNat_natCast, Int.toNat_natCast, if_pos (by omega)]; rfl) ?_
  refine shl_l0 (D a) (InB_dg B2 a) n (n % 32) rfl (by omega) (a * 2 ^ n) (D a).length 0 _ 0 (by omega) (by simp; omega) (InB.replicate (by decide) _) (Nat.two_pow_pos _) (Aside0.mk ?_)
  rw [val_replicate, List.length_replicate, List.drop_zero, val_dg B2, Nat.zero_add, Nat.zero_add, pow32, ← Nat.mul_assoc, ← Nat.pow_add, Nat.mul_comm]
  congr 2; omega
/-- How many binary digits a number has. -/
def bl (n : Nat) : Nat := if h : 0 < n then bl (n / 2) + 1 else 0
termination_by n
decreasing_by exact Nat.div_lt_self h (by decide)
theorem bl_zero : bl 0 = 0 := by rw [bl]; simp
theorem bl_pos {n : Nat} (h : 0 < n) : bl n = bl (n / 2) + 1 := by rw [bl, dif_pos h]
theorem bl_lt (n : Nat) : n < 2 ^ bl n := by
  induction n using Nat.strongRecOn with
  | ind n ih =>
    rcases Nat.eq_zero_or_pos n with rfl | h
    · rw [bl_zero]; decide
    · rw [bl_pos h, Nat.pow_succ]
      have := ih (n / 2) (Nat.div_lt_self h (by decide))
      omega
theorem bl_ge {n : Nat} (h : 0 < n) : 2 ^ (bl n - 1) ≤ n := by
  induction n using Nat.strongRecOn with
  | ind n ih =>
    rw [bl_pos h, Nat.add_sub_cancel]
    rcases Nat.eq_zero_or_pos (n / 2) with h2 | h2
    · rw [h2, bl_zero]; exact h
    · have := ih (n / 2) (Nat.div_lt_self h (by decide)) h2
      have e : bl (n / 2) = bl (n / 2) - 1 + 1 := by rw [bl_pos h2]; omega
      rw [e, Nat.pow_succ]; omega
theorem bl_pos' {n : Nat} (h : 0 < n) : 0 < bl n := by rw [bl_pos h]; omega
theorem bl_le_iff {n m : Nat} : bl n ≤ m ↔ n < 2 ^ m := by
  constructor
  · intro h; exact Nat.lt_of_lt_of_le (bl_lt n) (Nat.pow_le_pow_right (by decide) h)
  · intro h
    rcases Nat.eq_zero_or_pos n with rfl | h0
    · rw [bl_zero]; omega
    · have h1 := bl_ge h0
      have h2 := bl_pos' h0
      rcases Nat.lt_or_ge m (bl n) with h3 | h3
      · have := Nat.pow_le_pow_right (show 0 < 2 by decide) (show m ≤ bl n - 1 by omega); omega
      · exact h3
theorem bl_of {n m : Nat} (h0 : 2 ^ m ≤ n) (h1 : n < 2 ^ (m + 1)) : bl n = m + 1 := by
  have a := bl_le_iff.2 h1
  have b : ¬ bl n ≤ m := fun h => by have := bl_le_iff.1 h; omega
  omega
theorem bits_l0 : ∀ (n : Nat) (x : Nat) (c : Int), bl x = n → 0 ≤ c → c + n ≤ 2000000 → Ev (fun k => real_nat_bits.l0 k c (x : Int)) (c + n)
  | 0, x, c, h, h0, h1 => by
    have : x = 0 := by
      rcases Nat.eq_zero_or_pos x with e | e
      · exact e
      · have := bl_pos' e; omega
    subst this
    refine Ev.step (f := fun _ => some c) (fun k => by rw [real_nat_bits.l0, if_neg (by omega)]) ?_
    rw [show c + ((0 : Nat) : Int) = c by omega]; exact Ev.now _
  | n + 1, x, c, h, h0, h1 => by
    have hx : 0 < x := by
      rcases Nat.eq_zero_or_pos x with e | e
      · subst e; rw [bl_zero] at h; omega
      · exact e
    rw [bl_pos hx] at h
    have e : (x : Int) / 2 = ((x / 2 : Nat) : Int) := by omega
    have w : wrap64 (c + 1) = c + 1 := w64 _ (by omega) (by omega)
    refine Ev.step (f := fun k => real_nat_bits.l0 k (c + 1) ((x / 2 : Nat) : Int)) (fun k => by rw [real_nat_bits.l0, if_pos (by omega), w, e]) ?_
    have ih := bits_l0 n (x / 2) (c + 1) (by omega) (by omega) (by omega)
    rw [show c + ((n + 1 : Nat) : Int) = c + 1 + (n : Int) by omega]; exact ih
theorem bits_ev {a : Nat} (ha : Sm a) : Ev (fun k => real_nat_bits.f k (D a)) (bl a : Int) := by
  unfold Sm at ha
  rcases Nat.eq_zero_or_pos a with rfl | h0
  · rw [bl_zero]
    refine Ev.congr (f := fun _ => some 0) (fun k => by rw [show D 0 = [] from dg_zero]; rfl) (Ev.now _)
  · have hne : (D a).length ≠ 0 := fun e => by
      have := (dg_nil (n := a) B2).1 (List.eq_nil_of_length_eq_zero e); omega
    obtain ⟨m, hm⟩ : ∃ m, (D a).length = m + 1 := ⟨(D a).length - 1, by omega⟩
    have w1 : wrap64 (((m + 1 : Nat) : Int) - 1) = (m : Int) := by rw [w64 _ (by omega) (by omega)]; omega
    have w2 : wrap64 (32 * (m : Int)) = ((32 * m : Nat) : Int) := by rw [w64 _ (by omega) (by omega)]; omega
    have hr : 0 ≤ rd (D a) (m : Int) ∧ rd (D a) (m : Int) < 4294967296 := rd_in (InB_dg B2 a) m
    have hs := val_split (B := B32) (l := D a) (i := m) (by omega)
    have hd := val_drop (B := B32) (D a) m
    have z1 : val B32 ((D a).drop (m + 1)) = 0 := val_drop_ge (by omega)
    rw [← rd_nat, z1, Nat.mul_zero, Nat.add_zero] at hd
    rw [val_dg B2, hd] at hs
    obtain ⟨t, ht⟩ : ∃ t : Nat, rd (D a) (m : Int) = t := ⟨(rd (D a) (m : Int)).toNat, by omega⟩
    rw [ht, Int.toNat_natCast] at hs
    have hlt : val B32 ((D a).take m) < B32 ^ ((D a).take m).length := val_lt ((show InB B32 (D a) from InB_dg B2 a).take m)
    rw [List.length_take, Nat.min_eq_left (by omega)] at hlt
    have hpow : B32 ^ ((D a).length - 1) ≤ a := dg_ge_pow B2 h0
    rw [hm, Nat.add_sub_cancel] at hpow
    have ht0 : 0 < t := by
      rcases Nat.eq_zero_or_pos t with e | e
      · subst e; omega
      · exact e
    have hbl : bl a = 32 * m + bl t := by
      have h1 := bl_ge ht0
      have h2 := bl_lt t
      have h3 := bl_pos' ht0
      have e : 32 * m + bl t = (32 * m + (bl t - 1)) + 1 := by omega
      rw [e]
      refine bl_of ?_ ?_
      · rw [Nat.pow_add, ← pow32]
        have := Nat.mul_le_mul_left (B32 ^ m) h1
        omega
      · rw [show 32 * m + (bl t - 1) + 1 = 32 * m + bl t by omega, Nat.pow_add, ← pow32]
        have := Nat.mul_le_mul_left (B32 ^ m) (show t + 1 ≤ 2 ^ bl t from h2)
        rw [Nat.mul_add, Nat.mul_one] at this
        omega
    have htb : bl t ≤ 32 := bl_le_iff.2 (by omega)
    refine Ev.congr (f := fun k => real_nat_bits.l0 k ((32 * m : Nat) : Int) (t : Int)) (fun k => by unfold real_nat_bits.f; rw [hm, if_neg (by omega), w1, if_pos (by omega), if_pos (by omega), w2, ht]) ?_
    have := bits_l0 (bl t) t ((32 * m : Nat) : Int) rfl (by omega) (by omega)
    rw [hbl, Int.natCast_add]; exact this
theorem small_l0 (a : List Int) (ha : InB B32 a) (hl : a.length ≤ 2) : ∀ (d i : Nat) (c : Nat), a.length = i + d → c < B32 ^ i → Aside0 (c + B32 ^ i * val B32 (a.drop i) = val B32 a) → Ev (fun k => real_nat_small.l0 k (c : Int) a (a.length : Int) (i : Int)) (val B32 a : Int)
  | 0, i, c, hd, hc, hT => by
    replace hT := hT.out
    rw [val_drop_ge (by omega), Nat.mul_zero, Nat.add_zero] at hT
    refine Ev.step (f := fun _ => some (c : Int)) (fun k => by rw [real_nat_small.l0, if_neg (by omega)]) ?_
    rw [hT]; exact Ev.now _
  | d + 1, i, c, hd, hc, hT => by
    have hra := rd_in ha i
    obtain ⟨p, hp⟩ : ∃ p : Nat, rd a (i : Int) = p := ⟨(rd a (i : Int)).toNat, by omega⟩
    have w1 : Aside0 (wrap64 (32 * (i : Int)) = ((32 * i : Nat) : Int)) := Aside0.mk (by rw [w64 _ (by omega) (by omega)]; omega)
    have w2 : Aside0 (wrap64 ((i : Int) + 1) = ((i + 1 : Nat) : Int)) := Aside0.mk (by rw [w64 _ (by omega) (by omega)]; omega)
    have hpw : (2 : Nat) ^ (32 * i) ≤ 4294967296 := by
      have := Nat.pow_le_pow_right (show 0 < 2 by decide) (show 32 * i ≤ 32 by omega); exact this
    have hpm : p * 2 ^ (32 * i) ≤ 4294967295 * 4294967296 := Nat.mul_le_mul (by omega) hpw
    have ho := Aside0.mk (or_shl c p (32 * i) (by omega) (by rw [← pow32]; exact hc) (by omega) (by omega))
    refine Ev.step (f := fun k => real_nat_small.l0 k ((c + p * 2 ^ (32 * i) : Nat) : Int) a a.length ((i + 1 : Nat) : Int)) (fun k => by
      rw [real_nat_small.l0, if_pos (by omega), if_pos (by omega), if_pos (by omega), w1.out, if_pos (Int.natCast_nonneg _), hp, ho.out, w2.out]) ?_
    refine small_l0 a ha hl d (i + 1) _ (by omega) ?_ (Aside0.mk ?_)
    · rw [Nat.pow_succ, ← pow32]
      have : p * B32 ^ i ≤ 4294967295 * B32 ^ i := Nat.mul_le_mul_right _ (by omega)
      show _ < B32 ^ i * 4294967296
      omega
    · have g := val_drop (B := B32) a i
      rw [← rd_nat, hp, Int.toNat_natCast] at g
      replace hT := hT.out
      rw [g] at hT
      rw [← hT, Nat.pow_succ, Nat.mul_assoc, Nat.add_assoc, ← pow32, Nat.mul_comm p, ← Nat.mul_add]
theorem small_ev {a : Nat} (ha : a < 18446744073709551616) : Ev (fun k => real_nat_small.f k (D a)) (a : Int) := by
  have hl : (D a).length ≤ 2 := dg_len_le B2 2 a (by show a < 4294967296 ^ 2; omega)
  have := small_l0 (D a) (InB_dg B2 a) hl (D a).length 0 0 (by omega) (by simp) (Aside0.mk (by rw [Nat.pow_zero, List.drop_zero]; omega))
  rw [val_dg B2] at this
  exact Ev.congr (fun k => by unfold real_nat_small.f; rfl) this
theorem Sm.bl {n : Nat} (h : M.bl n ≤ 32 * 2048) : Sm n := Sm.of (bl_lt n) h
theorem bl_mono {a b : Nat} (h : a ≤ b) : bl a ≤ bl b := bl_le_iff.2 (Nat.lt_of_le_of_lt h (bl_lt b))
theorem bl_shift (a m : Nat) : bl (a * 2 ^ m) ≤ bl a + m := by
  rw [bl_le_iff, Nat.pow_add]
  exact Nat.mul_lt_mul_of_pos_right (bl_lt a) (Nat.two_pow_pos m)
theorem bl_mul (a b : Nat) : bl (a * b) ≤ bl a + bl b := by
  rw [bl_le_iff, Nat.pow_add]
  rcases Nat.eq_zero_or_pos b with h | h
  · subst h; rw [Nat.mul_zero]; exact Nat.mul_pos (Nat.two_pow_pos _) (Nat.two_pow_pos _)
  · exact Nat.lt_of_lt_of_le (Nat.mul_lt_mul_of_pos_right (bl_lt a) h) (Nat.mul_le_mul_left _ (Nat.le_of_lt (bl_lt b)))
theorem bl_one : bl 1 = 1 := by rw [bl_pos (by decide)]; rw [show 1 / 2 = 0 by decide, bl_zero]
theorem div_l0 (a b : Nat) (hb : 0 < b) (hab : bl a ≤ 30000) (hbb : bl b ≤ 30000) : ∀ (m q r : Nat), m ≤ 30001 → a = q * 2 ^ m * b + r → r < 2 ^ m * b → Ev (fun k => real_nat_div.l0 k (D b) (D q) (D r) ((m : Int) - 1)) (D (a / b), D (a % b))
  | 0, q, r, _, h, hr => by
    rw [Nat.pow_zero, Nat.mul_one] at h
    rw [Nat.pow_zero, Nat.one_mul] at hr
    have e1 : a / b = q := by rw [h, Nat.mul_comm, Nat.mul_add_div hb, Nat.div_eq_of_lt hr, Nat.add_zero]
    have e2 : a % b = r := by rw [h, Nat.mul_comm, Nat.mul_add_mod, Nat.mod_eq_of_lt hr]
    refine Ev.step (f := fun _ => some (D q, D r)) (fun k => by rw [real_nat_div.l0, if_neg (by omega)]) ?_
    rw [e1, e2]; exact Ev.now _
  | m + 1, q, r, hm, h, hr => by
    have hw : ((m + 1 : Nat) : Int) - 1 = (m : Int) := by omega
    have hw2 : wrap64 ((m : Int) - 1) = (m : Int) - 1 := w64 _ (by omega) (by omega)
    rw [hw]
    have hra : r ≤ a := by omega
    have hqa : q * 2 ≤ a ∨ r = 0 ∨ True := .inr (.inr trivial)
    have hP := Nat.two_pow_pos m
    have hq1 : q * 2 ≤ a := by
      have h1 : q * 2 ≤ q * 2 ^ (m + 1) * b := by
        have : 2 ^ (m + 1) * b = 2 * (2 ^ m * b) := by rw [Nat.pow_succ]; ac_rfl
        rw [Nat.mul_assoc, this, ← Nat.mul_assoc]
        exact Nat.le_mul_of_pos_right _ (Nat.mul_pos hP hb)
      omega
    have b1 := bl_mono hra
    have b2 := bl_mono hq1
    have b3 := bl_mono (show q ≤ a by omega)
    have b4 := bl_shift b m
    have sb : Sm b := Sm.bl (by omega)
    have sq : Sm q := Sm.bl (by omega)
    have sq2 : Sm (q * 2) := Sm.bl (by omega)
    have sr : Sm r := Sm.bl (by omega)
    have sd : Sm (b * 2 ^ m) := Sm.bl (by omega)
    have s1 : Sm 1 := Sm.bl (by rw [bl_one]; decide)
    have hsh2 : Ev (fun k => real_nat_shl.f k (D q) 1) (D (q * 2)) := by
      have := shl_ev sq 1 (by decide)
      rw [Nat.pow_one] at this; exact this
    refine Ev.step (f := fun k => (real_nat_shl.f k (D b) (m : Int)).bind fun t162 => (real_nat_shl.f k (D q) 1).bind fun t165 => (real_nat_cmp.f k (D r) t162).bind fun t168 => if t168 ≥ 0 then (real_nat_sub.f k (D r) t162).bind fun t169 => (real_nat_add.f k t165 [1]).bind fun t175 => real_nat_div.l0 k (D b) t175 t169 (wrap64 ((m : Int) - 1)) else real_nat_div.l0 k (D b) t165 (D r) (wrap64 ((m : Int) - 1))) (fun k => by rw [real_nat_div.l0, if_pos (by omega)]) ?_
    refine Ev.bind (shl_ev sb m (by omega)) (Ev.bind hsh2 (Ev.bind (cmp_ev sr sd) ?_))
    rw [hw2]
    have hrr : 2 ^ (m + 1) * b = 2 ^ m * b + 2 ^ m * b := by rw [Nat.pow_succ, ← Nat.add_mul]; congr 1; omega
    have hqq : q * 2 ^ (m + 1) * b = q * 2 * 2 ^ m * b := by rw [Nat.pow_succ]; ac_rfl
    by_cases hc : r < b * 2 ^ m
    · have e : cmpN r (b * 2 ^ m) = -1 := by unfold cmpN; rw [if_pos hc]
      rw [e]
      refine Ev.congr (f := fun k => real_nat_div.l0 k (D b) (D (q * 2)) (D r) ((m : Int) - 1)) (fun k => by rw [if_neg (by omega)]) ?_
      exact div_l0 a b hb hab hbb m (q * 2) r (by omega) (by omega) (by rw [Nat.mul_comm]; exact hc)
    · have e : cmpN r (b * 2 ^ m) ≥ 0 := by unfold cmpN; rw [if_neg hc]; split <;> omega
      have one : D 1 = [1] := dg_small B2 (by decide) (by decide)
      refine Ev.congr (f := fun k => (real_nat_sub.f k (D r) (D (b * 2 ^ m))).bind fun t169 => (real_nat_add.f k (D (q * 2)) (D 1)).bind fun t175 => real_nat_div.l0 k (D b) t175 t169 ((m : Int) - 1)) (fun k => by rw [if_pos e, one]) ?_
      refine Ev.bind (sub_ev sr sd (by omega)) (Ev.bind (add_ev sq2 s1) ?_)
      refine div_l0 a b hb hab hbb m (q * 2 + 1) (r - b * 2 ^ m) (by omega) ?_ ?_
      · rw [hqq] at h
        rw [Nat.add_mul, Nat.one_mul, Nat.add_mul, Nat.mul_comm (2 ^ m) b]
        omega
      · rw [Nat.mul_comm b] at hc ⊢; omega
theorem div_ev {a b : Nat} (hb : 0 < b) (hab : bl a ≤ 30000) (hbb : bl b ≤ 30000) : Ev (fun k => real_nat_div.f k (D a) (D b)) (D (a / b), D (a % b)) := by
  have sa : Sm a := Sm.bl (by omega)
  have sb : Sm b := Sm.bl (by omega)
  have hla : (D a).length ≤ 2048 := sa
  refine Ev.congr (f := fun k => (real_nat_bits.f k (D a)).bind fun t160 => (real_nat_bits.f k (D b)).bind fun t161 => real_nat_div.l0 k (D b) [] (D a) (wrap64 (t160 - t161))) (fun k => by unfold real_nat_div.f; rw [clone_is (by omega)]; rfl) ?_
  refine Ev.bind (bits_ev sa) (Ev.bind (bits_ev sb) ?_)
  have w : wrap64 ((bl a : Int) - (bl b : Int)) = (bl a : Int) - (bl b : Int) := w64 _ (by omega) (by omega)
  rw [w]
  rcases Nat.lt_or_ge (bl a) (bl b) with h | h
  · have hlt : a < b := by
      have h3 := bl_lt a
      have h4 := bl_ge hb
      have := Nat.pow_le_pow_right (show 0 < 2 by decide) (show bl a ≤ bl b - 1 by omega); omega
    refine Ev.step (f := fun _ => some ([], D a)) (fun k => by rw [real_nat_div.l0, if_neg (by omega)]) ?_
    rw [Nat.div_eq_of_lt hlt, Nat.mod_eq_of_lt hlt, show D 0 = [] from dg_zero]; exact Ev.now _
  · have := div_l0 a b hb hab hbb (bl a - bl b + 1) 0 a (by omega) (by simp) ?_
    · rw [show D 0 = [] from dg_zero] at this
      rw [show (bl a : Int) - (bl b : Int) = ((bl a - bl b + 1 : Nat) : Int) - 1 by omega]; exact this
    · have h3 := bl_lt a
      have h4 := bl_ge hb
      have h5 := bl_pos' hb
      have := Nat.mul_le_mul_left (2 ^ (bl a - bl b + 1)) h4
      rw [← Nat.pow_add, show bl a - bl b + 1 + (bl b - 1) = bl a by omega] at this
      omega
end Go.Proofs.YteigbokklclmbaaGreatDoor.M
end
section
namespace Go.Proofs.YteigbokklclmbaaGreatDoor.Z
open Go.RowKit Go.Proofs.YteigbokklclmbaaGreatDoor.Given Go.Proofs.YteigbokklclmbaaGreatDoorW.PrintWords Go.Proofs.YteigbokklclmbaaGreatDoorW.PrintLast Go.Proofs.YteigbokklclmbaaGreatDoorW.PrintMore
attribute [local go_sem] max2_int min2_int max_two min_two max_three min_three max_four min_four

theorem eqA23 (d : Nat) (w : World) (x0 y0 : Int) (x1 y1 : Int) :
  (Op.equalIn (d + 2) 23 (.agg #[.int .i64 x0, .int .i64 x1]) (.agg #[.int .i64 y0, .int .i64 y1])).run Tryz.prog w = .ok (x0 == y0 && (x1 == y1)) w := by
 refine eqA_of Tryz.underlying23 (by kernel_rfl) ?_
 refine eqf_cons (by rfl) (by go_simp; rfl) (by go_simp; rfl) (by go_simp) ?_
 exact eqf_last (by rfl) (by go_simp; rfl) (by go_simp; rfl) (by go_simp)

mutual
def real_rounded.l0 : Nat → List Int → Int → List Int → Int → Option (Int × Int)
 | 0, _, _, _, _ => none
 | k + 1, x0, x1, x2, x7 => if x1 ≥ x7 then ((real_nat_shl.f k x0 (wrap64 (x1 - x7))).bind fun t182 => (real_rounded.j1 k x0 x1 x2 x7 t182 x2)) else ((real_nat_shl.f k x2 (wrap64 (x7 - x1))).bind fun t185 => (real_rounded.j1 k x0 x1 x2 x7 x0 t185))
def real_rounded.j1 : Nat → List Int → Int → List Int → Int → List Int → List Int → Option (Int × Int)
 | 0, _, _, _, _, _, _ => none
 | k + 1, x0, x1, x2, x7, x8, x9 => (real_nat_div.f k x8 x9).bind fun bt188 => ((real_nat_bits.f k bt188.1).bind fun t194 => (if t194 > 24 then (real_rounded.l0 k x0 x1 x2 (wrap64 (x7 + 1))) else ((real_nat_small.f k bt188.1).bind fun t195 => ((real_nat_shl.f k bt188.2 1).bind fun t196 => ((real_nat_cmp.f k t196 x9).bind fun t199 => (if t199 > 0 then (real_rounded.j2 k x7 (wrap64 (t195)) true) else (if t199 = 0 then (real_rounded.j2 k x7 (wrap64 (t195)) ((Int.tmod (wrap64 (t195)) 2) == 1)) else (real_rounded.j2 k x7 (wrap64 (t195)) false))))))))
def real_rounded.j2 : Nat → Int → Int → Bool → Option (Int × Int)
 | 0, _, _, _ => none
 | k + 1, x7, x12, x71 => if x71 = true then (real_rounded.j3 k x7 (wrap64 (x12 + 1))) else (real_rounded.j3 k x7 x12)
def real_rounded.j3 : Nat → Int → Int → Option (Int × Int)
 | 0, _, _ => none
 | k + 1, x7, x12 => if x12 = 16777216 then (real_rounded.j4 k (wrap64 (x7 + 1)) 8388608) else (real_rounded.j4 k x7 x12)
def real_rounded.j4 : Nat → Int → Int → Option (Int × Int)
 | 0, _, _ => none
 | k + 1, x7, x12 => if x7 > 150 then (some (0, 1000)) else (if x12 = 0 then (some (0, 0)) else (some (x12, x7)))
end
def real_rounded.f (k : Nat) (l0 : List Int) (a1 : Int) (l2 : List Int) : Option (Int × Int) := if (l0.length : Int) = 0 then (some (0, 0)) else ((real_nat_bits.f k l0).bind fun t180 => ((real_nat_bits.f k l2).bind fun t181 => (real_rounded.l0 k l0 a1 l2 (mx (-150) (wrap64 ((wrap64 ((wrap64 ((wrap64 (t180 - t181)) + a1)) - 24)) - 1))))))
theorem real_rounded.mono_l : ∀ k, (∀ y0 y1 y2 y3, LeO (real_rounded.l0 k y0 y1 y2 y3) (real_rounded.l0 (k + 1) y0 y1 y2 y3)) ∧ (∀ y0 y1 y2 y3 y4 y5, LeO (real_rounded.j1 k y0 y1 y2 y3 y4 y5) (real_rounded.j1 (k + 1) y0 y1 y2 y3 y4 y5)) ∧ (∀ y0 y1 y2, LeO (real_rounded.j2 k y0 y1 y2) (real_rounded.j2 (k + 1) y0 y1 y2)) ∧ (∀ y0 y1, LeO (real_rounded.j3 k y0 y1) (real_rounded.j3 (k + 1) y0 y1)) ∧ (∀ y0 y1, LeO (real_rounded.j4 k y0 y1) (real_rounded.j4 (k + 1) y0 y1))
 | 0 => ⟨fun _ _ _ _ r h => by simp [real_rounded.l0] at h, fun _ _ _ _ _ _ r h => by simp [real_rounded.j1] at h, fun _ _ _ r h => by simp [real_rounded.j2] at h, fun _ _ r h => by simp [real_rounded.j3] at h, fun _ _ r h => by simp [real_rounded.j4] at h⟩
 | k + 1 => by
  obtain ⟨ih0, ih1, ih2, ih3, ih4⟩ := real_rounded.mono_l k
  refine ⟨?_, ?_, ?_, ?_, ?_⟩
  ·intro y0 y1 y2 y3
   unfold real_rounded.l0
   repeat' first
   | (with_reducible exact ih0 _ _ _ _)
   | (with_reducible exact ih1 _ _ _ _ _ _)
   | (with_reducible exact ih2 _ _ _)
   | (with_reducible exact ih3 _ _)
   | (with_reducible exact ih4 _ _)
   | (with_reducible exact real_nat_bits.mono _ _)
   | (with_reducible exact real_nat_cmp.mono _ _ _)
   | (with_reducible exact real_nat_div.mono _ _ _)
   | (with_reducible exact real_nat_shl.mono _ _ _)
   | (with_reducible exact real_nat_small.mono _ _)
   | (with_reducible exact LeO.refl _)
   | (with_reducible exact LeO.none _)
   | (with_reducible refine LeO.ite ?_ ?_)
   | (with_reducible refine LeO.bind ?_ (fun _ => ?_))
   | exact ih0 _ _ _ _
   | exact ih1 _ _ _ _ _ _
   | exact ih2 _ _ _
   | exact ih3 _ _
   | exact ih4 _ _
   | exact real_nat_bits.mono _ _
   | exact real_nat_cmp.mono _ _ _
   | exact real_nat_div.mono _ _ _
   | exact real_nat_shl.mono _ _ _
   | exact real_nat_small.mono _ _
   | exact LeO.none _
   | refine LeO.ite ?_ ?_
   | refine LeO.bind ?_ (fun _ => ?_)
  ·intro y0 y1 y2 y3 y4 y5
   unfold real_rounded.j1
   repeat' first
   | (with_reducible exact ih0 _ _ _ _)
   | (with_reducible exact ih1 _ _ _ _ _ _)
   | (with_reducible exact ih2 _ _ _)
   | (with_reducible exact ih3 _ _)
   | (with_reducible exact ih4 _ _)
   | (with_reducible exact real_nat_bits.mono _ _)
   | (with_reducible exact real_nat_cmp.mono _ _ _)
   | (with_reducible exact real_nat_div.mono _ _ _)
   | (with_reducible exact real_nat_shl.mono _ _ _)
   | (with_reducible exact real_nat_small.mono _ _)
   | (with_reducible exact LeO.refl _)
   | (with_reducible exact LeO.none _)
   | (with_reducible refine LeO.ite ?_ ?_)
   | (with_reducible refine LeO.bind ?_ (fun _ => ?_))
   | exact ih0 _ _ _ _
   | exact ih1 _ _ _ _ _ _
   | exact ih2 _ _ _
   | exact ih3 _ _
   | exact ih4 _ _
   | exact real_nat_bits.mono _ _
   | exact real_nat_cmp.mono _ _ _
   | exact real_nat_div.mono _ _ _
   | exact real_nat_shl.mono _ _ _
   | exact real_nat_small.mono _ _
   | exact LeO.none _
   | refine LeO.ite ?_ ?_
   | refine LeO.bind ?_ (fun _ => ?_)
  ·intro y0 y1 y2
   unfold real_rounded.j2
   repeat' first
   | (with_reducible exact ih0 _ _ _ _)
   | (with_reducible exact ih1 _ _ _ _ _ _)
   | (with_reducible exact ih2 _ _ _)
   | (with_reducible exact ih3 _ _)
   | (with_reducible exact ih4 _ _)
   | (with_reducible exact real_nat_bits.mono _ _)
   | (with_reducible exact real_nat_cmp.mono _ _ _)
   | (with_reducible exact real_nat_div.mono _ _ _)
   | (with_reducible exact real_nat_shl.mono _ _ _)
   | (with_reducible exact real_nat_small.mono _ _)
   | (with_reducible exact LeO.refl _)
   | (with_reducible exact LeO.none _)
   | (with_reducible refine LeO.ite ?_ ?_)
   | (with_reducible refine LeO.bind ?_ (fun _ => ?_))
   | exact ih0 _ _ _ _
   | exact ih1 _ _ _ _ _ _
   | exact ih2 _ _ _
   | exact ih3 _ _
   | exact ih4 _ _
   | exact real_nat_bits.mono _ _
   | exact real_nat_cmp.mono _ _ _
   | exact real_nat_div.mono _ _ _
   | exact real_nat_shl.mono _ _ _
   | exact real_nat_small.mono _ _
   | exact LeO.none _
   | refine LeO.ite ?_ ?_
   | refine LeO.bind ?_ (fun _ => ?_)
  ·intro y0 y1
   unfold real_rounded.j3
   repeat' first
   | (with_reducible exact ih0 _ _ _ _)
   | (with_reducible exact ih1 _ _ _ _ _ _)
   | (with_reducible exact ih2 _ _ _)
   | (with_reducible exact ih3 _ _)
   | (with_reducible exact ih4 _ _)
   | (with_reducible exact real_nat_bits.mono _ _)
   | (with_reducible exact real_nat_cmp.mono _ _ _)
   | (with_reducible exact real_nat_div.mono _ _ _)
   | (with_reducible exact real_nat_shl.mono _ _ _)
   | (with_reducible exact real_nat_small.mono _ _)
   | (with_reducible exact LeO.refl _)
   | (with_reducible exact LeO.none _)
   | (with_reducible refine LeO.ite ?_ ?_)
   | (with_reducible refine LeO.bind ?_ (fun _ => ?_))
   | exact ih0 _ _ _ _
   | exact ih1 _ _ _ _ _ _
   | exact ih2 _ _ _
   | exact ih3 _ _
   | exact ih4 _ _
   | exact real_nat_bits.mono _ _
   | exact real_nat_cmp.mono _ _ _
   | exact real_nat_div.mono _ _ _
   | exact real_nat_shl.mono _ _ _
   | exact real_nat_small.mono _ _
   | exact LeO.none _
   | refine LeO.ite ?_ ?_
   | refine LeO.bind ?_ (fun _ => ?_)
  ·intro y0 y1
   unfold real_rounded.j4
   repeat' first
   | (with_reducible exact ih0 _ _ _ _)
   | (with_reducible exact ih1 _ _ _ _ _ _)
   | (with_reducible exact ih2 _ _ _)
   | (with_reducible exact ih3 _ _)
   | (with_reducible exact ih4 _ _)
   | (with_reducible exact real_nat_bits.mono _ _)
   | (with_reducible exact real_nat_cmp.mono _ _ _)
   | (with_reducible exact real_nat_div.mono _ _ _)
   | (with_reducible exact real_nat_shl.mono _ _ _)
   | (with_reducible exact real_nat_small.mono _ _)
   | (with_reducible exact LeO.refl _)
   | (with_reducible exact LeO.none _)
   | (with_reducible refine LeO.ite ?_ ?_)
   | (with_reducible refine LeO.bind ?_ (fun _ => ?_))
   | exact ih0 _ _ _ _
   | exact ih1 _ _ _ _ _ _
   | exact ih2 _ _ _
   | exact ih3 _ _
   | exact ih4 _ _
   | exact real_nat_bits.mono _ _
   | exact real_nat_cmp.mono _ _ _
   | exact real_nat_div.mono _ _ _
   | exact real_nat_shl.mono _ _ _
   | exact real_nat_small.mono _ _
   | exact LeO.none _
   | refine LeO.ite ?_ ?_
   | refine LeO.bind ?_ (fun _ => ?_)
theorem real_rounded.mono : ∀ a0 a1 a2 k, LeO (real_rounded.f k a0 a1 a2) (real_rounded.f (k + 1) a0 a1 a2) := by
 intro a0 a1 a2 k
 obtain ⟨ih0, ih1, ih2, ih3, ih4⟩ := real_rounded.mono_l k
 unfold real_rounded.f
 repeat' first
   | (with_reducible exact ih0 _ _ _ _)
   | (with_reducible exact ih1 _ _ _ _ _ _)
   | (with_reducible exact ih2 _ _ _)
   | (with_reducible exact ih3 _ _)
   | (with_reducible exact ih4 _ _)
   | (with_reducible exact real_nat_bits.mono _ _)
   | (with_reducible exact real_nat_cmp.mono _ _ _)
   | (with_reducible exact real_nat_div.mono _ _ _)
   | (with_reducible exact real_nat_shl.mono _ _ _)
   | (with_reducible exact real_nat_small.mono _ _)
   | (with_reducible exact LeO.refl _)
   | (with_reducible exact LeO.none _)
   | (with_reducible refine LeO.ite ?_ ?_)
   | (with_reducible refine LeO.bind ?_ (fun _ => ?_))
   | exact ih0 _ _ _ _
   | exact ih1 _ _ _ _ _ _
   | exact ih2 _ _ _
   | exact ih3 _ _
   | exact ih4 _ _
   | exact real_nat_bits.mono _ _
   | exact real_nat_cmp.mono _ _ _
   | exact real_nat_div.mono _ _ _
   | exact real_nat_shl.mono _ _ _
   | exact real_nat_small.mono _ _
   | exact LeO.none _
   | refine LeO.ite ?_ ?_
   | refine LeO.bind ?_ (fun _ => ?_)
theorem real_rounded.calls (k : Nat) (P0_ : Nat → Prop) (A0 : Option Addr) (c0 : Nat) (l0 : List Int) (a1 : Int) (P2_ : Nat → Prop) (A2 : Option Addr) (c2 : Nat) (l2 : List Int) (r1 : Int) (r2 : Int) (w : World) (hs0 : Kd.V (Kd.int .u32) 115 w w.heap.size (fun k_ => P0_ k_) (.slice A0 l0.length c0) l0) (hs2 : Kd.V (Kd.int .u32) 115 w w.heap.size (fun k_ => P2_ k_) (.slice A2 l2.length c2) l2) (h : real_rounded.f k l0 a1 l2 = some (r1, r2)) :
  Calls Tryz.prog 97 #[.slice A0 l0.length c0, .int .i64 a1, .slice A2 l2.length c2] w fun e w' => e = ending r1 r2 ∧ Below w.heap.size w w' := by
 have hu23 := Tryz.underlying23
 have HO0 := Aside0.mk (show Kd.V (Kd.int .u32) 115 w w.heap.size (fun k_ => ((P0_ k_ ∨ P2_ k_) ∨ w.heap.size ≤ k_)) (.slice A0 l0.length c0) l0 from Kd.V_mono hs0 (fun k_ hk => .inl (.inl hk)))
 have HO2 := Aside0.mk (show Kd.V (Kd.int .u32) 115 w w.heap.size (fun k_ => ((P0_ k_ ∨ P2_ k_) ∨ w.heap.size ≤ k_)) (.slice A2 l2.length c2) l2 from Kd.V_mono hs2 (fun k_ hk => .inl (.inr hk)))
 have HB := Aside0.mk (Below.refl w.heap.size w)
 have H := h; unfold real_rounded.f at H; clear h
 by_cases c4 : (l0.length : Int) = 0
 ·rw [if_pos c4] at H
  have c4b0 : ((l0.length : Int) == 0) = true := beq_iff_eq.mpr c4
  have c4b1 : ((l0.length : Int) != 0) = false := bne_eq_false_iff_eq.mpr c4
  clear c4
  simp only [Option.some.injEq, Prod.mk.injEq] at H
  obtain ⟨rfl, rfl⟩ := H
  go_enter Tryz.func97, Tryz.ntmps97
  go_wp2_with (first | ((with_reducible refine gate_dst (N := 6) rfl ?_); refine bxe 6 #[.int .i64 0, .int .i64 0] 23 ?_; intro gb179 hg w5 hbox hb; have BK179 := Aside0.mk hbox; have GW179 := ge hg; have GE179 := ge hg; replace HO0 := Aside0.mk (Kd.V_below (Kd.V_elderB (vz HO0) gb179 (Nat.le_of_eq hg.symm)) hb); replace HO2 := Aside0.mk (Kd.V_below (Kd.V_elderB (vz HO2) gb179 (Nat.le_of_eq hg.symm)) hb); replace HB := bs hb; clear hb hbox hg; have hcz6_0 := c20 BK179; have hcz6_1 := c21 BK179; have hfz6_0 := blk_frozen BK179.out 0; have hfz6_1 := blk_frozen BK179.out 1))
  refine bodyPost_ret (results_cell_row rfl _ _ gb179 23 #[.int .i64 0, .int .i64 0] (0, 0) _ rfl (by (with_reducible repeat (first | refine blk_drewN ?_ _ | refine blk_drew ?_ | refine blk_alloc ?_ _)); refine blk_put (cs := #[.int .i64 0, .int .i64 0]) ?_ 1 _ rfl; (with_reducible repeat (first | refine blk_drewN ?_ _ | refine blk_drew ?_ | refine blk_alloc ?_ _)); refine blk_put (cs := #[.int .i64 0, .int .i64 0]) ?_ 0 _ rfl; (with_reducible repeat (first | refine blk_drewN ?_ _ | refine blk_drew ?_ | refine blk_alloc ?_ _)); exact BK179.out) Tryz.underlying23 rfl (by kernel_rfl)) rfl ?_
  exact ⟨by first | rfl | exact ending_le (by assumption) | (simp [errW_none, errW_some] <;> rfl) | (simp [*, errW_none, errW_some] <;> rfl), bz⟩
 ·rw [if_neg c4] at H
  have c4b0 : ((l0.length : Int) == 0) = false := beq_eq_false_iff_ne.mpr c4
  have c4b1 : ((l0.length : Int) != 0) = true := bne_iff_ne.mpr c4
  have c4b2 : ¬ (l0 = []) := fun h_ => c4 (by rw [h_]; rfl)
  replace H := Option.bind_eq_some_iff.mp H
  obtain ⟨t180, A70, H⟩ := H
  try dsimp only at H
  have A7 := Aside0.mk A70
  clear A70
  replace H := Option.bind_eq_some_iff.mp H
  obtain ⟨t181, A80, H⟩ := H
  try dsimp only at H
  have A8 := Aside0.mk A80
  clear A80
  obtain ⟨ji9, hji9⟩ : ∃ j_ : Int, (mx (-150) (wrap64 ((wrap64 ((wrap64 ((wrap64 (t180 - t181)) + a1)) - 24)) - 1))) = j_ := ⟨_, rfl⟩
  first | rw [hji9] at H | simp only [hji9] at H
  (try rw [hji9] at A7)
  (try rw [hji9] at A8)
  have hji9_ : (if (-150) < (wrap64 ((wrap64 ((wrap64 ((wrap64 (t180 - t181)) + a1)) - 24)) - 1)) then (wrap64 ((wrap64 ((wrap64 ((wrap64 (t180 - t181)) + a1)) - 24)) - 1)) else (-150)) = ji9 := hji9
  have H' := Aside0.mk H
  clear H
  go_enter Tryz.func97, Tryz.ntmps97
  go_wp2_with (first | ((with_reducible refine gate_dst (N := 6) rfl ?_); refine bxe 6 #[.int .i64 0, .int .i64 0] 23 ?_; intro gb179 hg w10 hbox hb; have BK179 := Aside0.mk hbox; have GW179 := ge hg; have GE179 := ge hg; replace HO0 := Aside0.mk (Kd.V_below (Kd.V_elderB (vz HO0) gb179 (Nat.le_of_eq hg.symm)) hb); replace HO2 := Aside0.mk (Kd.V_below (Kd.V_elderB (vz HO2) gb179 (Nat.le_of_eq hg.symm)) hb); replace HB := bs hb; clear hb hbox hg) | ((with_reducible refine gate_callee (f := 141) rfl ?_); refine gL 19 Tryz.func141 #[.slice A0 l0.length c0] ?_; (with_reducible refine (real_nat_bits.calls k _ _ l0 t180 _ ?side1 ?side2 A7.out).mono ?_); (case side1 => exact ccz (Kd.V_reads' HO0.out).2.2); (case side2 => exact (Kd.V_reads' HO0.out).2.1); rintro e w' ⟨rfl, ⟨nd, rfl⟩⟩; refine ⟨_, rfl, ?_⟩) | ((with_reducible refine gate_callee (f := 141) rfl ?_); refine gL 21 Tryz.func141 #[.slice A2 l2.length c2] ?_; (with_reducible refine (real_nat_bits.calls k _ _ l2 t181 _ ?side1 ?side2 A8.out).mono ?_); (case side1 => exact ccz (Kd.V_reads' HO2.out).2.2); (case side2 => exact (Kd.V_reads' HO2.out).2.1); rintro e w' ⟨rfl, ⟨nd, rfl⟩⟩; refine ⟨_, rfl, ?_⟩))
  go_loopg [7] k (fun kq v7 w' => ∃ (x7_1 : Int) (x180000_1 : Int) (x180001_1 : Int), v7 = .int .i64 x7_1 ∧ Aside0 (real_rounded.l0 kq l0 a1 l2 x7_1 = some (r1, r2)) ∧ Aside0 (kq ≤ k) ∧ Aside0 (Kd.V (Kd.int .u32) 115 w' w.heap.size (fun k_ => ((P0_ k_ ∨ P2_ k_) ∨ w.heap.size ≤ k_) ∧ k_ ≠ gb179) (.slice A0 l0.length c0) l0) ∧ Aside0 (Kd.V (Kd.int .u32) 115 w' w.heap.size (fun k_ => ((P0_ k_ ∨ P2_ k_) ∨ w.heap.size ≤ k_) ∧ k_ ≠ gb179) (.slice A2 l2.length c2) l2) ∧ Aside0 (w'.heap[gb179]? = some (.cells #[.int .i64 x180000_1, .int .i64 x180001_1] 23 (0, 0))) ∧ Aside0 (Below w.heap.size w w'))
  case atStart => exact ⟨(ji9), (0), (0), (by first | rfl | (simp; done) | (simp only [← hji9] <;> (first | rfl | simp)) | (simp [*]; done)), H', ⟨Nat.le_refl _⟩, ⟨vz HO0⟩, ⟨vz HO2⟩, ⟨kz BK179⟩, ⟨bz⟩⟩
  case round =>
   clear H'
   try clear c2
   try clear c4
   try clear c4b0
   try clear c4b1
   try clear c4b2
   try clear hcz6_0
   try clear hcz6_1
   try clear hfz6_0
   try clear hfz6_1
   obtain ⟨x7_1, x180000_1, x180001_1, rfl, HA, HK1, HO_0, HO_2, BK179, HB⟩ := hrel
   cases gk with
   | zero => exact absurd HA.out (by simp [real_rounded.l0])
   | succ k1 =>
    have H := HA.out
    clear HA
    simp only [real_rounded.l0] at H
    have HC11 := Aside0.mk H
    clear H
    go_upto_if 32 with (fail)
    go_cut [8, 9] (fun v8 v9 wc => ∃ (kq : Nat) (x8_10 : List Int) (x9_10 : List Int), Aside0 (real_rounded.j1 kq l0 a1 l2 x7_1 x8_10 x9_10 = some (r1, r2)) ∧ Aside0 (kq ≤ k1) ∧ Aside0 (Kd.V (Kd.int .u32) 115 wc w.heap.size (fun k_ => ((P0_ k_ ∨ P2_ k_) ∨ w.heap.size ≤ k_) ∧ k_ ≠ gb179) (.slice A0 l0.length c0) l0) ∧ Aside0 (Kd.V (Kd.int .u32) 115 wc w.heap.size (fun k_ => ((P0_ k_ ∨ P2_ k_) ∨ w.heap.size ≤ k_) ∧ k_ ≠ gb179) (.slice A2 l2.length c2) l2) ∧ Aside0 (Kd.V (Kd.int .u32) 115 wc w.heap.size (fun k_ => ((P0_ k_ ∨ P2_ k_) ∨ w.heap.size ≤ k_) ∧ k_ ≠ gb179) v8 x8_10) ∧ Aside0 (Kd.V (Kd.int .u32) 115 wc w.heap.size (fun k_ => ((P0_ k_ ∨ P2_ k_) ∨ w.heap.size ≤ k_) ∧ k_ ≠ gb179) v9 x9_10) ∧ Aside0 (wc.heap[gb179]? = some (.cells #[.int .i64 x180000_1, .int .i64 x180001_1] 23 (0, 0))) ∧ Aside0 (Below w.heap.size w wc))
    case first => as_aux_lemma =>
     have H := HC11.out
     clear HC11
     by_cases c12 : a1 ≥ x7_1
     ·rw [if_pos c12] at H
      have c12b0 : decide (x7_1 ≤ a1) = true := decide_eq_true c12
      clear c12
      (first | rw [c12b0] | (simp only [i64_w, i32_w]; rw [c12b0]) | skip)
      replace H := Option.bind_eq_some_iff.mp H
      obtain ⟨t182, A130, H⟩ := H
      try dsimp only at H
      have A13 := Aside0.mk A130
      clear A130
      have H' := Aside0.mk H
      clear H
      go_wp2_with (first | ((with_reducible refine gate_callee (f := 126) rfl ?_); refine gL 37 Tryz.func126 #[.slice A0 l0.length c0, .int .i64 (wrap64 (a1 - x7_1))] ?_; (with_reducible refine (real_nat_shl.calls k1 _ _ l0 (wrap64 (a1 - x7_1)) t182 _ ?side1 ?side2 A13.out).mono ?_); (case side1 => exact ccz (Kd.V_reads' HO_0.out).2.2); (case side2 => exact (Kd.V_reads' HO_0.out).2.1); rintro e w14 ⟨v183, rfl, ho0, hb⟩; refine ⟨_, rfl, ?_⟩; have HO184 := Aside0.mk (Kd.V_lower (Kd.V_mono (ok' := fun k_ => ((P0_ k_ ∨ P2_ k_) ∨ w.heap.size ≤ k_) ∧ k_ ≠ gb179) ho0 (fun k_ hk_ => ⟨(.inr (Nat.le_trans (below_size bz) hk_)), (fb BK179 k_ hk_)⟩)) (below_size bz)); replace HO_0 := vb HO_0 hb; replace HO_2 := vb HO_2 hb; replace BK179 := kb BK179 hb; replace HB := bs hb; (try clear hb); (try clear hk); (try clear ho0)))
      go_meet
      case rel => exact ⟨_, (t182), (l2), H', ⟨by have := HK1.out; first | omega | exact Nat.le_refl _⟩, ⟨vz HO_0⟩, ⟨vz HO_2⟩, ⟨vz HO184⟩, ⟨vz HO_2⟩, ⟨kz BK179⟩, ⟨bz⟩⟩
     ·rw [if_neg c12] at H
      have c12b0 : decide (x7_1 ≤ a1) = false := decide_eq_false c12
      clear c12
      (first | rw [c12b0] | (simp only [i64_w, i32_w]; rw [c12b0]) | skip)
      replace H := Option.bind_eq_some_iff.mp H
      obtain ⟨t185, A150, H⟩ := H
      try dsimp only at H
      have A15 := Aside0.mk A150
      clear A150
      have H' := Aside0.mk H
      clear H
      go_wp2_with (first | ((with_reducible refine gate_callee (f := 126) rfl ?_); refine gL 42 Tryz.func126 #[.slice A2 l2.length c2, .int .i64 (wrap64 (x7_1 - a1))] ?_; (with_reducible refine (real_nat_shl.calls k1 _ _ l2 (wrap64 (x7_1 - a1)) t185 _ ?side1 ?side2 A15.out).mono ?_); (case side1 => exact ccz (Kd.V_reads' HO_2.out).2.2); (case side2 => exact (Kd.V_reads' HO_2.out).2.1); rintro e w16 ⟨v186, rfl, ho0, hb⟩; refine ⟨_, rfl, ?_⟩; have HO187 := Aside0.mk (Kd.V_lower (Kd.V_mono (ok' := fun k_ => ((P0_ k_ ∨ P2_ k_) ∨ w.heap.size ≤ k_) ∧ k_ ≠ gb179) ho0 (fun k_ hk_ => ⟨(.inr (Nat.le_trans (below_size bz) hk_)), (fb BK179 k_ hk_)⟩)) (below_size bz)); replace HO_0 := vb HO_0 hb; replace HO_2 := vb HO_2 hb; replace BK179 := kb BK179 hb; replace HB := bs hb; (try clear hb); (try clear hk); (try clear ho0)))
      go_meet
      case rel => exact ⟨_, (l0), (t185), H', ⟨by have := HK1.out; first | omega | exact Nat.le_refl _⟩, ⟨vz HO_0⟩, ⟨vz HO_2⟩, ⟨vz HO_0⟩, ⟨vz HO187⟩, ⟨kz BK179⟩, ⟨bz⟩⟩
    case rest => as_aux_lemma =>
     clear HC11
     try clear c2
     try clear c4
     try clear c4b0
     try clear c4b1
     try clear c4b2
     try clear c12
     try clear c12b0
     try clear hcz6_0
     try clear hcz6_1
     try clear hfz6_0
     try clear hfz6_1
     obtain ⟨kq, x8_10, x9_10, HA, HJ10, HO_0, HO_2, HO_8, HO_9, BK179, HB⟩ := hcut
     cases kq with
     | zero => exact absurd HA.out (by simp [real_rounded.j1])
     | succ kj10 =>
      have H := HA.out
      clear HA
      simp only [real_rounded.j1] at H
      replace H := Option.bind_eq_some_iff.mp H
      obtain ⟨⟨t188, t191⟩, A170, H⟩ := H
      try dsimp only at H
      have A17 := Aside0.mk A170
      clear A170
      replace H := Option.bind_eq_some_iff.mp H
      obtain ⟨t194, A180, H⟩ := H
      try dsimp only at H
      have A18 := Aside0.mk A180
      clear A180
      by_cases c19 : t194 > 24
      ·rw [if_pos c19] at H
       have c19b0 : decide (24 < t194) = true := decide_eq_true c19
       clear c19
       have H' := Aside0.mk H
       clear H
       obtain ⟨Ao20, co20, eo20⟩ := Kd.V_slice HO_8.out
       subst eo20
       obtain ⟨Ao21, co21, eo21⟩ := Kd.V_slice HO_9.out
       subst eo21
       go_wp2_with (first | ((with_reducible refine gate_callee (f := 124) rfl ?_); refine gL 46 Tryz.func124 #[.slice Ao20 x8_10.length co20, .slice Ao21 x9_10.length co21] ?_; (with_reducible refine (real_nat_div.calls kj10 _ _ x8_10 _ _ x9_10 t188 t191 _ ?side1 ?side2 ?side3 ?side4 A17.out).mono ?_); (case side1 => exact ccz (Kd.V_reads' HO_8.out).2.2); (case side2 => exact (Kd.V_reads' HO_8.out).2.1); (case side3 => exact ccz (Kd.V_reads' HO_9.out).2.2); (case side4 => exact (Kd.V_reads' HO_9.out).2.1); rintro e w22 ⟨v189, v192, rfl, ho0, ho1, hb⟩; refine ⟨_, rfl, ?_⟩; have HO190 := Aside0.mk (Kd.V_lower (Kd.V_mono (ok' := fun k_ => ((P0_ k_ ∨ P2_ k_) ∨ w.heap.size ≤ k_) ∧ k_ ≠ gb179) ho0 (fun k_ hk_ => ⟨(.inr (Nat.le_trans (below_size bz) hk_)), (fb BK179 k_ hk_)⟩)) (below_size bz)); have HO193 := Aside0.mk (Kd.V_lower (Kd.V_mono (ok' := fun k_ => ((P0_ k_ ∨ P2_ k_) ∨ w.heap.size ≤ k_) ∧ k_ ≠ gb179) ho1 (fun k_ hk_ => ⟨(.inr (Nat.le_trans (below_size bz) hk_)), (fb BK179 k_ hk_)⟩)) (below_size bz)); replace HO_0 := vb HO_0 hb; replace HO_2 := vb HO_2 hb; replace HO_8 := vb HO_8 hb; replace HO_9 := vb HO_9 hb; replace BK179 := kb BK179 hb; replace HB := bs hb; (try clear hb); (try clear hk); (try clear ho0); (try clear ho1); obtain ⟨Ao23, co23, eo23⟩ := Kd.V_slice HO190.out; subst eo23) | ((with_reducible refine gate_callee (f := 141) rfl ?_); refine gL 50 Tryz.func141 #[.slice Ao23 t188.length co23] ?_; (with_reducible refine (real_nat_bits.calls kj10 _ _ t188 t194 _ ?side1 ?side2 A18.out).mono ?_); (case side1 => exact ccz (Kd.V_reads' HO190.out).2.2); (case side2 => exact (Kd.V_reads' HO190.out).2.1); rintro e w' ⟨rfl, ⟨nd, rfl⟩⟩; refine ⟨_, rfl, ?_⟩))
       go_roundg kj10
       case measure => have := HK1.out; have := HJ10.out; omega
       case rel => exact ⟨(wrap64 (x7_1 + 1)), (x180000_1), (x180001_1), (by first | rfl | (simp; done) | (simp [*]; done)), H', ⟨by have := HK1.out; have := HJ10.out; omega⟩, ⟨vz HO_0⟩, ⟨vz HO_2⟩, ⟨kz BK179⟩, ⟨bz⟩⟩
      ·rw [if_neg c19] at H
       have c19b0 : decide (24 < t194) = false := decide_eq_false c19
       clear c19
       replace H := Option.bind_eq_some_iff.mp H
       obtain ⟨t195, A240, H⟩ := H
       try dsimp only at H
       have A24 := Aside0.mk A240
       clear A240
       replace H := Option.bind_eq_some_iff.mp H
       obtain ⟨t196, A250, H⟩ := H
       try dsimp only at H
       have A25 := Aside0.mk A250
       clear A250
       replace H := Option.bind_eq_some_iff.mp H
       obtain ⟨t199, A260, H⟩ := H
       try dsimp only at H
       have A26 := Aside0.mk A260
       clear A260
       have HC27 := Aside0.mk H
       clear H
       obtain ⟨Ao28, co28, eo28⟩ := Kd.V_slice HO_8.out
       subst eo28
       obtain ⟨Ao29, co29, eo29⟩ := Kd.V_slice HO_9.out
       subst eo29
       go_upto_region 13 with (first | ((with_reducible refine gate_callee (f := 124) rfl ?_); refine gL 46 Tryz.func124 #[.slice Ao28 x8_10.length co28, .slice Ao29 x9_10.length co29] ?_; (with_reducible refine (real_nat_div.calls kj10 _ _ x8_10 _ _ x9_10 t188 t191 _ ?side1 ?side2 ?side3 ?side4 A17.out).mono ?_); (case side1 => exact ccz (Kd.V_reads' HO_8.out).2.2); (case side2 => exact (Kd.V_reads' HO_8.out).2.1); (case side3 => exact ccz (Kd.V_reads' HO_9.out).2.2); (case side4 => exact (Kd.V_reads' HO_9.out).2.1); rintro e w30 ⟨v189, v192, rfl, ho0, ho1, hb⟩; refine ⟨_, rfl, ?_⟩; have HO190 := Aside0.mk (Kd.V_lower (Kd.V_mono (ok' := fun k_ => ((P0_ k_ ∨ P2_ k_) ∨ w.heap.size ≤ k_) ∧ k_ ≠ gb179) ho0 (fun k_ hk_ => ⟨(.inr (Nat.le_trans (below_size bz) hk_)), (fb BK179 k_ hk_)⟩)) (below_size bz)); have HO193 := Aside0.mk (Kd.V_lower (Kd.V_mono (ok' := fun k_ => ((P0_ k_ ∨ P2_ k_) ∨ w.heap.size ≤ k_) ∧ k_ ≠ gb179) ho1 (fun k_ hk_ => ⟨(.inr (Nat.le_trans (below_size bz) hk_)), (fb BK179 k_ hk_)⟩)) (below_size bz)); replace HO_0 := vb HO_0 hb; replace HO_2 := vb HO_2 hb; replace HO_8 := vb HO_8 hb; replace HO_9 := vb HO_9 hb; replace BK179 := kb BK179 hb; replace HB := bs hb; (try clear hb); (try clear hk); (try clear ho0); (try clear ho1); obtain ⟨Ao31, co31, eo31⟩ := Kd.V_slice HO190.out; subst eo31) | ((with_reducible refine gate_callee (f := 141) rfl ?_); refine gL 50 Tryz.func141 #[.slice Ao31 t188.length co31] ?_; (with_reducible refine (real_nat_bits.calls kj10 _ _ t188 t194 _ ?side1 ?side2 A18.out).mono ?_); (case side1 => exact ccz (Kd.V_reads' HO190.out).2.2); (case side2 => exact (Kd.V_reads' HO190.out).2.1); rintro e w' ⟨rfl, ⟨nd, rfl⟩⟩; refine ⟨_, rfl, ?_⟩) | ((with_reducible refine gate_callee (f := 127) rfl ?_); refine gL 55 Tryz.func127 #[.slice Ao31 t188.length co31] ?_; (with_reducible refine (real_nat_small.calls kj10 _ _ t188 t195 _ ?side1 ?side2 A24.out).mono ?_); (case side1 => exact ccz (Kd.V_reads' HO190.out).2.2); (case side2 => exact (Kd.V_reads' HO190.out).2.1); rintro e w' ⟨rfl, ⟨nd, rfl⟩⟩; refine ⟨_, rfl, ?_⟩; obtain ⟨Ao32, co32, eo32⟩ := Kd.V_slice HO193.out; subst eo32) | ((with_reducible refine gate_callee (f := 126) rfl ?_); refine gL 58 Tryz.func126 #[.slice Ao32 t191.length co32, .int .i64 1] ?_; (with_reducible refine (real_nat_shl.calls kj10 _ _ t191 1 t196 _ ?side1 ?side2 A25.out).mono ?_); (case side1 => exact ccz (Kd.V_reads' HO193.out).2.2); (case side2 => exact (Kd.V_reads' HO193.out).2.1); rintro e w33 ⟨v197, rfl, ho0, hb⟩; refine ⟨_, rfl, ?_⟩; have HO198 := Aside0.mk (Kd.V_lower (Kd.V_mono (ok' := fun k_ => ((P0_ k_ ∨ P2_ k_) ∨ w.heap.size ≤ k_) ∧ k_ ≠ gb179) ho0 (fun k_ hk_ => ⟨(.inr (Nat.le_trans (below_size bz) hk_)), (fb BK179 k_ hk_)⟩)) (below_size bz)); replace HO_0 := vb HO_0 hb; replace HO_2 := vb HO_2 hb; replace HO_8 := vb HO_8 hb; replace HO_9 := vb HO_9 hb; replace HO190 := vb HO190 hb; replace HO193 := vb HO193 hb; replace BK179 := kb BK179 hb; replace HB := bs hb; (try clear hb); (try clear hk); (try clear ho0); obtain ⟨Ao34, co34, eo34⟩ := Kd.V_slice HO198.out; subst eo34) | ((with_reducible refine gate_callee (f := 123) rfl ?_); refine gL 60 Tryz.func123 #[.slice Ao34 t196.length co34, .slice Ao29 x9_10.length co29] ?_; (with_reducible refine (real_nat_cmp.calls kj10 _ _ t196 _ _ x9_10 t199 _ ?side1 ?side2 ?side3 ?side4 A26.out).mono ?_); (case side1 => exact ccz (Kd.V_reads' HO198.out).2.2); (case side2 => exact (Kd.V_reads' HO198.out).2.1); (case side3 => exact ccz (Kd.V_reads' HO_9.out).2.2); (case side4 => exact (Kd.V_reads' HO_9.out).2.1); rintro e w' ⟨rfl, ⟨nd, rfl⟩⟩; refine ⟨_, rfl, ?_⟩))
       (try simp only [Act.put, List.setIfInBounds_toArray, List.set_cons_zero, List.set_cons_succ])
       go_cut [71] (fun v71 wc => ∃ (kq : Nat) (x71_26 : Bool), v71 = .bool x71_26 ∧ Aside0 (real_rounded.j2 kq x7_1 (wrap64 (t195)) x71_26 = some (r1, r2)) ∧ Aside0 (kq ≤ kj10) ∧ Aside0 (wc.heap[gb179]? = some (.cells #[.int .i64 x180000_1, .int .i64 x180001_1] 23 (0, 0))) ∧ Aside0 (Below w.heap.size w wc))
       case first => as_aux_lemma =>
        have H := HC27.out
        clear HC27
        by_cases c35 : t199 > 0
        ·rw [if_pos c35] at H
         have c35b0 : decide (0 < t199) = true := decide_eq_true c35
         clear c35
         (first | rw [c35b0] | (simp only [i64_w, i32_w]; rw [c35b0]) | skip)
         have H' := Aside0.mk H
         clear H
         go_wp2
         go_meet
         case rel => exact ⟨_, (true), (by first | rfl | (simp; done) | (simp [*]; done)), H', ⟨by have := HK1.out; have := HJ10.out; first | omega | exact Nat.le_refl _⟩, ⟨kz BK179⟩, ⟨bz⟩⟩
        ·rw [if_neg c35] at H
         have c35b0 : decide (0 < t199) = false := decide_eq_false c35
         clear c35
         (first | rw [c35b0] | (simp only [i64_w, i32_w]; rw [c35b0]) | skip)
         by_cases c36 : t199 = 0
         ·rw [if_pos c36] at H
          have c36b0 : (t199 == 0) = true := beq_iff_eq.mpr c36
          have c36b1 : (t199 != 0) = false := bne_eq_false_iff_eq.mpr c36
          clear c36
          have H' := Aside0.mk H
          clear H
          go_wp2
          go_meet
          case rel => exact ⟨_, (((Int.tmod (wrap64 (t195)) 2) == 1)), (by first | rfl | (simp; done) | (simp [*]; done)), H', ⟨by have := HK1.out; have := HJ10.out; first | omega | exact Nat.le_refl _⟩, ⟨kz BK179⟩, ⟨bz⟩⟩
         ·rw [if_neg c36] at H
          have c36b0 : (t199 == 0) = false := beq_eq_false_iff_ne.mpr c36
          have c36b1 : (t199 != 0) = true := bne_iff_ne.mpr c36
          have H' := Aside0.mk H
          clear H
          go_wp2
          go_meet
          case rel => exact ⟨_, (false), (by first | rfl | (simp; done) | (simp [*]; done)), H', ⟨by have := HK1.out; have := HJ10.out; first | omega | exact Nat.le_refl _⟩, ⟨kz BK179⟩, ⟨bz⟩⟩
       case rest => as_aux_lemma =>
        clear HC27
        try clear c2
        try clear c4
        try clear c4b0
        try clear c4b1
        try clear c4b2
        try clear c12
        try clear c12b0
        try clear c19
        try clear c19b0
        try clear c35
        try clear c35b0
        try clear c36
        try clear c36b0
        try clear c36b1
        try clear hcz6_0
        try clear hcz6_1
        try clear hfz6_0
        try clear hfz6_1
        obtain ⟨kq, x71_26, rfl, HA, HJ26, BK179, HB⟩ := hcut
        cases kq with
        | zero => exact absurd HA.out (by simp [real_rounded.j2])
        | succ kj26 =>
         have H := HA.out
         clear HA
         simp only [real_rounded.j2] at H
         have HC37 := Aside0.mk H
         clear H
         go_upto_if 71 with (fail)
         go_cut [12] (fun v12 wc => ∃ (kq : Nat) (x12_36 : Int), v12 = .int .i64 x12_36 ∧ Aside0 (real_rounded.j3 kq x7_1 x12_36 = some (r1, r2)) ∧ Aside0 (kq ≤ kj26) ∧ Aside0 (wc.heap[gb179]? = some (.cells #[.int .i64 x180000_1, .int .i64 x180001_1] 23 (0, 0))) ∧ Aside0 (Below w.heap.size w wc))
         case first => as_aux_lemma =>
          have H := HC37.out
          clear HC37
          by_cases c38 : x71_26 = true
          ·subst c38
           rw [if_pos rfl] at H
           have H' := Aside0.mk H
           clear H
           go_wp2
           go_meet
           case rel => exact ⟨_, (wrap64 ((wrap64 (t195)) + 1)), (by first | rfl | (simp; done) | (simp [*]; done)), H', ⟨by have := HK1.out; have := HJ10.out; have := HJ26.out; first | omega | exact Nat.le_refl _⟩, ⟨kz BK179⟩, ⟨bz⟩⟩
          ·replace c38 := Bool.eq_false_iff.mpr c38
           subst c38
           rw [if_neg (show ¬ (false = true) by decide)] at H
           have H' := Aside0.mk H
           clear H
           go_wp2
           go_meet
           case rel => exact ⟨_, ((wrap64 (t195))), (by first | rfl | (simp; done) | (simp [*]; done)), H', ⟨by have := HK1.out; have := HJ10.out; have := HJ26.out; first | omega | exact Nat.le_refl _⟩, ⟨kz BK179⟩, ⟨bz⟩⟩
         case rest => as_aux_lemma =>
          clear HC37
          try clear c2
          try clear c4
          try clear c4b0
          try clear c4b1
          try clear c4b2
          try clear c12
          try clear c12b0
          try clear c19
          try clear c19b0
          try clear c35
          try clear c35b0
          try clear c36
          try clear c36b0
          try clear c36b1
          try clear c38
          try clear hcz6_0
          try clear hcz6_1
          try clear hfz6_0
          try clear hfz6_1
          obtain ⟨kq, x12_36, rfl, HA, HJ36, BK179, HB⟩ := hcut
          cases kq with
          | zero => exact absurd HA.out (by simp [real_rounded.j3])
          | succ kj36 =>
           have H := HA.out
           clear HA
           simp only [real_rounded.j3] at H
           have HC39 := Aside0.mk H
           clear H
           go_upto_if 75 with (fail)
           go_cut [7, 12] (fun v7 v12 wc => ∃ (kq : Nat) (x7_38 : Int) (x12_38 : Int), v7 = .int .i64 x7_38 ∧ v12 = .int .i64 x12_38 ∧ Aside0 (real_rounded.j4 kq x7_38 x12_38 = some (r1, r2)) ∧ Aside0 (kq ≤ kj36) ∧ Aside0 (wc.heap[gb179]? = some (.cells #[.int .i64 x180000_1, .int .i64 x180001_1] 23 (0, 0))) ∧ Aside0 (Below w.heap.size w wc))
           case first => as_aux_lemma =>
            have H := HC39.out
            clear HC39
            by_cases c40 : x12_36 = 16777216
            ·rw [if_pos c40] at H
             have c40b0 : (x12_36 == 16777216) = true := beq_iff_eq.mpr c40
             have c40b1 : (x12_36 != 16777216) = false := bne_eq_false_iff_eq.mpr c40
             clear c40
             (first | rw [c40b0] | (simp only [i64_w, i32_w]; rw [c40b0]) | skip)
             have H' := Aside0.mk H
             clear H
             go_wp2
             go_meet
             case rel => exact ⟨_, (wrap64 (x7_1 + 1)), (8388608), (by first | rfl | (simp; done) | (simp [*]; done)), (by first | rfl | (simp; done) | (simp [*]; done)), H', ⟨by have := HK1.out; have := HJ10.out; have := HJ26.out; have := HJ36.out; first | omega | exact Nat.le_refl _⟩, ⟨kz BK179⟩, ⟨bz⟩⟩
            ·rw [if_neg c40] at H
             have c40b0 : (x12_36 == 16777216) = false := beq_eq_false_iff_ne.mpr c40
             have c40b1 : (x12_36 != 16777216) = true := bne_iff_ne.mpr c40
             (first | rw [c40b0] | (simp only [i64_w, i32_w]; rw [c40b0]) | skip)
             have H' := Aside0.mk H
             clear H
             go_wp2
             go_meet
             case rel => exact ⟨_, (x7_1), (x12_36), (by first | rfl | (simp; done) | (simp [*]; done)), (by first | rfl | (simp; done) | (simp [*]; done)), H', ⟨by have := HK1.out; have := HJ10.out; have := HJ26.out; have := HJ36.out; first | omega | exact Nat.le_refl _⟩, ⟨kz BK179⟩, ⟨bz⟩⟩
           case rest => as_aux_lemma =>
            clear HC39
            try clear c2
            try clear c4
            try clear c4b0
            try clear c4b1
            try clear c4b2
            try clear c12
            try clear c12b0
            try clear c19
            try clear c19b0
            try clear c35
            try clear c35b0
            try clear c36
            try clear c36b0
            try clear c36b1
            try clear c38
            try clear c40
            try clear c40b0
            try clear c40b1
            try clear hcz6_0
            try clear hcz6_1
            try clear hfz6_0
            try clear hfz6_1
            obtain ⟨kq, x7_38, x12_38, rfl, rfl, HA, HJ38, BK179, HB⟩ := hcut
            cases kq with
            | zero => exact absurd HA.out (by simp [real_rounded.j4])
            | succ kj38 =>
             have H := HA.out
             clear HA
             simp only [real_rounded.j4] at H
             by_cases c41 : x7_38 > 150
             ·rw [if_pos c41] at H
              have c41b0 : decide (150 < x7_38) = true := decide_eq_true c41
              clear c41
              simp only [Option.some.injEq, Prod.mk.injEq] at H
              obtain ⟨rfl, rfl⟩ := H
              have hcz42_0 := c20 BK179
              have hcz42_1 := c21 BK179
              have hfz42_0 := blk_frozen BK179.out 0
              have hfz42_1 := blk_frozen BK179.out 1
              go_wp2
              rw [panics77]
              exact And.intro rfl (And.intro rfl bz)
             ·rw [if_neg c41] at H
              have c41b0 : decide (150 < x7_38) = false := decide_eq_false c41
              clear c41
              by_cases c43 : x12_38 = 0
              ·rw [if_pos c43] at H
               have c43b0 : (x12_38 == 0) = true := beq_iff_eq.mpr c43
               have c43b1 : (x12_38 != 0) = false := bne_eq_false_iff_eq.mpr c43
               clear c43
               simp only [Option.some.injEq, Prod.mk.injEq] at H
               obtain ⟨rfl, rfl⟩ := H
               have hcz44_0 := c20 BK179
               have hcz44_1 := c21 BK179
               have hfz44_0 := blk_frozen BK179.out 0
               have hfz44_1 := blk_frozen BK179.out 1
               go_wp2
               refine bodyPost_ret (results_cell_row rfl _ _ gb179 23 #[.int .i64 0, .int .i64 0] (0, 0) _ rfl (by (with_reducible repeat (first | refine blk_drewN ?_ _ | refine blk_drew ?_ | refine blk_alloc ?_ _)); refine blk_put (cs := #[.int .i64 0, .int .i64 x180001_1]) ?_ 1 _ rfl; (with_reducible repeat (first | refine blk_drewN ?_ _ | refine blk_drew ?_ | refine blk_alloc ?_ _)); refine blk_put (cs := #[.int .i64 x180000_1, .int .i64 x180001_1]) ?_ 0 _ rfl; (with_reducible repeat (first | refine blk_drewN ?_ _ | refine blk_drew ?_ | refine blk_alloc ?_ _)); exact BK179.out) Tryz.underlying23 rfl (by kernel_rfl)) rfl ?_
               exact ⟨by first | rfl | exact ending_le (by assumption) | (simp [errW_none, errW_some] <;> rfl) | (simp only [← hji9]; first | rfl | (simp [errW_none, errW_some] <;> rfl)) | (simp [*, errW_none, errW_some] <;> rfl), bz⟩
              ·rw [if_neg c43] at H
               have c43b0 : (x12_38 == 0) = false := beq_eq_false_iff_ne.mpr c43
               have c43b1 : (x12_38 != 0) = true := bne_iff_ne.mpr c43
               simp only [Option.some.injEq, Prod.mk.injEq] at H
               obtain ⟨rfl, rfl⟩ := H
               have hcz45_0 := c20 BK179
               have hcz45_1 := c21 BK179
               have hfz45_0 := blk_frozen BK179.out 0
               have hfz45_1 := blk_frozen BK179.out 1
               go_wp2
               refine bodyPost_ret (results_cell_row rfl _ _ gb179 23 #[.int .i64 x12_38, .int .i64 x7_38] (0, 0) _ rfl (by (with_reducible repeat (first | refine blk_drewN ?_ _ | refine blk_drew ?_ | refine blk_alloc ?_ _)); refine blk_put (cs := #[.int .i64 x12_38, .int .i64 x180001_1]) ?_ 1 _ rfl; (with_reducible repeat (first | refine blk_drewN ?_ _ | refine blk_drew ?_ | refine blk_alloc ?_ _)); refine blk_put (cs := #[.int .i64 x180000_1, .int .i64 x180001_1]) ?_ 0 _ rfl; (with_reducible repeat (first | refine blk_drewN ?_ _ | refine blk_drew ?_ | refine blk_alloc ?_ _)); exact BK179.out) Tryz.underlying23 rfl (by kernel_rfl)) rfl ?_
               exact ⟨by first | rfl | exact ending_le (by assumption) | (simp [errW_none, errW_some] <;> rfl) | (simp only [← hji9]; first | rfl | (simp [errW_none, errW_some] <;> rfl)) | (simp [*, errW_none, errW_some] <;> rfl), bz⟩

end Go.Proofs.YteigbokklclmbaaGreatDoor.Z
end
section
namespace Go.Proofs.YteigbokklclmbaaGreatDoor.Z
open Go.RowKit Go.Proofs.YteigbokklclmbaaGreatDoor.Given Go.Proofs.YteigbokklclmbaaGreatDoorW.PrintWords Go.Proofs.YteigbokklclmbaaGreatDoorW.PrintLast Go.Proofs.YteigbokklclmbaaGreatDoorW.PrintMore
attribute [local go_sem] max2_int min2_int max_two min_two max_three min_three max_four min_four

def real_product.T1 : Bool × List (List Nat × List Nat) := (true, [([], []), ([0], [0]), ([1], [1]), ([], []), ([3], [3]), ([4], [4]), ([2, 5], [2, 5]), ([], []), ([7], [7]), ([8], [8]), ([], []), ([10], [10]), ([11, 9], [11]), ([9, 12, 12], [9, 12]), ([], []), ([14], [14]), ([], []), ([16], [16]), ([15, 17], [15, 17]), ([], []), ([13, 18, 19, 13], [13, 18, 19]), ([6, 20, 20], [6, 20]), ([21, 21, 0, 1, 2, 3, 4, 5, 6, 7, 8, 9, 10, 11, 12, 13, 14, 15, 16, 17, 18, 19, 20, 21], [21])])
def real_product.B1 : List Nat := [0, 1, 3, 0, 8, 24, 63, 0, 128, 384, 0, 1024, 3968, 8064, 0, 16384, 0, 65536, 245760, 0, 1048448, 2097151, 4194303]
theorem real_product.tab1 : rtab .any (opsOf Tryz.f96 1) = real_product.T1 := by kernel_rfl
theorem real_product.bits1 : waitsOk real_product.T1.2 real_product.B1 = true := by kernel_rfl
end Go.Proofs.YteigbokklclmbaaGreatDoor.Z
end
section
namespace Go.Proofs.YteigbokklclmbaaGreatDoor.Z
open Go Go.RowKit Go.Proofs.YteigbokklclmbaaGreatDoor.Given Go.Proofs.YteigbokklclmbaaGreatDoorW.PrintWords Go.Proofs.YteigbokklclmbaaGreatDoorW.PrintLast Go.Proofs.YteigbokklclmbaaGreatDoorW.PrintMore
def tRow : Nat → Array Value
  | 0 => #[.int .u32 1, .int .u32 0, .int .u32 0, .int .u32 0, .int .u32 0, .int .u32 0, .int .u32 0, .int .u32 0, .int .u32 0, .int .u32 0]
  | 1 => #[.int .u32 1, .int .u32 10, .int .u32 0, .int .u32 0, .int .u32 0, .int .u32 0, .int .u32 0, .int .u32 0, .int .u32 0, .int .u32 0]
  | 2 => #[.int .u32 1, .int .u32 10, .int .u32 100, .int .u32 0, .int .u32 0, .int .u32 0, .int .u32 0, .int .u32 0, .int .u32 0, .int .u32 0]
  | 3 => #[.int .u32 1, .int .u32 10, .int .u32 100, .int .u32 1000, .int .u32 0, .int .u32 0, .int .u32 0, .int .u32 0, .int .u32 0, .int .u32 0]
  | 4 => #[.int .u32 1, .int .u32 10, .int .u32 100, .int .u32 1000, .int .u32 10000, .int .u32 0, .int .u32 0, .int .u32 0, .int .u32 0, .int .u32 0]
  | 5 => #[.int .u32 1, .int .u32 10, .int .u32 100, .int .u32 1000, .int .u32 10000, .int .u32 100000, .int .u32 0, .int .u32 0, .int .u32 0, .int .u32 0]
  | 6 => #[.int .u32 1, .int .u32 10, .int .u32 100, .int .u32 1000, .int .u32 10000, .int .u32 100000, .int .u32 1000000, .int .u32 0, .int .u32 0, .int .u32 0]
  | 7 => #[.int .u32 1, .int .u32 10, .int .u32 100, .int .u32 1000, .int .u32 10000, .int .u32 100000, .int .u32 1000000, .int .u32 10000000, .int .u32 0, .int .u32 0]
  | 8 => #[.int .u32 1, .int .u32 10, .int .u32 100, .int .u32 1000, .int .u32 10000, .int .u32 100000, .int .u32 1000000, .int .u32 10000000, .int .u32 100000000, .int .u32 0]
  | _ => #[.int .u32 1, .int .u32 10, .int .u32 100, .int .u32 1000, .int .u32 10000, .int .u32 100000, .int .u32 1000000, .int .u32 10000000, .int .u32 100000000, .int .u32 1000000000]
theorem newTens_c (w : World) : Calls Tryz.prog 148 #[] w fun e w' => e = .returned (.agg (tRow 9)) ∧ Below w.heap.size w w' := by
  go_enter Tryz.func148, Tryz.ntmps148
  go_wp2_with fail
  go_loopg [2] 9 (fun kq v2 wr => ∃ k : Nat, kq + k = 10 ∧ 1 ≤ k ∧ v2 = .int .i64 k ∧ Hid (wr.heap[w.heap.size]? = some (.cells #[.int .u32 0, .int .u32 0, .int .u32 0, .int .u32 0, .int .u32 0, .int .u32 0, .int .u32 0, .int .u32 0, .int .u32 0, .int .u32 0] 158 (0, 0)) ∧ wr.heap[w.heap.size + 1]? = some (.cells (tRow (k - 1)) 158 (0, 0)) ∧ Below w.heap.size w wr))
  case atStart => exact ⟨1, rfl, Nat.le_refl _, rfl, ⟨blk_alloc (blk_new _ _) _, by have := blk_new (w.alloc (.cells #[.int .u32 0, .int .u32 0, .int .u32 0, .int .u32 0, .int .u32 0, .int .u32 0, .int .u32 0, .int .u32 0, .int .u32 0, .int .u32 0] 158)) (.cells (tRow 0) 158); rw [World.size_alloc] at this; exact this, ((Below.refl _ w).alloc (Nat.le_refl _) _).alloc (by simp) _⟩⟩
  case round =>
    obtain ⟨k, hk, hk1, rfl, ⟨hz, ht, hB⟩⟩ := hrel
    have hlt0 := blk_lt hz
    have hlt1 := blk_lt ht
    have hne : w.heap.size ≠ w.heap.size + 1 := by omega
    rcases (by omega : k = 1 ∨ k = 2 ∨ k = 3 ∨ k = 4 ∨ k = 5 ∨ k = 6 ∨ k = 7 ∨ k = 8 ∨ k = 9 ∨ k = 10) with h | h | h | h | h | h | h | h | h | h
    · subst h
      have HT := Lib.hid ht
      have HZ := Lib.hid hz
      have c1 : wr.cell? ⟨w.heap.size + 1, 0, none⟩ = some (.int .u32 1) := (blk_cell ht 0).trans rfl
      have c2 : wr.cell? ⟨w.heap.size + 1, 1, none⟩ = some (.int .u32 0) := (blk_cell ht 1).trans rfl
      have f1 := blk_frozen ht 1
      clear ht hz
      go_wp2
      go_roundg (10 - (1 + 1))
      case measure => omega
      case rel => exact ⟨2, by omega, by omega, rfl, ⟨blk_far HZ.out hne _, blk_put HT.out 1 _ rfl, hB.setCell (by simp) _⟩⟩
    · subst h
      have HT := Lib.hid ht
      have HZ := Lib.hid hz
      have c1 : wr.cell? ⟨w.heap.size + 1, 1, none⟩ = some (.int .u32 10) := (blk_cell ht 1).trans rfl
      have c2 : wr.cell? ⟨w.heap.size + 1, 2, none⟩ = some (.int .u32 0) := (blk_cell ht 2).trans rfl
      have f1 := blk_frozen ht 2
      clear ht hz
      go_wp2
      go_roundg (10 - (2 + 1))
      case measure => omega
      case rel => exact ⟨3, by omega, by omega, rfl, ⟨blk_far HZ.out hne _, blk_put HT.out 2 _ rfl, hB.setCell (by simp) _⟩⟩
    · subst h
      have HT := Lib.hid ht
      have HZ := Lib.hid hz
      have c1 : wr.cell? ⟨w.heap.size + 1, 2, none⟩ = some (.int .u32 100) := (blk_cell ht 2).trans rfl
      have c2 : wr.cell? ⟨w.heap.size + 1, 3, none⟩ = some (.int .u32 0) := (blk_cell ht 3).trans rfl
      have f1 := blk_frozen ht 3
      clear ht hz
      go_wp2
      go_roundg (10 - (3 + 1))
      case measure => omega
      case rel => exact ⟨4, by omega, by omega, rfl, ⟨blk_far HZ.out hne _, blk_put HT.out 3 _ rfl, hB.setCell (by simp) _⟩⟩
    · subst h
      have HT := Lib.hid ht
      have HZ := Lib.hid hz
      have c1 : wr.cell? ⟨w.heap.size + 1, 3, none⟩ = some (.int .u32 1000) := (blk_cell ht 3).trans rfl
      have c2 : wr.cell? ⟨w.heap.size + 1, 4, none⟩ = some (.int .u32 0) := (blk_cell ht 4).trans rfl
      have f1 := blk_frozen ht 4
      clear ht hz
      go_wp2
      go_roundg (10 - (4 + 1))
      case measure => omega
      case rel => exact ⟨5, by omega, by omega, rfl, ⟨blk_far HZ.out hne _, blk_put HT.out 4 _ rfl, hB.setCell (by simp) _⟩⟩
    · subst h
      have HT := Lib.hid ht
      have HZ := Lib.hid hz
      have c1 : wr.cell? ⟨w.heap.size + 1, 4, none⟩ = some (.int .u32 10000) := (blk_cell ht 4).trans rfl
      have c2 : wr.cell? ⟨w.heap.size + 1, 5, none⟩ = some (.int .u32 0) := (blk_cell ht 5).trans rfl
      have f1 := blk_frozen ht 5
      clear ht hz
      go_wp2
      go_roundg (10 - (5 + 1))
      case measure => omega
      case rel => exact ⟨6, by omega, by omega, rfl, ⟨blk_far HZ.out hne _, blk_put HT.out 5 _ rfl, hB.setCell (by simp) _⟩⟩
    · subst h
      have HT := Lib.hid ht
      have HZ := Lib.hid hz
      have c1 : wr.cell? ⟨w.heap.size + 1, 5, none⟩ = some (.int .u32 100000) := (blk_cell ht 5).trans rfl
      have c2 : wr.cell? ⟨w.heap.size + 1, 6, none⟩ = some (.int .u32 0) := (blk_cell ht 6).trans rfl
      have f1 := blk_frozen ht 6
      clear ht hz
      go_wp2
      go_roundg (10 - (6 + 1))
      case measure => omega
      case rel => exact ⟨7, by omega, by omega, rfl, ⟨blk_far HZ.out hne _, blk_put HT.out 6 _ rfl, hB.setCell (by simp) _⟩⟩
    · subst h
      have HT := Lib.hid ht
      have HZ := Lib.hid hz
      have c1 : wr.cell? ⟨w.heap.size + 1, 6, none⟩ = some (.int .u32 1000000) := (blk_cell ht 6).trans rfl
      have c2 : wr.cell? ⟨w.heap.size + 1, 7, none⟩ = some (.int .u32 0) := (blk_cell ht 7).trans rfl
      have f1 := blk_frozen ht 7
      clear ht hz
      go_wp2
      go_roundg (10 - (7 + 1))
      case measure => omega
      case rel => exact ⟨8, by omega, by omega, rfl, ⟨blk_far HZ.out hne _, blk_put HT.out 7 _ rfl, hB.setCell (by simp) _⟩⟩
    · subst h
      have HT := Lib.hid ht
      have HZ := Lib.hid hz
      have c1 : wr.cell? ⟨w.heap.size + 1, 7, none⟩ = some (.int .u32 10000000) := (blk_cell ht 7).trans rfl
      have c2 : wr.cell? ⟨w.heap.size + 1, 8, none⟩ = some (.int .u32 0) := (blk_cell ht 8).trans rfl
      have f1 := blk_frozen ht 8
      clear ht hz
      go_wp2
      go_roundg (10 - (8 + 1))
      case measure => omega
      case rel => exact ⟨9, by omega, by omega, rfl, ⟨blk_far HZ.out hne _, blk_put HT.out 8 _ rfl, hB.setCell (by simp) _⟩⟩
    · subst h
      have HT := Lib.hid ht
      have HZ := Lib.hid hz
      have c1 : wr.cell? ⟨w.heap.size + 1, 8, none⟩ = some (.int .u32 100000000) := (blk_cell ht 8).trans rfl
      have c2 : wr.cell? ⟨w.heap.size + 1, 9, none⟩ = some (.int .u32 0) := (blk_cell ht 9).trans rfl
      have f1 := blk_frozen ht 9
      clear ht hz
      go_wp2
      go_roundg (10 - (9 + 1))
      case measure => omega
      case rel => exact ⟨10, by omega, by omega, rfl, ⟨blk_far HZ.out hne _, blk_put HT.out 9 _ rfl, hB.setCell (by simp) _⟩⟩
    · subst h
      have c0 : wr.cell? ⟨w.heap.size + 1, 0, none⟩ = some (.int .u32 1) := (blk_cell ht 0).trans rfl
      have c1 : wr.cell? ⟨w.heap.size + 1, 1, none⟩ = some (.int .u32 10) := (blk_cell ht 1).trans rfl
      have c2 : wr.cell? ⟨w.heap.size + 1, 2, none⟩ = some (.int .u32 100) := (blk_cell ht 2).trans rfl
      have c3 : wr.cell? ⟨w.heap.size + 1, 3, none⟩ = some (.int .u32 1000) := (blk_cell ht 3).trans rfl
      have c4 : wr.cell? ⟨w.heap.size + 1, 4, none⟩ = some (.int .u32 10000) := (blk_cell ht 4).trans rfl
      have c5 : wr.cell? ⟨w.heap.size + 1, 5, none⟩ = some (.int .u32 100000) := (blk_cell ht 5).trans rfl
      have c6 : wr.cell? ⟨w.heap.size + 1, 6, none⟩ = some (.int .u32 1000000) := (blk_cell ht 6).trans rfl
      have c7 : wr.cell? ⟨w.heap.size + 1, 7, none⟩ = some (.int .u32 10000000) := (blk_cell ht 7).trans rfl
      have c8 : wr.cell? ⟨w.heap.size + 1, 8, none⟩ = some (.int .u32 100000000) := (blk_cell ht 8).trans rfl
      have c9 : wr.cell? ⟨w.heap.size + 1, 9, none⟩ = some (.int .u32 1000000000) := (blk_cell ht 9).trans rfl
      have f0 := blk_frozen ht 0
      have f1 := blk_frozen ht 1
      have f2 := blk_frozen ht 2
      have f3 := blk_frozen ht 3
      have f4 := blk_frozen ht 4
      have f5 := blk_frozen ht 5
      have f6 := blk_frozen ht 6
      have f7 := blk_frozen ht 7
      have f8 := blk_frozen ht 8
      have f9 := blk_frozen ht 9
      have z0 : wr.cell? ⟨w.heap.size, 0, none⟩ = some (.int .u32 0) := (blk_cell hz 0).trans rfl
      have z1 : wr.cell? ⟨w.heap.size, 1, none⟩ = some (.int .u32 0) := (blk_cell hz 1).trans rfl
      have z2 : wr.cell? ⟨w.heap.size, 2, none⟩ = some (.int .u32 0) := (blk_cell hz 2).trans rfl
      have z3 : wr.cell? ⟨w.heap.size, 3, none⟩ = some (.int .u32 0) := (blk_cell hz 3).trans rfl
      have z4 : wr.cell? ⟨w.heap.size, 4, none⟩ = some (.int .u32 0) := (blk_cell hz 4).trans rfl
      have z5 : wr.cell? ⟨w.heap.size, 5, none⟩ = some (.int .u32 0) := (blk_cell hz 5).trans rfl
      have z6 : wr.cell? ⟨w.heap.size, 6, none⟩ = some (.int .u32 0) := (blk_cell hz 6).trans rfl
      have z7 : wr.cell? ⟨w.heap.size, 7, none⟩ = some (.int .u32 0) := (blk_cell hz 7).trans rfl
      have z8 : wr.cell? ⟨w.heap.size, 8, none⟩ = some (.int .u32 0) := (blk_cell hz 8).trans rfl
      have z9 : wr.cell? ⟨w.heap.size, 9, none⟩ = some (.int .u32 0) := (blk_cell hz 9).trans rfl
      have g0 := blk_frozen hz 0
      have g1 := blk_frozen hz 1
      have g2 := blk_frozen hz 2
      have g3 := blk_frozen hz 3
      have g4 := blk_frozen hz 4
      have g5 := blk_frozen hz 5
      have g6 := blk_frozen hz 6
      have g7 := blk_frozen hz 7
      have g8 := blk_frozen hz 8
      have g9 := blk_frozen hz 9
      have HZ := Lib.hid hz
      clear ht hz
      go_wp2
      refine bodyPost_ret (results_cell_row rfl _ _ w.heap.size 158 (tRow 9) (0, 0) _ rfl ?_ Tryz.underlying158 rfl (by kernel_rfl)) rfl ?_
      · exact (blk_put (blk_put (blk_put (blk_put (blk_put (blk_put (blk_put (blk_put (blk_put (blk_put HZ.out 0 _ rfl) 1 _ rfl) 2 _ rfl) 3 _ rfl) 4 _ rfl) 5 _ rfl) 6 _ rfl) 7 _ rfl) 8 _ rfl) 9 _ rfl)
      · exact ⟨rfl, ((((((((((hB.setCell (by simp) _).setCell (by simp) _).setCell (by simp) _).setCell (by simp) _).setCell (by simp) _).setCell (by simp) _).setCell (by simp) _).setCell (by simp) _).setCell (by simp) _).setCell (by simp) _)⟩
def real_pow10.l : Nat → Int → List Int → Option (List Int)
  | 0, _, _ => none
  | k + 1, n, out => if n ≥ 10 then ((real_nat_mul.f k out [1000000000]).bind fun t => real_pow10.l k (wrap64 (n - 9)) t) else (if 0 ≤ n then real_nat_mul.f k out [10 ^ n.toNat] else none)
def real_pow10.f (k : Nat) (n : Int) : Option (List Int) := real_pow10.l k n [1]
theorem real_pow10.mono_l : ∀ k n out, LeO (real_pow10.l k n out) (real_pow10.l (k + 1) n out)
  | 0, _, _ => fun r h => by simp [real_pow10.l] at h
  | k + 1, n, out => by
    rw [real_pow10.l, real_pow10.l]
    refine LeO.ite ?_ (LeO.ite ?_ (LeO.refl _))
    · refine LeO.bind ?_ (fun t => real_pow10.mono_l k _ _)
      exact real_nat_mul.mono _ _ _
    · exact real_nat_mul.mono _ _ _
theorem real_pow10.mono : ∀ a0 k, LeO (real_pow10.f k a0) (real_pow10.f (k + 1) a0) := fun a0 k => real_pow10.mono_l k a0 [1]
/-- A row of one 32 bit digit. -/
theorem one_C (w : World) (x : Int) (t : TypeId) : Kd.C (Kd.int .u32) (w.alloc (.cells #[.int .u32 x] t)) (some ⟨w.heap.size, 0, none⟩) 1 [x] := by
  refine Kd.C_of_reads (enc := Value.int .u32) (d := (0 : Int)) (h1 := fun _ => rfl) ⟨rfl, by simp, fun _ => ⟨_, rfl, ?_⟩⟩
  intro j hj
  have hj0 : j = 0 := by simp at hj; omega
  subst hj0
  have h := World.cell?_alloc_new (w := w) #[.int .u32 x] t 0
  rw [show (⟨w.heap.size, 0, none⟩ : Addr).add 0 = ⟨w.heap.size, 0, none⟩ from rfl, h]
  rfl
theorem newTens_l (w : World) : Calls Tryz.prog 148 #[] w fun e w' => e = .returned (.agg #[.int .u32 1, .int .u32 10, .int .u32 100, .int .u32 1000, .int .u32 10000, .int .u32 100000, .int .u32 1000000, .int .u32 10000000, .int .u32 100000000, .int .u32 1000000000]) ∧ Below w.heap.size w w' := newTens_c w
/-- What a walk keeps of the number that it multiplies. -/
def Nat32 (W : World) (v : Value) (l : List Int) : Prop := ∃ A c, v = .slice A l.length c ∧ l.length ≤ c ∧ Kd.C (Kd.int .u32) W A l.length l
theorem Nat32.below {W W1 : World} {v : Value} {l : List Int} (h : Nat32 W v l) (hb : Below W.heap.size W W1) : Nat32 W1 v l := by
  obtain ⟨A, c, h1, h2, h3⟩ := h
  exact ⟨A, c, h1, h2, Kd.C_below h3 hb⟩
theorem nat32_of_V {W : World} {base : Nat} {ok : Nat → Prop} {v : Value} {l : List Int} (h : Kd.V (Kd.int .u32) 115 W base ok v l) : Nat32 W v l := by
  obtain ⟨A, c, rfl⟩ := Kd.V_slice h
  have h' := Kd.V_reads' h
  exact ⟨A, c, rfl, h'.2.1, h'.2.2⟩
theorem real_pow10.calls (k : Nat) (a0 : Int) (r : List Int) (w : World) (h : real_pow10.f k a0 = some r) :
    Calls Tryz.prog 119 #[.int .i64 a0] w fun e w' => ∃ v0_ : Value, e = .returned (v0_) ∧ Kd.V (Kd.int .u32) 115 w' w.heap.size (fun k_ => (w.heap.size ≤ k_)) v0_ r ∧ Below w.heap.size w w' := by
  have H := Lib.hid h
  clear h
  go_enter Tryz.func119, Tryz.ntmps119
  go_wp2_with fail
  refine (newTens_l w).mono ?_
  rintro e w1 ⟨rfl, hb⟩
  have hs1 := hb.size
  have hb' : Below w.heap.size w w1 := hb
  clear hb
  go_wp2_with fail
  go_loopg [0, 4] k (fun kq v0 v4 wr => ∃ (n : Int) (out : List Int), v0 = .int .i64 n ∧ Hid (real_pow10.l kq n out = some r ∧ Nat32 wr v4 out ∧ wr.heap[w1.heap.size]? = some (.cells #[.int .u32 1, .int .u32 10, .int .u32 100, .int .u32 1000, .int .u32 10000, .int .u32 100000, .int .u32 1000000, .int .u32 10000000, .int .u32 100000000, .int .u32 1000000000] 158 (0, 0)) ∧ Below w.heap.size w wr ∧ w1.heap.size < wr.heap.size))
  case atStart =>
    have h1 := one_C (w1.alloc (.cells #[.int .u32 1, .int .u32 10, .int .u32 100, .int .u32 1000, .int .u32 10000, .int .u32 100000, .int .u32 1000000, .int .u32 10000000, .int .u32 100000000, .int .u32 1000000000] 158)) 1 115
    rw [World.size_alloc] at h1
    refine ⟨a0, [1], rfl, ⟨H.out, ⟨_, _, rfl, Nat.le_refl _, h1⟩, blk_alloc (blk_new _ _) _, (hb'.alloc hs1 _).alloc (by simp only [World.size_alloc]; omega) _, by simp only [World.size_alloc]; omega⟩⟩
  case round =>
    obtain ⟨n, out, rfl, ⟨hl, ⟨A, c, rfl, hc, hC⟩, ht, hB, hS⟩⟩ := hrel
    cases gk with
    | zero => exact absurd hl (by simp [real_pow10.l])
    | succ kk =>
      rw [real_pow10.l] at hl
      have hSz := hB.size
      by_cases hn : n ≥ 10
      · rw [if_pos hn] at hl
        obtain ⟨o, ho, hl⟩ := Option.bind_eq_some_iff.mp hl
        have HL := Lib.hid hl
        have HC := Lib.hid hC
        have HT := Lib.hid ht
        have c9 : wr.cell? ⟨w1.heap.size, 9, none⟩ = some (.int .u32 1000000000) := (blk_cell ht 9).trans rfl
        have HM := Lib.hid (fun (W : World) (h1 : Kd.C (Kd.int .u32) W A out.length out) (A1 : Option Addr) (h2 : Kd.C (Kd.int .u32) W A1 1 [1000000000]) => real_nat_mul.calls kk A c out A1 1 [1000000000] o W h1 hc h2 (Nat.le_refl _) ho)
        clear hl hC ht ho
        go_wp2_with fail
        refine (HM.out _ (Kd.C_below HC.out ((Below.refl _ wr).alloc (Nat.le_refl _) _)) _ (one_C _ _ _)).mono ?_
        rintro e w5 ⟨v5, rfl, hV, hb⟩
        have hbq : Below wr.heap.size wr w5 := ((Below.refl _ wr).alloc (Nat.le_refl _) _).trans (hb.mono (by simp))
        have hs5 := hbq.size
        have hN := nat32_of_V hV
        clear hV hb
        go_wp2
        go_roundg kk
        case measure => omega
        case rel => exact ⟨_, o, rfl, ⟨HL.out, hN, blk_below HT.out hbq, hB.trans (hbq.mono hB.size), by omega⟩⟩
      · rw [if_neg hn] at hl
        by_cases h0 : 0 ≤ n
        · rw [if_pos h0] at hl
          have HL := Lib.hid hl
          have HC := Lib.hid hC
          clear hl hC
          obtain ⟨j, rfl⟩ := Int.eq_ofNat_of_zero_le h0
          have hj : j < 10 := by omega
          have cj : wr.cell? ⟨w1.heap.size, j, none⟩ = some (.int .u32 (10 ^ j)) := by
            rw [blk_cell ht j]
            rcases (by omega : j = 0 ∨ j = 1 ∨ j = 2 ∨ j = 3 ∨ j = 4 ∨ j = 5 ∨ j = 6 ∨ j = 7 ∨ j = 8 ∨ j = 9) with h | h | h | h | h | h | h | h | h | h <;> subst h <;> rfl
          have HJ := Lib.hid hj
          have hjt : (j : Int).toNat = j := by omega
          have hji : (j : Int) < 10 := by omega
          have hj0 : (0 : Int) ≤ (j : Int) := by omega
          have HM := Lib.hid (fun (W : World) (h1 : Kd.C (Kd.int .u32) W A out.length out) (A1 : Option Addr) (h2 : Kd.C (Kd.int .u32) W A1 1 [10 ^ j]) => real_nat_mul.calls kk A c out A1 1 [10 ^ j] r W h1 hc h2 (Nat.le_refl _) (by have h := HL.out; rw [hjt] at h; exact h))
          clear ht hn h0 hj
          obtain ⟨p, hp⟩ : ∃ p : Int, (10 : Int) ^ j = p := ⟨_, rfl⟩
          rw [hp] at cj HM
          clear hp
          go_wp2_with fail
          refine (HM.out _ (Kd.C_below HC.out ((Below.refl _ wr).alloc (Nat.le_refl _) _)) _ (one_C _ _ _)).mono ?_
          rintro e w5 ⟨v5, rfl, hV, hb⟩
          have hbq : Below wr.heap.size wr w5 := ((Below.refl _ wr).alloc (Nat.le_refl _) _).trans (hb.mono (by simp))
          go_wp2
          go_ret
          exact ⟨_, rfl, Kd.V_mono hV (fun k_ hk => Nat.le_trans (by simp; omega) hk), hB.trans (hbq.mono hB.size)⟩
        · rw [if_neg h0] at hl
          cases hl
end Go.Proofs.YteigbokklclmbaaGreatDoor.Z
end
section
namespace Go.Proofs.YteigbokklclmbaaGreatDoor.Z
open Go.RowKit Go.Proofs.YteigbokklclmbaaGreatDoor.Given Go.Proofs.YteigbokklclmbaaGreatDoorW.PrintWords Go.Proofs.YteigbokklclmbaaGreatDoorW.PrintLast Go.Proofs.YteigbokklclmbaaGreatDoorW.PrintMore
attribute [local go_sem] max2_int min2_int max_two min_two max_three min_three max_four min_four

def real_decimal.j0 : Nat → List Int → Int → Bool → Option (Int × Int)
 | 0, _, _, _ => none
 | k + 1, x0, x1, x5 => if x5 = true then (some (0, 0)) else (if x1 > 300 then (some (0, 1000)) else (if x1 ≥ 0 then ((real_pow10.f k x1).bind fun t240 => ((real_nat_mul.f k x0 t240).bind fun t243 => ((real_rounded.f k t243 0 (([1] : List Int))).bind fun bt249 => (some (bt249.1, bt249.2))))) else ((real_pow10.f k (wrap64 (-x1))).bind fun t251 => ((real_rounded.f k x0 0 t251).bind fun bt254 => (some (bt254.1, bt254.2))))))
def real_decimal.f (k : Nat) (l0 : List Int) (a1 : Int) : Option (Int × Int) := if (l0.length : Int) = 0 then (real_decimal.j0 k l0 a1 true) else (real_decimal.j0 k l0 a1 (decide (a1 < (-300))))
theorem real_decimal.mono_l : ∀ k, (∀ y0 y1 y2, LeO (real_decimal.j0 k y0 y1 y2) (real_decimal.j0 (k + 1) y0 y1 y2))
 | 0 => fun _ _ _ r h => by simp [real_decimal.j0] at h
 | k + 1 => by
  have ih0 := real_decimal.mono_l k
  ·intro y0 y1 y2
   unfold real_decimal.j0
   repeat' first
   | (with_reducible exact ih0 _ _ _)
   | (with_reducible exact real_nat_mul.mono _ _ _)
   | (with_reducible exact real_pow10.mono _ _)
   | (with_reducible exact real_rounded.mono _ _ _ _)
   | (with_reducible exact LeO.refl _)
   | (with_reducible exact LeO.none _)
   | (with_reducible refine LeO.ite ?_ ?_)
   | (with_reducible refine LeO.bind ?_ (fun _ => ?_))
   | exact ih0 _ _ _
   | exact real_nat_mul.mono _ _ _
   | exact real_pow10.mono _ _
   | exact real_rounded.mono _ _ _ _
   | exact LeO.none _
   | refine LeO.ite ?_ ?_
   | refine LeO.bind ?_ (fun _ => ?_)
theorem real_decimal.mono : ∀ a0 a1 k, LeO (real_decimal.f k a0 a1) (real_decimal.f (k + 1) a0 a1) := by
 intro a0 a1 k
 have ih0 := real_decimal.mono_l k
 unfold real_decimal.f
 repeat' first
   | (with_reducible exact ih0 _ _ _)
   | (with_reducible exact real_nat_mul.mono _ _ _)
   | (with_reducible exact real_pow10.mono _ _)
   | (with_reducible exact real_rounded.mono _ _ _ _)
   | (with_reducible exact LeO.refl _)
   | (with_reducible exact LeO.none _)
   | (with_reducible refine LeO.ite ?_ ?_)
   | (with_reducible refine LeO.bind ?_ (fun _ => ?_))
   | exact ih0 _ _ _
   | exact real_nat_mul.mono _ _ _
   | exact real_pow10.mono _ _
   | exact real_rounded.mono _ _ _ _
   | exact LeO.none _
   | refine LeO.ite ?_ ?_
   | refine LeO.bind ?_ (fun _ => ?_)
theorem real_decimal.calls (k : Nat) (A0 : Option Addr) (c0 : Nat) (l0 : List Int) (a1 : Int) (r1 : Int) (r2 : Int) (w : World) (hr0 : Kd.C (Kd.int .u32) w A0 l0.length l0) (hc0 : l0.length ≤ c0) (h : real_decimal.f k l0 a1 = some (r1, r2)) :
  Calls Tryz.prog 81 #[.slice A0 l0.length c0, .int .i64 a1] w fun e w' => e = ending r1 r2 ∧ Below w.heap.size w w' := by
 have hu23 := Tryz.underlying23
 have HR0 := Aside0.mk hr0
 have HC0 := Aside0.mk hc0
 clear hr0 hc0
 have HB := Aside0.mk (Below.refl w.heap.size w)
 have H := h; unfold real_decimal.f at H; clear h
 have HC3 := Aside0.mk H
 clear H
 go_enter Tryz.func81, Tryz.ntmps81
 go_upto_region 1 with (first | ((with_reducible refine gate_dst (N := 4) rfl ?_); refine bxe 4 #[.int .i64 0, .int .i64 0] 23 ?_; intro gb239 hg w4 hbox hb; have BK239 := Aside0.mk hbox; have GW239 := ge hg; have GE239 := ge hg; replace HB := bs hb; clear hb hbox hg))
 (try simp only [Act.put, List.setIfInBounds_toArray, List.set_cons_zero, List.set_cons_succ])
 go_cut [5] (fun v5 wc => ∃ (kq : Nat) (x5_2 : Bool), v5 = .bool x5_2 ∧ Aside0 (real_decimal.j0 kq l0 a1 x5_2 = some (r1, r2)) ∧ Aside0 (kq ≤ k) ∧ Aside0 (wc.heap[gb239]? = some (.cells #[.int .i64 0, .int .i64 0] 23 (0, 0))) ∧ Aside0 (Below w.heap.size w wc))
 case first => as_aux_lemma =>
  have H := HC3.out
  clear HC3
  by_cases c5 : (l0.length : Int) = 0
  ·rw [if_pos c5] at H
   have c5b0 : ((l0.length : Int) == 0) = true := beq_iff_eq.mpr c5
   have c5b1 : ((l0.length : Int) != 0) = false := bne_eq_false_iff_eq.mpr c5
   clear c5
   (first | rw [c5b0] | (simp only [i64_w, i32_w]; rw [c5b0]) | skip)
   have H' := Aside0.mk H
   clear H
   go_wp2
   go_meet
   case rel => exact ⟨_, (true), (by first | rfl | (simp; done) | (simp [*]; done)), H', ⟨by first | omega | exact Nat.le_refl _⟩, ⟨kz BK239⟩, ⟨bz⟩⟩
  ·rw [if_neg c5] at H
   have c5b0 : ((l0.length : Int) == 0) = false := beq_eq_false_iff_ne.mpr c5
   have c5b1 : ((l0.length : Int) != 0) = true := bne_iff_ne.mpr c5
   have c5b2 : ¬ (l0 = []) := fun h_ => c5 (by rw [h_]; rfl)
   (first | rw [c5b0] | (simp only [i64_w, i32_w]; rw [c5b0]) | skip)
   have H' := Aside0.mk H
   clear H
   go_wp2
   go_meet
   case rel => exact ⟨_, (decide (a1 < (-300))), (by first | rfl | (simp; done) | (simp [*]; done)), H', ⟨by first | omega | exact Nat.le_refl _⟩, ⟨kz BK239⟩, ⟨bz⟩⟩
 case rest => as_aux_lemma =>
  clear HC3
  try clear c5
  try clear c5b0
  try clear c5b1
  try clear c5b2
  obtain ⟨kq, x5_2, rfl, HA, HJ2, BK239, HB⟩ := hcut
  cases kq with
  | zero => exact absurd HA.out (by simp [real_decimal.j0])
  | succ kj2 =>
   have H := HA.out
   clear HA
   simp only [real_decimal.j0] at H
   by_cases c6 : x5_2 = true
   ·subst c6
    rw [if_pos rfl] at H
    simp only [Option.some.injEq, Prod.mk.injEq] at H
    obtain ⟨rfl, rfl⟩ := H
    have hcz7_0 := c20 BK239
    have hcz7_1 := c21 BK239
    have hfz7_0 := blk_frozen BK239.out 0
    have hfz7_1 := blk_frozen BK239.out 1
    go_wp2
    refine bodyPost_ret (results_cell_row rfl _ _ gb239 23 #[.int .i64 0, .int .i64 0] (0, 0) _ rfl (by (with_reducible repeat (first | refine blk_drewN ?_ _ | refine blk_drew ?_ | refine blk_alloc ?_ _)); refine blk_put (cs := #[.int .i64 0, .int .i64 0]) ?_ 1 _ rfl; (with_reducible repeat (first | refine blk_drewN ?_ _ | refine blk_drew ?_ | refine blk_alloc ?_ _)); refine blk_put (cs := #[.int .i64 0, .int .i64 0]) ?_ 0 _ rfl; (with_reducible repeat (first | refine blk_drewN ?_ _ | refine blk_drew ?_ | refine blk_alloc ?_ _)); exact BK239.out) Tryz.underlying23 rfl (by kernel_rfl)) rfl ?_
    exact ⟨by first | rfl | exact ending_le (by assumption) | exact (ending_at hpn_).symm | exact (ending_at (signed_not (by assumption) hpn_)).symm | (simp [errW_none, errW_some] <;> rfl) | (simp [*, errW_none, errW_some] <;> rfl), bz⟩
   ·replace c6 := Bool.eq_false_iff.mpr c6
    subst c6
    rw [if_neg (show ¬ (false = true) by decide)] at H
    by_cases c8 : a1 > 300
    ·rw [if_pos c8] at H
     have c8b0 : decide (300 < a1) = true := decide_eq_true c8
     clear c8
     simp only [Option.some.injEq, Prod.mk.injEq] at H
     obtain ⟨rfl, rfl⟩ := H
     have hcz9_0 := c20 BK239
     have hcz9_1 := c21 BK239
     have hfz9_0 := blk_frozen BK239.out 0
     have hfz9_1 := blk_frozen BK239.out 1
     go_wp2
     rw [panics77]
     exact And.intro rfl (And.intro rfl bz)
    ·rw [if_neg c8] at H
     have c8b0 : decide (300 < a1) = false := decide_eq_false c8
     clear c8
     by_cases c10 : a1 ≥ 0
     ·rw [if_pos c10] at H
      have c10b0 : decide (0 ≤ a1) = true := decide_eq_true c10
      clear c10
      replace H := Option.bind_eq_some_iff.mp H
      obtain ⟨t240, A110, H⟩ := H
      try dsimp only at H
      have A11 := Aside0.mk A110
      clear A110
      replace H := Option.bind_eq_some_iff.mp H
      obtain ⟨t243, A120, H⟩ := H
      try dsimp only at H
      have A12 := Aside0.mk A120
      clear A120
      obtain ⟨y246, hy246⟩ : ∃ y_ : List Int, y_ = (([1] : List Int)) := ⟨_, rfl⟩
      replace H : ((real_rounded.f kj2 t243 0 y246).bind fun bt249 => (some (bt249.1, bt249.2))) = some (r1, r2) := by first | (rw [hy246]; with_reducible exact H) | (have H2_ := (Option.bind_some _ _).symm.trans H; rw [hy246]; with_reducible exact H2_) | (have H2_ := (Option.bind_some _ _).symm.trans H; with_reducible exact H2_) | with_reducible exact H | (rw [hy246]; exact H) | exact H
      have Ny246 := Aside0.mk hy246
      clear hy246
      replace H := Option.bind_eq_some_iff.mp H
      obtain ⟨⟨t249, t250⟩, A130, H⟩ := H
      try dsimp only at H
      have A13 := Aside0.mk A130
      clear A130
      simp only [Option.some.injEq, Prod.mk.injEq] at H
      obtain ⟨rfl, rfl⟩ := H
      go_wp2_with (first | ((with_reducible refine gate_callee (f := 119) rfl ?_); refine gL 24 Tryz.func119 #[.int .i64 a1] ?_; (with_reducible refine (real_pow10.calls kj2 a1 t240 _ A11.out).mono ?_); rintro e w14 ⟨v241, rfl, ho0, hb⟩; refine ⟨_, rfl, ?_⟩; have HO242 := Aside0.mk (Kd.V_lower (Kd.V_mono (ok' := fun k_ => k_ ≠ gb239) ho0 (fun k_ hk_ => (fb BK239 k_ hk_))) (below_size bz)); replace BK239 := kb BK239 hb; replace HB := bs hb; (try clear hb); (try clear hk); (try clear ho0); obtain ⟨Ao15, co15, eo15⟩ := Kd.V_slice HO242.out; subst eo15) | ((with_reducible refine gate_callee (f := 116) rfl ?_); refine gL 25 Tryz.func116 #[.slice A0 l0.length c0, .slice Ao15 t240.length co15] ?_; (with_reducible refine (real_nat_mul.calls kj2 _ _ l0 _ _ t240 t243 _ ?side1 ?side2 ?side3 ?side4 A12.out).mono ?_); (case side1 => exact ccz (Kd.C_below HR0.out HB.out)); (case side2 => exact HC0.out); (case side3 => exact ccz (Kd.V_reads' HO242.out).2.2); (case side4 => exact (Kd.V_reads' HO242.out).2.1); rintro e w16 ⟨v244, rfl, ho0, hb⟩; refine ⟨_, rfl, ?_⟩; have HO245 := Aside0.mk (Kd.V_lower (Kd.V_mono (ok' := fun k_ => k_ ≠ gb239) ho0 (fun k_ hk_ => (fb BK239 k_ hk_))) (below_size bz)); replace HO242 := vb HO242 hb; replace BK239 := kb BK239 hb; replace HB := bs hb; (try clear hb); (try clear hk); (try clear ho0)) | ((with_reducible refine gate_dst (N := 26) rfl ?_); refine Kd.R_lit (Kd.int .u32) _ 115 ?hg (N := 26) ?hd (xs := ([1] : List Int)) (inner := [.int .u32 1]) (ok := fun _ => True) (okp := fun _ => True) ?hr ?hp (fun _ hk => hk) trivial (Below.refl _ _) (Nat.le_refl _) (by simp) ?_; (case hd => rfl); (case hg => rfl); (case hr => first | (go_simp; done) | (go_simp; rfl)); (case hp => exact (Reps.one (show Kd.M (Kd.int .u32) _ _ _ 1 [.int .u32 1] from rfl) (Reps.none _ _))); intro v247 w17 ho18 hb hg_ hnew_; clear hg_ hnew_; (first | rw [← Ny246.out] at ho18 | (simp only [Int.reduceToNat] at ho18; rw [← Ny246.out] at ho18)); have HO248 := Aside0.mk (Kd.R_lower ho18 (below_size bz)); replace HO242 := Aside0.mk (Kd.V_elder' (vz HO242) (Kd.R_base ho18) hb); replace HO245 := Aside0.mk (Kd.V_elder' (vz HO245) (Kd.R_base ho18) hb); replace BK239 := kb BK239 hb; replace HB := bs hb; clear hb ho18; obtain ⟨Ao19, co19, eo19⟩ := Kd.V_slice HO245.out; subst eo19; obtain ⟨Ao20, co20, eo20⟩ := Kd.R_slice HO248.out; subst eo20) | ((with_reducible refine gate_callee (f := 97) rfl ?_); refine goesLP_ (some 27) rfl rfl Tryz.func97 (by kernel_rfl) rfl #[.slice Ao19 t243.length co19, .int .i64 0, .slice Ao20 y246.length co20] rfl az ?_; (with_reducible refine (real_rounded.calls kj2 (fun k_ => (k_ ≠ gb239 ∧ some k_ ≠ (.slice Ao20 y246.length co20 : Value).ownBlock)) _ _ t243 0 (fun k_ => some k_ = (.slice Ao20 y246.length co20 : Value).ownBlock) _ _ y246 t249 t250 _ ?side1 ?side2 A13.out).mono ?_); (case side1 => exact HO245.out); (case side2 => exact Kd.R_V (Kd.R_tight rfl (Kd.R_types (HO248.out) BK239.out (by decide)))); rintro e w21 ⟨he_, hb⟩; refine ends_ he_ (fun p1_ => And.intro rfl (And.intro (by first | exact code_direct p1_ | exact code_signed (by assumption) p1_) (below_step bz hb))) (fun hpn_ => ?_); replace HO242 := vb HO242 hb; replace HO245 := vb HO245 hb; replace HO248 := rb HO248 hb; replace BK239 := kb BK239 hb; replace HB := bs hb; (try clear hb); (try clear hk); have hcz22_0 := c20 BK239; have hcz22_1 := c21 BK239; have hfz22_0 := blk_frozen BK239.out 0; have hfz22_1 := blk_frozen BK239.out 1))
      refine bodyPost_ret (results_cell_row rfl _ _ gb239 23 #[.int .i64 t249, .int .i64 t250] (0, 0) _ rfl (by (with_reducible repeat (first | refine blk_drewN ?_ _ | refine blk_drew ?_ | refine blk_alloc ?_ _)); refine blk_put (cs := #[.int .i64 t249, .int .i64 0]) ?_ 1 _ rfl; (with_reducible repeat (first | refine blk_drewN ?_ _ | refine blk_drew ?_ | refine blk_alloc ?_ _)); refine blk_put (cs := #[.int .i64 0, .int .i64 0]) ?_ 0 _ rfl; (with_reducible repeat (first | refine blk_drewN ?_ _ | refine blk_drew ?_ | refine blk_alloc ?_ _)); exact BK239.out) Tryz.underlying23 rfl (by kernel_rfl)) rfl ?_
      exact ⟨by first | rfl | exact ending_le (by assumption) | exact (ending_at hpn_).symm | exact (ending_at (signed_not (by assumption) hpn_)).symm | (simp [errW_none, errW_some] <;> rfl) | (simp [*, errW_none, errW_some] <;> rfl), bz⟩
     ·rw [if_neg c10] at H
      have c10b0 : decide (0 ≤ a1) = false := decide_eq_false c10
      clear c10
      replace H := Option.bind_eq_some_iff.mp H
      obtain ⟨t251, A230, H⟩ := H
      try dsimp only at H
      have A23 := Aside0.mk A230
      clear A230
      replace H := Option.bind_eq_some_iff.mp H
      obtain ⟨⟨t254, t255⟩, A240, H⟩ := H
      try dsimp only at H
      have A24 := Aside0.mk A240
      clear A240
      simp only [Option.some.injEq, Prod.mk.injEq] at H
      obtain ⟨rfl, rfl⟩ := H
      go_wp2_with (first | ((with_reducible refine gate_callee (f := 119) rfl ?_); refine gL 31 Tryz.func119 #[.int .i64 (wrap64 (-a1))] ?_; (with_reducible refine (real_pow10.calls kj2 (wrap64 (-a1)) t251 _ A23.out).mono ?_); rintro e w25 ⟨v252, rfl, ho0, hb⟩; refine ⟨_, rfl, ?_⟩; have HO253 := Aside0.mk (Kd.V_lower (Kd.V_mono (ok' := fun k_ => k_ ≠ gb239) ho0 (fun k_ hk_ => (fb BK239 k_ hk_))) (below_size bz)); replace BK239 := kb BK239 hb; replace HB := bs hb; (try clear hb); (try clear hk); (try clear ho0); obtain ⟨Ao26, co26, eo26⟩ := Kd.V_slice HO253.out; subst eo26) | ((with_reducible refine gate_callee (f := 97) rfl ?_); refine goesLP_ (some 32) rfl rfl Tryz.func97 (by kernel_rfl) rfl #[.slice A0 l0.length c0, .int .i64 0, .slice Ao26 t251.length co26] rfl az ?_; (with_reducible refine (real_rounded.calls kj2 (fun k_ => k_ < w.heap.size) _ _ l0 0 (fun k_ => k_ ≠ gb239) _ _ t251 t254 t255 _ ?side1 ?side2 A24.out).mono ?_); (case side1 => exact Kd.V_mk HC0.out (Kd.F_below (Kd.C_F (Kd.heap_int .u32) HR0.out) bz)); (case side2 => exact HO253.out); rintro e w27 ⟨he_, hb⟩; refine ends_ he_ (fun p1_ => And.intro rfl (And.intro (by first | exact code_direct p1_ | exact code_signed (by assumption) p1_) (below_step bz hb))) (fun hpn_ => ?_); replace HO253 := vb HO253 hb; replace BK239 := kb BK239 hb; replace HB := bs hb; (try clear hb); (try clear hk); have hcz28_0 := c20 BK239; have hcz28_1 := c21 BK239; have hfz28_0 := blk_frozen BK239.out 0; have hfz28_1 := blk_frozen BK239.out 1))
      refine bodyPost_ret (results_cell_row rfl _ _ gb239 23 #[.int .i64 t254, .int .i64 t255] (0, 0) _ rfl (by (with_reducible repeat (first | refine blk_drewN ?_ _ | refine blk_drew ?_ | refine blk_alloc ?_ _)); refine blk_put (cs := #[.int .i64 t254, .int .i64 0]) ?_ 1 _ rfl; (with_reducible repeat (first | refine blk_drewN ?_ _ | refine blk_drew ?_ | refine blk_alloc ?_ _)); refine blk_put (cs := #[.int .i64 0, .int .i64 0]) ?_ 0 _ rfl; (with_reducible repeat (first | refine blk_drewN ?_ _ | refine blk_drew ?_ | refine blk_alloc ?_ _)); exact BK239.out) Tryz.underlying23 rfl (by kernel_rfl)) rfl ?_
      exact ⟨by first | rfl | exact ending_le (by assumption) | exact (ending_at hpn_).symm | exact (ending_at (signed_not (by assumption) hpn_)).symm | (simp [errW_none, errW_some] <;> rfl) | (simp [*, errW_none, errW_some] <;> rfl), bz⟩

end Go.Proofs.YteigbokklclmbaaGreatDoor.Z
end
