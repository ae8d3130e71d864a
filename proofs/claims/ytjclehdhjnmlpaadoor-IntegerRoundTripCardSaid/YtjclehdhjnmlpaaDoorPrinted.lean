/- The walks of the two Print functions: the decimal numeral of a valid integer; the table of the library that they read stands as laid. -/
import Derived.Test.YtjclehdhjnmlpaaDoorParse
import Derived.Test.YtjclehdhjnmlpaaDoorShelf
import Derived.Lib.AppendIntMem
namespace Go.Proofs.YtjclehdhjnmlpaaDoor.Given
open Go Go.RowKit Go.Proofs.YtjclehdhjnmlpaaDoorW.PrintWords Go.Proofs.YtjclehdhjnmlpaaDoorW.PrintLast Go.Proofs.YtjclehdhjnmlpaaDoorW.PrintMore
set_option linter.unusedVariables false
set_option linter.unusedSimpArgs false

theorem rvalid_c (n : Int) (w : World) : Calls Tryd.prog 15 #[.int .i64 n] w fun e w' => e = .returned (.bool (vld n)) ∧ w = w' := by
  by_cases h1 : -2147483647 ≤ n
  · by_cases h2 : n ≤ 2147483647
    · have e : vld n = true := decide_eq_true ⟨h1, h2⟩
      rw [e]; clear e
      go_enter Tryd.func15, Tryd.ntmps15
      go_wp2
      go_ret
      exact ⟨by simp, rfl⟩
    · have e : vld n = false := decide_eq_false (by omega)
      rw [e]; clear e
      go_enter Tryd.func15, Tryd.ntmps15
      go_wp2
      go_ret
      exact ⟨by simp, rfl⟩
  · have e : vld n = false := decide_eq_false (by omega)
    rw [e]; clear e
    go_enter Tryd.func15, Tryd.ntmps15
    go_wp2
    go_ret
    exact ⟨rfl, rfl⟩
def printS (n : Int) : ByteArray × Int := if vld n = true then (⟨(Lib.itoa n).toArray⟩, 0) else (⟨#[]⟩, 1)
def integer_Print.f (n : Int) : Option (ByteArray × Int) := some (printS n)
def manorboyref01_Print.f (n : Int) : Option (ByteArray × Int) := some (printS n)
abbrev Table (w : World) : Prop := Lib.TabIs Tryd.prog w "internal/strconv.uint64pow10" .u64 Lib.pow10Tab
theorem tabAt {B : Nat} {w w' : World} (h : Lib.TabBelow Tryd.prog B w "internal/strconv.uint64pow10" .u64 Lib.pow10Tab) (hb : Below B w w') : Table w' := h w' hb
theorem integer_Print.calls (a0 : Int) (r1 : ByteArray) (r2 : Int) (w : World) (h : integer_Print.f a0 = some (r1, r2)) (ht : Table w) :
    Calls Tryd.prog 7 #[.int .i64 a0] w fun e w' => e = .returned (.tuple #[.string r1, .int .i64 r2]) ∧ Below w.heap.size w w' := by
  have h := Option.some.inj h
  unfold printS at h
  cases hv : vld a0 with
  | true =>
    rw [hv, if_pos rfl] at h
    cases h
    have := vld_yes hv
    have HI := Lib.hid (Tryd.strconv_Itoa a0 (by omega) (by omega) w ht)
    clear ht this
    go_enter Tryd.func7, Tryd.ntmps7
    go_wp2_with fail
    refine (valid_c _ _).mono ?_
    rintro e w1 ⟨rfl, rfl⟩
    rw [hv]
    go_wp2_with fail
    refine HI.out.mono ?_
    rintro e w1 ⟨rfl, k, os, rfl⟩
    have hB := Lib.below_grow w.heap.size w (Nat.le_refl _) k os
    generalize Sort.grow (w.drewN k) os = w1 at hB ⊢
    go_wp2
    go_ret2
    exact ⟨rfl, hB⟩
  | false =>
    rw [hv, if_neg (by decide)] at h
    cases h
    go_enter Tryd.func7, Tryd.ntmps7
    go_wp2_with fail
    refine (valid_c _ _).mono ?_
    rintro e w1 ⟨rfl, rfl⟩
    rw [hv]
    go_wp2
    go_ret2
    exact ⟨rfl, Below.refl _ _⟩
theorem manorboyref01_Print.calls (a0 : Int) (r1 : ByteArray) (r2 : Int) (w : World) (h : manorboyref01_Print.f a0 = some (r1, r2)) (ht : Table w) :
    Calls Tryd.prog 8 #[.int .i64 a0] w fun e w' => e = .returned (.tuple #[.string r1, .int .i64 r2]) ∧ Below w.heap.size w w' := by
  have h := Option.some.inj h
  unfold printS at h
  cases hv : vld a0 with
  | true =>
    rw [hv, if_pos rfl] at h
    cases h
    have := vld_yes hv
    have HI := Lib.hid (Tryd.strconv_Itoa a0 (by omega) (by omega) w ht)
    clear ht this
    go_enter Tryd.func8, Tryd.ntmps8
    go_wp2_with fail
    refine (rvalid_c _ _).mono ?_
    rintro e w1 ⟨rfl, rfl⟩
    rw [hv]
    go_wp2_with fail
    refine HI.out.mono ?_
    rintro e w1 ⟨rfl, k, os, rfl⟩
    have hB := Lib.below_grow w.heap.size w (Nat.le_refl _) k os
    generalize Sort.grow (w.drewN k) os = w1 at hB ⊢
    go_wp2
    go_ret2
    exact ⟨rfl, hB⟩
  | false =>
    rw [hv, if_neg (by decide)] at h
    cases h
    go_enter Tryd.func8, Tryd.ntmps8
    go_wp2_with fail
    refine (rvalid_c _ _).mono ?_
    rintro e w1 ⟨rfl, rfl⟩
    rw [hv]
    go_wp2
    go_ret2
    exact ⟨rfl, Below.refl _ _⟩
end Go.Proofs.YtjclehdhjnmlpaaDoor.Given
