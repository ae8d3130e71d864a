/-
  No cell of these rows narrows 'for every input' (looked for: loops, veiled, ifaces, maps, wideKeys, modest, calm, conditions, laid).
  DERIVED. THE GIVEN ROWS OF THIS SEAT. 15 by the template 'for every input the law returns true; each argument reads behind the call as it read before'; 0 by the template 'total and deterministic' (their statements: YtjclehdhjnmlpaaTotals.lean).
  GIVEN WITH THE SEED: the statements are not yours to turn. If you find one false, say at which input.
  Laid BY PROGRAM, IN A SANDBOX (cutbox-rows.mjs): the forced cells as the released guide's own fill.sh prints them over the translation bd1b0063fc425eb0… (all of the seat's roots in one cut). By AI agents, Wed Nov 11 2026. No macro, syntax, notation, axiom, sorry.
-/
import Derived.Test.YtjclehdhjnmlpaaChecked
import GoSem.Claim
import GoSem.ClaimJoined
import GoSem.ClaimMapViews
import Derived.JoinedTies
import Derived.KernelRfl
namespace Go.Proofs.Ytjclehdhjnmlpaa
/- THE CELL 'sum', in the pinned program and in every row, IS THE sha256 OF THE DUMP (.gsa) THAT YtjclehdhjnmlpaaProg.lean LOADS. Nothing in Lean hashes anything: it is a label: what it is worth is what the hold of that sum in a sandbox is worth. -/
noncomputable def Try.pinned : Pinned := { name := "ytjclehdhjnmlpaa", sum := "bd1b0063fc425eb06cf316726a55109a20c69e890e987ffc0d31dd7833df0be3", checked := Try.checked }
namespace Rows
def none {H : Type} : Left H := { results := [], args := [] }

/-- 'manorboylaw01.IntegerRing': WHATEVER THE INPUT: true; the input reads as it did. -/
def integerRingSpec : ChangeSpec := { name := "integerRing", fn := fun _ => fun
  | [d1, d2, d3] => { results := [.lit (.bool true)], args := [d1, d2, d3] }
  | _ => none }
def integerRingRow : OpenClaim := { program := "ytjclehdhjnmlpaa", sum := "bd1b0063fc425eb06cf316726a55109a20c69e890e987ffc0d31dd7833df0be3", func := "manorboy/manorboylaw01.IntegerRing", spec := "integerRing", unfollowed := true, recurses := true, apart := false }
def IntegerRingSaid : Prop := integerRingRow.holds Try.pinned (OpenSpec.ofChange integerRingSpec)

/-- ITS FALSE NEIGHBOUR: 'it returns false'. Refute it at one input. -/
def integerRingWrong : ChangeSpec := { name := "integerRing", fn := fun _ => fun
  | [d1, d2, d3] => { results := [.lit (.bool false)], args := [d1, d2, d3] }
  | _ => none }
def IntegerRingWrongFalsely : Prop := integerRingRow.holds Try.pinned (OpenSpec.ofChange integerRingWrong)

/-- 'manorboylaw01.IntegerDivision': WHATEVER THE INPUT: true; the input reads as it did. -/
def integerDivisionSpec : ChangeSpec := { name := "integerDivision", fn := fun _ => fun
  | [d1, d2] => { results := [.lit (.bool true)], args := [d1, d2] }
  | _ => none }
def integerDivisionRow : OpenClaim := { program := "ytjclehdhjnmlpaa", sum := "bd1b0063fc425eb06cf316726a55109a20c69e890e987ffc0d31dd7833df0be3", func := "manorboy/manorboylaw01.IntegerDivision", spec := "integerDivision", unfollowed := true, recurses := true, apart := false }
def IntegerDivisionSaid : Prop := integerDivisionRow.holds Try.pinned (OpenSpec.ofChange integerDivisionSpec)

/-- ITS FALSE NEIGHBOUR: 'it returns false'. Refute it at one input. -/
def integerDivisionWrong : ChangeSpec := { name := "integerDivision", fn := fun _ => fun
  | [d1, d2] => { results := [.lit (.bool false)], args := [d1, d2] }
  | _ => none }
def IntegerDivisionWrongFalsely : Prop := integerDivisionRow.holds Try.pinned (OpenSpec.ofChange integerDivisionWrong)

/-- 'manorboylaw01.IntegerSums': WHATEVER THE INPUT: true; the input reads as it did. -/
def integerSumsSpec : ChangeSpec := { name := "integerSums", fn := fun _ => fun
  | [d1, d2] => { results := [.lit (.bool true)], args := [d1, d2] }
  | _ => none }
def integerSumsRow : OpenClaim := { program := "ytjclehdhjnmlpaa", sum := "bd1b0063fc425eb06cf316726a55109a20c69e890e987ffc0d31dd7833df0be3", func := "manorboy/manorboylaw01.IntegerSums", spec := "integerSums", unfollowed := true, recurses := true, apart := false }
def IntegerSumsSaid : Prop := integerSumsRow.holds Try.pinned (OpenSpec.ofChange integerSumsSpec)

/-- ITS FALSE NEIGHBOUR: 'it returns false'. Refute it at one input. -/
def integerSumsWrong : ChangeSpec := { name := "integerSums", fn := fun _ => fun
  | [d1, d2] => { results := [.lit (.bool false)], args := [d1, d2] }
  | _ => none }
def IntegerSumsWrongFalsely : Prop := integerSumsRow.holds Try.pinned (OpenSpec.ofChange integerSumsWrong)

/-- 'manorboylaw01.IntegerOrder': WHATEVER THE INPUT: true; the input reads as it did. -/
def integerOrderSpec : ChangeSpec := { name := "integerOrder", fn := fun _ => fun
  | [d1, d2, d3] => { results := [.lit (.bool true)], args := [d1, d2, d3] }
  | _ => none }
def integerOrderRow : OpenClaim := { program := "ytjclehdhjnmlpaa", sum := "bd1b0063fc425eb06cf316726a55109a20c69e890e987ffc0d31dd7833df0be3", func := "manorboy/manorboylaw01.IntegerOrder", spec := "integerOrder", unfollowed := true, recurses := true, apart := false }
def IntegerOrderSaid : Prop := integerOrderRow.holds Try.pinned (OpenSpec.ofChange integerOrderSpec)

/-- ITS FALSE NEIGHBOUR: 'it returns false'. Refute it at one input. -/
def integerOrderWrong : ChangeSpec := { name := "integerOrder", fn := fun _ => fun
  | [d1, d2, d3] => { results := [.lit (.bool false)], args := [d1, d2, d3] }
  | _ => none }
def IntegerOrderWrongFalsely : Prop := integerOrderRow.holds Try.pinned (OpenSpec.ofChange integerOrderWrong)

/-- 'manorboylaw01.IntegerOperates': WHATEVER THE INPUT: true; the input reads as it did. -/
def integerOperatesSpec : ChangeSpec := { name := "integerOperates", fn := fun _ => fun
  | [d1, d2] => { results := [.lit (.bool true)], args := [d1, d2] }
  | _ => none }
def integerOperatesRow : OpenClaim := { program := "ytjclehdhjnmlpaa", sum := "bd1b0063fc425eb06cf316726a55109a20c69e890e987ffc0d31dd7833df0be3", func := "manorboy/manorboylaw01.IntegerOperates", spec := "integerOperates", unfollowed := true, recurses := true, apart := false }
def IntegerOperatesSaid : Prop := integerOperatesRow.holds Try.pinned (OpenSpec.ofChange integerOperatesSpec)

/-- ITS FALSE NEIGHBOUR: 'it returns false'. Refute it at one input. -/
def integerOperatesWrong : ChangeSpec := { name := "integerOperates", fn := fun _ => fun
  | [d1, d2] => { results := [.lit (.bool false)], args := [d1, d2] }
  | _ => none }
def IntegerOperatesWrongFalsely : Prop := integerOperatesRow.holds Try.pinned (OpenSpec.ofChange integerOperatesWrong)

/-- 'manorboylaw01.IntegerPowers': WHATEVER THE INPUT: true; the input reads as it did. -/
def integerPowersSpec : ChangeSpec := { name := "integerPowers", fn := fun _ => fun
  | [d1, d2, d3] => { results := [.lit (.bool true)], args := [d1, d2, d3] }
  | _ => none }
def integerPowersRow : OpenClaim := { program := "ytjclehdhjnmlpaa", sum := "bd1b0063fc425eb06cf316726a55109a20c69e890e987ffc0d31dd7833df0be3", func := "manorboy/manorboylaw01.IntegerPowers", spec := "integerPowers", unfollowed := true, recurses := true, apart := false }
def IntegerPowersSaid : Prop := integerPowersRow.holds Try.pinned (OpenSpec.ofChange integerPowersSpec)

/-- ITS FALSE NEIGHBOUR: 'it returns false'. Refute it at one input. -/
def integerPowersWrong : ChangeSpec := { name := "integerPowers", fn := fun _ => fun
  | [d1, d2, d3] => { results := [.lit (.bool false)], args := [d1, d2, d3] }
  | _ => none }
def IntegerPowersWrongFalsely : Prop := integerPowersRow.holds Try.pinned (OpenSpec.ofChange integerPowersWrong)

/-- 'manorboylaw01.IntegerDivides': WHATEVER THE INPUT: true; the input reads as it did. -/
def integerDividesSpec : ChangeSpec := { name := "integerDivides", fn := fun _ => fun
  | [d1, d2] => { results := [.lit (.bool true)], args := [d1, d2] }
  | _ => none }
def integerDividesRow : OpenClaim := { program := "ytjclehdhjnmlpaa", sum := "bd1b0063fc425eb06cf316726a55109a20c69e890e987ffc0d31dd7833df0be3", func := "manorboy/manorboylaw01.IntegerDivides", spec := "integerDivides", unfollowed := true, recurses := true, apart := false }
def IntegerDividesSaid : Prop := integerDividesRow.holds Try.pinned (OpenSpec.ofChange integerDividesSpec)

/-- ITS FALSE NEIGHBOUR: 'it returns false'. Refute it at one input. -/
def integerDividesWrong : ChangeSpec := { name := "integerDivides", fn := fun _ => fun
  | [d1, d2] => { results := [.lit (.bool false)], args := [d1, d2] }
  | _ => none }
def IntegerDividesWrongFalsely : Prop := integerDividesRow.holds Try.pinned (OpenSpec.ofChange integerDividesWrong)

/-- 'manorboylaw01.IntegerCounts': WHATEVER THE INPUT: true; the input reads as it did. -/
def integerCountsSpec : ChangeSpec := { name := "integerCounts", fn := fun _ => fun
  | [d1, d2, d3, d4] => { results := [.lit (.bool true)], args := [d1, d2, d3, d4] }
  | _ => none }
def integerCountsRow : OpenClaim := { program := "ytjclehdhjnmlpaa", sum := "bd1b0063fc425eb06cf316726a55109a20c69e890e987ffc0d31dd7833df0be3", func := "manorboy/manorboylaw01.IntegerCounts", spec := "integerCounts", unfollowed := true, recurses := true, apart := false }
def IntegerCountsSaid : Prop := integerCountsRow.holds Try.pinned (OpenSpec.ofChange integerCountsSpec)

/-- ITS FALSE NEIGHBOUR: 'it returns false'. Refute it at one input. -/
def integerCountsWrong : ChangeSpec := { name := "integerCounts", fn := fun _ => fun
  | [d1, d2, d3, d4] => { results := [.lit (.bool false)], args := [d1, d2, d3, d4] }
  | _ => none }
def IntegerCountsWrongFalsely : Prop := integerCountsRow.holds Try.pinned (OpenSpec.ofChange integerCountsWrong)

/-- 'manorboylaw01.IntegerTrips': WHATEVER THE INPUT: true; the input reads as it did. -/
def integerTripsSpec : ChangeSpec := { name := "integerTrips", fn := fun _ => fun
  | [d1, d2, d3] => { results := [.lit (.bool true)], args := [d1, d2, d3] }
  | _ => none }
def integerTripsRow : OpenClaim := { program := "ytjclehdhjnmlpaa", sum := "bd1b0063fc425eb06cf316726a55109a20c69e890e987ffc0d31dd7833df0be3", func := "manorboy/manorboylaw01.IntegerTrips", spec := "integerTrips", unfollowed := true, recurses := true, apart := false }
def IntegerTripsSaid : Prop := integerTripsRow.holds Try.pinned (OpenSpec.ofChange integerTripsSpec)

/-- ITS FALSE NEIGHBOUR: 'it returns false'. Refute it at one input. -/
def integerTripsWrong : ChangeSpec := { name := "integerTrips", fn := fun _ => fun
  | [d1, d2, d3] => { results := [.lit (.bool false)], args := [d1, d2, d3] }
  | _ => none }
def IntegerTripsWrongFalsely : Prop := integerTripsRow.holds Try.pinned (OpenSpec.ofChange integerTripsWrong)

/-- 'manorboylaw01.IntegerLattice': WHATEVER THE INPUT: true; the input reads as it did. -/
def integerLatticeSpec : ChangeSpec := { name := "integerLattice", fn := fun _ => fun
  | [d1, d2, d3, d4] => { results := [.lit (.bool true)], args := [d1, d2, d3, d4] }
  | _ => none }
def integerLatticeRow : OpenClaim := { program := "ytjclehdhjnmlpaa", sum := "bd1b0063fc425eb06cf316726a55109a20c69e890e987ffc0d31dd7833df0be3", func := "manorboy/manorboylaw01.IntegerLattice", spec := "integerLattice", unfollowed := true, recurses := true, apart := false }
def IntegerLatticeSaid : Prop := integerLatticeRow.holds Try.pinned (OpenSpec.ofChange integerLatticeSpec)

/-- ITS FALSE NEIGHBOUR: 'it returns false'. Refute it at one input. -/
def integerLatticeWrong : ChangeSpec := { name := "integerLattice", fn := fun _ => fun
  | [d1, d2, d3, d4] => { results := [.lit (.bool false)], args := [d1, d2, d3, d4] }
  | _ => none }
def IntegerLatticeWrongFalsely : Prop := integerLatticeRow.holds Try.pinned (OpenSpec.ofChange integerLatticeWrong)

/-- 'manorboylaw01.IntegerTight': WHATEVER THE INPUT: true; the input reads as it did. -/
def integerTightSpec : ChangeSpec := { name := "integerTight", fn := fun _ => fun
  | [d1, d2] => { results := [.lit (.bool true)], args := [d1, d2] }
  | _ => none }
def integerTightRow : OpenClaim := { program := "ytjclehdhjnmlpaa", sum := "bd1b0063fc425eb06cf316726a55109a20c69e890e987ffc0d31dd7833df0be3", func := "manorboy/manorboylaw01.IntegerTight", spec := "integerTight", unfollowed := true, recurses := true, apart := false }
def IntegerTightSaid : Prop := integerTightRow.holds Try.pinned (OpenSpec.ofChange integerTightSpec)

/-- ITS FALSE NEIGHBOUR: 'it returns false'. Refute it at one input. -/
def integerTightWrong : ChangeSpec := { name := "integerTight", fn := fun _ => fun
  | [d1, d2] => { results := [.lit (.bool false)], args := [d1, d2] }
  | _ => none }
def IntegerTightWrongFalsely : Prop := integerTightRow.holds Try.pinned (OpenSpec.ofChange integerTightWrong)

/-- 'manorboylaw01.IntegerSets': WHATEVER THE INPUT: true; the input reads as it did. -/
def integerSetsSpec : ChangeSpec := { name := "integerSets", fn := fun _ => fun
  | [d1, d2] => { results := [.lit (.bool true)], args := [d1, d2] }
  | _ => none }
def integerSetsRow : OpenClaim := { program := "ytjclehdhjnmlpaa", sum := "bd1b0063fc425eb06cf316726a55109a20c69e890e987ffc0d31dd7833df0be3", func := "manorboy/manorboylaw01.IntegerSets", spec := "integerSets", unfollowed := true, recurses := true, apart := false }
def IntegerSetsSaid : Prop := integerSetsRow.holds Try.pinned (OpenSpec.ofChange integerSetsSpec)

/-- ITS FALSE NEIGHBOUR: 'it returns false'. Refute it at one input. -/
def integerSetsWrong : ChangeSpec := { name := "integerSets", fn := fun _ => fun
  | [d1, d2] => { results := [.lit (.bool false)], args := [d1, d2] }
  | _ => none }
def IntegerSetsWrongFalsely : Prop := integerSetsRow.holds Try.pinned (OpenSpec.ofChange integerSetsWrong)

/-- 'manorboylaw01.IntegerSpans': WHATEVER THE INPUT: true; the input reads as it did. -/
def integerSpansSpec : ChangeSpec := { name := "integerSpans", fn := fun _ => fun
  | [d1, d2] => { results := [.lit (.bool true)], args := [d1, d2] }
  | _ => none }
def integerSpansRow : OpenClaim := { program := "ytjclehdhjnmlpaa", sum := "bd1b0063fc425eb06cf316726a55109a20c69e890e987ffc0d31dd7833df0be3", func := "manorboy/manorboylaw01.IntegerSpans", spec := "integerSpans", unfollowed := true, recurses := true, apart := false }
def IntegerSpansSaid : Prop := integerSpansRow.holds Try.pinned (OpenSpec.ofChange integerSpansSpec)

/-- ITS FALSE NEIGHBOUR: 'it returns false'. Refute it at one input. -/
def integerSpansWrong : ChangeSpec := { name := "integerSpans", fn := fun _ => fun
  | [d1, d2] => { results := [.lit (.bool false)], args := [d1, d2] }
  | _ => none }
def IntegerSpansWrongFalsely : Prop := integerSpansRow.holds Try.pinned (OpenSpec.ofChange integerSpansWrong)

/-- 'manorboylaw01.IntegerTighter': WHATEVER THE INPUT: true; the input reads as it did. -/
def integerTighterSpec : ChangeSpec := { name := "integerTighter", fn := fun _ => fun
  | [d1, d2] => { results := [.lit (.bool true)], args := [d1, d2] }
  | _ => none }
def integerTighterRow : OpenClaim := { program := "ytjclehdhjnmlpaa", sum := "bd1b0063fc425eb06cf316726a55109a20c69e890e987ffc0d31dd7833df0be3", func := "manorboy/manorboylaw01.IntegerTighter", spec := "integerTighter", unfollowed := true, recurses := true, apart := false }
def IntegerTighterSaid : Prop := integerTighterRow.holds Try.pinned (OpenSpec.ofChange integerTighterSpec)

/-- ITS FALSE NEIGHBOUR: 'it returns false'. Refute it at one input. -/
def integerTighterWrong : ChangeSpec := { name := "integerTighter", fn := fun _ => fun
  | [d1, d2] => { results := [.lit (.bool false)], args := [d1, d2] }
  | _ => none }
def IntegerTighterWrongFalsely : Prop := integerTighterRow.holds Try.pinned (OpenSpec.ofChange integerTighterWrong)

/-- 'manorboylaw01.IntegerSound': WHATEVER THE INPUT: true; the input reads as it did. -/
def integerSoundSpec : ChangeSpec := { name := "integerSound", fn := fun _ => fun
  | [d1, d2, d3, d4] => { results := [.lit (.bool true)], args := [d1, d2, d3, d4] }
  | _ => none }
def integerSoundRow : OpenClaim := { program := "ytjclehdhjnmlpaa", sum := "bd1b0063fc425eb06cf316726a55109a20c69e890e987ffc0d31dd7833df0be3", func := "manorboy/manorboylaw01.IntegerSound", spec := "integerSound", unfollowed := true, recurses := true, apart := false }
def IntegerSoundSaid : Prop := integerSoundRow.holds Try.pinned (OpenSpec.ofChange integerSoundSpec)

/-- ITS FALSE NEIGHBOUR: 'it returns false'. Refute it at one input. -/
def integerSoundWrong : ChangeSpec := { name := "integerSound", fn := fun _ => fun
  | [d1, d2, d3, d4] => { results := [.lit (.bool false)], args := [d1, d2, d3, d4] }
  | _ => none }
def IntegerSoundWrongFalsely : Prop := integerSoundRow.holds Try.pinned (OpenSpec.ofChange integerSoundWrong)

/- THE SECOND FORM. 'bulk': how many values and letters a reading holds, each counted each time it is reached (what is shared counts as often as it is met; a slice's spare places count too). A statement '..UptoSaid' is the law's where the arguments, and the package variables that the reading takes, are together of bulk at most 1048576: NARROWER than '..Said'. Prove '..Said' where nothing that the law and all that it calls make is longer than what came in: it says more and counts as full. Else prove '..UptoSaid'. A law counts once. -/
mutual
def uptoBulk {H : Type} : DataW H → Nat
  | .lit (.string bytes) => bytes.length + 1
  | .lit _ => 1
  | .nil => 1
  | .ptr d => uptoBulk d + 1
  | .slice elems spare => uptoBulkAll elems + uptoBulkAll spare + 1
  | .agg parts => uptoBulkAll parts + 1
  | .iface _ d => uptoBulk d + 1
  | .map entries => uptoBulkEntries entries + 1
  | .held _ => 1
def uptoBulkAll {H : Type} : List (DataW H) → Nat
  | [] => 0
  | d :: r => uptoBulk d + uptoBulkAll r
def uptoBulkEntries {H : Type} : List (Lit × DataW H) → Nat
  | [] => 0
  | x :: r => uptoBulkEntry x + uptoBulkEntries r
def uptoBulkEntry {H : Type} : Lit × DataW H → Nat
  | (.string bytes, d) => bytes.length + uptoBulk d + 1
  | (_, d) => uptoBulk d + 1
 end
def uptoSmall : (H : Type) → List (DataW H) → Bool := fun _ ds => decide (uptoBulkAll ds ≤ 1048576)
def OpenSpec.upto (s : _root_.Go.ChangeSpec) : _root_.Go.OpenSpec := { _root_.Go.OpenSpec.ofChange s with cond := some uptoSmall }

/-- 'manorboylaw01.IntegerRing', WHERE WHAT IT READS IS OF BULK AT MOST 1048576: true; the input reads as it did. -/
def integerRingUptoRow : OpenClaim := { program := "ytjclehdhjnmlpaa", sum := "bd1b0063fc425eb06cf316726a55109a20c69e890e987ffc0d31dd7833df0be3", func := "manorboy/manorboylaw01.IntegerRing", spec := "integerRing", unfollowed := true, recurses := true, apart := false, narrowed := true }
def IntegerRingUptoSaid : Prop := integerRingUptoRow.holds Try.pinned (OpenSpec.upto integerRingSpec)

/-- 'manorboylaw01.IntegerDivision', WHERE WHAT IT READS IS OF BULK AT MOST 1048576: true; the input reads as it did. -/
def integerDivisionUptoRow : OpenClaim := { program := "ytjclehdhjnmlpaa", sum := "bd1b0063fc425eb06cf316726a55109a20c69e890e987ffc0d31dd7833df0be3", func := "manorboy/manorboylaw01.IntegerDivision", spec := "integerDivision", unfollowed := true, recurses := true, apart := false, narrowed := true }
def IntegerDivisionUptoSaid : Prop := integerDivisionUptoRow.holds Try.pinned (OpenSpec.upto integerDivisionSpec)

/-- 'manorboylaw01.IntegerSums', WHERE WHAT IT READS IS OF BULK AT MOST 1048576: true; the input reads as it did. -/
def integerSumsUptoRow : OpenClaim := { program := "ytjclehdhjnmlpaa", sum := "bd1b0063fc425eb06cf316726a55109a20c69e890e987ffc0d31dd7833df0be3", func := "manorboy/manorboylaw01.IntegerSums", spec := "integerSums", unfollowed := true, recurses := true, apart := false, narrowed := true }
def IntegerSumsUptoSaid : Prop := integerSumsUptoRow.holds Try.pinned (OpenSpec.upto integerSumsSpec)

/-- 'manorboylaw01.IntegerOrder', WHERE WHAT IT READS IS OF BULK AT MOST 1048576: true; the input reads as it did. -/
def integerOrderUptoRow : OpenClaim := { program := "ytjclehdhjnmlpaa", sum := "bd1b0063fc425eb06cf316726a55109a20c69e890e987ffc0d31dd7833df0be3", func := "manorboy/manorboylaw01.IntegerOrder", spec := "integerOrder", unfollowed := true, recurses := true, apart := false, narrowed := true }
def IntegerOrderUptoSaid : Prop := integerOrderUptoRow.holds Try.pinned (OpenSpec.upto integerOrderSpec)

/-- 'manorboylaw01.IntegerOperates', WHERE WHAT IT READS IS OF BULK AT MOST 1048576: true; the input reads as it did. -/
def integerOperatesUptoRow : OpenClaim := { program := "ytjclehdhjnmlpaa", sum := "bd1b0063fc425eb06cf316726a55109a20c69e890e987ffc0d31dd7833df0be3", func := "manorboy/manorboylaw01.IntegerOperates", spec := "integerOperates", unfollowed := true, recurses := true, apart := false, narrowed := true }
def IntegerOperatesUptoSaid : Prop := integerOperatesUptoRow.holds Try.pinned (OpenSpec.upto integerOperatesSpec)

/-- 'manorboylaw01.IntegerPowers', WHERE WHAT IT READS IS OF BULK AT MOST 1048576: true; the input reads as it did. -/
def integerPowersUptoRow : OpenClaim := { program := "ytjclehdhjnmlpaa", sum := "bd1b0063fc425eb06cf316726a55109a20c69e890e987ffc0d31dd7833df0be3", func := "manorboy/manorboylaw01.IntegerPowers", spec := "integerPowers", unfollowed := true, recurses := true, apart := false, narrowed := true }
def IntegerPowersUptoSaid : Prop := integerPowersUptoRow.holds Try.pinned (OpenSpec.upto integerPowersSpec)

/-- 'manorboylaw01.IntegerDivides', WHERE WHAT IT READS IS OF BULK AT MOST 1048576: true; the input reads as it did. -/
def integerDividesUptoRow : OpenClaim := { program := "ytjclehdhjnmlpaa", sum := "bd1b0063fc425eb06cf316726a55109a20c69e890e987ffc0d31dd7833df0be3", func := "manorboy/manorboylaw01.IntegerDivides", spec := "integerDivides", unfollowed := true, recurses := true, apart := false, narrowed := true }
def IntegerDividesUptoSaid : Prop := integerDividesUptoRow.holds Try.pinned (OpenSpec.upto integerDividesSpec)

/-- 'manorboylaw01.IntegerCounts', WHERE WHAT IT READS IS OF BULK AT MOST 1048576: true; the input reads as it did. -/
def integerCountsUptoRow : OpenClaim := { program := "ytjclehdhjnmlpaa", sum := "bd1b0063fc425eb06cf316726a55109a20c69e890e987ffc0d31dd7833df0be3", func := "manorboy/manorboylaw01.IntegerCounts", spec := "integerCounts", unfollowed := true, recurses := true, apart := false, narrowed := true }
def IntegerCountsUptoSaid : Prop := integerCountsUptoRow.holds Try.pinned (OpenSpec.upto integerCountsSpec)

/-- 'manorboylaw01.IntegerTrips', WHERE WHAT IT READS IS OF BULK AT MOST 1048576: true; the input reads as it did. -/
def integerTripsUptoRow : OpenClaim := { program := "ytjclehdhjnmlpaa", sum := "bd1b0063fc425eb06cf316726a55109a20c69e890e987ffc0d31dd7833df0be3", func := "manorboy/manorboylaw01.IntegerTrips", spec := "integerTrips", unfollowed := true, recurses := true, apart := false, narrowed := true }
def IntegerTripsUptoSaid : Prop := integerTripsUptoRow.holds Try.pinned (OpenSpec.upto integerTripsSpec)

/-- 'manorboylaw01.IntegerLattice', WHERE WHAT IT READS IS OF BULK AT MOST 1048576: true; the input reads as it did. -/
def integerLatticeUptoRow : OpenClaim := { program := "ytjclehdhjnmlpaa", sum := "bd1b0063fc425eb06cf316726a55109a20c69e890e987ffc0d31dd7833df0be3", func := "manorboy/manorboylaw01.IntegerLattice", spec := "integerLattice", unfollowed := true, recurses := true, apart := false, narrowed := true }
def IntegerLatticeUptoSaid : Prop := integerLatticeUptoRow.holds Try.pinned (OpenSpec.upto integerLatticeSpec)

/-- 'manorboylaw01.IntegerTight', WHERE WHAT IT READS IS OF BULK AT MOST 1048576: true; the input reads as it did. -/
def integerTightUptoRow : OpenClaim := { program := "ytjclehdhjnmlpaa", sum := "bd1b0063fc425eb06cf316726a55109a20c69e890e987ffc0d31dd7833df0be3", func := "manorboy/manorboylaw01.IntegerTight", spec := "integerTight", unfollowed := true, recurses := true, apart := false, narrowed := true }
def IntegerTightUptoSaid : Prop := integerTightUptoRow.holds Try.pinned (OpenSpec.upto integerTightSpec)

/-- 'manorboylaw01.IntegerSets', WHERE WHAT IT READS IS OF BULK AT MOST 1048576: true; the input reads as it did. -/
def integerSetsUptoRow : OpenClaim := { program := "ytjclehdhjnmlpaa", sum := "bd1b0063fc425eb06cf316726a55109a20c69e890e987ffc0d31dd7833df0be3", func := "manorboy/manorboylaw01.IntegerSets", spec := "integerSets", unfollowed := true, recurses := true, apart := false, narrowed := true }
def IntegerSetsUptoSaid : Prop := integerSetsUptoRow.holds Try.pinned (OpenSpec.upto integerSetsSpec)

/-- 'manorboylaw01.IntegerSpans', WHERE WHAT IT READS IS OF BULK AT MOST 1048576: true; the input reads as it did. -/
def integerSpansUptoRow : OpenClaim := { program := "ytjclehdhjnmlpaa", sum := "bd1b0063fc425eb06cf316726a55109a20c69e890e987ffc0d31dd7833df0be3", func := "manorboy/manorboylaw01.IntegerSpans", spec := "integerSpans", unfollowed := true, recurses := true, apart := false, narrowed := true }
def IntegerSpansUptoSaid : Prop := integerSpansUptoRow.holds Try.pinned (OpenSpec.upto integerSpansSpec)

/-- 'manorboylaw01.IntegerTighter', WHERE WHAT IT READS IS OF BULK AT MOST 1048576: true; the input reads as it did. -/
def integerTighterUptoRow : OpenClaim := { program := "ytjclehdhjnmlpaa", sum := "bd1b0063fc425eb06cf316726a55109a20c69e890e987ffc0d31dd7833df0be3", func := "manorboy/manorboylaw01.IntegerTighter", spec := "integerTighter", unfollowed := true, recurses := true, apart := false, narrowed := true }
def IntegerTighterUptoSaid : Prop := integerTighterUptoRow.holds Try.pinned (OpenSpec.upto integerTighterSpec)

/-- 'manorboylaw01.IntegerSound', WHERE WHAT IT READS IS OF BULK AT MOST 1048576: true; the input reads as it did. -/
def integerSoundUptoRow : OpenClaim := { program := "ytjclehdhjnmlpaa", sum := "bd1b0063fc425eb06cf316726a55109a20c69e890e987ffc0d31dd7833df0be3", func := "manorboy/manorboylaw01.IntegerSound", spec := "integerSound", unfollowed := true, recurses := true, apart := false, narrowed := true }
def IntegerSoundUptoSaid : Prop := integerSoundUptoRow.holds Try.pinned (OpenSpec.upto integerSoundSpec)

end Rows
end Go.Proofs.Ytjclehdhjnmlpaa
