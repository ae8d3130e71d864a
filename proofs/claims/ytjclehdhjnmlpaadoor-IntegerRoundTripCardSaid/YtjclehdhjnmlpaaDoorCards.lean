/-
  DERIVED. GIVEN WITH THE SEED: THE CARDS: each row of YtjclehdhjnmlpaaDoorRows.lean that lists a variable, with what it lists TIED to the program's text (the seventh form; the later family's looks); each row that meets fmt, with fmt's text TOLD by the authors' own Lean function (tested against real Go, not proved from fmt's source: count such statements apart). THE CARD IS WHAT COUNTS. Prove the row's statement (the work); the ties are given (YtjclehdhjnmlpaaDoorTie.lean); close each card by the builder's one call (the guide's Derived/Test/ToyasCard.lean, 'card_holds'). Laid BY PROGRAM, IN A SANDBOX (cutbox-door.mjs). By AI agents, Wed Nov 11 2026. No macro, syntax, notation, axiom, sorry.
-/
import Derived.Test.YtjclehdhjnmlpaaDoorRows
import GoSem.ClaimSeven
namespace Go.Proofs.YtjclehdhjnmlpaaDoor
namespace Rows

/-- THE TIED CARD OF 'manorboylaw01.IntegerTexts'. -/
def integerTextsCard : Claim7 := { stood := { row := integerTextsRow, standIns := [], harness := (true, "719e2984357a30ea4a6496c7e5c09ece53f0b862c7c0cde291fc53a82706c025"), looks := false }, kinds := [], alts := [], laidByText := true, laidKinds := [.data, .data, .data], laidTests := true, laidLooks := .later }
def IntegerTextsCardSaid : Prop := Claim7.holds Tryd.pinned (.plain (OpenSpec.ofChange integerTextsSpec)) integerTextsCard

/-- THE TIED CARD OF 'manorboylaw01.IntegerRoundTrip'. -/
def integerRoundTripCard : Claim7 := { stood := { row := integerRoundTripRow, standIns := [], harness := (true, "719e2984357a30ea4a6496c7e5c09ece53f0b862c7c0cde291fc53a82706c025"), looks := false }, kinds := [], alts := [], laidByText := true, laidKinds := [.data, .data, .data], laidTests := true, laidLooks := .later }
def IntegerRoundTripCardSaid : Prop := Claim7.holds Tryd.pinned (.plain (OpenSpec.ofChange integerRoundTripSpec)) integerRoundTripCard

/-- THE SECOND FORM's CARD OF 'manorboylaw01.IntegerTexts'. -/
def integerTextsUptoCard : Claim7 := { stood := { row := integerTextsUptoRow, standIns := [], harness := (true, "719e2984357a30ea4a6496c7e5c09ece53f0b862c7c0cde291fc53a82706c025"), looks := false }, kinds := [], alts := [], laidByText := true, laidKinds := [.data, .data, .data], laidTests := true, laidLooks := .later }
def IntegerTextsUptoCardSaid : Prop := Claim7.holds Tryd.pinned (.plain (OpenSpec.upto integerTextsSpec)) integerTextsUptoCard

/-- THE SECOND FORM's CARD OF 'manorboylaw01.IntegerRoundTrip'. -/
def integerRoundTripUptoCard : Claim7 := { stood := { row := integerRoundTripUptoRow, standIns := [], harness := (true, "719e2984357a30ea4a6496c7e5c09ece53f0b862c7c0cde291fc53a82706c025"), looks := false }, kinds := [], alts := [], laidByText := true, laidKinds := [.data, .data, .data], laidTests := true, laidLooks := .later }
def IntegerRoundTripUptoCardSaid : Prop := Claim7.holds Tryd.pinned (.plain (OpenSpec.upto integerRoundTripSpec)) integerRoundTripUptoCard
end Rows
end Go.Proofs.YtjclehdhjnmlpaaDoor
