/-
  DERIVED. GIVEN WITH THE SEED: THE CARDS: each row of YteigbokklclmbaaGreatDoorRows.lean that lists a variable, with what it lists TIED to the program's text (the seventh form; the later family's looks); each row that meets fmt, with fmt's text TOLD by the authors' own Lean function (tested against real Go, not proved from fmt's source: count such statements apart). THE CARD IS WHAT COUNTS. Prove the row's statement (the work); the ties are given (YteigbokklclmbaaGreatDoorTie.lean); close each card by the builder's one call (the guide's Derived/Test/ToyasCard.lean, 'card_holds'). Laid BY PROGRAM, IN A SANDBOX (cutbox-door.mjs). By AI agents, Wed Nov 11 2026. No macro, syntax, notation, axiom, sorry.
-/
import Derived.Test.YteigbokklclmbaaGreatDoorRows
import GoSem.ClaimSeven
namespace Go.Proofs.YteigbokklclmbaaGreatDoor
namespace Rows

/-- THE TIED CARD OF 'manorboylaw02.RealPowers'. -/
def realPowersCard : Claim7 := { stood := { row := realPowersRow, standIns := [], harness := (true, "02d3c689eb6e49c930b728a9da17e489b105c2fbb88b02783bdd02e84394884c"), looks := true }, kinds := [], alts := [], laidByText := true, laidKinds := [.data, .data, .data, .data, .pinned], laidTests := true, laidLooks := .later }
def RealPowersCardSaid : Prop := Claim7.holds Tryz.pinned (.plain (OpenSpec.ofChange realPowersSpec)) realPowersCard

/-- THE TIED CARD OF 'manorboylaw02.RealIntegers'. -/
def realIntegersCard : Claim7 := { stood := { row := realIntegersRow, standIns := [], harness := (true, "02d3c689eb6e49c930b728a9da17e489b105c2fbb88b02783bdd02e84394884c"), looks := true }, kinds := [], alts := [], laidByText := true, laidKinds := [.data, .data, .data, .data, .pinned], laidTests := true, laidLooks := .later }
def RealIntegersCardSaid : Prop := Claim7.holds Tryz.pinned (.plain (OpenSpec.ofChange realIntegersSpec)) realIntegersCard

/-- THE TIED CARD OF 'manorboylaw02.RealStrings'. -/
def realStringsCard : Claim7 := { stood := { row := realStringsRow, standIns := [], harness := (true, "02d3c689eb6e49c930b728a9da17e489b105c2fbb88b02783bdd02e84394884c"), looks := true }, kinds := [], alts := [], laidByText := true, laidKinds := [.data, .data, .data, .data, .pinned], laidTests := true, laidLooks := .later }
def RealStringsCardSaid : Prop := Claim7.holds Tryz.pinned (.plain (OpenSpec.ofChange realStringsSpec)) realStringsCard

/-- THE TIED CARD OF 'manorboylaw02.RealExact'. -/
def realExactCard : Claim7 := { stood := { row := realExactRow, standIns := [], harness := (true, "02d3c689eb6e49c930b728a9da17e489b105c2fbb88b02783bdd02e84394884c"), looks := true }, kinds := [], alts := [], laidByText := true, laidKinds := [.data, .data, .data, .data, .pinned], laidTests := true, laidLooks := .later }
def RealExactCardSaid : Prop := Claim7.holds Tryz.pinned (.plain (OpenSpec.ofChange realExactSpec)) realExactCard

/-- THE TIED CARD OF 'manorboylaw02.RealSums'. -/
def realSumsCard : Claim7 := { stood := { row := realSumsRow, standIns := [], harness := (true, "02d3c689eb6e49c930b728a9da17e489b105c2fbb88b02783bdd02e84394884c"), looks := true }, kinds := [], alts := [], laidByText := true, laidKinds := [.data, .data, .data, .data, .pinned], laidTests := true, laidLooks := .later }
def RealSumsCardSaid : Prop := Claim7.holds Tryz.pinned (.plain (OpenSpec.ofChange realSumsSpec)) realSumsCard

/-- THE TIED CARD OF 'manorboylaw02.RealBack'. -/
def realBackCard : Claim7 := { stood := { row := realBackRow, standIns := [], harness := (true, "02d3c689eb6e49c930b728a9da17e489b105c2fbb88b02783bdd02e84394884c"), looks := true }, kinds := [], alts := [], laidByText := true, laidKinds := [.data, .data, .data, .data, .pinned], laidTests := true, laidLooks := .later }
def RealBackCardSaid : Prop := Claim7.holds Tryz.pinned (.plain (OpenSpec.ofChange realBackSpec)) realBackCard

/-- THE TIED CARD OF 'manorboylaw02.RealNearest'. -/
def realNearestCard : Claim7 := { stood := { row := realNearestRow, standIns := [], harness := (true, "02d3c689eb6e49c930b728a9da17e489b105c2fbb88b02783bdd02e84394884c"), looks := true }, kinds := [], alts := [], laidByText := true, laidKinds := [.data, .data, .data, .data, .pinned], laidTests := true, laidLooks := .later }
def RealNearestCardSaid : Prop := Claim7.holds Tryz.pinned (.plain (OpenSpec.ofChange realNearestSpec)) realNearestCard

/-- THE TIED CARD OF 'manorboylaw02.RealProducts'. -/
def realProductsCard : Claim7 := { stood := { row := realProductsRow, standIns := [], harness := (true, "02d3c689eb6e49c930b728a9da17e489b105c2fbb88b02783bdd02e84394884c"), looks := true }, kinds := [], alts := [], laidByText := true, laidKinds := [.data, .data, .data, .data, .pinned], laidTests := true, laidLooks := .later }
def RealProductsCardSaid : Prop := Claim7.holds Tryz.pinned (.plain (OpenSpec.ofChange realProductsSpec)) realProductsCard

/-- THE TIED CARD OF 'manorboylaw02.RealIntegerLaws'. -/
def realIntegerLawsCard : Claim7 := { stood := { row := realIntegerLawsRow, standIns := [], harness := (true, "02d3c689eb6e49c930b728a9da17e489b105c2fbb88b02783bdd02e84394884c"), looks := true }, kinds := [], alts := [], laidByText := true, laidKinds := [.data, .data, .data, .data, .pinned], laidTests := true, laidLooks := .later }
def RealIntegerLawsCardSaid : Prop := Claim7.holds Tryz.pinned (.plain (OpenSpec.ofChange realIntegerLawsSpec)) realIntegerLawsCard

/-- THE TIED CARD OF 'manorboylaw02.RealAlgebra'. -/
def realAlgebraCard : Claim7 := { stood := { row := realAlgebraRow, standIns := [], harness := (true, "02d3c689eb6e49c930b728a9da17e489b105c2fbb88b02783bdd02e84394884c"), looks := true }, kinds := [], alts := [], laidByText := true, laidKinds := [.data, .data, .data, .data, .pinned], laidTests := true, laidLooks := .later }
def RealAlgebraCardSaid : Prop := Claim7.holds Tryz.pinned (.plain (OpenSpec.ofChange realAlgebraSpec)) realAlgebraCard

/-- THE TIED CARD OF 'manorboylaw02.RealOrder'. -/
def realOrderCard : Claim7 := { stood := { row := realOrderRow, standIns := [], harness := (true, "02d3c689eb6e49c930b728a9da17e489b105c2fbb88b02783bdd02e84394884c"), looks := true }, kinds := [], alts := [], laidByText := true, laidKinds := [.data, .data, .data, .data, .pinned], laidTests := true, laidLooks := .later }
def RealOrderCardSaid : Prop := Claim7.holds Tryz.pinned (.plain (OpenSpec.ofChange realOrderSpec)) realOrderCard

/-- THE TIED CARD OF 'manorboylaw02.RealMonotonic'. -/
def realMonotonicCard : Claim7 := { stood := { row := realMonotonicRow, standIns := [], harness := (true, "02d3c689eb6e49c930b728a9da17e489b105c2fbb88b02783bdd02e84394884c"), looks := true }, kinds := [], alts := [], laidByText := true, laidKinds := [.data, .data, .data, .data, .pinned], laidTests := true, laidLooks := .later }
def RealMonotonicCardSaid : Prop := Claim7.holds Tryz.pinned (.plain (OpenSpec.ofChange realMonotonicSpec)) realMonotonicCard

/-- THE TIED CARD OF 'manorboylaw02.RealNumbers'. -/
def realNumbersCard : Claim7 := { stood := { row := realNumbersRow, standIns := [], harness := (true, "02d3c689eb6e49c930b728a9da17e489b105c2fbb88b02783bdd02e84394884c"), looks := true }, kinds := [], alts := [], laidByText := true, laidKinds := [.data, .data, .data, .data, .pinned], laidTests := true, laidLooks := .later }
def RealNumbersCardSaid : Prop := Claim7.holds Tryz.pinned (.plain (OpenSpec.ofChange realNumbersSpec)) realNumbersCard

/-- THE TIED CARD OF 'manorboylaw02.RealPowerLaws'. -/
def realPowerLawsCard : Claim7 := { stood := { row := realPowerLawsRow, standIns := [], harness := (true, "02d3c689eb6e49c930b728a9da17e489b105c2fbb88b02783bdd02e84394884c"), looks := true }, kinds := [], alts := [], laidByText := true, laidKinds := [.data, .data, .data, .data, .pinned], laidTests := true, laidLooks := .later }
def RealPowerLawsCardSaid : Prop := Claim7.holds Tryz.pinned (.plain (OpenSpec.ofChange realPowerLawsSpec)) realPowerLawsCard

/-- THE SECOND FORM's CARD OF 'manorboylaw02.RealPowers'. -/
def realPowersUptoCard : Claim7 := { stood := { row := realPowersUptoRow, standIns := [], harness := (true, "02d3c689eb6e49c930b728a9da17e489b105c2fbb88b02783bdd02e84394884c"), looks := true }, kinds := [], alts := [], laidByText := true, laidKinds := [.data, .data, .data, .data, .pinned], laidTests := true, laidLooks := .later }
def RealPowersUptoCardSaid : Prop := Claim7.holds Tryz.pinned (.plain (OpenSpec.upto realPowersSpec)) realPowersUptoCard

/-- THE SECOND FORM's CARD OF 'manorboylaw02.RealIntegers'. -/
def realIntegersUptoCard : Claim7 := { stood := { row := realIntegersUptoRow, standIns := [], harness := (true, "02d3c689eb6e49c930b728a9da17e489b105c2fbb88b02783bdd02e84394884c"), looks := true }, kinds := [], alts := [], laidByText := true, laidKinds := [.data, .data, .data, .data, .pinned], laidTests := true, laidLooks := .later }
def RealIntegersUptoCardSaid : Prop := Claim7.holds Tryz.pinned (.plain (OpenSpec.upto realIntegersSpec)) realIntegersUptoCard

/-- THE SECOND FORM's CARD OF 'manorboylaw02.RealStrings'. -/
def realStringsUptoCard : Claim7 := { stood := { row := realStringsUptoRow, standIns := [], harness := (true, "02d3c689eb6e49c930b728a9da17e489b105c2fbb88b02783bdd02e84394884c"), looks := true }, kinds := [], alts := [], laidByText := true, laidKinds := [.data, .data, .data, .data, .pinned], laidTests := true, laidLooks := .later }
def RealStringsUptoCardSaid : Prop := Claim7.holds Tryz.pinned (.plain (OpenSpec.upto realStringsSpec)) realStringsUptoCard

/-- THE SECOND FORM's CARD OF 'manorboylaw02.RealExact'. -/
def realExactUptoCard : Claim7 := { stood := { row := realExactUptoRow, standIns := [], harness := (true, "02d3c689eb6e49c930b728a9da17e489b105c2fbb88b02783bdd02e84394884c"), looks := true }, kinds := [], alts := [], laidByText := true, laidKinds := [.data, .data, .data, .data, .pinned], laidTests := true, laidLooks := .later }
def RealExactUptoCardSaid : Prop := Claim7.holds Tryz.pinned (.plain (OpenSpec.upto realExactSpec)) realExactUptoCard

/-- THE SECOND FORM's CARD OF 'manorboylaw02.RealSums'. -/
def realSumsUptoCard : Claim7 := { stood := { row := realSumsUptoRow, standIns := [], harness := (true, "02d3c689eb6e49c930b728a9da17e489b105c2fbb88b02783bdd02e84394884c"), looks := true }, kinds := [], alts := [], laidByText := true, laidKinds := [.data, .data, .data, .data, .pinned], laidTests := true, laidLooks := .later }
def RealSumsUptoCardSaid : Prop := Claim7.holds Tryz.pinned (.plain (OpenSpec.upto realSumsSpec)) realSumsUptoCard

/-- THE SECOND FORM's CARD OF 'manorboylaw02.RealBack'. -/
def realBackUptoCard : Claim7 := { stood := { row := realBackUptoRow, standIns := [], harness := (true, "02d3c689eb6e49c930b728a9da17e489b105c2fbb88b02783bdd02e84394884c"), looks := true }, kinds := [], alts := [], laidByText := true, laidKinds := [.data, .data, .data, .data, .pinned], laidTests := true, laidLooks := .later }
def RealBackUptoCardSaid : Prop := Claim7.holds Tryz.pinned (.plain (OpenSpec.upto realBackSpec)) realBackUptoCard

/-- THE SECOND FORM's CARD OF 'manorboylaw02.RealNearest'. -/
def realNearestUptoCard : Claim7 := { stood := { row := realNearestUptoRow, standIns := [], harness := (true, "02d3c689eb6e49c930b728a9da17e489b105c2fbb88b02783bdd02e84394884c"), looks := true }, kinds := [], alts := [], laidByText := true, laidKinds := [.data, .data, .data, .data, .pinned], laidTests := true, laidLooks := .later }
def RealNearestUptoCardSaid : Prop := Claim7.holds Tryz.pinned (.plain (OpenSpec.upto realNearestSpec)) realNearestUptoCard

/-- THE SECOND FORM's CARD OF 'manorboylaw02.RealProducts'. -/
def realProductsUptoCard : Claim7 := { stood := { row := realProductsUptoRow, standIns := [], harness := (true, "02d3c689eb6e49c930b728a9da17e489b105c2fbb88b02783bdd02e84394884c"), looks := true }, kinds := [], alts := [], laidByText := true, laidKinds := [.data, .data, .data, .data, .pinned], laidTests := true, laidLooks := .later }
def RealProductsUptoCardSaid : Prop := Claim7.holds Tryz.pinned (.plain (OpenSpec.upto realProductsSpec)) realProductsUptoCard

/-- THE SECOND FORM's CARD OF 'manorboylaw02.RealIntegerLaws'. -/
def realIntegerLawsUptoCard : Claim7 := { stood := { row := realIntegerLawsUptoRow, standIns := [], harness := (true, "02d3c689eb6e49c930b728a9da17e489b105c2fbb88b02783bdd02e84394884c"), looks := true }, kinds := [], alts := [], laidByText := true, laidKinds := [.data, .data, .data, .data, .pinned], laidTests := true, laidLooks := .later }
def RealIntegerLawsUptoCardSaid : Prop := Claim7.holds Tryz.pinned (.plain (OpenSpec.upto realIntegerLawsSpec)) realIntegerLawsUptoCard

/-- THE SECOND FORM's CARD OF 'manorboylaw02.RealAlgebra'. -/
def realAlgebraUptoCard : Claim7 := { stood := { row := realAlgebraUptoRow, standIns := [], harness := (true, "02d3c689eb6e49c930b728a9da17e489b105c2fbb88b02783bdd02e84394884c"), looks := true }, kinds := [], alts := [], laidByText := true, laidKinds := [.data, .data, .data, .data, .pinned], laidTests := true, laidLooks := .later }
def RealAlgebraUptoCardSaid : Prop := Claim7.holds Tryz.pinned (.plain (OpenSpec.upto realAlgebraSpec)) realAlgebraUptoCard

/-- THE SECOND FORM's CARD OF 'manorboylaw02.RealOrder'. -/
def realOrderUptoCard : Claim7 := { stood := { row := realOrderUptoRow, standIns := [], harness := (true, "02d3c689eb6e49c930b728a9da17e489b105c2fbb88b02783bdd02e84394884c"), looks := true }, kinds := [], alts := [], laidByText := true, laidKinds := [.data, .data, .data, .data, .pinned], laidTests := true, laidLooks := .later }
def RealOrderUptoCardSaid : Prop := Claim7.holds Tryz.pinned (.plain (OpenSpec.upto realOrderSpec)) realOrderUptoCard

/-- THE SECOND FORM's CARD OF 'manorboylaw02.RealMonotonic'. -/
def realMonotonicUptoCard : Claim7 := { stood := { row := realMonotonicUptoRow, standIns := [], harness := (true, "02d3c689eb6e49c930b728a9da17e489b105c2fbb88b02783bdd02e84394884c"), looks := true }, kinds := [], alts := [], laidByText := true, laidKinds := [.data, .data, .data, .data, .pinned], laidTests := true, laidLooks := .later }
def RealMonotonicUptoCardSaid : Prop := Claim7.holds Tryz.pinned (.plain (OpenSpec.upto realMonotonicSpec)) realMonotonicUptoCard

/-- THE SECOND FORM's CARD OF 'manorboylaw02.RealNumbers'. -/
def realNumbersUptoCard : Claim7 := { stood := { row := realNumbersUptoRow, standIns := [], harness := (true, "02d3c689eb6e49c930b728a9da17e489b105c2fbb88b02783bdd02e84394884c"), looks := true }, kinds := [], alts := [], laidByText := true, laidKinds := [.data, .data, .data, .data, .pinned], laidTests := true, laidLooks := .later }
def RealNumbersUptoCardSaid : Prop := Claim7.holds Tryz.pinned (.plain (OpenSpec.upto realNumbersSpec)) realNumbersUptoCard

/-- THE SECOND FORM's CARD OF 'manorboylaw02.RealPowerLaws'. -/
def realPowerLawsUptoCard : Claim7 := { stood := { row := realPowerLawsUptoRow, standIns := [], harness := (true, "02d3c689eb6e49c930b728a9da17e489b105c2fbb88b02783bdd02e84394884c"), looks := true }, kinds := [], alts := [], laidByText := true, laidKinds := [.data, .data, .data, .data, .pinned], laidTests := true, laidLooks := .later }
def RealPowerLawsUptoCardSaid : Prop := Claim7.holds Tryz.pinned (.plain (OpenSpec.upto realPowerLawsSpec)) realPowerLawsUptoCard
end Rows
end Go.Proofs.YteigbokklclmbaaGreatDoor
