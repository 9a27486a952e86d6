/-
  DERIVED. GIVEN WITH THE SEED: THE CARDS: each row of YtncmcnpjmdpnaaaGreatDoorRows.lean that lists a variable, with what it lists TIED to the program's text (the seventh form; the later family's looks); each row that meets fmt, with fmt's text TOLD by the authors' own Lean function (tested against real Go, not proved from fmt's source: count such statements apart). THE CARD IS WHAT COUNTS. Prove the row's statement (the work); the ties are given (YtncmcnpjmdpnaaaGreatDoorTie.lean); close each card by the builder's one call (the guide's Derived/Test/ToyasCard.lean, 'card_holds'). Laid BY PROGRAM, IN A SANDBOX (cutbox-door.mjs). By AI agents, Wed Nov 11 2026. No macro, syntax, notation, axiom, sorry.
-/
import Derived.Test.YtncmcnpjmdpnaaaGreatDoorRows
import GoSem.ClaimSeven
namespace Go.Proofs.YtncmcnpjmdpnaaaGreatDoor
namespace Rows

/-- THE TIED CARD OF 'ephemeristlaw02.HandsErrors'. -/
def handsErrorsCard : Claim7 := { stood := { row := handsErrorsRow, standIns := [], harness := (true, "7790bba9d5b53315c9bae990e7e78412e861b2927dd791b753a52aaafcc0456a"), looks := true }, kinds := [], alts := [], laidByText := true, laidKinds := [.data, .data, .data, .data, .pinned], laidTests := true, laidLooks := .later }
def HandsErrorsCardSaid : Prop := Claim7.holds Tryz.pinned (.plain (OpenSpec.ofChange handsErrorsSpec)) handsErrorsCard

/-- THE TIED CARD OF 'ephemeristlaw02.HandsMade'. -/
def handsMadeCard : Claim7 := { stood := { row := handsMadeRow, standIns := [], harness := (true, "7790bba9d5b53315c9bae990e7e78412e861b2927dd791b753a52aaafcc0456a"), looks := true }, kinds := [], alts := [], laidByText := true, laidKinds := [.data, .data, .data, .data, .pinned], laidTests := true, laidLooks := .later }
def HandsMadeCardSaid : Prop := Claim7.holds Tryz.pinned (.plain (OpenSpec.ofChange handsMadeSpec)) handsMadeCard

/-- THE TIED CARD OF 'ephemeristlaw02.HandsFirsts'. -/
def handsFirstsCard : Claim7 := { stood := { row := handsFirstsRow, standIns := [], harness := (true, "7790bba9d5b53315c9bae990e7e78412e861b2927dd791b753a52aaafcc0456a"), looks := true }, kinds := [], alts := [], laidByText := true, laidKinds := [.data, .data, .data, .data, .pinned], laidTests := true, laidLooks := .later }
def HandsFirstsCardSaid : Prop := Claim7.holds Tryz.pinned (.plain (OpenSpec.ofChange handsFirstsSpec)) handsFirstsCard

/-- THE TIED CARD OF 'ephemeristlaw02.HandsValues'. -/
def handsValuesCard : Claim7 := { stood := { row := handsValuesRow, standIns := [], harness := (true, "7790bba9d5b53315c9bae990e7e78412e861b2927dd791b753a52aaafcc0456a"), looks := true }, kinds := [], alts := [], laidByText := true, laidKinds := [.data, .data, .data, .data, .pinned], laidTests := true, laidLooks := .later }
def HandsValuesCardSaid : Prop := Claim7.holds Tryz.pinned (.plain (OpenSpec.ofChange handsValuesSpec)) handsValuesCard

/-- THE TIED CARD OF 'ephemeristlaw02.HandsTrue'. -/
def handsTrueCard : Claim7 := { stood := { row := handsTrueRow, standIns := [], harness := (true, "7790bba9d5b53315c9bae990e7e78412e861b2927dd791b753a52aaafcc0456a"), looks := true }, kinds := [], alts := [], laidByText := true, laidKinds := [.data, .data, .data, .data, .pinned], laidTests := true, laidLooks := .later }
def HandsTrueCardSaid : Prop := Claim7.holds Tryz.pinned (.plain (OpenSpec.ofChange handsTrueSpec)) handsTrueCard

/-- THE TIED CARD OF 'ephemeristlaw02.HandsLeast'. -/
def handsLeastCard : Claim7 := { stood := { row := handsLeastRow, standIns := [], harness := (true, "7790bba9d5b53315c9bae990e7e78412e861b2927dd791b753a52aaafcc0456a"), looks := true }, kinds := [], alts := [], laidByText := true, laidKinds := [.data, .data, .data, .data, .pinned], laidTests := true, laidLooks := .later }
def HandsLeastCardSaid : Prop := Claim7.holds Tryz.pinned (.plain (OpenSpec.ofChange handsLeastSpec)) handsLeastCard

/-- THE TIED CARD OF 'ephemeristlaw02.HandsNexts'. -/
def handsNextsCard : Claim7 := { stood := { row := handsNextsRow, standIns := [], harness := (true, "7790bba9d5b53315c9bae990e7e78412e861b2927dd791b753a52aaafcc0456a"), looks := true }, kinds := [], alts := [], laidByText := true, laidKinds := [.data, .data, .data, .data, .pinned], laidTests := true, laidLooks := .later }
def HandsNextsCardSaid : Prop := Claim7.holds Tryz.pinned (.plain (OpenSpec.ofChange handsNextsSpec)) handsNextsCard

/-- THE TIED CARD OF 'ephemeristlaw02.HandsWrongs'. -/
def handsWrongsCard : Claim7 := { stood := { row := handsWrongsRow, standIns := [], harness := (true, "7790bba9d5b53315c9bae990e7e78412e861b2927dd791b753a52aaafcc0456a"), looks := true }, kinds := [], alts := [], laidByText := true, laidKinds := [.data, .data, .data, .data, .pinned], laidTests := true, laidLooks := .later }
def HandsWrongsCardSaid : Prop := Claim7.holds Tryz.pinned (.plain (OpenSpec.ofChange handsWrongsSpec)) handsWrongsCard

/-- THE TIED CARD OF 'ephemeristlaw02.HandsBoth'. -/
def handsBothCard : Claim7 := { stood := { row := handsBothRow, standIns := [], harness := (true, "7790bba9d5b53315c9bae990e7e78412e861b2927dd791b753a52aaafcc0456a"), looks := true }, kinds := [], alts := [], laidByText := true, laidKinds := [.data, .data, .data, .data, .pinned], laidTests := true, laidLooks := .later }
def HandsBothCardSaid : Prop := Claim7.holds Tryz.pinned (.plain (OpenSpec.ofChange handsBothSpec)) handsBothCard

/-- THE TIED CARD OF 'ephemeristlaw02.HandsAlike'. -/
def handsAlikeCard : Claim7 := { stood := { row := handsAlikeRow, standIns := [], harness := (true, "7790bba9d5b53315c9bae990e7e78412e861b2927dd791b753a52aaafcc0456a"), looks := true }, kinds := [], alts := [], laidByText := true, laidKinds := [.data, .data, .data, .data, .pinned], laidTests := true, laidLooks := .later }
def HandsAlikeCardSaid : Prop := Claim7.holds Tryz.pinned (.plain (OpenSpec.ofChange handsAlikeSpec)) handsAlikeCard

/-- THE TIED CARD OF 'ephemeristlaw02.HandsMore'. -/
def handsMoreCard : Claim7 := { stood := { row := handsMoreRow, standIns := [], harness := (true, "7790bba9d5b53315c9bae990e7e78412e861b2927dd791b753a52aaafcc0456a"), looks := true }, kinds := [], alts := [], laidByText := true, laidKinds := [.data, .data, .data, .data, .pinned], laidTests := true, laidLooks := .later }
def HandsMoreCardSaid : Prop := Claim7.holds Tryz.pinned (.plain (OpenSpec.ofChange handsMoreSpec)) handsMoreCard

/-- THE TIED CARD OF 'ephemeristlaw02.HandsOrder'. -/
def handsOrderCard : Claim7 := { stood := { row := handsOrderRow, standIns := [], harness := (true, "7790bba9d5b53315c9bae990e7e78412e861b2927dd791b753a52aaafcc0456a"), looks := true }, kinds := [], alts := [], laidByText := true, laidKinds := [.data, .data, .data, .data, .pinned], laidTests := true, laidLooks := .later }
def HandsOrderCardSaid : Prop := Claim7.holds Tryz.pinned (.plain (OpenSpec.ofChange handsOrderSpec)) handsOrderCard

/-- THE TIED CARD OF 'ephemeristlaw02.HandsSigns'. -/
def handsSignsCard : Claim7 := { stood := { row := handsSignsRow, standIns := [], harness := (true, "7790bba9d5b53315c9bae990e7e78412e861b2927dd791b753a52aaafcc0456a"), looks := true }, kinds := [], alts := [], laidByText := true, laidKinds := [.data, .data, .data, .data, .pinned], laidTests := true, laidLooks := .later }
def HandsSignsCardSaid : Prop := Claim7.holds Tryz.pinned (.plain (OpenSpec.ofChange handsSignsSpec)) handsSignsCard

/-- THE TIED CARD OF 'ephemeristlaw02.HandsAgrees'. -/
def handsAgreesCard : Claim7 := { stood := { row := handsAgreesRow, standIns := [], harness := (true, "7790bba9d5b53315c9bae990e7e78412e861b2927dd791b753a52aaafcc0456a"), looks := true }, kinds := [], alts := [], laidByText := true, laidKinds := [.data, .data, .data, .data, .pinned], laidTests := true, laidLooks := .later }
def HandsAgreesCardSaid : Prop := Claim7.holds Tryz.pinned (.plain (OpenSpec.ofChange handsAgreesSpec)) handsAgreesCard

/-- THE TIED CARD OF 'ephemeristlaw02.HandsPrints'. -/
def handsPrintsCard : Claim7 := { stood := { row := handsPrintsRow, standIns := [], harness := (true, "7790bba9d5b53315c9bae990e7e78412e861b2927dd791b753a52aaafcc0456a"), looks := true }, kinds := [], alts := [], laidByText := true, laidKinds := [.data, .data, .data, .data, .pinned], laidTests := true, laidLooks := .later }
def HandsPrintsCardSaid : Prop := Claim7.holds Tryz.pinned (.plain (OpenSpec.ofChange handsPrintsSpec)) handsPrintsCard

/-- THE TIED CARD OF 'ephemeristlaw02.HandsReads'. -/
def handsReadsCard : Claim7 := { stood := { row := handsReadsRow, standIns := [], harness := (true, "7790bba9d5b53315c9bae990e7e78412e861b2927dd791b753a52aaafcc0456a"), looks := true }, kinds := [], alts := [], laidByText := true, laidKinds := [.data, .data, .data, .data, .pinned], laidTests := true, laidLooks := .later }
def HandsReadsCardSaid : Prop := Claim7.holds Tryz.pinned (.plain (OpenSpec.ofChange handsReadsSpec)) handsReadsCard

/-- THE TIED CARD OF 'ephemeristlaw02.HandsSpoilt'. -/
def handsSpoiltCard : Claim7 := { stood := { row := handsSpoiltRow, standIns := [], harness := (true, "7790bba9d5b53315c9bae990e7e78412e861b2927dd791b753a52aaafcc0456a"), looks := true }, kinds := [], alts := [], laidByText := true, laidKinds := [.data, .data, .data, .data, .pinned], laidTests := true, laidLooks := .later }
def HandsSpoiltCardSaid : Prop := Claim7.holds Tryz.pinned (.plain (OpenSpec.ofChange handsSpoiltSpec)) handsSpoiltCard

/-- THE SECOND FORM's CARD OF 'ephemeristlaw02.HandsErrors'. -/
def handsErrorsUptoCard : Claim7 := { stood := { row := handsErrorsUptoRow, standIns := [], harness := (true, "7790bba9d5b53315c9bae990e7e78412e861b2927dd791b753a52aaafcc0456a"), looks := true }, kinds := [], alts := [], laidByText := true, laidKinds := [.data, .data, .data, .data, .pinned], laidTests := true, laidLooks := .later }
def HandsErrorsUptoCardSaid : Prop := Claim7.holds Tryz.pinned (.plain (OpenSpec.upto handsErrorsSpec)) handsErrorsUptoCard

/-- THE SECOND FORM's CARD OF 'ephemeristlaw02.HandsMade'. -/
def handsMadeUptoCard : Claim7 := { stood := { row := handsMadeUptoRow, standIns := [], harness := (true, "7790bba9d5b53315c9bae990e7e78412e861b2927dd791b753a52aaafcc0456a"), looks := true }, kinds := [], alts := [], laidByText := true, laidKinds := [.data, .data, .data, .data, .pinned], laidTests := true, laidLooks := .later }
def HandsMadeUptoCardSaid : Prop := Claim7.holds Tryz.pinned (.plain (OpenSpec.upto handsMadeSpec)) handsMadeUptoCard

/-- THE SECOND FORM's CARD OF 'ephemeristlaw02.HandsFirsts'. -/
def handsFirstsUptoCard : Claim7 := { stood := { row := handsFirstsUptoRow, standIns := [], harness := (true, "7790bba9d5b53315c9bae990e7e78412e861b2927dd791b753a52aaafcc0456a"), looks := true }, kinds := [], alts := [], laidByText := true, laidKinds := [.data, .data, .data, .data, .pinned], laidTests := true, laidLooks := .later }
def HandsFirstsUptoCardSaid : Prop := Claim7.holds Tryz.pinned (.plain (OpenSpec.upto handsFirstsSpec)) handsFirstsUptoCard

/-- THE SECOND FORM's CARD OF 'ephemeristlaw02.HandsValues'. -/
def handsValuesUptoCard : Claim7 := { stood := { row := handsValuesUptoRow, standIns := [], harness := (true, "7790bba9d5b53315c9bae990e7e78412e861b2927dd791b753a52aaafcc0456a"), looks := true }, kinds := [], alts := [], laidByText := true, laidKinds := [.data, .data, .data, .data, .pinned], laidTests := true, laidLooks := .later }
def HandsValuesUptoCardSaid : Prop := Claim7.holds Tryz.pinned (.plain (OpenSpec.upto handsValuesSpec)) handsValuesUptoCard

/-- THE SECOND FORM's CARD OF 'ephemeristlaw02.HandsTrue'. -/
def handsTrueUptoCard : Claim7 := { stood := { row := handsTrueUptoRow, standIns := [], harness := (true, "7790bba9d5b53315c9bae990e7e78412e861b2927dd791b753a52aaafcc0456a"), looks := true }, kinds := [], alts := [], laidByText := true, laidKinds := [.data, .data, .data, .data, .pinned], laidTests := true, laidLooks := .later }
def HandsTrueUptoCardSaid : Prop := Claim7.holds Tryz.pinned (.plain (OpenSpec.upto handsTrueSpec)) handsTrueUptoCard

/-- THE SECOND FORM's CARD OF 'ephemeristlaw02.HandsLeast'. -/
def handsLeastUptoCard : Claim7 := { stood := { row := handsLeastUptoRow, standIns := [], harness := (true, "7790bba9d5b53315c9bae990e7e78412e861b2927dd791b753a52aaafcc0456a"), looks := true }, kinds := [], alts := [], laidByText := true, laidKinds := [.data, .data, .data, .data, .pinned], laidTests := true, laidLooks := .later }
def HandsLeastUptoCardSaid : Prop := Claim7.holds Tryz.pinned (.plain (OpenSpec.upto handsLeastSpec)) handsLeastUptoCard

/-- THE SECOND FORM's CARD OF 'ephemeristlaw02.HandsNexts'. -/
def handsNextsUptoCard : Claim7 := { stood := { row := handsNextsUptoRow, standIns := [], harness := (true, "7790bba9d5b53315c9bae990e7e78412e861b2927dd791b753a52aaafcc0456a"), looks := true }, kinds := [], alts := [], laidByText := true, laidKinds := [.data, .data, .data, .data, .pinned], laidTests := true, laidLooks := .later }
def HandsNextsUptoCardSaid : Prop := Claim7.holds Tryz.pinned (.plain (OpenSpec.upto handsNextsSpec)) handsNextsUptoCard

/-- THE SECOND FORM's CARD OF 'ephemeristlaw02.HandsWrongs'. -/
def handsWrongsUptoCard : Claim7 := { stood := { row := handsWrongsUptoRow, standIns := [], harness := (true, "7790bba9d5b53315c9bae990e7e78412e861b2927dd791b753a52aaafcc0456a"), looks := true }, kinds := [], alts := [], laidByText := true, laidKinds := [.data, .data, .data, .data, .pinned], laidTests := true, laidLooks := .later }
def HandsWrongsUptoCardSaid : Prop := Claim7.holds Tryz.pinned (.plain (OpenSpec.upto handsWrongsSpec)) handsWrongsUptoCard

/-- THE SECOND FORM's CARD OF 'ephemeristlaw02.HandsBoth'. -/
def handsBothUptoCard : Claim7 := { stood := { row := handsBothUptoRow, standIns := [], harness := (true, "7790bba9d5b53315c9bae990e7e78412e861b2927dd791b753a52aaafcc0456a"), looks := true }, kinds := [], alts := [], laidByText := true, laidKinds := [.data, .data, .data, .data, .pinned], laidTests := true, laidLooks := .later }
def HandsBothUptoCardSaid : Prop := Claim7.holds Tryz.pinned (.plain (OpenSpec.upto handsBothSpec)) handsBothUptoCard

/-- THE SECOND FORM's CARD OF 'ephemeristlaw02.HandsAlike'. -/
def handsAlikeUptoCard : Claim7 := { stood := { row := handsAlikeUptoRow, standIns := [], harness := (true, "7790bba9d5b53315c9bae990e7e78412e861b2927dd791b753a52aaafcc0456a"), looks := true }, kinds := [], alts := [], laidByText := true, laidKinds := [.data, .data, .data, .data, .pinned], laidTests := true, laidLooks := .later }
def HandsAlikeUptoCardSaid : Prop := Claim7.holds Tryz.pinned (.plain (OpenSpec.upto handsAlikeSpec)) handsAlikeUptoCard

/-- THE SECOND FORM's CARD OF 'ephemeristlaw02.HandsMore'. -/
def handsMoreUptoCard : Claim7 := { stood := { row := handsMoreUptoRow, standIns := [], harness := (true, "7790bba9d5b53315c9bae990e7e78412e861b2927dd791b753a52aaafcc0456a"), looks := true }, kinds := [], alts := [], laidByText := true, laidKinds := [.data, .data, .data, .data, .pinned], laidTests := true, laidLooks := .later }
def HandsMoreUptoCardSaid : Prop := Claim7.holds Tryz.pinned (.plain (OpenSpec.upto handsMoreSpec)) handsMoreUptoCard

/-- THE SECOND FORM's CARD OF 'ephemeristlaw02.HandsOrder'. -/
def handsOrderUptoCard : Claim7 := { stood := { row := handsOrderUptoRow, standIns := [], harness := (true, "7790bba9d5b53315c9bae990e7e78412e861b2927dd791b753a52aaafcc0456a"), looks := true }, kinds := [], alts := [], laidByText := true, laidKinds := [.data, .data, .data, .data, .pinned], laidTests := true, laidLooks := .later }
def HandsOrderUptoCardSaid : Prop := Claim7.holds Tryz.pinned (.plain (OpenSpec.upto handsOrderSpec)) handsOrderUptoCard

/-- THE SECOND FORM's CARD OF 'ephemeristlaw02.HandsSigns'. -/
def handsSignsUptoCard : Claim7 := { stood := { row := handsSignsUptoRow, standIns := [], harness := (true, "7790bba9d5b53315c9bae990e7e78412e861b2927dd791b753a52aaafcc0456a"), looks := true }, kinds := [], alts := [], laidByText := true, laidKinds := [.data, .data, .data, .data, .pinned], laidTests := true, laidLooks := .later }
def HandsSignsUptoCardSaid : Prop := Claim7.holds Tryz.pinned (.plain (OpenSpec.upto handsSignsSpec)) handsSignsUptoCard

/-- THE SECOND FORM's CARD OF 'ephemeristlaw02.HandsAgrees'. -/
def handsAgreesUptoCard : Claim7 := { stood := { row := handsAgreesUptoRow, standIns := [], harness := (true, "7790bba9d5b53315c9bae990e7e78412e861b2927dd791b753a52aaafcc0456a"), looks := true }, kinds := [], alts := [], laidByText := true, laidKinds := [.data, .data, .data, .data, .pinned], laidTests := true, laidLooks := .later }
def HandsAgreesUptoCardSaid : Prop := Claim7.holds Tryz.pinned (.plain (OpenSpec.upto handsAgreesSpec)) handsAgreesUptoCard

/-- THE SECOND FORM's CARD OF 'ephemeristlaw02.HandsPrints'. -/
def handsPrintsUptoCard : Claim7 := { stood := { row := handsPrintsUptoRow, standIns := [], harness := (true, "7790bba9d5b53315c9bae990e7e78412e861b2927dd791b753a52aaafcc0456a"), looks := true }, kinds := [], alts := [], laidByText := true, laidKinds := [.data, .data, .data, .data, .pinned], laidTests := true, laidLooks := .later }
def HandsPrintsUptoCardSaid : Prop := Claim7.holds Tryz.pinned (.plain (OpenSpec.upto handsPrintsSpec)) handsPrintsUptoCard

/-- THE SECOND FORM's CARD OF 'ephemeristlaw02.HandsReads'. -/
def handsReadsUptoCard : Claim7 := { stood := { row := handsReadsUptoRow, standIns := [], harness := (true, "7790bba9d5b53315c9bae990e7e78412e861b2927dd791b753a52aaafcc0456a"), looks := true }, kinds := [], alts := [], laidByText := true, laidKinds := [.data, .data, .data, .data, .pinned], laidTests := true, laidLooks := .later }
def HandsReadsUptoCardSaid : Prop := Claim7.holds Tryz.pinned (.plain (OpenSpec.upto handsReadsSpec)) handsReadsUptoCard

/-- THE SECOND FORM's CARD OF 'ephemeristlaw02.HandsSpoilt'. -/
def handsSpoiltUptoCard : Claim7 := { stood := { row := handsSpoiltUptoRow, standIns := [], harness := (true, "7790bba9d5b53315c9bae990e7e78412e861b2927dd791b753a52aaafcc0456a"), looks := true }, kinds := [], alts := [], laidByText := true, laidKinds := [.data, .data, .data, .data, .pinned], laidTests := true, laidLooks := .later }
def HandsSpoiltUptoCardSaid : Prop := Claim7.holds Tryz.pinned (.plain (OpenSpec.upto handsSpoiltSpec)) handsSpoiltUptoCard
end Rows
end Go.Proofs.YtncmcnpjmdpnaaaGreatDoor
