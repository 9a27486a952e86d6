/-
  DERIVED. GIVEN WITH THE SEED: THE CARDS: each row of YtnifdkjffcdhcaaGreatDoorRows.lean that lists a variable, with what it lists TIED to the program's text (the seventh form; the later family's looks); each row that meets fmt, with fmt's text TOLD by the authors' own Lean function (tested against real Go, not proved from fmt's source: count such statements apart). THE CARD IS WHAT COUNTS. Prove the row's statement (the work); the ties are given (YtnifdkjffcdhcaaGreatDoorTie.lean); close each card by the builder's one call (the guide's Derived/Test/ToyasCard.lean, 'card_holds'). Laid BY PROGRAM, IN A SANDBOX (cutbox-door.mjs). By AI agents, Wed Nov 11 2026. No macro, syntax, notation, axiom, sorry.
-/
import Derived.Test.YtnifdkjffcdhcaaGreatDoorRows
import GoSem.ClaimSeven
namespace Go.Proofs.YtnifdkjffcdhcaaGreatDoor
namespace Rows

/-- THE TIED CARD OF 'ephemeristlaw06.GiveParts'. -/
def givePartsCard : Claim7 := { stood := { row := givePartsRow, standIns := [], harness := (true, "563e190ff67e110612374f1b3bd7542186431e70771efb444002f2ec46d9ff02"), looks := true }, kinds := [], alts := [], laidByText := true, laidKinds := [.data, .data, .data, .data, .pinned], laidTests := true, laidLooks := .later }
def GivePartsCardSaid : Prop := Claim7.holds Tryz.pinned (.plain (OpenSpec.ofChange givePartsSpec)) givePartsCard

/-- THE TIED CARD OF 'ephemeristlaw06.GiveBacks'. -/
def giveBacksCard : Claim7 := { stood := { row := giveBacksRow, standIns := [], harness := (true, "563e190ff67e110612374f1b3bd7542186431e70771efb444002f2ec46d9ff02"), looks := true }, kinds := [], alts := [], laidByText := true, laidKinds := [.data, .data, .data, .data, .pinned], laidTests := true, laidLooks := .later }
def GiveBacksCardSaid : Prop := Claim7.holds Tryz.pinned (.plain (OpenSpec.ofChange giveBacksSpec)) giveBacksCard

/-- THE TIED CARD OF 'ephemeristlaw06.GiveTrue'. -/
def giveTrueCard : Claim7 := { stood := { row := giveTrueRow, standIns := [], harness := (true, "563e190ff67e110612374f1b3bd7542186431e70771efb444002f2ec46d9ff02"), looks := true }, kinds := [], alts := [], laidByText := true, laidKinds := [.data, .data, .data, .data, .pinned], laidTests := true, laidLooks := .later }
def GiveTrueCardSaid : Prop := Claim7.holds Tryz.pinned (.plain (OpenSpec.ofChange giveTrueSpec)) giveTrueCard

/-- THE TIED CARD OF 'ephemeristlaw06.GiveTables'. -/
def giveTablesCard : Claim7 := { stood := { row := giveTablesRow, standIns := [], harness := (true, "563e190ff67e110612374f1b3bd7542186431e70771efb444002f2ec46d9ff02"), looks := true }, kinds := [], alts := [], laidByText := true, laidKinds := [.data, .data, .data, .data, .pinned], laidTests := true, laidLooks := .later }
def GiveTablesCardSaid : Prop := Claim7.holds Tryz.pinned (.plain (OpenSpec.ofChange giveTablesSpec)) giveTablesCard

/-- THE TIED CARD OF 'ephemeristlaw06.GiveProved'. -/
def giveProvedCard : Claim7 := { stood := { row := giveProvedRow, standIns := [], harness := (true, "563e190ff67e110612374f1b3bd7542186431e70771efb444002f2ec46d9ff02"), looks := true }, kinds := [], alts := [], laidByText := true, laidKinds := [.data, .data, .data, .data, .pinned], laidTests := true, laidLooks := .later }
def GiveProvedCardSaid : Prop := Claim7.holds Tryz.pinned (.plain (OpenSpec.ofChange giveProvedSpec)) giveProvedCard

/-- THE TIED CARD OF 'ephemeristlaw06.GiveIdles'. -/
def giveIdlesCard : Claim7 := { stood := { row := giveIdlesRow, standIns := [], harness := (true, "563e190ff67e110612374f1b3bd7542186431e70771efb444002f2ec46d9ff02"), looks := true }, kinds := [], alts := [], laidByText := true, laidKinds := [.data, .data, .data, .data, .pinned], laidTests := true, laidLooks := .later }
def GiveIdlesCardSaid : Prop := Claim7.holds Tryz.pinned (.plain (OpenSpec.ofChange giveIdlesSpec)) giveIdlesCard

/-- THE TIED CARD OF 'ephemeristlaw06.GiveLate'. -/
def giveLateCard : Claim7 := { stood := { row := giveLateRow, standIns := [], harness := (true, "563e190ff67e110612374f1b3bd7542186431e70771efb444002f2ec46d9ff02"), looks := true }, kinds := [], alts := [], laidByText := true, laidKinds := [.data, .data, .data, .data, .pinned], laidTests := true, laidLooks := .later }
def GiveLateCardSaid : Prop := Claim7.holds Tryz.pinned (.plain (OpenSpec.ofChange giveLateSpec)) giveLateCard

/-- THE TIED CARD OF 'ephemeristlaw06.GiveFirsts'. -/
def giveFirstsCard : Claim7 := { stood := { row := giveFirstsRow, standIns := [], harness := (true, "563e190ff67e110612374f1b3bd7542186431e70771efb444002f2ec46d9ff02"), looks := true }, kinds := [], alts := [], laidByText := true, laidKinds := [.data, .data, .data, .data, .pinned], laidTests := true, laidLooks := .later }
def GiveFirstsCardSaid : Prop := Claim7.holds Tryz.pinned (.plain (OpenSpec.ofChange giveFirstsSpec)) giveFirstsCard

/-- THE TIED CARD OF 'ephemeristlaw06.GiveRival'. -/
def giveRivalCard : Claim7 := { stood := { row := giveRivalRow, standIns := [], harness := (true, "563e190ff67e110612374f1b3bd7542186431e70771efb444002f2ec46d9ff02"), looks := true }, kinds := [], alts := [], laidByText := true, laidKinds := [.data, .data, .data, .data, .pinned], laidTests := true, laidLooks := .later }
def GiveRivalCardSaid : Prop := Claim7.holds Tryz.pinned (.plain (OpenSpec.ofChange giveRivalSpec)) giveRivalCard

/-- THE TIED CARD OF 'ephemeristlaw06.GiveWhos'. -/
def giveWhosCard : Claim7 := { stood := { row := giveWhosRow, standIns := [], harness := (true, "563e190ff67e110612374f1b3bd7542186431e70771efb444002f2ec46d9ff02"), looks := true }, kinds := [], alts := [], laidByText := true, laidKinds := [.data, .data, .data, .data, .pinned], laidTests := true, laidLooks := .later }
def GiveWhosCardSaid : Prop := Claim7.holds Tryz.pinned (.plain (OpenSpec.ofChange giveWhosSpec)) giveWhosCard

/-- THE TIED CARD OF 'ephemeristlaw06.GiveSooner'. -/
def giveSoonerCard : Claim7 := { stood := { row := giveSoonerRow, standIns := [], harness := (true, "563e190ff67e110612374f1b3bd7542186431e70771efb444002f2ec46d9ff02"), looks := true }, kinds := [], alts := [], laidByText := true, laidKinds := [.data, .data, .data, .data, .pinned], laidTests := true, laidLooks := .later }
def GiveSoonerCardSaid : Prop := Claim7.holds Tryz.pinned (.plain (OpenSpec.ofChange giveSoonerSpec)) giveSoonerCard

/-- THE TIED CARD OF 'ephemeristlaw06.GiveMores'. -/
def giveMoresCard : Claim7 := { stood := { row := giveMoresRow, standIns := [], harness := (true, "563e190ff67e110612374f1b3bd7542186431e70771efb444002f2ec46d9ff02"), looks := true }, kinds := [], alts := [], laidByText := true, laidKinds := [.data, .data, .data, .data, .pinned], laidTests := true, laidLooks := .later }
def GiveMoresCardSaid : Prop := Claim7.holds Tryz.pinned (.plain (OpenSpec.ofChange giveMoresSpec)) giveMoresCard

/-- THE TIED CARD OF 'ephemeristlaw06.GiveHelp'. -/
def giveHelpCard : Claim7 := { stood := { row := giveHelpRow, standIns := [], harness := (true, "563e190ff67e110612374f1b3bd7542186431e70771efb444002f2ec46d9ff02"), looks := true }, kinds := [], alts := [], laidByText := true, laidKinds := [.data, .data, .data, .data, .pinned], laidTests := true, laidLooks := .later }
def GiveHelpCardSaid : Prop := Claim7.holds Tryz.pinned (.plain (OpenSpec.ofChange giveHelpSpec)) giveHelpCard

/-- THE TIED CARD OF 'ephemeristlaw06.GiveMore'. -/
def giveMoreCard : Claim7 := { stood := { row := giveMoreRow, standIns := [], harness := (true, "563e190ff67e110612374f1b3bd7542186431e70771efb444002f2ec46d9ff02"), looks := true }, kinds := [], alts := [], laidByText := true, laidKinds := [.data, .data, .data, .data, .pinned], laidTests := true, laidLooks := .later }
def GiveMoreCardSaid : Prop := Claim7.holds Tryz.pinned (.plain (OpenSpec.ofChange giveMoreSpec)) giveMoreCard

/-- THE TIED CARD OF 'ephemeristlaw06.GiveWhys'. -/
def giveWhysCard : Claim7 := { stood := { row := giveWhysRow, standIns := [], harness := (true, "563e190ff67e110612374f1b3bd7542186431e70771efb444002f2ec46d9ff02"), looks := true }, kinds := [], alts := [], laidByText := true, laidKinds := [.data, .data, .data, .data, .pinned], laidTests := true, laidLooks := .later }
def GiveWhysCardSaid : Prop := Claim7.holds Tryz.pinned (.plain (OpenSpec.ofChange giveWhysSpec)) giveWhysCard

/-- THE TIED CARD OF 'ephemeristlaw06.GivePrints'. -/
def givePrintsCard : Claim7 := { stood := { row := givePrintsRow, standIns := [], harness := (true, "563e190ff67e110612374f1b3bd7542186431e70771efb444002f2ec46d9ff02"), looks := true }, kinds := [], alts := [], laidByText := true, laidKinds := [.data, .data, .data, .data, .pinned], laidTests := true, laidLooks := .later }
def GivePrintsCardSaid : Prop := Claim7.holds Tryz.pinned (.plain (OpenSpec.ofChange givePrintsSpec)) givePrintsCard

/-- THE TIED CARD OF 'ephemeristlaw06.GiveReads'. -/
def giveReadsCard : Claim7 := { stood := { row := giveReadsRow, standIns := [], harness := (true, "563e190ff67e110612374f1b3bd7542186431e70771efb444002f2ec46d9ff02"), looks := true }, kinds := [], alts := [], laidByText := true, laidKinds := [.data, .data, .data, .data, .pinned], laidTests := true, laidLooks := .later }
def GiveReadsCardSaid : Prop := Claim7.holds Tryz.pinned (.plain (OpenSpec.ofChange giveReadsSpec)) giveReadsCard

/-- THE TIED CARD OF 'ephemeristlaw06.GiveSpoilt'. -/
def giveSpoiltCard : Claim7 := { stood := { row := giveSpoiltRow, standIns := [], harness := (true, "563e190ff67e110612374f1b3bd7542186431e70771efb444002f2ec46d9ff02"), looks := true }, kinds := [], alts := [], laidByText := true, laidKinds := [.data, .data, .data, .data, .pinned], laidTests := true, laidLooks := .later }
def GiveSpoiltCardSaid : Prop := Claim7.holds Tryz.pinned (.plain (OpenSpec.ofChange giveSpoiltSpec)) giveSpoiltCard

/-- THE SECOND FORM's CARD OF 'ephemeristlaw06.GiveParts'. -/
def givePartsUptoCard : Claim7 := { stood := { row := givePartsUptoRow, standIns := [], harness := (true, "563e190ff67e110612374f1b3bd7542186431e70771efb444002f2ec46d9ff02"), looks := true }, kinds := [], alts := [], laidByText := true, laidKinds := [.data, .data, .data, .data, .pinned], laidTests := true, laidLooks := .later }
def GivePartsUptoCardSaid : Prop := Claim7.holds Tryz.pinned (.plain (OpenSpec.upto givePartsSpec)) givePartsUptoCard

/-- THE SECOND FORM's CARD OF 'ephemeristlaw06.GiveBacks'. -/
def giveBacksUptoCard : Claim7 := { stood := { row := giveBacksUptoRow, standIns := [], harness := (true, "563e190ff67e110612374f1b3bd7542186431e70771efb444002f2ec46d9ff02"), looks := true }, kinds := [], alts := [], laidByText := true, laidKinds := [.data, .data, .data, .data, .pinned], laidTests := true, laidLooks := .later }
def GiveBacksUptoCardSaid : Prop := Claim7.holds Tryz.pinned (.plain (OpenSpec.upto giveBacksSpec)) giveBacksUptoCard

/-- THE SECOND FORM's CARD OF 'ephemeristlaw06.GiveTrue'. -/
def giveTrueUptoCard : Claim7 := { stood := { row := giveTrueUptoRow, standIns := [], harness := (true, "563e190ff67e110612374f1b3bd7542186431e70771efb444002f2ec46d9ff02"), looks := true }, kinds := [], alts := [], laidByText := true, laidKinds := [.data, .data, .data, .data, .pinned], laidTests := true, laidLooks := .later }
def GiveTrueUptoCardSaid : Prop := Claim7.holds Tryz.pinned (.plain (OpenSpec.upto giveTrueSpec)) giveTrueUptoCard

/-- THE SECOND FORM's CARD OF 'ephemeristlaw06.GiveTables'. -/
def giveTablesUptoCard : Claim7 := { stood := { row := giveTablesUptoRow, standIns := [], harness := (true, "563e190ff67e110612374f1b3bd7542186431e70771efb444002f2ec46d9ff02"), looks := true }, kinds := [], alts := [], laidByText := true, laidKinds := [.data, .data, .data, .data, .pinned], laidTests := true, laidLooks := .later }
def GiveTablesUptoCardSaid : Prop := Claim7.holds Tryz.pinned (.plain (OpenSpec.upto giveTablesSpec)) giveTablesUptoCard

/-- THE SECOND FORM's CARD OF 'ephemeristlaw06.GiveProved'. -/
def giveProvedUptoCard : Claim7 := { stood := { row := giveProvedUptoRow, standIns := [], harness := (true, "563e190ff67e110612374f1b3bd7542186431e70771efb444002f2ec46d9ff02"), looks := true }, kinds := [], alts := [], laidByText := true, laidKinds := [.data, .data, .data, .data, .pinned], laidTests := true, laidLooks := .later }
def GiveProvedUptoCardSaid : Prop := Claim7.holds Tryz.pinned (.plain (OpenSpec.upto giveProvedSpec)) giveProvedUptoCard

/-- THE SECOND FORM's CARD OF 'ephemeristlaw06.GiveIdles'. -/
def giveIdlesUptoCard : Claim7 := { stood := { row := giveIdlesUptoRow, standIns := [], harness := (true, "563e190ff67e110612374f1b3bd7542186431e70771efb444002f2ec46d9ff02"), looks := true }, kinds := [], alts := [], laidByText := true, laidKinds := [.data, .data, .data, .data, .pinned], laidTests := true, laidLooks := .later }
def GiveIdlesUptoCardSaid : Prop := Claim7.holds Tryz.pinned (.plain (OpenSpec.upto giveIdlesSpec)) giveIdlesUptoCard

/-- THE SECOND FORM's CARD OF 'ephemeristlaw06.GiveLate'. -/
def giveLateUptoCard : Claim7 := { stood := { row := giveLateUptoRow, standIns := [], harness := (true, "563e190ff67e110612374f1b3bd7542186431e70771efb444002f2ec46d9ff02"), looks := true }, kinds := [], alts := [], laidByText := true, laidKinds := [.data, .data, .data, .data, .pinned], laidTests := true, laidLooks := .later }
def GiveLateUptoCardSaid : Prop := Claim7.holds Tryz.pinned (.plain (OpenSpec.upto giveLateSpec)) giveLateUptoCard

/-- THE SECOND FORM's CARD OF 'ephemeristlaw06.GiveFirsts'. -/
def giveFirstsUptoCard : Claim7 := { stood := { row := giveFirstsUptoRow, standIns := [], harness := (true, "563e190ff67e110612374f1b3bd7542186431e70771efb444002f2ec46d9ff02"), looks := true }, kinds := [], alts := [], laidByText := true, laidKinds := [.data, .data, .data, .data, .pinned], laidTests := true, laidLooks := .later }
def GiveFirstsUptoCardSaid : Prop := Claim7.holds Tryz.pinned (.plain (OpenSpec.upto giveFirstsSpec)) giveFirstsUptoCard

/-- THE SECOND FORM's CARD OF 'ephemeristlaw06.GiveRival'. -/
def giveRivalUptoCard : Claim7 := { stood := { row := giveRivalUptoRow, standIns := [], harness := (true, "563e190ff67e110612374f1b3bd7542186431e70771efb444002f2ec46d9ff02"), looks := true }, kinds := [], alts := [], laidByText := true, laidKinds := [.data, .data, .data, .data, .pinned], laidTests := true, laidLooks := .later }
def GiveRivalUptoCardSaid : Prop := Claim7.holds Tryz.pinned (.plain (OpenSpec.upto giveRivalSpec)) giveRivalUptoCard

/-- THE SECOND FORM's CARD OF 'ephemeristlaw06.GiveWhos'. -/
def giveWhosUptoCard : Claim7 := { stood := { row := giveWhosUptoRow, standIns := [], harness := (true, "563e190ff67e110612374f1b3bd7542186431e70771efb444002f2ec46d9ff02"), looks := true }, kinds := [], alts := [], laidByText := true, laidKinds := [.data, .data, .data, .data, .pinned], laidTests := true, laidLooks := .later }
def GiveWhosUptoCardSaid : Prop := Claim7.holds Tryz.pinned (.plain (OpenSpec.upto giveWhosSpec)) giveWhosUptoCard

/-- THE SECOND FORM's CARD OF 'ephemeristlaw06.GiveSooner'. -/
def giveSoonerUptoCard : Claim7 := { stood := { row := giveSoonerUptoRow, standIns := [], harness := (true, "563e190ff67e110612374f1b3bd7542186431e70771efb444002f2ec46d9ff02"), looks := true }, kinds := [], alts := [], laidByText := true, laidKinds := [.data, .data, .data, .data, .pinned], laidTests := true, laidLooks := .later }
def GiveSoonerUptoCardSaid : Prop := Claim7.holds Tryz.pinned (.plain (OpenSpec.upto giveSoonerSpec)) giveSoonerUptoCard

/-- THE SECOND FORM's CARD OF 'ephemeristlaw06.GiveMores'. -/
def giveMoresUptoCard : Claim7 := { stood := { row := giveMoresUptoRow, standIns := [], harness := (true, "563e190ff67e110612374f1b3bd7542186431e70771efb444002f2ec46d9ff02"), looks := true }, kinds := [], alts := [], laidByText := true, laidKinds := [.data, .data, .data, .data, .pinned], laidTests := true, laidLooks := .later }
def GiveMoresUptoCardSaid : Prop := Claim7.holds Tryz.pinned (.plain (OpenSpec.upto giveMoresSpec)) giveMoresUptoCard

/-- THE SECOND FORM's CARD OF 'ephemeristlaw06.GiveHelp'. -/
def giveHelpUptoCard : Claim7 := { stood := { row := giveHelpUptoRow, standIns := [], harness := (true, "563e190ff67e110612374f1b3bd7542186431e70771efb444002f2ec46d9ff02"), looks := true }, kinds := [], alts := [], laidByText := true, laidKinds := [.data, .data, .data, .data, .pinned], laidTests := true, laidLooks := .later }
def GiveHelpUptoCardSaid : Prop := Claim7.holds Tryz.pinned (.plain (OpenSpec.upto giveHelpSpec)) giveHelpUptoCard

/-- THE SECOND FORM's CARD OF 'ephemeristlaw06.GiveMore'. -/
def giveMoreUptoCard : Claim7 := { stood := { row := giveMoreUptoRow, standIns := [], harness := (true, "563e190ff67e110612374f1b3bd7542186431e70771efb444002f2ec46d9ff02"), looks := true }, kinds := [], alts := [], laidByText := true, laidKinds := [.data, .data, .data, .data, .pinned], laidTests := true, laidLooks := .later }
def GiveMoreUptoCardSaid : Prop := Claim7.holds Tryz.pinned (.plain (OpenSpec.upto giveMoreSpec)) giveMoreUptoCard

/-- THE SECOND FORM's CARD OF 'ephemeristlaw06.GiveWhys'. -/
def giveWhysUptoCard : Claim7 := { stood := { row := giveWhysUptoRow, standIns := [], harness := (true, "563e190ff67e110612374f1b3bd7542186431e70771efb444002f2ec46d9ff02"), looks := true }, kinds := [], alts := [], laidByText := true, laidKinds := [.data, .data, .data, .data, .pinned], laidTests := true, laidLooks := .later }
def GiveWhysUptoCardSaid : Prop := Claim7.holds Tryz.pinned (.plain (OpenSpec.upto giveWhysSpec)) giveWhysUptoCard

/-- THE SECOND FORM's CARD OF 'ephemeristlaw06.GivePrints'. -/
def givePrintsUptoCard : Claim7 := { stood := { row := givePrintsUptoRow, standIns := [], harness := (true, "563e190ff67e110612374f1b3bd7542186431e70771efb444002f2ec46d9ff02"), looks := true }, kinds := [], alts := [], laidByText := true, laidKinds := [.data, .data, .data, .data, .pinned], laidTests := true, laidLooks := .later }
def GivePrintsUptoCardSaid : Prop := Claim7.holds Tryz.pinned (.plain (OpenSpec.upto givePrintsSpec)) givePrintsUptoCard

/-- THE SECOND FORM's CARD OF 'ephemeristlaw06.GiveReads'. -/
def giveReadsUptoCard : Claim7 := { stood := { row := giveReadsUptoRow, standIns := [], harness := (true, "563e190ff67e110612374f1b3bd7542186431e70771efb444002f2ec46d9ff02"), looks := true }, kinds := [], alts := [], laidByText := true, laidKinds := [.data, .data, .data, .data, .pinned], laidTests := true, laidLooks := .later }
def GiveReadsUptoCardSaid : Prop := Claim7.holds Tryz.pinned (.plain (OpenSpec.upto giveReadsSpec)) giveReadsUptoCard

/-- THE SECOND FORM's CARD OF 'ephemeristlaw06.GiveSpoilt'. -/
def giveSpoiltUptoCard : Claim7 := { stood := { row := giveSpoiltUptoRow, standIns := [], harness := (true, "563e190ff67e110612374f1b3bd7542186431e70771efb444002f2ec46d9ff02"), looks := true }, kinds := [], alts := [], laidByText := true, laidKinds := [.data, .data, .data, .data, .pinned], laidTests := true, laidLooks := .later }
def GiveSpoiltUptoCardSaid : Prop := Claim7.holds Tryz.pinned (.plain (OpenSpec.upto giveSpoiltSpec)) giveSpoiltUptoCard
end Rows
end Go.Proofs.YtnifdkjffcdhcaaGreatDoor
