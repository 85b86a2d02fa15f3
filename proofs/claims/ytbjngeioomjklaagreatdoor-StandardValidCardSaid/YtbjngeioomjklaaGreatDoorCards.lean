/-
  DERIVED. GIVEN WITH THE SEED: THE CARDS: each row of YtbjngeioomjklaaGreatDoorRows.lean that lists a variable, with what it lists TIED to the program's text (the seventh form; the later family's looks); each row that meets fmt, with fmt's text TOLD by the authors' own Lean function (tested against real Go, not proved from fmt's source: count such statements apart). THE CARD IS WHAT COUNTS. Prove the row's statement (the work); the ties are given (YtbjngeioomjklaaGreatDoorTie.lean); close each card by the builder's one call (the guide's Derived/Test/ToyasCard.lean, 'card_holds'). Laid BY PROGRAM, IN A SANDBOX (cutbox-door.mjs). By AI agents, Wed Nov 11 2026. No macro, syntax, notation, axiom, sorry.
-/
import Derived.Test.YtbjngeioomjklaaGreatDoorRows
import GoSem.ClaimSeven
namespace Go.Proofs.YtbjngeioomjklaaGreatDoor
namespace Rows

/-- THE TIED CARD OF 'unicodetextlaw32.StandardTexts'. -/
def standardTextsCard : Claim7 := { stood := { row := standardTextsRow, standIns := [], harness := (true, "58e64d485bb530623beb8c085b64f664af50d7c53b402290db64d211fbea4dc8"), looks := true }, kinds := [], alts := [], laidByText := true, laidKinds := [.data, .data, .data, .data, .listed, .data, .pinned], laidTests := true, laidLooks := .later }
def StandardTextsCardSaid : Prop := Claim7.holds Tryz.pinned (.plain (OpenSpec.ofChange standardTextsSpec)) standardTextsCard

/-- THE TIED CARD OF 'unicodetextlaw32.StandardValid'. -/
def standardValidCard : Claim7 := { stood := { row := standardValidRow, standIns := [], harness := (true, "58e64d485bb530623beb8c085b64f664af50d7c53b402290db64d211fbea4dc8"), looks := true }, kinds := [], alts := [], laidByText := true, laidKinds := [.data, .data, .data, .data, .listed, .data, .pinned], laidTests := true, laidLooks := .later }
def StandardValidCardSaid : Prop := Claim7.holds Tryz.pinned (.plain (OpenSpec.ofChange standardValidSpec)) standardValidCard

/-- THE TIED CARD OF 'unicodetextlaw32.StandardDecides'. -/
def standardDecidesCard : Claim7 := { stood := { row := standardDecidesRow, standIns := [], harness := (true, "58e64d485bb530623beb8c085b64f664af50d7c53b402290db64d211fbea4dc8"), looks := true }, kinds := [], alts := [], laidByText := true, laidKinds := [.data, .data, .data, .data, .listed, .data, .pinned], laidTests := true, laidLooks := .later }
def StandardDecidesCardSaid : Prop := Claim7.holds Tryz.pinned (.plain (OpenSpec.ofChange standardDecidesSpec)) standardDecidesCard

/-- THE TIED CARD OF 'unicodetextlaw32.StandardPairs'. -/
def standardPairsCard : Claim7 := { stood := { row := standardPairsRow, standIns := [], harness := (true, "58e64d485bb530623beb8c085b64f664af50d7c53b402290db64d211fbea4dc8"), looks := true }, kinds := [], alts := [], laidByText := true, laidKinds := [.data, .data, .data, .data, .listed, .data, .pinned], laidTests := true, laidLooks := .later }
def StandardPairsCardSaid : Prop := Claim7.holds Tryz.pinned (.plain (OpenSpec.ofChange standardPairsSpec)) standardPairsCard

/-- THE TIED CARD OF 'unicodetextlaw32.StandardEnds'. -/
def standardEndsCard : Claim7 := { stood := { row := standardEndsRow, standIns := [], harness := (true, "58e64d485bb530623beb8c085b64f664af50d7c53b402290db64d211fbea4dc8"), looks := true }, kinds := [], alts := [], laidByText := true, laidKinds := [.data, .data, .data, .data, .listed, .data, .pinned], laidTests := true, laidLooks := .later }
def StandardEndsCardSaid : Prop := Claim7.holds Tryz.pinned (.plain (OpenSpec.ofChange standardEndsSpec)) standardEndsCard

/-- THE TIED CARD OF 'unicodetextlaw32.StandardRegions'. -/
def standardRegionsCard : Claim7 := { stood := { row := standardRegionsRow, standIns := [], harness := (true, "58e64d485bb530623beb8c085b64f664af50d7c53b402290db64d211fbea4dc8"), looks := true }, kinds := [], alts := [], laidByText := true, laidKinds := [.data, .data, .data, .data, .listed, .data, .pinned], laidTests := true, laidLooks := .later }
def StandardRegionsCardSaid : Prop := Claim7.holds Tryz.pinned (.plain (OpenSpec.ofChange standardRegionsSpec)) standardRegionsCard

/-- THE TIED CARD OF 'unicodetextlaw32.StandardSpaces'. -/
def standardSpacesCard : Claim7 := { stood := { row := standardSpacesRow, standIns := [], harness := (true, "58e64d485bb530623beb8c085b64f664af50d7c53b402290db64d211fbea4dc8"), looks := true }, kinds := [], alts := [], laidByText := true, laidKinds := [.data, .data, .data, .data, .listed, .data, .pinned], laidTests := true, laidLooks := .later }
def StandardSpacesCardSaid : Prop := Claim7.holds Tryz.pinned (.plain (OpenSpec.ofChange standardSpacesSpec)) standardSpacesCard

/-- THE SECOND FORM's CARD OF 'unicodetextlaw32.StandardTexts'. -/
def standardTextsUptoCard : Claim7 := { stood := { row := standardTextsUptoRow, standIns := [], harness := (true, "58e64d485bb530623beb8c085b64f664af50d7c53b402290db64d211fbea4dc8"), looks := true }, kinds := [], alts := [], laidByText := true, laidKinds := [.data, .data, .data, .data, .listed, .data, .pinned], laidTests := true, laidLooks := .later }
def StandardTextsUptoCardSaid : Prop := Claim7.holds Tryz.pinned (.plain (OpenSpec.upto standardTextsSpec)) standardTextsUptoCard

/-- THE SECOND FORM's CARD OF 'unicodetextlaw32.StandardValid'. -/
def standardValidUptoCard : Claim7 := { stood := { row := standardValidUptoRow, standIns := [], harness := (true, "58e64d485bb530623beb8c085b64f664af50d7c53b402290db64d211fbea4dc8"), looks := true }, kinds := [], alts := [], laidByText := true, laidKinds := [.data, .data, .data, .data, .listed, .data, .pinned], laidTests := true, laidLooks := .later }
def StandardValidUptoCardSaid : Prop := Claim7.holds Tryz.pinned (.plain (OpenSpec.upto standardValidSpec)) standardValidUptoCard

/-- THE SECOND FORM's CARD OF 'unicodetextlaw32.StandardDecides'. -/
def standardDecidesUptoCard : Claim7 := { stood := { row := standardDecidesUptoRow, standIns := [], harness := (true, "58e64d485bb530623beb8c085b64f664af50d7c53b402290db64d211fbea4dc8"), looks := true }, kinds := [], alts := [], laidByText := true, laidKinds := [.data, .data, .data, .data, .listed, .data, .pinned], laidTests := true, laidLooks := .later }
def StandardDecidesUptoCardSaid : Prop := Claim7.holds Tryz.pinned (.plain (OpenSpec.upto standardDecidesSpec)) standardDecidesUptoCard

/-- THE SECOND FORM's CARD OF 'unicodetextlaw32.StandardPairs'. -/
def standardPairsUptoCard : Claim7 := { stood := { row := standardPairsUptoRow, standIns := [], harness := (true, "58e64d485bb530623beb8c085b64f664af50d7c53b402290db64d211fbea4dc8"), looks := true }, kinds := [], alts := [], laidByText := true, laidKinds := [.data, .data, .data, .data, .listed, .data, .pinned], laidTests := true, laidLooks := .later }
def StandardPairsUptoCardSaid : Prop := Claim7.holds Tryz.pinned (.plain (OpenSpec.upto standardPairsSpec)) standardPairsUptoCard

/-- THE SECOND FORM's CARD OF 'unicodetextlaw32.StandardEnds'. -/
def standardEndsUptoCard : Claim7 := { stood := { row := standardEndsUptoRow, standIns := [], harness := (true, "58e64d485bb530623beb8c085b64f664af50d7c53b402290db64d211fbea4dc8"), looks := true }, kinds := [], alts := [], laidByText := true, laidKinds := [.data, .data, .data, .data, .listed, .data, .pinned], laidTests := true, laidLooks := .later }
def StandardEndsUptoCardSaid : Prop := Claim7.holds Tryz.pinned (.plain (OpenSpec.upto standardEndsSpec)) standardEndsUptoCard

/-- THE SECOND FORM's CARD OF 'unicodetextlaw32.StandardRegions'. -/
def standardRegionsUptoCard : Claim7 := { stood := { row := standardRegionsUptoRow, standIns := [], harness := (true, "58e64d485bb530623beb8c085b64f664af50d7c53b402290db64d211fbea4dc8"), looks := true }, kinds := [], alts := [], laidByText := true, laidKinds := [.data, .data, .data, .data, .listed, .data, .pinned], laidTests := true, laidLooks := .later }
def StandardRegionsUptoCardSaid : Prop := Claim7.holds Tryz.pinned (.plain (OpenSpec.upto standardRegionsSpec)) standardRegionsUptoCard

/-- THE SECOND FORM's CARD OF 'unicodetextlaw32.StandardSpaces'. -/
def standardSpacesUptoCard : Claim7 := { stood := { row := standardSpacesUptoRow, standIns := [], harness := (true, "58e64d485bb530623beb8c085b64f664af50d7c53b402290db64d211fbea4dc8"), looks := true }, kinds := [], alts := [], laidByText := true, laidKinds := [.data, .data, .data, .data, .listed, .data, .pinned], laidTests := true, laidLooks := .later }
def StandardSpacesUptoCardSaid : Prop := Claim7.holds Tryz.pinned (.plain (OpenSpec.upto standardSpacesSpec)) standardSpacesUptoCard
end Rows
end Go.Proofs.YtbjngeioomjklaaGreatDoor
