/-
  DERIVED. GIVEN WITH THE SEED: THE CARDS: each row of YtbmdndckndnehaaGreatDoorRows.lean that lists a variable, with what it lists TIED to the program's text (the seventh form; the later family's looks); each row that meets fmt, with fmt's text TOLD by the authors' own Lean function (tested against real Go, not proved from fmt's source: count such statements apart). THE CARD IS WHAT COUNTS. Prove the row's statement (the work); the ties are given (YtbmdndckndnehaaGreatDoorTie.lean); close each card by the builder's one call (the guide's Derived/Test/ToyasCard.lean, 'card_holds'). Laid BY PROGRAM, IN A SANDBOX (cutbox-door.mjs). By AI agents, Wed Nov 11 2026. No macro, syntax, notation, axiom, sorry.
-/
import Derived.Test.YtbmdndckndnehaaGreatDoorRows
import GoSem.ClaimSeven
namespace Go.Proofs.YtbmdndckndnehaaGreatDoor
namespace Rows

/-- THE TIED CARD OF 'unicodetextlaw33.ClustersBoundaries'. -/
def clustersBoundariesCard : Claim7 := { stood := { row := clustersBoundariesRow, standIns := [], harness := (true, "5937e10c93241c089b87c3fd864c6736392d7e20995a5c4d5189340c40b5a3ae"), looks := true }, kinds := [], alts := [], laidByText := true, laidKinds := [.data, .data, .data, .data, .listed, .data, .pinned], laidTests := true, laidLooks := .later }
def ClustersBoundariesCardSaid : Prop := Claim7.holds Tryz.pinned (.plain (OpenSpec.ofChange clustersBoundariesSpec)) clustersBoundariesCard

/-- THE TIED CARD OF 'unicodetextlaw33.ClustersParts'. -/
def clustersPartsCard : Claim7 := { stood := { row := clustersPartsRow, standIns := [], harness := (true, "5937e10c93241c089b87c3fd864c6736392d7e20995a5c4d5189340c40b5a3ae"), looks := true }, kinds := [], alts := [], laidByText := true, laidKinds := [.data, .data, .data, .data, .listed, .data, .pinned], laidTests := true, laidLooks := .later }
def ClustersPartsCardSaid : Prop := Claim7.holds Tryz.pinned (.plain (OpenSpec.ofChange clustersPartsSpec)) clustersPartsCard

/-- THE TIED CARD OF 'unicodetextlaw33.ClustersLetters'. -/
def clustersLettersCard : Claim7 := { stood := { row := clustersLettersRow, standIns := [], harness := (true, "5937e10c93241c089b87c3fd864c6736392d7e20995a5c4d5189340c40b5a3ae"), looks := true }, kinds := [], alts := [], laidByText := true, laidKinds := [.data, .data, .data, .data, .listed, .data, .pinned], laidTests := true, laidLooks := .later }
def ClustersLettersCardSaid : Prop := Claim7.holds Tryz.pinned (.plain (OpenSpec.ofChange clustersLettersSpec)) clustersLettersCard

/-- THE TIED CARD OF 'unicodetextlaw35.ColumnsCodes'. -/
def columnsCodesCard : Claim7 := { stood := { row := columnsCodesRow, standIns := [], harness := (true, "5937e10c93241c089b87c3fd864c6736392d7e20995a5c4d5189340c40b5a3ae"), looks := true }, kinds := [], alts := [], laidByText := true, laidKinds := [.data, .data, .data, .data, .listed, .data, .pinned], laidTests := true, laidLooks := .later }
def ColumnsCodesCardSaid : Prop := Claim7.holds Tryz.pinned (.plain (OpenSpec.ofChange columnsCodesSpec)) columnsCodesCard

/-- THE TIED CARD OF 'unicodetextlaw35.ColumnsWidths'. -/
def columnsWidthsCard : Claim7 := { stood := { row := columnsWidthsRow, standIns := [], harness := (true, "5937e10c93241c089b87c3fd864c6736392d7e20995a5c4d5189340c40b5a3ae"), looks := true }, kinds := [], alts := [], laidByText := true, laidKinds := [.data, .data, .data, .data, .listed, .data, .pinned], laidTests := true, laidLooks := .later }
def ColumnsWidthsCardSaid : Prop := Claim7.holds Tryz.pinned (.plain (OpenSpec.ofChange columnsWidthsSpec)) columnsWidthsCard

/-- THE TIED CARD OF 'unicodetextlaw35.ColumnsPads'. -/
def columnsPadsCard : Claim7 := { stood := { row := columnsPadsRow, standIns := [], harness := (true, "5937e10c93241c089b87c3fd864c6736392d7e20995a5c4d5189340c40b5a3ae"), looks := true }, kinds := [], alts := [], laidByText := true, laidKinds := [.data, .data, .data, .data, .listed, .data, .pinned], laidTests := true, laidLooks := .later }
def ColumnsPadsCardSaid : Prop := Claim7.holds Tryz.pinned (.plain (OpenSpec.ofChange columnsPadsSpec)) columnsPadsCard

/-- THE TIED CARD OF 'unicodetextlaw35.ColumnsGrows'. -/
def columnsGrowsCard : Claim7 := { stood := { row := columnsGrowsRow, standIns := [], harness := (true, "5937e10c93241c089b87c3fd864c6736392d7e20995a5c4d5189340c40b5a3ae"), looks := true }, kinds := [], alts := [], laidByText := true, laidKinds := [.data, .data, .data, .data, .listed, .data, .pinned], laidTests := true, laidLooks := .later }
def ColumnsGrowsCardSaid : Prop := Claim7.holds Tryz.pinned (.plain (OpenSpec.ofChange columnsGrowsSpec)) columnsGrowsCard

/-- THE TIED CARD OF 'unicodetextlaw35.ColumnsOffsets'. -/
def columnsOffsetsCard : Claim7 := { stood := { row := columnsOffsetsRow, standIns := [], harness := (true, "5937e10c93241c089b87c3fd864c6736392d7e20995a5c4d5189340c40b5a3ae"), looks := true }, kinds := [], alts := [], laidByText := true, laidKinds := [.data, .data, .data, .data, .listed, .data, .pinned], laidTests := true, laidLooks := .later }
def ColumnsOffsetsCardSaid : Prop := Claim7.holds Tryz.pinned (.plain (OpenSpec.ofChange columnsOffsetsSpec)) columnsOffsetsCard

/-- THE TIED CARD OF 'unicodetextlaw35.ColumnsBounds'. -/
def columnsBoundsCard : Claim7 := { stood := { row := columnsBoundsRow, standIns := [], harness := (true, "5937e10c93241c089b87c3fd864c6736392d7e20995a5c4d5189340c40b5a3ae"), looks := true }, kinds := [], alts := [], laidByText := true, laidKinds := [.data, .data, .data, .data, .listed, .data, .pinned], laidTests := true, laidLooks := .later }
def ColumnsBoundsCardSaid : Prop := Claim7.holds Tryz.pinned (.plain (OpenSpec.ofChange columnsBoundsSpec)) columnsBoundsCard

/-- THE SECOND FORM's CARD OF 'unicodetextlaw33.ClustersBoundaries'. -/
def clustersBoundariesUptoCard : Claim7 := { stood := { row := clustersBoundariesUptoRow, standIns := [], harness := (true, "5937e10c93241c089b87c3fd864c6736392d7e20995a5c4d5189340c40b5a3ae"), looks := true }, kinds := [], alts := [], laidByText := true, laidKinds := [.data, .data, .data, .data, .listed, .data, .pinned], laidTests := true, laidLooks := .later }
def ClustersBoundariesUptoCardSaid : Prop := Claim7.holds Tryz.pinned (.plain (OpenSpec.upto clustersBoundariesSpec)) clustersBoundariesUptoCard

/-- THE SECOND FORM's CARD OF 'unicodetextlaw33.ClustersParts'. -/
def clustersPartsUptoCard : Claim7 := { stood := { row := clustersPartsUptoRow, standIns := [], harness := (true, "5937e10c93241c089b87c3fd864c6736392d7e20995a5c4d5189340c40b5a3ae"), looks := true }, kinds := [], alts := [], laidByText := true, laidKinds := [.data, .data, .data, .data, .listed, .data, .pinned], laidTests := true, laidLooks := .later }
def ClustersPartsUptoCardSaid : Prop := Claim7.holds Tryz.pinned (.plain (OpenSpec.upto clustersPartsSpec)) clustersPartsUptoCard

/-- THE SECOND FORM's CARD OF 'unicodetextlaw33.ClustersLetters'. -/
def clustersLettersUptoCard : Claim7 := { stood := { row := clustersLettersUptoRow, standIns := [], harness := (true, "5937e10c93241c089b87c3fd864c6736392d7e20995a5c4d5189340c40b5a3ae"), looks := true }, kinds := [], alts := [], laidByText := true, laidKinds := [.data, .data, .data, .data, .listed, .data, .pinned], laidTests := true, laidLooks := .later }
def ClustersLettersUptoCardSaid : Prop := Claim7.holds Tryz.pinned (.plain (OpenSpec.upto clustersLettersSpec)) clustersLettersUptoCard

/-- THE SECOND FORM's CARD OF 'unicodetextlaw35.ColumnsCodes'. -/
def columnsCodesUptoCard : Claim7 := { stood := { row := columnsCodesUptoRow, standIns := [], harness := (true, "5937e10c93241c089b87c3fd864c6736392d7e20995a5c4d5189340c40b5a3ae"), looks := true }, kinds := [], alts := [], laidByText := true, laidKinds := [.data, .data, .data, .data, .listed, .data, .pinned], laidTests := true, laidLooks := .later }
def ColumnsCodesUptoCardSaid : Prop := Claim7.holds Tryz.pinned (.plain (OpenSpec.upto columnsCodesSpec)) columnsCodesUptoCard

/-- THE SECOND FORM's CARD OF 'unicodetextlaw35.ColumnsWidths'. -/
def columnsWidthsUptoCard : Claim7 := { stood := { row := columnsWidthsUptoRow, standIns := [], harness := (true, "5937e10c93241c089b87c3fd864c6736392d7e20995a5c4d5189340c40b5a3ae"), looks := true }, kinds := [], alts := [], laidByText := true, laidKinds := [.data, .data, .data, .data, .listed, .data, .pinned], laidTests := true, laidLooks := .later }
def ColumnsWidthsUptoCardSaid : Prop := Claim7.holds Tryz.pinned (.plain (OpenSpec.upto columnsWidthsSpec)) columnsWidthsUptoCard

/-- THE SECOND FORM's CARD OF 'unicodetextlaw35.ColumnsPads'. -/
def columnsPadsUptoCard : Claim7 := { stood := { row := columnsPadsUptoRow, standIns := [], harness := (true, "5937e10c93241c089b87c3fd864c6736392d7e20995a5c4d5189340c40b5a3ae"), looks := true }, kinds := [], alts := [], laidByText := true, laidKinds := [.data, .data, .data, .data, .listed, .data, .pinned], laidTests := true, laidLooks := .later }
def ColumnsPadsUptoCardSaid : Prop := Claim7.holds Tryz.pinned (.plain (OpenSpec.upto columnsPadsSpec)) columnsPadsUptoCard

/-- THE SECOND FORM's CARD OF 'unicodetextlaw35.ColumnsGrows'. -/
def columnsGrowsUptoCard : Claim7 := { stood := { row := columnsGrowsUptoRow, standIns := [], harness := (true, "5937e10c93241c089b87c3fd864c6736392d7e20995a5c4d5189340c40b5a3ae"), looks := true }, kinds := [], alts := [], laidByText := true, laidKinds := [.data, .data, .data, .data, .listed, .data, .pinned], laidTests := true, laidLooks := .later }
def ColumnsGrowsUptoCardSaid : Prop := Claim7.holds Tryz.pinned (.plain (OpenSpec.upto columnsGrowsSpec)) columnsGrowsUptoCard

/-- THE SECOND FORM's CARD OF 'unicodetextlaw35.ColumnsOffsets'. -/
def columnsOffsetsUptoCard : Claim7 := { stood := { row := columnsOffsetsUptoRow, standIns := [], harness := (true, "5937e10c93241c089b87c3fd864c6736392d7e20995a5c4d5189340c40b5a3ae"), looks := true }, kinds := [], alts := [], laidByText := true, laidKinds := [.data, .data, .data, .data, .listed, .data, .pinned], laidTests := true, laidLooks := .later }
def ColumnsOffsetsUptoCardSaid : Prop := Claim7.holds Tryz.pinned (.plain (OpenSpec.upto columnsOffsetsSpec)) columnsOffsetsUptoCard

/-- THE SECOND FORM's CARD OF 'unicodetextlaw35.ColumnsBounds'. -/
def columnsBoundsUptoCard : Claim7 := { stood := { row := columnsBoundsUptoRow, standIns := [], harness := (true, "5937e10c93241c089b87c3fd864c6736392d7e20995a5c4d5189340c40b5a3ae"), looks := true }, kinds := [], alts := [], laidByText := true, laidKinds := [.data, .data, .data, .data, .listed, .data, .pinned], laidTests := true, laidLooks := .later }
def ColumnsBoundsUptoCardSaid : Prop := Claim7.holds Tryz.pinned (.plain (OpenSpec.upto columnsBoundsSpec)) columnsBoundsUptoCard
end Rows
end Go.Proofs.YtbmdndckndnehaaGreatDoor
