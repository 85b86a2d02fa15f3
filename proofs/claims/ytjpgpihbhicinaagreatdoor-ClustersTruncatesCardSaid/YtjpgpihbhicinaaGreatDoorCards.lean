/-
  DERIVED. GIVEN WITH THE SEED: THE CARDS: each row of YtjpgpihbhicinaaGreatDoorRows.lean that lists a variable, with what it lists TIED to the program's text (the seventh form; the later family's looks); each row that meets fmt, with fmt's text TOLD by the authors' own Lean function (tested against real Go, not proved from fmt's source: count such statements apart). THE CARD IS WHAT COUNTS. Prove the row's statement (the work); the ties are given (YtjpgpihbhicinaaGreatDoorTie.lean); close each card by the builder's one call (the guide's Derived/Test/ToyasCard.lean, 'card_holds'). Laid BY PROGRAM, IN A SANDBOX (cutbox-door.mjs). By AI agents, Wed Nov 11 2026. No macro, syntax, notation, axiom, sorry.
-/
import Derived.Test.YtjpgpihbhicinaaGreatDoorRows
import GoSem.ClaimSeven
namespace Go.Proofs.YtjpgpihbhicinaaGreatDoor
namespace Rows

/-- THE TIED CARD OF 'unicodetextlaw33.ClustersBoundaries'. -/
def clustersBoundariesCard : Claim7 := { stood := { row := clustersBoundariesRow, standIns := [], harness := (true, "af9250357c8cf5cc5e488a8e06ad6ccc52cade8f994168e84e87fa4b0a87fb50"), looks := true }, kinds := [], alts := [], laidByText := true, laidKinds := [.data, .data, .data, .data, .listed, .data, .pinned], laidTests := true, laidLooks := .later }
def ClustersBoundariesCardSaid : Prop := Claim7.holds Tryz.pinned (.plain (OpenSpec.ofChange clustersBoundariesSpec)) clustersBoundariesCard

/-- THE TIED CARD OF 'unicodetextlaw33.ClustersParts'. -/
def clustersPartsCard : Claim7 := { stood := { row := clustersPartsRow, standIns := [], harness := (true, "af9250357c8cf5cc5e488a8e06ad6ccc52cade8f994168e84e87fa4b0a87fb50"), looks := true }, kinds := [], alts := [], laidByText := true, laidKinds := [.data, .data, .data, .data, .listed, .data, .pinned], laidTests := true, laidLooks := .later }
def ClustersPartsCardSaid : Prop := Claim7.holds Tryz.pinned (.plain (OpenSpec.ofChange clustersPartsSpec)) clustersPartsCard

/-- THE TIED CARD OF 'unicodetextlaw33.ClustersTruncates'. -/
def clustersTruncatesCard : Claim7 := { stood := { row := clustersTruncatesRow, standIns := [], harness := (true, "af9250357c8cf5cc5e488a8e06ad6ccc52cade8f994168e84e87fa4b0a87fb50"), looks := true }, kinds := [], alts := [], laidByText := true, laidKinds := [.data, .data, .data, .data, .listed, .data, .pinned], laidTests := true, laidLooks := .later }
def ClustersTruncatesCardSaid : Prop := Claim7.holds Tryz.pinned (.plain (OpenSpec.ofChange clustersTruncatesSpec)) clustersTruncatesCard

/-- THE TIED CARD OF 'unicodetextlaw33.ClustersReverses'. -/
def clustersReversesCard : Claim7 := { stood := { row := clustersReversesRow, standIns := [], harness := (true, "af9250357c8cf5cc5e488a8e06ad6ccc52cade8f994168e84e87fa4b0a87fb50"), looks := true }, kinds := [], alts := [], laidByText := true, laidKinds := [.data, .data, .data, .data, .listed, .data, .pinned], laidTests := true, laidLooks := .later }
def ClustersReversesCardSaid : Prop := Claim7.holds Tryz.pinned (.plain (OpenSpec.ofChange clustersReversesSpec)) clustersReversesCard

/-- THE TIED CARD OF 'unicodetextlaw33.ClustersWhole'. -/
def clustersWholeCard : Claim7 := { stood := { row := clustersWholeRow, standIns := [], harness := (true, "af9250357c8cf5cc5e488a8e06ad6ccc52cade8f994168e84e87fa4b0a87fb50"), looks := true }, kinds := [], alts := [], laidByText := true, laidKinds := [.data, .data, .data, .data, .listed, .data, .pinned], laidTests := true, laidLooks := .later }
def ClustersWholeCardSaid : Prop := Claim7.holds Tryz.pinned (.plain (OpenSpec.ofChange clustersWholeSpec)) clustersWholeCard

/-- THE TIED CARD OF 'unicodetextlaw33.ClustersShorter'. -/
def clustersShorterCard : Claim7 := { stood := { row := clustersShorterRow, standIns := [], harness := (true, "af9250357c8cf5cc5e488a8e06ad6ccc52cade8f994168e84e87fa4b0a87fb50"), looks := true }, kinds := [], alts := [], laidByText := true, laidKinds := [.data, .data, .data, .data, .listed, .data, .pinned], laidTests := true, laidLooks := .later }
def ClustersShorterCardSaid : Prop := Claim7.holds Tryz.pinned (.plain (OpenSpec.ofChange clustersShorterSpec)) clustersShorterCard

/-- THE TIED CARD OF 'unicodetextlaw33.ClustersTwice'. -/
def clustersTwiceCard : Claim7 := { stood := { row := clustersTwiceRow, standIns := [], harness := (true, "af9250357c8cf5cc5e488a8e06ad6ccc52cade8f994168e84e87fa4b0a87fb50"), looks := true }, kinds := [], alts := [], laidByText := true, laidKinds := [.data, .data, .data, .data, .listed, .data, .pinned], laidTests := true, laidLooks := .later }
def ClustersTwiceCardSaid : Prop := Claim7.holds Tryz.pinned (.plain (OpenSpec.ofChange clustersTwiceSpec)) clustersTwiceCard

/-- THE TIED CARD OF 'unicodetextlaw33.ClustersLetters'. -/
def clustersLettersCard : Claim7 := { stood := { row := clustersLettersRow, standIns := [], harness := (true, "af9250357c8cf5cc5e488a8e06ad6ccc52cade8f994168e84e87fa4b0a87fb50"), looks := true }, kinds := [], alts := [], laidByText := true, laidKinds := [.data, .data, .data, .data, .listed, .data, .pinned], laidTests := true, laidLooks := .later }
def ClustersLettersCardSaid : Prop := Claim7.holds Tryz.pinned (.plain (OpenSpec.ofChange clustersLettersSpec)) clustersLettersCard

/-- THE TIED CARD OF 'unicodetextlaw33.ClustersWords'. -/
def clustersWordsCard : Claim7 := { stood := { row := clustersWordsRow, standIns := [], harness := (true, "af9250357c8cf5cc5e488a8e06ad6ccc52cade8f994168e84e87fa4b0a87fb50"), looks := true }, kinds := [], alts := [], laidByText := true, laidKinds := [.data, .data, .data, .data, .listed, .data, .pinned], laidTests := true, laidLooks := .later }
def ClustersWordsCardSaid : Prop := Claim7.holds Tryz.pinned (.plain (OpenSpec.ofChange clustersWordsSpec)) clustersWordsCard

/-- THE SECOND FORM's CARD OF 'unicodetextlaw33.ClustersBoundaries'. -/
def clustersBoundariesUptoCard : Claim7 := { stood := { row := clustersBoundariesUptoRow, standIns := [], harness := (true, "af9250357c8cf5cc5e488a8e06ad6ccc52cade8f994168e84e87fa4b0a87fb50"), looks := true }, kinds := [], alts := [], laidByText := true, laidKinds := [.data, .data, .data, .data, .listed, .data, .pinned], laidTests := true, laidLooks := .later }
def ClustersBoundariesUptoCardSaid : Prop := Claim7.holds Tryz.pinned (.plain (OpenSpec.upto clustersBoundariesSpec)) clustersBoundariesUptoCard

/-- THE SECOND FORM's CARD OF 'unicodetextlaw33.ClustersParts'. -/
def clustersPartsUptoCard : Claim7 := { stood := { row := clustersPartsUptoRow, standIns := [], harness := (true, "af9250357c8cf5cc5e488a8e06ad6ccc52cade8f994168e84e87fa4b0a87fb50"), looks := true }, kinds := [], alts := [], laidByText := true, laidKinds := [.data, .data, .data, .data, .listed, .data, .pinned], laidTests := true, laidLooks := .later }
def ClustersPartsUptoCardSaid : Prop := Claim7.holds Tryz.pinned (.plain (OpenSpec.upto clustersPartsSpec)) clustersPartsUptoCard

/-- THE SECOND FORM's CARD OF 'unicodetextlaw33.ClustersTruncates'. -/
def clustersTruncatesUptoCard : Claim7 := { stood := { row := clustersTruncatesUptoRow, standIns := [], harness := (true, "af9250357c8cf5cc5e488a8e06ad6ccc52cade8f994168e84e87fa4b0a87fb50"), looks := true }, kinds := [], alts := [], laidByText := true, laidKinds := [.data, .data, .data, .data, .listed, .data, .pinned], laidTests := true, laidLooks := .later }
def ClustersTruncatesUptoCardSaid : Prop := Claim7.holds Tryz.pinned (.plain (OpenSpec.upto clustersTruncatesSpec)) clustersTruncatesUptoCard

/-- THE SECOND FORM's CARD OF 'unicodetextlaw33.ClustersReverses'. -/
def clustersReversesUptoCard : Claim7 := { stood := { row := clustersReversesUptoRow, standIns := [], harness := (true, "af9250357c8cf5cc5e488a8e06ad6ccc52cade8f994168e84e87fa4b0a87fb50"), looks := true }, kinds := [], alts := [], laidByText := true, laidKinds := [.data, .data, .data, .data, .listed, .data, .pinned], laidTests := true, laidLooks := .later }
def ClustersReversesUptoCardSaid : Prop := Claim7.holds Tryz.pinned (.plain (OpenSpec.upto clustersReversesSpec)) clustersReversesUptoCard

/-- THE SECOND FORM's CARD OF 'unicodetextlaw33.ClustersWhole'. -/
def clustersWholeUptoCard : Claim7 := { stood := { row := clustersWholeUptoRow, standIns := [], harness := (true, "af9250357c8cf5cc5e488a8e06ad6ccc52cade8f994168e84e87fa4b0a87fb50"), looks := true }, kinds := [], alts := [], laidByText := true, laidKinds := [.data, .data, .data, .data, .listed, .data, .pinned], laidTests := true, laidLooks := .later }
def ClustersWholeUptoCardSaid : Prop := Claim7.holds Tryz.pinned (.plain (OpenSpec.upto clustersWholeSpec)) clustersWholeUptoCard

/-- THE SECOND FORM's CARD OF 'unicodetextlaw33.ClustersShorter'. -/
def clustersShorterUptoCard : Claim7 := { stood := { row := clustersShorterUptoRow, standIns := [], harness := (true, "af9250357c8cf5cc5e488a8e06ad6ccc52cade8f994168e84e87fa4b0a87fb50"), looks := true }, kinds := [], alts := [], laidByText := true, laidKinds := [.data, .data, .data, .data, .listed, .data, .pinned], laidTests := true, laidLooks := .later }
def ClustersShorterUptoCardSaid : Prop := Claim7.holds Tryz.pinned (.plain (OpenSpec.upto clustersShorterSpec)) clustersShorterUptoCard

/-- THE SECOND FORM's CARD OF 'unicodetextlaw33.ClustersTwice'. -/
def clustersTwiceUptoCard : Claim7 := { stood := { row := clustersTwiceUptoRow, standIns := [], harness := (true, "af9250357c8cf5cc5e488a8e06ad6ccc52cade8f994168e84e87fa4b0a87fb50"), looks := true }, kinds := [], alts := [], laidByText := true, laidKinds := [.data, .data, .data, .data, .listed, .data, .pinned], laidTests := true, laidLooks := .later }
def ClustersTwiceUptoCardSaid : Prop := Claim7.holds Tryz.pinned (.plain (OpenSpec.upto clustersTwiceSpec)) clustersTwiceUptoCard

/-- THE SECOND FORM's CARD OF 'unicodetextlaw33.ClustersLetters'. -/
def clustersLettersUptoCard : Claim7 := { stood := { row := clustersLettersUptoRow, standIns := [], harness := (true, "af9250357c8cf5cc5e488a8e06ad6ccc52cade8f994168e84e87fa4b0a87fb50"), looks := true }, kinds := [], alts := [], laidByText := true, laidKinds := [.data, .data, .data, .data, .listed, .data, .pinned], laidTests := true, laidLooks := .later }
def ClustersLettersUptoCardSaid : Prop := Claim7.holds Tryz.pinned (.plain (OpenSpec.upto clustersLettersSpec)) clustersLettersUptoCard

/-- THE SECOND FORM's CARD OF 'unicodetextlaw33.ClustersWords'. -/
def clustersWordsUptoCard : Claim7 := { stood := { row := clustersWordsUptoRow, standIns := [], harness := (true, "af9250357c8cf5cc5e488a8e06ad6ccc52cade8f994168e84e87fa4b0a87fb50"), looks := true }, kinds := [], alts := [], laidByText := true, laidKinds := [.data, .data, .data, .data, .listed, .data, .pinned], laidTests := true, laidLooks := .later }
def ClustersWordsUptoCardSaid : Prop := Claim7.holds Tryz.pinned (.plain (OpenSpec.upto clustersWordsSpec)) clustersWordsUptoCard
end Rows
end Go.Proofs.YtjpgpihbhicinaaGreatDoor
