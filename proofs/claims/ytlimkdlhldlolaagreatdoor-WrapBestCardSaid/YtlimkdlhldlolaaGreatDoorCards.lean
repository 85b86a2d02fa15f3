/-
  DERIVED. GIVEN WITH THE SEED: THE CARDS: each row of YtlimkdlhldlolaaGreatDoorRows.lean that lists a variable, with what it lists TIED to the program's text (the seventh form; the later family's looks); each row that meets fmt, with fmt's text TOLD by the authors' own Lean function (tested against real Go, not proved from fmt's source: count such statements apart). THE CARD IS WHAT COUNTS. Prove the row's statement (the work); the ties are given (YtlimkdlhldlolaaGreatDoorTie.lean); close each card by the builder's one call (the guide's Derived/Test/ToyasCard.lean, 'card_holds'). Laid BY PROGRAM, IN A SANDBOX (cutbox-door.mjs). By AI agents, Wed Nov 11 2026. No macro, syntax, notation, axiom, sorry.
-/
import Derived.Test.YtlimkdlhldlolaaGreatDoorRows
import GoSem.ClaimSeven
namespace Go.Proofs.YtlimkdlhldlolaaGreatDoor
namespace Rows

/-- THE TIED CARD OF 'unicodetextlaw36.WrapBest'. -/
def wrapBestCard : Claim7 := { stood := { row := wrapBestRow, standIns := [], harness := (true, "1d90abccd028df74583184a39b84db737824eb63473a3d72cda20383f0c2f589"), looks := true }, kinds := [], alts := [], laidByText := true, laidKinds := [.data, .data, .data, .data, .listed, .data, .pinned], laidTests := true, laidLooks := .later }
def WrapBestCardSaid : Prop := Claim7.holds Tryz.pinned (.plain (OpenSpec.ofChange wrapBestSpec)) wrapBestCard

/-- THE SECOND FORM's CARD OF 'unicodetextlaw36.WrapBest'. -/
def wrapBestUptoCard : Claim7 := { stood := { row := wrapBestUptoRow, standIns := [], harness := (true, "1d90abccd028df74583184a39b84db737824eb63473a3d72cda20383f0c2f589"), looks := true }, kinds := [], alts := [], laidByText := true, laidKinds := [.data, .data, .data, .data, .listed, .data, .pinned], laidTests := true, laidLooks := .later }
def WrapBestUptoCardSaid : Prop := Claim7.holds Tryz.pinned (.plain (OpenSpec.upto wrapBestSpec)) wrapBestUptoCard
end Rows
end Go.Proofs.YtlimkdlhldlolaaGreatDoor
