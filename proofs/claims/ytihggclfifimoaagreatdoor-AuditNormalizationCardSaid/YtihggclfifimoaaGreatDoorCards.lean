/-
  DERIVED. GIVEN WITH THE SEED: THE CARDS: each row of YtihggclfifimoaaGreatDoorRows.lean that lists a variable, with what it lists TIED to the program's text (the seventh form; the later family's looks); each row that meets fmt, with fmt's text TOLD by the authors' own Lean function (tested against real Go, not proved from fmt's source: count such statements apart). THE CARD IS WHAT COUNTS. Prove the row's statement (the work); the ties are given (YtihggclfifimoaaGreatDoorTie.lean); close each card by the builder's one call (the guide's Derived/Test/ToyasCard.lean, 'card_holds'). Laid BY PROGRAM, IN A SANDBOX (cutbox-door.mjs). By AI agents, Wed Nov 11 2026. No macro, syntax, notation, axiom, sorry.
-/
import Derived.Test.YtihggclfifimoaaGreatDoorRows
import GoSem.ClaimSeven
namespace Go.Proofs.YtihggclfifimoaaGreatDoor
namespace Rows

/-- THE TIED CARD OF 'unicodetextlaw57.AuditNormalization'. -/
def auditNormalizationCard : Claim7 := { stood := { row := auditNormalizationRow, standIns := [], harness := (true, "61aef6b6b8cade42713462a28f773ff956a75cc83ed79f17c41f43393044ee06"), looks := true }, kinds := [], alts := [], laidByText := true, laidKinds := [.data, .data, .data, .data], laidTests := true, laidLooks := .later }
def AuditNormalizationCardSaid : Prop := Claim7.holds Tryz.pinned (.plain (OpenSpec.ofChange auditNormalizationSpec)) auditNormalizationCard

/-- THE SECOND FORM's CARD OF 'unicodetextlaw57.AuditNormalization'. -/
def auditNormalizationUptoCard : Claim7 := { stood := { row := auditNormalizationUptoRow, standIns := [], harness := (true, "61aef6b6b8cade42713462a28f773ff956a75cc83ed79f17c41f43393044ee06"), looks := true }, kinds := [], alts := [], laidByText := true, laidKinds := [.data, .data, .data, .data], laidTests := true, laidLooks := .later }
def AuditNormalizationUptoCardSaid : Prop := Claim7.holds Tryz.pinned (.plain (OpenSpec.upto auditNormalizationSpec)) auditNormalizationUptoCard
end Rows
end Go.Proofs.YtihggclfifimoaaGreatDoor
