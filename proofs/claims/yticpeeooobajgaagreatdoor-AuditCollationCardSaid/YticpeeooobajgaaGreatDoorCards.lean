/-
  DERIVED. GIVEN WITH THE SEED: THE CARDS: each row of YticpeeooobajgaaGreatDoorRows.lean that lists a variable, with what it lists TIED to the program's text (the seventh form; the later family's looks); each row that meets fmt, with fmt's text TOLD by the authors' own Lean function (tested against real Go, not proved from fmt's source: count such statements apart). THE CARD IS WHAT COUNTS. Prove the row's statement (the work); the ties are given (YticpeeooobajgaaGreatDoorTie.lean); close each card by the builder's one call (the guide's Derived/Test/ToyasCard.lean, 'card_holds'). Laid BY PROGRAM, IN A SANDBOX (cutbox-door.mjs). By AI agents, Wed Nov 11 2026. No macro, syntax, notation, axiom, sorry.
-/
import Derived.Test.YticpeeooobajgaaGreatDoorRows
import GoSem.ClaimSeven
namespace Go.Proofs.YticpeeooobajgaaGreatDoor
namespace Rows

/-- THE TIED CARD OF 'unicodetextlaw57.AuditCollation'. -/
def auditCollationCard : Claim7 := { stood := { row := auditCollationRow, standIns := [], harness := (true, "187936046f2551db710ecca34f359294e0bd806d5f0ceedfe01eba316071765b"), looks := true }, kinds := [], alts := [], laidByText := true, laidKinds := [.data, .data, .data, .data], laidTests := true, laidLooks := .later }
def AuditCollationCardSaid : Prop := Claim7.holds Tryz.pinned (.plain (OpenSpec.ofChange auditCollationSpec)) auditCollationCard

/-- THE SECOND FORM's CARD OF 'unicodetextlaw57.AuditCollation'. -/
def auditCollationUptoCard : Claim7 := { stood := { row := auditCollationUptoRow, standIns := [], harness := (true, "187936046f2551db710ecca34f359294e0bd806d5f0ceedfe01eba316071765b"), looks := true }, kinds := [], alts := [], laidByText := true, laidKinds := [.data, .data, .data, .data], laidTests := true, laidLooks := .later }
def AuditCollationUptoCardSaid : Prop := Claim7.holds Tryz.pinned (.plain (OpenSpec.upto auditCollationSpec)) auditCollationUptoCard
end Rows
end Go.Proofs.YticpeeooobajgaaGreatDoor
