/-
  DERIVED. GIVEN WITH THE SEED: THE CARDS: each row of YtnjmcdmjmaopdaaGreatDoorRows.lean that lists a variable, with what it lists TIED to the program's text (the seventh form; the later family's looks); each row that meets fmt, with fmt's text TOLD by the authors' own Lean function (tested against real Go, not proved from fmt's source: count such statements apart). THE CARD IS WHAT COUNTS. Prove the row's statement (the work); the ties are given (YtnjmcdmjmaopdaaGreatDoorTie.lean); close each card by the builder's one call (the guide's Derived/Test/ToyasCard.lean, 'card_holds'). Laid BY PROGRAM, IN A SANDBOX (cutbox-door.mjs). By AI agents, Wed Nov 11 2026. No macro, syntax, notation, axiom, sorry.
-/
import Derived.Test.YtnjmcdmjmaopdaaGreatDoorRows
import GoSem.ClaimSeven
namespace Go.Proofs.YtnjmcdmjmaopdaaGreatDoor
namespace Rows

/-- THE TIED CARD OF 'unicodetextlaw34.LinebreakParagraphs'. -/
def linebreakParagraphsCard : Claim7 := { stood := { row := linebreakParagraphsRow, standIns := [], harness := (true, "61177cf9475b40af55ff57635850841eefe28fa53fd90971bb68eb0e4fc5d091"), looks := true }, kinds := [], alts := [], laidByText := true, laidKinds := [.data, .data, .data, .data, .listed, .data, .pinned], laidTests := true, laidLooks := .later }
def LinebreakParagraphsCardSaid : Prop := Claim7.holds Tryz.pinned (.plain (OpenSpec.ofChange linebreakParagraphsSpec)) linebreakParagraphsCard

/-- THE SECOND FORM's CARD OF 'unicodetextlaw34.LinebreakParagraphs'. -/
def linebreakParagraphsUptoCard : Claim7 := { stood := { row := linebreakParagraphsUptoRow, standIns := [], harness := (true, "61177cf9475b40af55ff57635850841eefe28fa53fd90971bb68eb0e4fc5d091"), looks := true }, kinds := [], alts := [], laidByText := true, laidKinds := [.data, .data, .data, .data, .listed, .data, .pinned], laidTests := true, laidLooks := .later }
def LinebreakParagraphsUptoCardSaid : Prop := Claim7.holds Tryz.pinned (.plain (OpenSpec.upto linebreakParagraphsSpec)) linebreakParagraphsUptoCard
end Rows
end Go.Proofs.YtnjmcdmjmaopdaaGreatDoor
