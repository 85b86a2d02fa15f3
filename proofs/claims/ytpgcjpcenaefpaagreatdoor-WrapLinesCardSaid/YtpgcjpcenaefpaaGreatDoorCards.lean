/-
  DERIVED. GIVEN WITH THE SEED: THE CARDS: each row of YtpgcjpcenaefpaaGreatDoorRows.lean that lists a variable, with what it lists TIED to the program's text (the seventh form; the later family's looks); each row that meets fmt, with fmt's text TOLD by the authors' own Lean function (tested against real Go, not proved from fmt's source: count such statements apart). THE CARD IS WHAT COUNTS. Prove the row's statement (the work); the ties are given (YtpgcjpcenaefpaaGreatDoorTie.lean); close each card by the builder's one call (the guide's Derived/Test/ToyasCard.lean, 'card_holds'). Laid BY PROGRAM, IN A SANDBOX (cutbox-door.mjs). By AI agents, Wed Nov 11 2026. No macro, syntax, notation, axiom, sorry.
-/
import Derived.Test.YtpgcjpcenaefpaaGreatDoorRows
import GoSem.ClaimSeven
namespace Go.Proofs.YtpgcjpcenaefpaaGreatDoor
namespace Rows

/-- THE TIED CARD OF 'unicodetextlaw36.WrapLines'. -/
def wrapLinesCard : Claim7 := { stood := { row := wrapLinesRow, standIns := [], harness := (true, "44c1af091d427469d3064f3a14dfb59bd4657c5ac27385ec9aa1e317bf063531"), looks := true }, kinds := [], alts := [], laidByText := true, laidKinds := [.data, .data, .data, .data, .listed, .data, .pinned], laidTests := true, laidLooks := .later }
def WrapLinesCardSaid : Prop := Claim7.holds Tryz.pinned (.plain (OpenSpec.ofChange wrapLinesSpec)) wrapLinesCard

/-- THE TIED CARD OF 'unicodetextlaw36.WrapWide'. -/
def wrapWideCard : Claim7 := { stood := { row := wrapWideRow, standIns := [], harness := (true, "44c1af091d427469d3064f3a14dfb59bd4657c5ac27385ec9aa1e317bf063531"), looks := true }, kinds := [], alts := [], laidByText := true, laidKinds := [.data, .data, .data, .data, .listed, .data, .pinned], laidTests := true, laidLooks := .later }
def WrapWideCardSaid : Prop := Claim7.holds Tryz.pinned (.plain (OpenSpec.ofChange wrapWideSpec)) wrapWideCard

/-- THE TIED CARD OF 'unicodetextlaw36.WrapBest'. -/
def wrapBestCard : Claim7 := { stood := { row := wrapBestRow, standIns := [], harness := (true, "44c1af091d427469d3064f3a14dfb59bd4657c5ac27385ec9aa1e317bf063531"), looks := true }, kinds := [], alts := [], laidByText := true, laidKinds := [.data, .data, .data, .data, .listed, .data, .pinned], laidTests := true, laidLooks := .later }
def WrapBestCardSaid : Prop := Claim7.holds Tryz.pinned (.plain (OpenSpec.ofChange wrapBestSpec)) wrapBestCard

/-- THE TIED CARD OF 'unicodetextlaw36.WrapWhole'. -/
def wrapWholeCard : Claim7 := { stood := { row := wrapWholeRow, standIns := [], harness := (true, "44c1af091d427469d3064f3a14dfb59bd4657c5ac27385ec9aa1e317bf063531"), looks := true }, kinds := [], alts := [], laidByText := true, laidKinds := [.data, .data, .data, .data, .listed, .data, .pinned], laidTests := true, laidLooks := .later }
def WrapWholeCardSaid : Prop := Claim7.holds Tryz.pinned (.plain (OpenSpec.ofChange wrapWholeSpec)) wrapWholeCard

/-- THE TIED CARD OF 'unicodetextlaw36.WrapLeast'. -/
def wrapLeastCard : Claim7 := { stood := { row := wrapLeastRow, standIns := [], harness := (true, "44c1af091d427469d3064f3a14dfb59bd4657c5ac27385ec9aa1e317bf063531"), looks := true }, kinds := [], alts := [], laidByText := true, laidKinds := [.data, .data, .data, .data, .listed, .data, .pinned], laidTests := true, laidLooks := .later }
def WrapLeastCardSaid : Prop := Claim7.holds Tryz.pinned (.plain (OpenSpec.ofChange wrapLeastSpec)) wrapLeastCard

/-- THE TIED CARD OF 'unicodetextlaw36.WrapErrors'. -/
def wrapErrorsCard : Claim7 := { stood := { row := wrapErrorsRow, standIns := [], harness := (true, "44c1af091d427469d3064f3a14dfb59bd4657c5ac27385ec9aa1e317bf063531"), looks := true }, kinds := [], alts := [], laidByText := true, laidKinds := [.data, .data, .data, .data, .listed, .data, .pinned], laidTests := true, laidLooks := .later }
def WrapErrorsCardSaid : Prop := Claim7.holds Tryz.pinned (.plain (OpenSpec.ofChange wrapErrorsSpec)) wrapErrorsCard

/-- THE SECOND FORM's CARD OF 'unicodetextlaw36.WrapLines'. -/
def wrapLinesUptoCard : Claim7 := { stood := { row := wrapLinesUptoRow, standIns := [], harness := (true, "44c1af091d427469d3064f3a14dfb59bd4657c5ac27385ec9aa1e317bf063531"), looks := true }, kinds := [], alts := [], laidByText := true, laidKinds := [.data, .data, .data, .data, .listed, .data, .pinned], laidTests := true, laidLooks := .later }
def WrapLinesUptoCardSaid : Prop := Claim7.holds Tryz.pinned (.plain (OpenSpec.upto wrapLinesSpec)) wrapLinesUptoCard

/-- THE SECOND FORM's CARD OF 'unicodetextlaw36.WrapWide'. -/
def wrapWideUptoCard : Claim7 := { stood := { row := wrapWideUptoRow, standIns := [], harness := (true, "44c1af091d427469d3064f3a14dfb59bd4657c5ac27385ec9aa1e317bf063531"), looks := true }, kinds := [], alts := [], laidByText := true, laidKinds := [.data, .data, .data, .data, .listed, .data, .pinned], laidTests := true, laidLooks := .later }
def WrapWideUptoCardSaid : Prop := Claim7.holds Tryz.pinned (.plain (OpenSpec.upto wrapWideSpec)) wrapWideUptoCard

/-- THE SECOND FORM's CARD OF 'unicodetextlaw36.WrapBest'. -/
def wrapBestUptoCard : Claim7 := { stood := { row := wrapBestUptoRow, standIns := [], harness := (true, "44c1af091d427469d3064f3a14dfb59bd4657c5ac27385ec9aa1e317bf063531"), looks := true }, kinds := [], alts := [], laidByText := true, laidKinds := [.data, .data, .data, .data, .listed, .data, .pinned], laidTests := true, laidLooks := .later }
def WrapBestUptoCardSaid : Prop := Claim7.holds Tryz.pinned (.plain (OpenSpec.upto wrapBestSpec)) wrapBestUptoCard

/-- THE SECOND FORM's CARD OF 'unicodetextlaw36.WrapWhole'. -/
def wrapWholeUptoCard : Claim7 := { stood := { row := wrapWholeUptoRow, standIns := [], harness := (true, "44c1af091d427469d3064f3a14dfb59bd4657c5ac27385ec9aa1e317bf063531"), looks := true }, kinds := [], alts := [], laidByText := true, laidKinds := [.data, .data, .data, .data, .listed, .data, .pinned], laidTests := true, laidLooks := .later }
def WrapWholeUptoCardSaid : Prop := Claim7.holds Tryz.pinned (.plain (OpenSpec.upto wrapWholeSpec)) wrapWholeUptoCard

/-- THE SECOND FORM's CARD OF 'unicodetextlaw36.WrapLeast'. -/
def wrapLeastUptoCard : Claim7 := { stood := { row := wrapLeastUptoRow, standIns := [], harness := (true, "44c1af091d427469d3064f3a14dfb59bd4657c5ac27385ec9aa1e317bf063531"), looks := true }, kinds := [], alts := [], laidByText := true, laidKinds := [.data, .data, .data, .data, .listed, .data, .pinned], laidTests := true, laidLooks := .later }
def WrapLeastUptoCardSaid : Prop := Claim7.holds Tryz.pinned (.plain (OpenSpec.upto wrapLeastSpec)) wrapLeastUptoCard

/-- THE SECOND FORM's CARD OF 'unicodetextlaw36.WrapErrors'. -/
def wrapErrorsUptoCard : Claim7 := { stood := { row := wrapErrorsUptoRow, standIns := [], harness := (true, "44c1af091d427469d3064f3a14dfb59bd4657c5ac27385ec9aa1e317bf063531"), looks := true }, kinds := [], alts := [], laidByText := true, laidKinds := [.data, .data, .data, .data, .listed, .data, .pinned], laidTests := true, laidLooks := .later }
def WrapErrorsUptoCardSaid : Prop := Claim7.holds Tryz.pinned (.plain (OpenSpec.upto wrapErrorsSpec)) wrapErrorsUptoCard
end Rows
end Go.Proofs.YtpgcjpcenaefpaaGreatDoor
