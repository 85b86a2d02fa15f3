/-
  DERIVED. GIVEN WITH THE SEED: THE CARDS: each row of YtjjbmnacobnfeaaGreatDoorRows.lean that lists a variable, with what it lists TIED to the program's text (the seventh form; the later family's looks); each row that meets fmt, with fmt's text TOLD by the authors' own Lean function (tested against real Go, not proved from fmt's source: count such statements apart). THE CARD IS WHAT COUNTS. Prove the row's statement (the work); the ties are given (YtjjbmnacobnfeaaGreatDoorTie.lean); close each card by the builder's one call (the guide's Derived/Test/ToyasCard.lean, 'card_holds'). Laid BY PROGRAM, IN A SANDBOX (cutbox-door.mjs). By AI agents, Wed Nov 11 2026. No macro, syntax, notation, axiom, sorry.
-/
import Derived.Test.YtjjbmnacobnfeaaGreatDoorRows
import GoSem.ClaimSeven
namespace Go.Proofs.YtjjbmnacobnfeaaGreatDoor
namespace Rows

/-- THE TIED CARD OF 'unicodetextlaw34.LinebreakActions'. -/
def linebreakActionsCard : Claim7 := { stood := { row := linebreakActionsRow, standIns := [], harness := (true, "c01b043d719c2851b19cf292f4d156c64fb9994bf150d64d58b577a34ca2252e"), looks := true }, kinds := [], alts := [], laidByText := true, laidKinds := [.data, .data, .data, .data, .listed, .data, .pinned], laidTests := true, laidLooks := .later }
def LinebreakActionsCardSaid : Prop := Claim7.holds Tryz.pinned (.plain (OpenSpec.ofChange linebreakActionsSpec)) linebreakActionsCard

/-- THE TIED CARD OF 'unicodetextlaw34.LinebreakParagraphs'. -/
def linebreakParagraphsCard : Claim7 := { stood := { row := linebreakParagraphsRow, standIns := [], harness := (true, "c01b043d719c2851b19cf292f4d156c64fb9994bf150d64d58b577a34ca2252e"), looks := true }, kinds := [], alts := [], laidByText := true, laidKinds := [.data, .data, .data, .data, .listed, .data, .pinned], laidTests := true, laidLooks := .later }
def LinebreakParagraphsCardSaid : Prop := Claim7.holds Tryz.pinned (.plain (OpenSpec.ofChange linebreakParagraphsSpec)) linebreakParagraphsCard

/-- THE TIED CARD OF 'unicodetextlaw34.LinebreakVisible'. -/
def linebreakVisibleCard : Claim7 := { stood := { row := linebreakVisibleRow, standIns := [], harness := (true, "c01b043d719c2851b19cf292f4d156c64fb9994bf150d64d58b577a34ca2252e"), looks := true }, kinds := [], alts := [], laidByText := true, laidKinds := [.data, .data, .data, .data, .listed, .data, .pinned], laidTests := true, laidLooks := .later }
def LinebreakVisibleCardSaid : Prop := Claim7.holds Tryz.pinned (.plain (OpenSpec.ofChange linebreakVisibleSpec)) linebreakVisibleCard

/-- THE TIED CARD OF 'unicodetextlaw34.LinebreakSegments'. -/
def linebreakSegmentsCard : Claim7 := { stood := { row := linebreakSegmentsRow, standIns := [], harness := (true, "c01b043d719c2851b19cf292f4d156c64fb9994bf150d64d58b577a34ca2252e"), looks := true }, kinds := [], alts := [], laidByText := true, laidKinds := [.data, .data, .data, .data, .listed, .data, .pinned], laidTests := true, laidLooks := .later }
def LinebreakSegmentsCardSaid : Prop := Claim7.holds Tryz.pinned (.plain (OpenSpec.ofChange linebreakSegmentsSpec)) linebreakSegmentsCard

/-- THE TIED CARD OF 'unicodetextlaw34.LinebreakBlanks'. -/
def linebreakBlanksCard : Claim7 := { stood := { row := linebreakBlanksRow, standIns := [], harness := (true, "c01b043d719c2851b19cf292f4d156c64fb9994bf150d64d58b577a34ca2252e"), looks := true }, kinds := [], alts := [], laidByText := true, laidKinds := [.data, .data, .data, .data, .listed, .data, .pinned], laidTests := true, laidLooks := .later }
def LinebreakBlanksCardSaid : Prop := Claim7.holds Tryz.pinned (.plain (OpenSpec.ofChange linebreakBlanksSpec)) linebreakBlanksCard

/-- THE TIED CARD OF 'unicodetextlaw34.LinebreakOpportunities'. -/
def linebreakOpportunitiesCard : Claim7 := { stood := { row := linebreakOpportunitiesRow, standIns := [], harness := (true, "c01b043d719c2851b19cf292f4d156c64fb9994bf150d64d58b577a34ca2252e"), looks := true }, kinds := [], alts := [], laidByText := true, laidKinds := [.data, .data, .data, .data, .listed, .data, .pinned], laidTests := true, laidLooks := .later }
def LinebreakOpportunitiesCardSaid : Prop := Claim7.holds Tryz.pinned (.plain (OpenSpec.ofChange linebreakOpportunitiesSpec)) linebreakOpportunitiesCard

/-- THE TIED CARD OF 'unicodetextlaw34.LinebreakCovers'. -/
def linebreakCoversCard : Claim7 := { stood := { row := linebreakCoversRow, standIns := [], harness := (true, "c01b043d719c2851b19cf292f4d156c64fb9994bf150d64d58b577a34ca2252e"), looks := true }, kinds := [], alts := [], laidByText := true, laidKinds := [.data, .data, .data, .data, .listed, .data, .pinned], laidTests := true, laidLooks := .later }
def LinebreakCoversCardSaid : Prop := Claim7.holds Tryz.pinned (.plain (OpenSpec.ofChange linebreakCoversSpec)) linebreakCoversCard

/-- THE SECOND FORM's CARD OF 'unicodetextlaw34.LinebreakActions'. -/
def linebreakActionsUptoCard : Claim7 := { stood := { row := linebreakActionsUptoRow, standIns := [], harness := (true, "c01b043d719c2851b19cf292f4d156c64fb9994bf150d64d58b577a34ca2252e"), looks := true }, kinds := [], alts := [], laidByText := true, laidKinds := [.data, .data, .data, .data, .listed, .data, .pinned], laidTests := true, laidLooks := .later }
def LinebreakActionsUptoCardSaid : Prop := Claim7.holds Tryz.pinned (.plain (OpenSpec.upto linebreakActionsSpec)) linebreakActionsUptoCard

/-- THE SECOND FORM's CARD OF 'unicodetextlaw34.LinebreakParagraphs'. -/
def linebreakParagraphsUptoCard : Claim7 := { stood := { row := linebreakParagraphsUptoRow, standIns := [], harness := (true, "c01b043d719c2851b19cf292f4d156c64fb9994bf150d64d58b577a34ca2252e"), looks := true }, kinds := [], alts := [], laidByText := true, laidKinds := [.data, .data, .data, .data, .listed, .data, .pinned], laidTests := true, laidLooks := .later }
def LinebreakParagraphsUptoCardSaid : Prop := Claim7.holds Tryz.pinned (.plain (OpenSpec.upto linebreakParagraphsSpec)) linebreakParagraphsUptoCard

/-- THE SECOND FORM's CARD OF 'unicodetextlaw34.LinebreakVisible'. -/
def linebreakVisibleUptoCard : Claim7 := { stood := { row := linebreakVisibleUptoRow, standIns := [], harness := (true, "c01b043d719c2851b19cf292f4d156c64fb9994bf150d64d58b577a34ca2252e"), looks := true }, kinds := [], alts := [], laidByText := true, laidKinds := [.data, .data, .data, .data, .listed, .data, .pinned], laidTests := true, laidLooks := .later }
def LinebreakVisibleUptoCardSaid : Prop := Claim7.holds Tryz.pinned (.plain (OpenSpec.upto linebreakVisibleSpec)) linebreakVisibleUptoCard

/-- THE SECOND FORM's CARD OF 'unicodetextlaw34.LinebreakSegments'. -/
def linebreakSegmentsUptoCard : Claim7 := { stood := { row := linebreakSegmentsUptoRow, standIns := [], harness := (true, "c01b043d719c2851b19cf292f4d156c64fb9994bf150d64d58b577a34ca2252e"), looks := true }, kinds := [], alts := [], laidByText := true, laidKinds := [.data, .data, .data, .data, .listed, .data, .pinned], laidTests := true, laidLooks := .later }
def LinebreakSegmentsUptoCardSaid : Prop := Claim7.holds Tryz.pinned (.plain (OpenSpec.upto linebreakSegmentsSpec)) linebreakSegmentsUptoCard

/-- THE SECOND FORM's CARD OF 'unicodetextlaw34.LinebreakBlanks'. -/
def linebreakBlanksUptoCard : Claim7 := { stood := { row := linebreakBlanksUptoRow, standIns := [], harness := (true, "c01b043d719c2851b19cf292f4d156c64fb9994bf150d64d58b577a34ca2252e"), looks := true }, kinds := [], alts := [], laidByText := true, laidKinds := [.data, .data, .data, .data, .listed, .data, .pinned], laidTests := true, laidLooks := .later }
def LinebreakBlanksUptoCardSaid : Prop := Claim7.holds Tryz.pinned (.plain (OpenSpec.upto linebreakBlanksSpec)) linebreakBlanksUptoCard

/-- THE SECOND FORM's CARD OF 'unicodetextlaw34.LinebreakOpportunities'. -/
def linebreakOpportunitiesUptoCard : Claim7 := { stood := { row := linebreakOpportunitiesUptoRow, standIns := [], harness := (true, "c01b043d719c2851b19cf292f4d156c64fb9994bf150d64d58b577a34ca2252e"), looks := true }, kinds := [], alts := [], laidByText := true, laidKinds := [.data, .data, .data, .data, .listed, .data, .pinned], laidTests := true, laidLooks := .later }
def LinebreakOpportunitiesUptoCardSaid : Prop := Claim7.holds Tryz.pinned (.plain (OpenSpec.upto linebreakOpportunitiesSpec)) linebreakOpportunitiesUptoCard

/-- THE SECOND FORM's CARD OF 'unicodetextlaw34.LinebreakCovers'. -/
def linebreakCoversUptoCard : Claim7 := { stood := { row := linebreakCoversUptoRow, standIns := [], harness := (true, "c01b043d719c2851b19cf292f4d156c64fb9994bf150d64d58b577a34ca2252e"), looks := true }, kinds := [], alts := [], laidByText := true, laidKinds := [.data, .data, .data, .data, .listed, .data, .pinned], laidTests := true, laidLooks := .later }
def LinebreakCoversUptoCardSaid : Prop := Claim7.holds Tryz.pinned (.plain (OpenSpec.upto linebreakCoversSpec)) linebreakCoversUptoCard
end Rows
end Go.Proofs.YtjjbmnacobnfeaaGreatDoor
