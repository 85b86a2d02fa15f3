/-
  LinebreakParagraphs: what the row says of the code, checked by the kernel.
-/
import Derived.Test.YtnjmcdmjmaopdaaGreatDoorF0
set_option linter.unusedSectionVars false
namespace Go.Proofs.YtnjmcdmjmaopdaaGreatDoor
open Go
set_option maxRecDepth 100000
theorem jN:(Rows.linebreakParagraphsRow.inPlace == Tryz.prog.inPlace 3)=true:=by kernel_rfl
theorem jM:(Rows.linebreakParagraphsRow.unfollowed == Tryz.prog.unfollowed 3)=true:=by kernel_rfl
theorem jL:(Rows.linebreakParagraphsRow.recurses == Tryz.prog.recurses 3)=true:=by kernel_rfl
theorem jK:(Rows.linebreakParagraphsRow.named == Tryz.prog.varsNamed 3)=true:=by kernel_rfl
theorem gV:joinedFacts Tryz.prog 3 Tryz.f3 Rows.linebreakParagraphsSpec Rows.linebreakParagraphsRow=true:=by
 unfold joinedFacts;rw[jN,jM,jL,jK]
 kernel_rfl
theorem iJ:false=Rows.linebreakParagraphsRow.goesBy Tryz.prog:=by kernel_rfl
end Go.Proofs.YtnjmcdmjmaopdaaGreatDoor
