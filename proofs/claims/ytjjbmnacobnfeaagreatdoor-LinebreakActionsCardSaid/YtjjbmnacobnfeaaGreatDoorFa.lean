/-
  LinebreakActions: what the row says of the code, checked by the kernel.
-/
import Derived.Test.YtjjbmnacobnfeaaGreatDoorF0
set_option linter.unusedSectionVars false
namespace Go.Proofs.YtjjbmnacobnfeaaGreatDoor
open Go
set_option maxRecDepth 100000
theorem lH:(Rows.linebreakActionsRow.inPlace == Tryz.prog.inPlace 3)=true:=by kernel_rfl
theorem lG:(Rows.linebreakActionsRow.unfollowed == Tryz.prog.unfollowed 3)=true:=by kernel_rfl
theorem lF:(Rows.linebreakActionsRow.recurses == Tryz.prog.recurses 3)=true:=by kernel_rfl
theorem lE:(Rows.linebreakActionsRow.named == Tryz.prog.varsNamed 3)=true:=by kernel_rfl
theorem ia:joinedFacts Tryz.prog 3 Tryz.f3 Rows.linebreakActionsSpec Rows.linebreakActionsRow=true:=by
 unfold joinedFacts;rw[lH,lG,lF,lE]
 kernel_rfl
theorem jc:false=Rows.linebreakActionsRow.goesBy Tryz.prog:=by kernel_rfl
end Go.Proofs.YtjjbmnacobnfeaaGreatDoor
