/-
  LinebreakCovers: what the row says of the code, checked by the kernel.
-/
import Derived.Test.YtjjbmnacobnfeaaGreatDoorF0
set_option linter.unusedSectionVars false
namespace Go.Proofs.YtjjbmnacobnfeaaGreatDoor
open Go
set_option maxRecDepth 100000
theorem lb:(Rows.linebreakCoversRow.inPlace == Tryz.prog.inPlace 9)=true:=by kernel_rfl
theorem la:(Rows.linebreakCoversRow.unfollowed == Tryz.prog.unfollowed 9)=true:=by kernel_rfl
theorem lZ:(Rows.linebreakCoversRow.recurses == Tryz.prog.recurses 9)=true:=by kernel_rfl
theorem lY:(Rows.linebreakCoversRow.named == Tryz.prog.varsNamed 9)=true:=by kernel_rfl
theorem i8:joinedFacts Tryz.prog 9 Tryz.f9 Rows.linebreakCoversSpec Rows.linebreakCoversRow=true:=by
 unfold joinedFacts
 rw[lb,la,lZ,lY]
 kernel_rfl
theorem jx:false=Rows.linebreakCoversRow.goesBy Tryz.prog:=by kernel_rfl
end Go.Proofs.YtjjbmnacobnfeaaGreatDoor
