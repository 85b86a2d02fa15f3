/-
  LinebreakBlanks: what the row says of the code, checked by the kernel.
-/
import Derived.Test.YtjjbmnacobnfeaaGreatDoorF0
set_option linter.unusedSectionVars false
namespace Go.Proofs.YtjjbmnacobnfeaaGreatDoor
open Go
set_option maxRecDepth 100000
theorem lh:(Rows.linebreakBlanksRow.inPlace == Tryz.prog.inPlace 7)=true:=by kernel_rfl
theorem lg:(Rows.linebreakBlanksRow.unfollowed == Tryz.prog.unfollowed 7)=true:=by kernel_rfl
theorem ld:(Rows.linebreakBlanksRow.recurses == Tryz.prog.recurses 7)=true:=by kernel_rfl
theorem lc:(Rows.linebreakBlanksRow.named == Tryz.prog.varsNamed 7)=true:=by kernel_rfl
theorem jA:joinedFacts Tryz.prog 7 Tryz.f7 Rows.linebreakBlanksSpec Rows.linebreakBlanksRow=true:=by
 unfold joinedFacts
 rw[lh,lg,ld,lc]
 kernel_rfl
theorem jz:false=Rows.linebreakBlanksRow.goesBy Tryz.prog:=by kernel_rfl
end Go.Proofs.YtjjbmnacobnfeaaGreatDoor
