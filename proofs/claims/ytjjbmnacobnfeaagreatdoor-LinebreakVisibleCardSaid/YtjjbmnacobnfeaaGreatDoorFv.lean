/-
  LinebreakVisible: what the row says of the code, checked by the kernel.
-/
import Derived.Test.YtjjbmnacobnfeaaGreatDoorF0
set_option linter.unusedSectionVars false
namespace Go.Proofs.YtjjbmnacobnfeaaGreatDoor
open Go
set_option maxRecDepth 100000
theorem kp:(Rows.linebreakVisibleRow.inPlace == Tryz.prog.inPlace 5)=true:=by kernel_rfl
theorem ko:(Rows.linebreakVisibleRow.unfollowed == Tryz.prog.unfollowed 5)=true:=by kernel_rfl
theorem kn:(Rows.linebreakVisibleRow.recurses == Tryz.prog.recurses 5)=true:=by kernel_rfl
theorem kl:(Rows.linebreakVisibleRow.named == Tryz.prog.varsNamed 5)=true:=by kernel_rfl
theorem iP:joinedFacts Tryz.prog 5 Tryz.f5 Rows.linebreakVisibleSpec Rows.linebreakVisibleRow=true:=by
 unfold joinedFacts
 rw[kp,ko,kn,kl]
 kernel_rfl
theorem jT:false=Rows.linebreakVisibleRow.goesBy Tryz.prog:=by kernel_rfl
end Go.Proofs.YtjjbmnacobnfeaaGreatDoor
