/-
  WrapLeast: what the row says of the code, checked by the kernel.
-/
import Derived.Test.YtpgcjpcenaefpaaGreatDoorF0
set_option linter.unusedSectionVars false
namespace Go.Proofs.YtpgcjpcenaefpaaGreatDoor
open Go
set_option maxRecDepth 100000
theorem uF:(Rows.wrapLeastRow.inPlace == Tryz.prog.inPlace 7)=true:=by kernel_rfl
theorem uD:(Rows.wrapLeastRow.unfollowed == Tryz.prog.unfollowed 7)=true:=by kernel_rfl
theorem uC:(Rows.wrapLeastRow.recurses == Tryz.prog.recurses 7)=true:=by kernel_rfl
theorem t9:(Rows.wrapLeastRow.named == Tryz.prog.varsNamed 7)=true:=by kernel_rfl
theorem nN:joinedFacts Tryz.prog 7 Tryz.f7 Rows.wrapLeastSpec Rows.wrapLeastRow=true:=by
 unfold joinedFacts;rw[uF,uD,uC,t9]
 kernel_rfl
theorem qD:false=Rows.wrapLeastRow.goesBy Tryz.prog:=by kernel_rfl
end Go.Proofs.YtpgcjpcenaefpaaGreatDoor
