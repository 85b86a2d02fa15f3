/-
  WrapWhole: what the row says of the code, checked by the kernel.
-/
import Derived.Test.YtpgcjpcenaefpaaGreatDoorF0
set_option linter.unusedSectionVars false
namespace Go.Proofs.YtpgcjpcenaefpaaGreatDoor
open Go
set_option maxRecDepth 100000
theorem t8:(Rows.wrapWholeRow.inPlace == Tryz.prog.inPlace 6)=true:=by kernel_rfl
theorem t7:(Rows.wrapWholeRow.unfollowed == Tryz.prog.unfollowed 6)=true:=by kernel_rfl
theorem t6:(Rows.wrapWholeRow.recurses == Tryz.prog.recurses 6)=true:=by kernel_rfl
theorem tz:(Rows.wrapWholeRow.named == Tryz.prog.varsNamed 6)=true:=by kernel_rfl
theorem nK:joinedFacts Tryz.prog 6 Tryz.f6 Rows.wrapWholeSpec Rows.wrapWholeRow=true:=by
 unfold joinedFacts;rw[t8,t7,t6,tz]
 kernel_rfl
theorem qB:false=Rows.wrapWholeRow.goesBy Tryz.prog:=by kernel_rfl
end Go.Proofs.YtpgcjpcenaefpaaGreatDoor
