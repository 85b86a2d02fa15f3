/-
  WrapLines: what the row says of the code, checked by the kernel.
-/
import Derived.Test.YtpgcjpcenaefpaaGreatDoorF0
set_option linter.unusedSectionVars false
namespace Go.Proofs.YtpgcjpcenaefpaaGreatDoor
open Go
set_option maxRecDepth 100000
theorem uN:(Rows.wrapLinesRow.inPlace == Tryz.prog.inPlace 3)=true:=by kernel_rfl
theorem uM:(Rows.wrapLinesRow.unfollowed == Tryz.prog.unfollowed 3)=true:=by kernel_rfl
theorem uL:(Rows.wrapLinesRow.recurses == Tryz.prog.recurses 3)=true:=by kernel_rfl
theorem uK:(Rows.wrapLinesRow.named == Tryz.prog.varsNamed 3)=true:=by kernel_rfl
theorem nX:joinedFacts Tryz.prog 3 Tryz.f3 Rows.wrapLinesSpec Rows.wrapLinesRow=true:=by
 unfold joinedFacts;rw[uN,uM,uL,uK]
 kernel_rfl
theorem p9:false=Rows.wrapLinesRow.goesBy Tryz.prog:=by kernel_rfl
end Go.Proofs.YtpgcjpcenaefpaaGreatDoor
