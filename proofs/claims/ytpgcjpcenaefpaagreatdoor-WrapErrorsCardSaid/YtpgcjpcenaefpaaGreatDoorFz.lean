/-
  WrapErrors: what the row says of the code, checked by the kernel.
-/
import Derived.Test.YtpgcjpcenaefpaaGreatDoorF0
set_option linter.unusedSectionVars false
namespace Go.Proofs.YtpgcjpcenaefpaaGreatDoor
open Go
set_option maxRecDepth 100000
theorem r8:(Rows.wrapErrorsRow.inPlace == Tryz.prog.inPlace 8)=true:=by kernel_rfl
theorem rz:(Rows.wrapErrorsRow.unfollowed == Tryz.prog.unfollowed 8)=true:=by kernel_rfl
theorem ry:(Rows.wrapErrorsRow.recurses == Tryz.prog.recurses 8)=true:=by kernel_rfl
theorem rx:(Rows.wrapErrorsRow.named == Tryz.prog.varsNamed 8)=true:=by kernel_rfl
theorem mJ:joinedFacts Tryz.prog 8 Tryz.f8 Rows.wrapErrorsSpec Rows.wrapErrorsRow=true:=by
 unfold joinedFacts;rw[r8,rz,ry,rx]
 kernel_rfl
theorem pC:false=Rows.wrapErrorsRow.goesBy Tryz.prog:=by kernel_rfl
end Go.Proofs.YtpgcjpcenaefpaaGreatDoor
