/-
  WrapWide: what the row says of the code, checked by the kernel.
-/
import Derived.Test.YtpgcjpcenaefpaaGreatDoorF0
set_option linter.unusedSectionVars false
namespace Go.Proofs.YtpgcjpcenaefpaaGreatDoor
open Go
set_option maxRecDepth 100000
theorem vv:(Rows.wrapWideRow.inPlace == Tryz.prog.inPlace 4)=true:=by kernel_rfl
theorem vu:(Rows.wrapWideRow.unfollowed == Tryz.prog.unfollowed 4)=true:=by kernel_rfl
theorem vt:(Rows.wrapWideRow.recurses == Tryz.prog.recurses 4)=true:=by kernel_rfl
theorem vr:(Rows.wrapWideRow.named == Tryz.prog.varsNamed 4)=true:=by kernel_rfl
theorem pA:joinedFacts Tryz.prog 4 Tryz.f4 Rows.wrapWideSpec Rows.wrapWideRow=true:=by
 unfold joinedFacts;rw[vv,vu,vt,vr]
 kernel_rfl
theorem rv:false=Rows.wrapWideRow.goesBy Tryz.prog:=by kernel_rfl
end Go.Proofs.YtpgcjpcenaefpaaGreatDoor
