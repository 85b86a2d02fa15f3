/-
  WrapBest: what the row says of the code, checked by the kernel.
-/
import Derived.Test.YtlimkdlhldlolaaGreatDoorF0
set_option linter.unusedSectionVars false
namespace Go.Proofs.YtlimkdlhldlolaaGreatDoor
open Go
set_option maxRecDepth 100000
theorem wP:(Rows.wrapBestRow.inPlace == Tryz.prog.inPlace 3)=true:=by kernel_rfl
theorem wO:(Rows.wrapBestRow.unfollowed == Tryz.prog.unfollowed 3)=true:=by kernel_rfl
theorem wN:(Rows.wrapBestRow.recurses == Tryz.prog.recurses 3)=true:=by kernel_rfl
theorem wM:(Rows.wrapBestRow.named == Tryz.prog.varsNamed 3)=true:=by kernel_rfl
theorem pJ:joinedFacts Tryz.prog 3 Tryz.f3 Rows.wrapBestSpec Rows.wrapBestRow=true:=by
 unfold joinedFacts;rw[wP,wO,wN,wM]
 kernel_rfl
theorem sH:false=Rows.wrapBestRow.goesBy Tryz.prog:=by kernel_rfl
end Go.Proofs.YtlimkdlhldlolaaGreatDoor
