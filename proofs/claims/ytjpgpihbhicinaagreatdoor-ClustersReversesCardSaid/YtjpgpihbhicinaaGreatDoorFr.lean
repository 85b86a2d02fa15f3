/-
  ClustersReverses: what the row says of the code, checked by the kernel.
-/
import Derived.Test.YtjpgpihbhicinaaGreatDoorF0
set_option linter.unusedSectionVars false
namespace Go.Proofs.YtjpgpihbhicinaaGreatDoor
open Go
set_option maxRecDepth 100000
theorem lV:(Rows.clustersReversesRow.inPlace == Tryz.prog.inPlace 6)=true:=by kernel_rfl
theorem lU:(Rows.clustersReversesRow.unfollowed == Tryz.prog.unfollowed 6)=true:=by kernel_rfl
theorem lT:(Rows.clustersReversesRow.recurses == Tryz.prog.recurses 6)=true:=by kernel_rfl
theorem lS:(Rows.clustersReversesRow.named == Tryz.prog.varsNamed 6)=true:=by kernel_rfl
theorem iw:joinedFacts Tryz.prog 6 Tryz.f6 Rows.clustersReversesSpec Rows.clustersReversesRow=true:=by
 unfold joinedFacts;rw[lV,lU,lT,lS]
 kernel_rfl
theorem jn:false=Rows.clustersReversesRow.goesBy Tryz.prog:=by kernel_rfl
end Go.Proofs.YtjpgpihbhicinaaGreatDoor
