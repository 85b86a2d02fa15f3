/-
  ClustersWhole: what the row says of the code, checked by the kernel.
-/
import Derived.Test.YtjpgpihbhicinaaGreatDoorF0
set_option linter.unusedSectionVars false
namespace Go.Proofs.YtjpgpihbhicinaaGreatDoor
open Go
set_option maxRecDepth 100000
theorem nK:(Rows.clustersWholeRow.inPlace == Tryz.prog.inPlace 7)=true:=by kernel_rfl
theorem nJ:(Rows.clustersWholeRow.unfollowed == Tryz.prog.unfollowed 7)=true:=by kernel_rfl
theorem nI:(Rows.clustersWholeRow.recurses == Tryz.prog.recurses 7)=true:=by kernel_rfl
theorem nH:(Rows.clustersWholeRow.named == Tryz.prog.varsNamed 7)=true:=by kernel_rfl
theorem jo:joinedFacts Tryz.prog 7 Tryz.f7 Rows.clustersWholeSpec Rows.clustersWholeRow=true:=by
 unfold joinedFacts;rw[nK,nJ,nI,nH]
 kernel_rfl
theorem lW:false=Rows.clustersWholeRow.goesBy Tryz.prog:=by kernel_rfl
end Go.Proofs.YtjpgpihbhicinaaGreatDoor
