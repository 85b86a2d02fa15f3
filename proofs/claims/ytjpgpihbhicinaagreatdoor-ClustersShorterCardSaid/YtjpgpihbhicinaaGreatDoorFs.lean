/-
  ClustersShorter: what the row says of the code, checked by the kernel.
-/
import Derived.Test.YtjpgpihbhicinaaGreatDoorF0
set_option linter.unusedSectionVars false
namespace Go.Proofs.YtjpgpihbhicinaaGreatDoor
open Go
set_option maxRecDepth 100000
theorem lc:(Rows.clustersShorterRow.inPlace == Tryz.prog.inPlace 8)=true:=by kernel_rfl
theorem lb:(Rows.clustersShorterRow.unfollowed == Tryz.prog.unfollowed 8)=true:=by kernel_rfl
theorem la:(Rows.clustersShorterRow.recurses == Tryz.prog.recurses 8)=true:=by kernel_rfl
theorem lZ:(Rows.clustersShorterRow.named == Tryz.prog.varsNamed 8)=true:=by kernel_rfl
theorem iv:joinedFacts Tryz.prog 8 Tryz.f8 Rows.clustersShorterSpec Rows.clustersShorterRow=true:=by
 unfold joinedFacts;rw[lc,lb,la,lZ]
 kernel_rfl
theorem js:false=Rows.clustersShorterRow.goesBy Tryz.prog:=by kernel_rfl
end Go.Proofs.YtjpgpihbhicinaaGreatDoor
