/-
  ClustersBoundaries: what the row says of the code, checked by the kernel.
-/
import Derived.Test.YtbmdndckndnehaaGreatDoorF0
set_option linter.unusedSectionVars false
namespace Go.Proofs.YtbmdndckndnehaaGreatDoor
open Go
set_option maxRecDepth 100000
theorem jl:(Rows.clustersBoundariesRow.inPlace == Tryz.prog.inPlace 3)=true:=by kernel_rfl
theorem jk:(Rows.clustersBoundariesRow.unfollowed == Tryz.prog.unfollowed 3)=true:=by kernel_rfl
theorem jj:(Rows.clustersBoundariesRow.recurses == Tryz.prog.recurses 3)=true:=by kernel_rfl
theorem ji:(Rows.clustersBoundariesRow.named == Tryz.prog.varsNamed 3)=true:=by kernel_rfl
theorem gp:joinedFacts Tryz.prog 3 Tryz.f3 Rows.clustersBoundariesSpec Rows.clustersBoundariesRow=true:=by
 unfold joinedFacts;rw[jl,jk,jj,ji]
 kernel_rfl
theorem ii:false=Rows.clustersBoundariesRow.goesBy Tryz.prog:=by kernel_rfl
end Go.Proofs.YtbmdndckndnehaaGreatDoor
