/-
  ClustersTwice: what the row says of the code, checked by the kernel.
-/
import Derived.Test.YtjpgpihbhicinaaGreatDoorF0
set_option linter.unusedSectionVars false
namespace Go.Proofs.YtjpgpihbhicinaaGreatDoor
open Go
set_option maxRecDepth 100000
theorem nP:(Rows.clustersTwiceRow.inPlace == Tryz.prog.inPlace 9)=true:=by kernel_rfl
theorem nO:(Rows.clustersTwiceRow.unfollowed == Tryz.prog.unfollowed 9)=true:=by kernel_rfl
theorem nN:(Rows.clustersTwiceRow.recurses == Tryz.prog.recurses 9)=true:=by kernel_rfl
theorem nM:(Rows.clustersTwiceRow.named == Tryz.prog.varsNamed 9)=true:=by kernel_rfl
theorem jq:joinedFacts Tryz.prog 9 Tryz.f9 Rows.clustersTwiceSpec Rows.clustersTwiceRow=true:=by
 unfold joinedFacts;rw[nP,nO,nN,nM]
 kernel_rfl
theorem lY:false=Rows.clustersTwiceRow.goesBy Tryz.prog:=by kernel_rfl
end Go.Proofs.YtjpgpihbhicinaaGreatDoor
