/-
  ClustersParts: what the row says of the code, checked by the kernel.
-/
import Derived.Test.YtbmdndckndnehaaGreatDoorF0
set_option linter.unusedSectionVars false
namespace Go.Proofs.YtbmdndckndnehaaGreatDoor
open Go
set_option maxRecDepth 100000
theorem oI:(Rows.clustersPartsRow.inPlace == Tryz.prog.inPlace 4)=true:=by kernel_rfl
theorem oH:(Rows.clustersPartsRow.unfollowed == Tryz.prog.unfollowed 4)=true:=by kernel_rfl
theorem oG:(Rows.clustersPartsRow.recurses == Tryz.prog.recurses 4)=true:=by kernel_rfl
theorem oF:(Rows.clustersPartsRow.named == Tryz.prog.varsNamed 4)=true:=by kernel_rfl
theorem kb:joinedFacts Tryz.prog 4 Tryz.f4 Rows.clustersPartsSpec Rows.clustersPartsRow=true:=by
 unfold joinedFacts;rw[oI,oH,oG,oF]
 kernel_rfl
theorem mK:false=Rows.clustersPartsRow.goesBy Tryz.prog:=by kernel_rfl
end Go.Proofs.YtbmdndckndnehaaGreatDoor
