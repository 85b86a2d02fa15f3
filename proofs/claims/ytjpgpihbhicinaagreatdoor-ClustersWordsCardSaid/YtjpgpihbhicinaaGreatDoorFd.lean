/-
  ClustersWords: what the row says of the code, checked by the kernel.
-/
import Derived.Test.YtjpgpihbhicinaaGreatDoorF0
set_option linter.unusedSectionVars false
namespace Go.Proofs.YtjpgpihbhicinaaGreatDoor
open Go
set_option maxRecDepth 100000
theorem nG:(Rows.clustersWordsRow.inPlace == Tryz.prog.inPlace 11)=true:=by kernel_rfl
theorem nF:(Rows.clustersWordsRow.unfollowed == Tryz.prog.unfollowed 11)=true:=by kernel_rfl
theorem nE:(Rows.clustersWordsRow.recurses == Tryz.prog.recurses 11)=true:=by kernel_rfl
theorem nD:(Rows.clustersWordsRow.named == Tryz.prog.varsNamed 11)=true:=by kernel_rfl
theorem jm:joinedFacts Tryz.prog 11 Tryz.f11 Rows.clustersWordsSpec Rows.clustersWordsRow=true:=by
 unfold joinedFacts;rw[nG,nF,nE,nD]
 kernel_rfl
theorem lU:false=Rows.clustersWordsRow.goesBy Tryz.prog:=by kernel_rfl
end Go.Proofs.YtjpgpihbhicinaaGreatDoor
