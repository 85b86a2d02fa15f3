/-
  ClustersTruncates: what the row says of the code, checked by the kernel.
-/
import Derived.Test.YtjpgpihbhicinaaGreatDoorF0
set_option linter.unusedSectionVars false
namespace Go.Proofs.YtjpgpihbhicinaaGreatDoor
open Go
set_option maxRecDepth 100000
theorem kg:(Rows.clustersTruncatesRow.inPlace == Tryz.prog.inPlace 5)=true:=by kernel_rfl
theorem ke:(Rows.clustersTruncatesRow.unfollowed == Tryz.prog.unfollowed 5)=true:=by kernel_rfl
theorem kd:(Rows.clustersTruncatesRow.recurses == Tryz.prog.recurses 5)=true:=by kernel_rfl
theorem kc:(Rows.clustersTruncatesRow.named == Tryz.prog.varsNamed 5)=true:=by kernel_rfl
theorem iM:joinedFacts Tryz.prog 5 Tryz.f5 Rows.clustersTruncatesSpec Rows.clustersTruncatesRow=true:=by
 unfold joinedFacts;rw[kg,ke,kd,kc]
 kernel_rfl
theorem jW:false=Rows.clustersTruncatesRow.goesBy Tryz.prog:=by kernel_rfl
end Go.Proofs.YtjpgpihbhicinaaGreatDoor
