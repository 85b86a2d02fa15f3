/-
  ClustersLetters: what the row says of the code, checked by the kernel.
-/
import Derived.Test.YtbmdndckndnehaaGreatDoorF0
set_option linter.unusedSectionVars false
namespace Go.Proofs.YtbmdndckndnehaaGreatDoor
open Go
set_option maxRecDepth 100000
theorem mO:(Rows.clustersLettersRow.inPlace == Tryz.prog.inPlace 5)=true:=by kernel_rfl
theorem mN:(Rows.clustersLettersRow.unfollowed == Tryz.prog.unfollowed 5)=true:=by kernel_rfl
theorem mM:(Rows.clustersLettersRow.recurses == Tryz.prog.recurses 5)=true:=by kernel_rfl
theorem mL:(Rows.clustersLettersRow.named == Tryz.prog.varsNamed 5)=true:=by kernel_rfl
theorem jP:joinedFacts Tryz.prog 5 Tryz.f5 Rows.clustersLettersSpec Rows.clustersLettersRow=true:=by
 unfold joinedFacts;rw[mO,mN,mM,mL]
 kernel_rfl
theorem kd:false=Rows.clustersLettersRow.goesBy Tryz.prog:=by kernel_rfl
end Go.Proofs.YtbmdndckndnehaaGreatDoor
