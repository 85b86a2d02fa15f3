/-
  ColumnsGrows: what the row says of the code, checked by the kernel.
-/
import Derived.Test.YtbmdndckndnehaaGreatDoorF0
set_option linter.unusedSectionVars false
namespace Go.Proofs.YtbmdndckndnehaaGreatDoor
open Go
set_option maxRecDepth 100000
theorem qZ:(Rows.columnsGrowsRow.inPlace == Tryz.prog.inPlace 9)=true:=by kernel_rfl
theorem qY:(Rows.columnsGrowsRow.unfollowed == Tryz.prog.unfollowed 9)=true:=by kernel_rfl
theorem qX:(Rows.columnsGrowsRow.recurses == Tryz.prog.recurses 9)=true:=by kernel_rfl
theorem qW:(Rows.columnsGrowsRow.named == Tryz.prog.varsNamed 9)=true:=by kernel_rfl
theorem mE:joinedFacts Tryz.prog 9 Tryz.f9 Rows.columnsGrowsSpec Rows.columnsGrowsRow=true:=by
 unfold joinedFacts;rw[qZ,qY,qX,qW]
 kernel_rfl
theorem oB:false=Rows.columnsGrowsRow.goesBy Tryz.prog:=by kernel_rfl
end Go.Proofs.YtbmdndckndnehaaGreatDoor
