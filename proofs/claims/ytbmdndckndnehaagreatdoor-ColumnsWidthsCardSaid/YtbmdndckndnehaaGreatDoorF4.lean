/-
  ColumnsWidths: what the row says of the code, checked by the kernel.
-/
import Derived.Test.YtbmdndckndnehaaGreatDoorF0
set_option linter.unusedSectionVars false
namespace Go.Proofs.YtbmdndckndnehaaGreatDoor
open Go
set_option maxRecDepth 100000
theorem pH:(Rows.columnsWidthsRow.inPlace == Tryz.prog.inPlace 7)=true:=by kernel_rfl
theorem pG:(Rows.columnsWidthsRow.unfollowed == Tryz.prog.unfollowed 7)=true:=by kernel_rfl
theorem pF:(Rows.columnsWidthsRow.recurses == Tryz.prog.recurses 7)=true:=by kernel_rfl
theorem pE:(Rows.columnsWidthsRow.named == Tryz.prog.varsNamed 7)=true:=by kernel_rfl
theorem lD:joinedFacts Tryz.prog 7 Tryz.f7 Rows.columnsWidthsSpec Rows.columnsWidthsRow=true:=by
 unfold joinedFacts;rw[pH,pG,pF,pE]
 kernel_rfl
theorem m7:false=Rows.columnsWidthsRow.goesBy Tryz.prog:=by kernel_rfl
end Go.Proofs.YtbmdndckndnehaaGreatDoor
