/-
  ColumnsOffsets: what the row says of the code, checked by the kernel.
-/
import Derived.Test.YtbmdndckndnehaaGreatDoorF0
set_option linter.unusedSectionVars false
namespace Go.Proofs.YtbmdndckndnehaaGreatDoor
open Go
set_option maxRecDepth 100000
theorem n9:(Rows.columnsOffsetsRow.inPlace == Tryz.prog.inPlace 10)=true:=by kernel_rfl
theorem n8:(Rows.columnsOffsetsRow.unfollowed == Tryz.prog.unfollowed 10)=true:=by kernel_rfl
theorem n7:(Rows.columnsOffsetsRow.recurses == Tryz.prog.recurses 10)=true:=by kernel_rfl
theorem n6:(Rows.columnsOffsetsRow.named == Tryz.prog.varsNamed 10)=true:=by kernel_rfl
theorem j4:joinedFacts Tryz.prog 10 Tryz.f10 Rows.columnsOffsetsSpec Rows.columnsOffsetsRow=true:=by
 unfold joinedFacts;rw[n9,n8,n7,n6]
 kernel_rfl
theorem mC:false=Rows.columnsOffsetsRow.goesBy Tryz.prog:=by kernel_rfl
end Go.Proofs.YtbmdndckndnehaaGreatDoor
