/-
  ColumnsBounds: what the row says of the code, checked by the kernel.
-/
import Derived.Test.YtbmdndckndnehaaGreatDoorF0
set_option linter.unusedSectionVars false
namespace Go.Proofs.YtbmdndckndnehaaGreatDoor
open Go
set_option maxRecDepth 100000
theorem pO:(Rows.columnsBoundsRow.inPlace == Tryz.prog.inPlace 11)=true:=by kernel_rfl
theorem pN:(Rows.columnsBoundsRow.unfollowed == Tryz.prog.unfollowed 11)=true:=by kernel_rfl
theorem pM:(Rows.columnsBoundsRow.recurses == Tryz.prog.recurses 11)=true:=by kernel_rfl
theorem pK:(Rows.columnsBoundsRow.named == Tryz.prog.varsNamed 11)=true:=by kernel_rfl
theorem lH:joinedFacts Tryz.prog 11 Tryz.f11 Rows.columnsBoundsSpec Rows.columnsBoundsRow=true:=by
 unfold joinedFacts;rw[pO,pN,pM,pK]
 kernel_rfl
theorem nB:false=Rows.columnsBoundsRow.goesBy Tryz.prog:=by kernel_rfl
end Go.Proofs.YtbmdndckndnehaaGreatDoor
