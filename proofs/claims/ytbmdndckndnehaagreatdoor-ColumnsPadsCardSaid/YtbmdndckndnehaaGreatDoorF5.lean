/-
  ColumnsPads: what the row says of the code, checked by the kernel.
-/
import Derived.Test.YtbmdndckndnehaaGreatDoorF0
set_option linter.unusedSectionVars false
namespace Go.Proofs.YtbmdndckndnehaaGreatDoor
open Go
set_option maxRecDepth 100000
theorem su:(Rows.columnsPadsRow.inPlace == Tryz.prog.inPlace 8)=true:=by kernel_rfl
theorem sr:(Rows.columnsPadsRow.unfollowed == Tryz.prog.unfollowed 8)=true:=by kernel_rfl
theorem sq:(Rows.columnsPadsRow.recurses == Tryz.prog.recurses 8)=true:=by kernel_rfl
theorem sn:(Rows.columnsPadsRow.named == Tryz.prog.varsNamed 8)=true:=by kernel_rfl
theorem m9:joinedFacts Tryz.prog 8 Tryz.f8 Rows.columnsPadsSpec Rows.columnsPadsRow=true:=by
 unfold joinedFacts;rw[su,sr,sq,sn]
 kernel_rfl
theorem pJ:false=Rows.columnsPadsRow.goesBy Tryz.prog:=by kernel_rfl
end Go.Proofs.YtbmdndckndnehaaGreatDoor
