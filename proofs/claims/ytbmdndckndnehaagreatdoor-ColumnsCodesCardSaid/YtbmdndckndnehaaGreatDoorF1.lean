/-
  ColumnsCodes: what the row says of the code, checked by the kernel.
-/
import Derived.Test.YtbmdndckndnehaaGreatDoorF0
set_option linter.unusedSectionVars false
namespace Go.Proofs.YtbmdndckndnehaaGreatDoor
open Go
set_option maxRecDepth 100000
theorem qd:(Rows.columnsCodesRow.inPlace == Tryz.prog.inPlace 6)=true:=by kernel_rfl
theorem qc:(Rows.columnsCodesRow.unfollowed == Tryz.prog.unfollowed 6)=true:=by kernel_rfl
theorem qb:(Rows.columnsCodesRow.recurses == Tryz.prog.recurses 6)=true:=by kernel_rfl
theorem qa:(Rows.columnsCodesRow.named == Tryz.prog.varsNamed 6)=true:=by kernel_rfl
theorem mG:joinedFacts Tryz.prog 6 Tryz.f6 Rows.columnsCodesSpec Rows.columnsCodesRow=true:=by
 unfold joinedFacts;rw[qd,qc,qb,qa]
 kernel_rfl
theorem oD:false=Rows.columnsCodesRow.goesBy Tryz.prog:=by kernel_rfl
end Go.Proofs.YtbmdndckndnehaaGreatDoor
