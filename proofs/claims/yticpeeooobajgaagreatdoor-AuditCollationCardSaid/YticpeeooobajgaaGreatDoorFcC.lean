/-
  AuditCollation: what the row says of the code, checked by the kernel.
-/
import Derived.Test.YticpeeooobajgaaGreatDoorF0
set_option linter.unusedSectionVars false
namespace Go.Proofs.YticpeeooobajgaaGreatDoor
open Go
set_option maxRecDepth 100000
theorem mC:(Rows.auditCollationRow.named == Tryz.prog.varsNamed 3)=true:=by kernel_rfl
theorem j7:false=Rows.auditCollationRow.goesBy Tryz.prog:=by kernel_rfl
end Go.Proofs.YticpeeooobajgaaGreatDoor
