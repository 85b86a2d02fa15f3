/-
  AuditCollation: what the row says of the code, checked by the kernel.
-/
import Derived.Test.YticpeeooobajgaaGreatDoorF0
set_option linter.unusedSectionVars false
namespace Go.Proofs.YticpeeooobajgaaGreatDoor
open Go
set_option maxRecDepth 100000
theorem mF:(Rows.auditCollationRow.inPlace == Tryz.prog.inPlace 3)=true:=by kernel_rfl
end Go.Proofs.YticpeeooobajgaaGreatDoor
