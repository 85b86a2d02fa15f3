/-
  AuditCollation: what the row says of the code, checked by the kernel.
-/
import Derived.Test.YticpeeooobajgaaGreatDoorFcA
import Derived.Test.YticpeeooobajgaaGreatDoorFcB
import Derived.Test.YticpeeooobajgaaGreatDoorFcC
set_option linter.unusedSectionVars false
namespace Go.Proofs.YticpeeooobajgaaGreatDoor
open Go
set_option maxRecDepth 100000
theorem i4:joinedFacts Tryz.prog 3 Tryz.f3 Rows.auditCollationSpec Rows.auditCollationRow=true:=by
 unfold joinedFacts;rw[mF,mE,mD,mC]
 kernel_rfl
end Go.Proofs.YticpeeooobajgaaGreatDoor
