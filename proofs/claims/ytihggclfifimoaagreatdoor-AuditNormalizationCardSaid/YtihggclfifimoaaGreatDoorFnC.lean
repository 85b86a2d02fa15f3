/-
  AuditNormalization: what the row says of the code, checked by the kernel.
-/
import Derived.Test.YtihggclfifimoaaGreatDoorF0
set_option linter.unusedSectionVars false
namespace Go.Proofs.YtihggclfifimoaaGreatDoor
open Go
set_option maxRecDepth 100000
theorem jo:(Rows.auditNormalizationRow.named == Tryz.prog.varsNamed 3)=true:=by kernel_rfl
end Go.Proofs.YtihggclfifimoaaGreatDoor
