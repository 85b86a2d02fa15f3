/-
  AuditNormalization: what the row says of the code, checked by the kernel.
-/
import Derived.Test.YtihggclfifimoaaGreatDoorFnA
import Derived.Test.YtihggclfifimoaaGreatDoorFnB
import Derived.Test.YtihggclfifimoaaGreatDoorFnC
import Derived.Test.YtihggclfifimoaaGreatDoorFnG
set_option linter.unusedSectionVars false
namespace Go.Proofs.YtihggclfifimoaaGreatDoor
open Go
set_option maxRecDepth 100000
theorem g8:joinedFacts Tryz.prog 3 Tryz.f3 Rows.auditNormalizationSpec Rows.auditNormalizationRow=true:=by
 unfold joinedFacts;rw[jr,jq,jp,jo]
 kernel_rfl
end Go.Proofs.YtihggclfifimoaaGreatDoor
