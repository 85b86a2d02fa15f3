/-
  What the rows say of the whole program, checked by the kernel.
-/
import Derived.Test.YtjpgpihbhicinaaGreatDoorRows
import Derived.ProofKit
import Derived.JoinedOf
import Derived.Test.YtjpgpihbhicinaaGreatDoorCards
set_option linter.unusedSectionVars false
namespace Go.Proofs.YtjpgpihbhicinaaGreatDoor
open Go
set_option maxRecDepth 100000
theorem yr:Tryz.prog.mainIs=some (true, "af9250357c8cf5cc5e488a8e06ad6ccc52cade8f994168e84e87fa4b0a87fb50".toList):=by kernel_rfl
theorem vY:true=Tryz.prog.looks []:=by kernel_rfl
end Go.Proofs.YtjpgpihbhicinaaGreatDoor
