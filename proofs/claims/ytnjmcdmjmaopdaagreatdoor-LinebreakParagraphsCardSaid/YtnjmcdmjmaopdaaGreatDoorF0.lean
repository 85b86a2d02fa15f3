/-
  What the rows say of the whole program, checked by the kernel.
-/
import Derived.Test.YtnjmcdmjmaopdaaGreatDoorRows
import Derived.ProofKit
import Derived.JoinedOf
import Derived.Test.YtnjmcdmjmaopdaaGreatDoorCards
set_option linter.unusedSectionVars false
namespace Go.Proofs.YtnjmcdmjmaopdaaGreatDoor
open Go
set_option maxRecDepth 100000
theorem EG:Tryz.prog.mainIs=some (true, "61177cf9475b40af55ff57635850841eefe28fa53fd90971bb68eb0e4fc5d091".toList):=by kernel_rfl
theorem Bl:true=Tryz.prog.looks []:=by kernel_rfl
end Go.Proofs.YtnjmcdmjmaopdaaGreatDoor
