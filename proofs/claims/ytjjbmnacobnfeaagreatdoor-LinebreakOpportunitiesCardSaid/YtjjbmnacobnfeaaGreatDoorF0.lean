/-
  What the rows say of the whole program, checked by the kernel.
-/
import Derived.Test.YtjjbmnacobnfeaaGreatDoorRows
import Derived.ProofKit
import Derived.JoinedOf
import Derived.Test.YtjjbmnacobnfeaaGreatDoorCards
set_option linter.unusedSectionVars false
namespace Go.Proofs.YtjjbmnacobnfeaaGreatDoor
open Go
set_option maxRecDepth 100000
theorem Dj:Tryz.prog.mainIs=some (true, "c01b043d719c2851b19cf292f4d156c64fb9994bf150d64d58b577a34ca2252e".toList):=by kernel_rfl
theorem BK:true=Tryz.prog.looks []:=by kernel_rfl
end Go.Proofs.YtjjbmnacobnfeaaGreatDoor
