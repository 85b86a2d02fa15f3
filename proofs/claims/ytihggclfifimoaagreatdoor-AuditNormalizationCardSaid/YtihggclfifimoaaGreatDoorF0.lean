/-
  What the rows say of the whole program, checked by the kernel.
-/
import Derived.ProofKit
import Derived.JoinedOf
import Derived.Test.YtihggclfifimoaaGreatDoorCards
set_option linter.unusedSectionVars false
namespace Go.Proofs.YtihggclfifimoaaGreatDoor
open Go
set_option maxRecDepth 100000
theorem F0:Tryz.prog.mainIs=some (true, "61aef6b6b8cade42713462a28f773ff956a75cc83ed79f17c41f43393044ee06".toList):=by kernel_rfl
theorem Dy:true=Tryz.prog.looks []:=by kernel_rfl
end Go.Proofs.YtihggclfifimoaaGreatDoor
