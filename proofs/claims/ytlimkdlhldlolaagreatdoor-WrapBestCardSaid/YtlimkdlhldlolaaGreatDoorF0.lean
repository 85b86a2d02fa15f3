/-
  What the rows say of the whole program, checked by the kernel.
-/
import Derived.ProofKit
import Derived.JoinedOf
import Derived.Test.YtlimkdlhldlolaaGreatDoorCards
set_option linter.unusedSectionVars false
namespace Go.Proofs.YtlimkdlhldlolaaGreatDoor
open Go
set_option maxRecDepth 100000
theorem H6:Tryz.prog.mainIs=some (true, "1d90abccd028df74583184a39b84db737824eb63473a3d72cda20383f0c2f589".toList):=by kernel_rfl
theorem FM:true=Tryz.prog.looks []:=by kernel_rfl
end Go.Proofs.YtlimkdlhldlolaaGreatDoor
