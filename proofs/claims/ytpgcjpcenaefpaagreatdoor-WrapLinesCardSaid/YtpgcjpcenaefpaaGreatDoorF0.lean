/-
  What the rows say of the whole program, checked by the kernel.
-/
import Derived.Test.YtpgcjpcenaefpaaGreatDoorRows
import Derived.ProofKit
import Derived.JoinedOf
import Derived.Test.YtpgcjpcenaefpaaGreatDoorCards
set_option linter.unusedSectionVars false
namespace Go.Proofs.YtpgcjpcenaefpaaGreatDoor
open Go
set_option maxRecDepth 100000
theorem Hf:Tryz.prog.mainIs=some (true, "44c1af091d427469d3064f3a14dfb59bd4657c5ac27385ec9aa1e317bf063531".toList):=by kernel_rfl
theorem E0:true=Tryz.prog.looks []:=by kernel_rfl
end Go.Proofs.YtpgcjpcenaefpaaGreatDoor
