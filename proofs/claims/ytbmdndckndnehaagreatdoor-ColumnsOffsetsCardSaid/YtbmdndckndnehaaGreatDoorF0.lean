/-
  What the rows say of the whole program, checked by the kernel.
-/
import Derived.Test.YtbmdndckndnehaaGreatDoorRows
import Derived.ProofKit
import Derived.JoinedOf
import Derived.Test.YtbmdndckndnehaaGreatDoorCards
set_option linter.unusedSectionVars false
namespace Go.Proofs.YtbmdndckndnehaaGreatDoor
open Go
set_option maxRecDepth 100000
theorem lh:Tryz.prog.mainIs=some (true, "5937e10c93241c089b87c3fd864c6736392d7e20995a5c4d5189340c40b5a3ae".toList):=by kernel_rfl
theorem iz:true=Tryz.prog.looks []:=by kernel_rfl
end Go.Proofs.YtbmdndckndnehaaGreatDoor
