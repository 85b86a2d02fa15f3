/-
  What the rows say of the whole program, checked by the kernel.
-/
import Derived.Test.YticpeeooobajgaaGreatDoorRows
import Derived.ProofKit
import Derived.JoinedOf
import Derived.Test.YticpeeooobajgaaGreatDoorCards
set_option linter.unusedSectionVars false
namespace Go.Proofs.YticpeeooobajgaaGreatDoor
open Go
set_option maxRecDepth 100000
theorem CY:Tryz.prog.mainIs=some (true, "187936046f2551db710ecca34f359294e0bd806d5f0ceedfe01eba316071765b".toList):=by kernel_rfl
theorem Af:true=Tryz.prog.looks []:=by kernel_rfl
end Go.Proofs.YticpeeooobajgaaGreatDoor
