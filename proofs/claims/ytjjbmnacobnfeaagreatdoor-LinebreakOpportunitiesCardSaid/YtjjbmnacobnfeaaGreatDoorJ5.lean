/-
  Contracts of functions over data: the part of a text that is seen, by the program and by the reference.
-/
import Derived.Test.YtjjbmnacobnfeaaGreatDoorJ1
set_option linter.unusedSectionVars false
namespace Go.Proofs.YtjjbmnacobnfeaaGreatDoor
open Go Go.Am Classical
set_option maxRecDepth 100000
section
variable [GT]
end
end Go.Proofs.YtjjbmnacobnfeaaGreatDoor
