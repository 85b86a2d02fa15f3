/-
  Contracts of functions over data: sets of code points made by the reference.
-/
import Derived.Test.YtjpgpihbhicinaaGreatDoorG0
import Derived.Test.YtjpgpihbhicinaaGreatDoorAmF
import Derived.Test.YtjpgpihbhicinaaGreatDoorH5
set_option linter.unusedSectionVars false
namespace Go.Proofs.YtjpgpihbhicinaaGreatDoor
section
open Go Go.Am Classical
set_option maxRecDepth 100000
variable [GT]
end
section
open Go Go.Am Classical
set_option maxRecDepth 100000
variable [GT]
end
section
open Go Go.Am Classical
set_option maxRecDepth 100000
variable [GT]
section
variable {p:Int→Bool}{o:List Rng}{op:Bool}{c hi:Int}{l:List Int}
end
end
section
open Go Go.Am Classical
set_option maxRecDepth 100000
variable [GT]
end
end Go.Proofs.YtjpgpihbhicinaaGreatDoor
