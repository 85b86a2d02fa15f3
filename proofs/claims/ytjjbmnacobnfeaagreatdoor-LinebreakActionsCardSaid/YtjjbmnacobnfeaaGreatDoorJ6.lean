/-
  Opportunities and paragraphs of the program, over data; the statement LinebreakCovers.
-/
import Derived.Test.YtjjbmnacobnfeaaGreatDoorJ5
set_option linter.unusedSectionVars false
namespace Go.Proofs.YtjjbmnacobnfeaaGreatDoor
section
open Go Go.Am Classical
set_option maxRecDepth 100000
section
variable [GT]
end
end
section
open Go Go.Am Classical
set_option maxRecDepth 100000
end
end Go.Proofs.YtjjbmnacobnfeaaGreatDoor
