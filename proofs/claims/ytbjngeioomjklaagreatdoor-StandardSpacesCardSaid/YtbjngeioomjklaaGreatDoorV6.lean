/-
  The statement StandardSpaces, over data, for every kind.
-/
import Derived.Test.YtbjngeioomjklaaGreatDoorK2
import Derived.Test.YtbjngeioomjklaaGreatDoorV2
namespace Go.Proofs.YtbjngeioomjklaaGreatDoor
open Go Go.Am
set_option maxRecDepth 1000000
theorem spaces_c {l : List Int} : @Pu gtR Tryz.prog 9 [ints l] (boo true) :=
  spaces_k (sp := 18) (le := 8) kind2 (by kernel_rfl) (class_x (by kernel_rfl)) (class_x (by kernel_rfl))
end Go.Proofs.YtbjngeioomjklaaGreatDoor
