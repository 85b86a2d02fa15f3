/-
  The statement StandardPairs, over data, for every kind.
-/
import Derived.Test.YtbjngeioomjklaaGreatDoorK1
import Derived.Test.YtbjngeioomjklaaGreatDoorK2
import Derived.Test.YtbjngeioomjklaaGreatDoorK3
import Derived.Test.YtbjngeioomjklaaGreatDoorK4
import Derived.Test.YtbjngeioomjklaaGreatDoorV2
namespace Go.Proofs.YtbjngeioomjklaaGreatDoor
open Go Go.Am
set_option maxRecDepth 1000000
theorem pairs_c {k : Int} {l : List Int} : @Pu gtR Tryz.prog 6 [i64 k, ints l] (boo true) := by
  by_cases hk : 1 ≤ k ∧ k ≤ 4
  · have h4 : k = 1 ∨ k = 2 ∨ k = 3 ∨ k = 4 := by omega
    rcases h4 with rfl | rfl | rfl | rfl
    · exact pairs_k hk kind1
    · exact pairs_k hk kind2
    · exact pairs_k hk kind3
    · exact pairs_k hk kind4
  · exact pairs_no hk
end Go.Proofs.YtbjngeioomjklaaGreatDoor
