/-
  The statement StandardEnds, over data, for every kind.
-/
import Derived.Test.YtbjngeioomjklaaGreatDoorK1
import Derived.Test.YtbjngeioomjklaaGreatDoorK2
import Derived.Test.YtbjngeioomjklaaGreatDoorK3
import Derived.Test.YtbjngeioomjklaaGreatDoorV2
namespace Go.Proofs.YtbjngeioomjklaaGreatDoor
open Go Go.Am
set_option maxRecDepth 1000000
theorem ends_c {k : Int} {l : List Int} : @Pu gtR Tryz.prog 7 [i64 k, ints l] (boo true) := by
  by_cases hk : 1 ≤ k ∧ k ≤ 3
  · have h4 : k = 1 ∨ k = 2 ∨ k = 3 := by omega
    rcases h4 with rfl | rfl | rfl
    · exact ends_k hk kind1 (by kernel_rfl)
    · exact ends_k hk kind2 (by kernel_rfl)
    · exact ends_k hk kind3 (by kernel_rfl)
  · exact ends_no hk
end Go.Proofs.YtbjngeioomjklaaGreatDoor
