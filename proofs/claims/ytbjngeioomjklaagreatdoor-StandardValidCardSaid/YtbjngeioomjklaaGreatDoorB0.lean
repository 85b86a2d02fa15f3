/-
  Lists of one number.
-/
import Derived.Test.YtbjngeioomjklaaGreatDoorD1
namespace Go.Proofs.YtbjngeioomjklaaGreatDoor
abbrev rq (n x:Nat):List Nat:=List.replicate n x
end Go.Proofs.YtbjngeioomjklaaGreatDoor
