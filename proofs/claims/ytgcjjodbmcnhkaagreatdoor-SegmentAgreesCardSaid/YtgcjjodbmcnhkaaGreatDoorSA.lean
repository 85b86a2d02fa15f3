/-
  The example of the chapter: the program reproduces it. By the kernel's own run of the abstract machine, in parts.
-/
import Derived.Test.YtgcjjodbmcnhkaaGreatDoorSA0
import Derived.Test.YtgcjjodbmcnhkaaGreatDoorSA1
import Derived.Test.YtgcjjodbmcnhkaaGreatDoorSA2
import Derived.Test.YtgcjjodbmcnhkaaGreatDoorSA3
namespace Go.Proofs.YtgcjjodbmcnhkaaGreatDoor
open Go Go.Am
set_option maxRecDepth 1000000

def cuts : Cl := (cutB 65 ds0 hp0 an0 lf0 (cutB 22 ds1 hp1 an1 lf1 (cutB 18 ds2 hp2 an2 lf2 (cutB 23 ds3 hp3 an3 lf3 (fun _ _ _ => none)))))
def okT (r : Option (D × Heap)) : Bool := match r with | some (.v (.bool b), _) => b | _ => false
theorem alive_run : okT (runF Tryz.prog (tiOf Tryz.prog) cuts (recRun Tryz.prog (tiOf Tryz.prog) 100) 60 (.fn 12) [] ⟨0, []⟩) = true := by kernel_rfl
theorem alive_c (mixed : Tryz.prog.follows .mixedOrders = true) : Pu Tryz.prog 12 [] (.v (.bool true)) := by
  have DL : DlOk Tryz.prog (recRun Tryz.prog (tiOf Tryz.prog) 100) := recRun_ok mixed (tiOf_ok _) 100
  have C : ClOk Tryz.prog cuts := (cutB_ok (AC1.of_closed mixed (tiOf_ok _) none_ok DL cut0) (cutB_ok (AC1.of_closed mixed (tiOf_ok _) none_ok DL cut1) (cutB_ok (AC1.of_closed mixed (tiOf_ok _) none_ok DL cut2) (cutB_ok (AC1.of_closed mixed (tiOf_ok _) none_ok DL cut3) none_ok))))
  have h := alive_run
  unfold okT at h
  split at h
  · rename_i b h1 hr
    subst h
    exact Pu.of_run (f := 1) rfl (runF_ok mixed (tiOf_ok _) C DL 60 _ _ _ _ _ hr) rfl
  · simp at h
end Go.Proofs.YtgcjjodbmcnhkaaGreatDoor
