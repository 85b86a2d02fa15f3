/-
  The example of the chapter, one of its calls: the kernel's own run of the abstract machine.
  Arguments, memory and answer are printed by wip/RunCuts.lean, this text by wip/tools/cuts.py.
-/
import Derived.Test.YtgcjjodbmcnhkaaGreatDoorProg
import Derived.Test.YtgcjjodbmcnhkaaGreatDoorAmD
import Derived.Test.YtgcjjodbmcnhkaaGreatDoorAmC
namespace Go.Proofs.YtgcjjodbmcnhkaaGreatDoor
open Go Go.Am
set_option maxRecDepth 1000000

def ds0 : List D := [(.sl 11 0 2 2 1 true), (.str [107, 101, 101, 112, 32, 65, 32, 47, 32, 66, 10, 98, 114, 101, 97, 107, 32, 47, 10])]
def hp0 : Heap := ⟨13, [(11, .cells [(.str [65]), (.str [66])] true), (9, .cells [(.sl 4 0 3 3 1 true), (.sl 7 0 2 2 3 true)] true), (7, .cells [(.v (.int .i64 (97))), (.v (.int .i64 (97))), (.v (.int .i64 (1))), (.v (.int .i64 (98))), (.v (.int .i64 (98))), (.v (.int .i64 (2)))] true), (4, .cells [(.str [79, 116, 104, 101, 114]), (.str [65]), (.str [66])] true), (3, .cells [(.v (.slice none 0 0)), (.v (.slice none 0 0)), (.v (.slice none 0 0)), (.v (.slice none 0 0)), (.v (.slice none 0 0)), (.v (.slice none 0 0))] true), (2, .cells [(.v (.slice none 0 0)), (.v (.slice none 0 0))] true)]⟩
def an0 : D := (.tup [(.agg [(.sl 199 0 2 2 1 false), (.sl 4115 0 2 2 7 false)]), (.agg [(.v (.int .i64 (0))), (.v (.int .i64 (0)))])])
def lf0 : Heap := ⟨4321, [(4115, .cells [(.v (.int .i64 (1))), (.v (.int .i64 (1))), (.sl 2806 0 1 1 1 false), (.v (.slice none 0 0)), (.v (.int .i64 (1))), (.sl 2853 0 1 1 1 false), (.v (.slice none 0 0)), (.v (.int .i64 (2))), (.v (.int .i64 (2))), (.v (.slice none 0 0)), (.v (.slice none 0 0)), (.v (.int .i64 (2))), (.v (.slice none 0 0)), (.v (.slice none 0 0))] false), (2853, .cells [(.v (.int .i64 (1)))] false), (2806, .cells [(.v (.int .i64 (0)))] false), (199, .cells [(.str [65]), (.str [66])] false), (11, .cells [(.str [65]), (.str [66])] true), (9, .cells [(.sl 4 0 3 3 1 true), (.sl 7 0 2 2 3 true)] true), (7, .cells [(.v (.int .i64 (97))), (.v (.int .i64 (97))), (.v (.int .i64 (1))), (.v (.int .i64 (98))), (.v (.int .i64 (98))), (.v (.int .i64 (2)))] true), (4, .cells [(.str [79, 116, 104, 101, 114]), (.str [65]), (.str [66])] true), (3, .cells [(.v (.slice none 0 0)), (.v (.slice none 0 0)), (.v (.slice none 0 0)), (.v (.slice none 0 0)), (.v (.slice none 0 0)), (.v (.slice none 0 0))] true), (2, .cells [(.v (.slice none 0 0)), (.v (.slice none 0 0))] true)]⟩
theorem cut0 : leavesB (runF Tryz.prog (tiOf Tryz.prog) (fun _ _ _ => none) (recRun Tryz.prog (tiOf Tryz.prog) 100) 60 (.fn 65) ds0 hp0) an0 lf0.next lf0.bs = true := by kernel_rfl
end Go.Proofs.YtgcjjodbmcnhkaaGreatDoor
