/-
  Contracts of functions over data: sorting few numbers.
-/
import Derived.Test.YtbjngeioomjklaaGreatDoorC2
namespace Go.Proofs.YtbjngeioomjklaaGreatDoor
open Go Go.Am Classical
set_option maxRecDepth 100000
set_option linter.unusedSectionVars false
variable [GT]
theorem Len_c {n : Nat} (hn : n ≤ 12) : Pu Tryz.prog 134 [.v (.int .u64 n)] (i64 (([0,1,2,2,3,3,3,3,4,4,4,4,4] : List Int).getD n 0)) := by
  rcases (by omega : n = 0 ∨ n = 1 ∨ n = 2 ∨ n = 3 ∨ n = 4 ∨ n = 5 ∨ n = 6 ∨ n = 7 ∨ n = 8 ∨ n = 9 ∨ n = 10 ∨ n = 11 ∨ n = 12) with rfl | rfl | rfl | rfl | rfl | rfl | rfl | rfl | rfl | rfl | rfl | rfl | rfl
  all_goals
    refine Pu.of_v mixed T0 Tryz.func134 rfl rfl rfl ?_
    repeat' ((conv => whnf) <;> (first | refine IdxS.mk (by decide) (by decide) ?_ | refine SeqV.go mixed T0 ?_ | exact True.intro | (refine Br.mk (fun _ => ?_) (fun _ => ?_) <;> (try (exfalso; omega))) | refine stq ?_ | (apply Cll.inl mixed T0 Tryz.func163 rfl rfl ?_; rotate_left) | exact ⟨Or.inr rfl, rfl, rfl⟩ | refine Chk.mk (inK64 (by decide) (by decide)) ?_ | fail))
    all_goals (conv => whnf)
    exact RetV.same rfl rfl
theorem Sort_c {l : List Nat} (hl : l.length ≤ 12) (hn : l ≠ []) : AC1 Tryz.prog 95 [.sl 0 0 l.length l.length 1 false] ⟨1,[(0, .cells (l.map natC) false)]⟩ (.tup []) ⟨25,[(0, .cells ((srt l).map natC) false)]⟩ := by
  have hlen : Pu Tryz.prog 134 [.v (.int .u64 (IntKind.u64.wrap (l.length : Int)))] (i64 (([0,1,2,2,3,3,3,3,4,4,4,4,4] : List Int).getD l.length 0)) := by
    rw [show IntKind.u64.wrap (l.length : Int) = (l.length : Int) from by simp [IntKind.wrap, IntKind.bits, IntKind.signed]; omega]
    exact Len_c hl
  refine AC1.of_vl mixed T0 Tryz.func95 rfl rfl ?_
  repeat' ((conv => whnf) <;> (first | refine SeqV.go mixed T0 ?_ | exact True.intro | (refine Br.mk (fun _ => ?_) (fun _ => ?_) <;> (try (exfalso; omega))) | refine stq ?_ | refine Cll.pu hlen ?_ | (apply Cll.inl mixed T0 Tryz.func133 rfl rfl ?_; rotate_left) | exact ⟨Or.inr rfl, rfl, rfl⟩ | refine LoopV.times mixed T0 1 ?_ | refine Cll.emb (inss_c hl hn) [(0,0)] [] (.tup []) [(0, .cells ((srt l).map natC) false)] [] rfl rdsA bxA rdA bxA (by (repeat (first | exact Rests.nil | refine Rests.cons rfl rfl rfl ?_ | fail)); (first | done | fail)) ?_ | fail))
  all_goals (conv => whnf)
  exact ⟨Or.inl rfl, rfl, rfl⟩
end Go.Proofs.YtbjngeioomjklaaGreatDoor
