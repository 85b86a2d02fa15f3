/-
  Contracts of functions over data: keys of sets.
-/
import Derived.Test.YtbjngeioomjklaaGreatDoorChecked
import Derived.Test.YtbjngeioomjklaaGreatDoorAmF
import Derived.Test.YtbjngeioomjklaaGreatDoorAmF
namespace Go.Proofs.YtbjngeioomjklaaGreatDoor
open Go Go.Am Classical
set_option maxRecDepth 100000
set_option linter.unusedSectionVars false
variable [GT]
theorem mixed : Tryz.prog.follows .mixedOrders = true := by kernel_rfl
abbrev T0 : TOk Tryz.prog (tiOf Tryz.prog) := tiOf_ok _
theorem ended_c {l : List Int} (hl : l.length ≤ 1000000) : Pu Tryz.prog 64 [ints l] (boo (decide (l = [0]))) := by
  refine Pu.of_v mixed T0 Tryz.func64 rfl rfl (by simp [noBoxs, noBox_ints]) ?_
  repeat' ((conv => whnf) <;> (first | refine SeqV.go mixed T0 ?_ | exact True.intro | (refine Br.mk (fun _ => ?_) (fun _ => ?_) <;> (try (exfalso; omega))) | refine stq ?_))
  all_goals (conv => whnf)
  all_goals first
    | exact RetV.yes (by match l with | [x] => simp_all)
    | exact RetV.no (by rintro rfl; simp_all)
def fkey (l : List Bool) : Str := l.map fun b => if b then 1 else 0
theorem flagKey_c {l : List Bool} (hl : l.length ≤ 1000000) : Pu Tryz.prog 69 [bools l] (.str (fkey l)) := by
  refine Pu.of_v mixed T0 Tryz.func69 rfl rfl (by simp [noBoxs, noBox_bools]) ?_
  repeat' ((conv => whnf) <;> (first | refine SeqV.go mixed T0 ?_ | exact True.intro | (refine Br.mk (fun _ => ?_) (fun _ => ?_) <;> (try (exfalso; omega))) | refine stq ?_))
  refine LoopV.by mixed T0 (fun k : Nat => ⟨tmp 23 [(3, .sl 0 0 l.length l.length 1 true), (9, bools l), (10, i64 l.length), (11, i64 (k : Int))], ⟨1,[(0, .cells (cellsF l.length fun i => .v (.int .u8 (if i < k ∧ l.getD i false then 1 else 0))) true)]⟩⟩)
    (fun k => k ≤ l.length) (fun k => l.length - k) 0 (by omega) ?_ ?_
  · exact Lf.of2 [(0, _)] [] enA (by (repeat (first | exact Bxs.nil | refine Bxs.cons rfl rfl rfl (by first | exact Rb.cells (Rds.eqs (cellsF_zeros (by omega) (fun i _ => by simp)) (noBoxs_F (fun _ => rfl))) rfl | exact rbB | exact Rb.cells rdsA rfl | exact rbC | fail) ?_ | fail)); (first | done | fail)) rfl rfl
  intro k h3
  by_cases hk : k < l.length
  · have eg : l.getD k false = l[k] := getD_get hk
    cases hb : l[k] with
    | true =>
      repeat' ((conv => whnf) <;> (first | refine Idx.atE (d := boo true) k rfl hk (by rw [hb]) ?_ | refine SeqV.go mixed T0 ?_ | exact True.intro | (refine Br.mk (fun _ => ?_) (fun _ => ?_) <;> (try (exfalso; omega))) | refine stq ?_ | refine Put.one (by simp; omega) ?_ | fail))
      all_goals (conv => whnf)
      refine ⟨k + 1, by omega, by omega, ?_⟩
      exact Lf.of2 [(0, _)] [] enA (by (repeat (first | exact Bxs.nil | refine Bxs.cons rfl rfl rfl (by first | exact Rb.cells (Rds.eqs (cellsF_set (by simp [hb, hk]) (fun i _ hi => by simp only [show (i < k + 1) = (i < k) from propext ⟨fun h => by omega, fun h => by omega⟩])) (noBoxs_F (fun _ => rfl))) rfl | exact rbB | exact Rb.cells rdsA rfl | exact rbC | fail) ?_ | fail)); (first | done | fail)) rfl rfl
    | false =>
      repeat' ((conv => whnf) <;> (first | refine Idx.atE (d := boo false) k rfl hk (by rw [hb]) ?_ | refine SeqV.go mixed T0 ?_ | exact True.intro | (refine Br.mk (fun _ => ?_) (fun _ => ?_) <;> (try (exfalso; omega))) | refine stq ?_ | fail))
      all_goals (conv => whnf)
      have e2 : (cellsF l.length fun i => D.v (.int .u8 (if i < k ∧ l.getD i false then 1 else 0))) = cellsF l.length fun i => D.v (.int .u8 (if i < k + 1 ∧ l.getD i false then 1 else 0)) := cellsF_congr fun i _ => by
        by_cases hi : i = k
        · subst hi; rw [eg, hb]; simp
        · simp only [show (i < k + 1) = (i < k) from propext ⟨fun h => by omega, fun h => by omega⟩]
      refine ⟨k + 1, by omega, by omega, ?_⟩
      exact Lf.of2 [(0, _)] [] enA (by (repeat (first | exact Bxs.nil | refine Bxs.cons rfl rfl rfl (by first | exact Rb.cells (Rds.eqs e2 (noBoxs_F (fun _ => rfl))) rfl | exact rbB | exact Rb.cells rdsA rfl | exact rbC | fail) ?_ | fail)); (first | done | fail)) rfl rfl
  · have hfin : (cellsF l.length fun i => D.v (.int .u8 (if i < k ∧ l.getD i false then 1 else 0))) = (fkey l).map byt := by
      rw [fkey, List.map_map]
      refine cellsF_list fun i hi => ?_
      rw [getD_get hi]
      cases l[i] <;> simp [show i < k by omega]
    repeat' ((conv => whnf) <;> (first | refine SeqV.go mixed T0 ?_ | exact True.intro | (refine Br.mk (fun _ => ?_) (fun _ => ?_) <;> (try (exfalso; omega))) | refine stq ?_ | refine Cvs.all (l := fkey l) hfin (by simp [fkey]) ?_ | fail))
    all_goals (conv => whnf)
    exact RetV.same rfl rfl
end Go.Proofs.YtbjngeioomjklaaGreatDoor
