/-
  Contracts of functions over data: kinds and classes of the reference.
-/
import Derived.Test.YtbjngeioomjklaaGreatDoorD3
import Derived.Test.YtbjngeioomjklaaGreatDoorV0
namespace Go.Proofs.YtbjngeioomjklaaGreatDoor
open Go Go.Am Classical
set_option maxRecDepth 100000
set_option linter.unusedSectionVars false
section
variable [GT]
theorem known_c {k : Int} : Pu Tryz.prog 20 [i64 k] (boo (decide (1 ≤ k ∧ k ≤ 4))) := by
  refine Pu.of_v mixed T0 Tryz.func20 rfl rfl rfl ?_
  repeat' ((conv => whnf) <;> (first | refine SeqV.go mixed T0 ?_ | exact True.intro | (refine Br.mk (fun _ => ?_) (fun _ => ?_) <;> (try (exfalso; omega))) | refine stq ?_))
  all_goals (conv => whnf)
  all_goals first
    | exact RetV.yes (by omega)
    | exact RetV.no (by omega)
theorem rcl_c {l : List Int} {n : Int} (hx : l.length ≤ 1000) : Pu Tryz.prog 27 [ints l, i64 n] (boo (decide (CL l n))) := by
  refine Pu.of_v mixed T0 Tryz.func27 rfl rfl (by simp [noBoxs, noBox, noBox_ints]) ?_
  repeat' ((conv => whnf) <;> (first | refine SeqV.go mixed T0 ?_ | exact True.intro | (refine Br.mk (fun _ => ?_) (fun _ => ?_) <;> (try (exfalso; omega))) | refine stq ?_))
  refine LoopV.by mixed T0 (fun k : Nat => ⟨tmp 25 [(0, ints l), (1, i64 n), (5, i64 (k : Int))], ⟨0,[]⟩⟩)
    (fun k => k ≤ l.length ∧ ∀ i (h : i < l.length), i < k → 0 ≤ l[i] ∧ l[i] < n) (fun k => l.length - k) 0 ⟨by omega, fun _ _ h => by omega⟩ ?_ ?_
  · exact Lf.of2 [] [] enA bxA rfl rfl
  intro k ⟨h3, h4⟩
  repeat' ((conv => whnf) <;> (first | refine SeqV.go mixed T0 ?_ | exact True.intro | (refine Br.mk (fun _ => ?_) (fun _ => ?_) <;> (try (exfalso; omega))) | refine stq ?_))
  all_goals (conv => whnf)
  all_goals first
    | exact RetV.no (fun hc => by have := hc k (by omega); omega)
    | exact RetV.yes (up_all (by omega) h4)
    | (refine ⟨k + 1, ⟨by omega, up_succ (by omega) h4 ⟨by omega, by omega⟩⟩, by omega, ?_⟩
       exact Lf.of2 [] [] enA bxA rfl rfl)
end
theorem rcls_x {k : Int} {cl : List Str} (h : callT gtR Tryz.prog (tiOf Tryz.prog) spC 100 (.fn 12) [i64 k] .emp 0 (fun d1 h1 _ => retB h1 100000 d1 (strs cl)) = true) : @Pu gtR Tryz.prog 12 [i64 k] (strs cl) := by
  letI := gtR
  exact Pu.of_t mixed T0 spC_ok rfl h
theorem class_x {k : Int} {s : Str} {n : Int} (h : callT gtR Tryz.prog (tiOf Tryz.prog) spC 100 (.fn 28) [i64 k, .str s] .emp 0 (fun d1 h1 _ => retB h1 100000 d1 (i64 n)) = true) : @Pu gtR Tryz.prog 28 [i64 k, .str s] (i64 n) := by
  letI := gtR
  exact Pu.of_t mixed T0 spC_ok rfl h
structure Kd4 (k : Int) (cl : List Str) (acts : List Int) (LN LM RN RM : List (List Nat)) (cr lf : Nat) : Prop where
  tab : @Pu gtR Tryz.prog 19 [i64 k] (tblD (tbl cl acts LN LM RN RM))
  tv : TV (tbl cl acts LN LM RN RM)
  ok : (tbl cl acts LN LM RN RM).ok
  cls : @Pu gtR Tryz.prog 12 [i64 k] (strs cl)
  crc : @Pu gtR Tryz.prog 28 [i64 k, .str [67,82]] (i64 (cr : Nat))
  lfc : @Pu gtR Tryz.prog 28 [i64 k, .str [76,70]] (i64 (lf : Nat))
  pair : pairB acts LN LM RN RM cr lf = true
end Go.Proofs.YtbjngeioomjklaaGreatDoor
