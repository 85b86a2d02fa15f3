/-
  The example at the head of the statements.
-/
import Derived.Test.YtbjngeioomjklaaGreatDoorD2
import Derived.Test.YtbjngeioomjklaaGreatDoorT1
namespace Go.Proofs.YtbjngeioomjklaaGreatDoor
open Go Go.Am
set_option maxRecDepth 100000
set_option linter.unusedSectionVars false
abbrev tabD (cl : List Str) (acts : List Int) (a b c d : List (List Nat)) : D := .agg [strs cl, ints acts, natss a, natss b, natss c, natss d]
theorem table1 : @Pu gtR Tryz.prog 19 [i64 1] (tabD cl1 (rs1.map (·.act)) LN1 LM1 RN1 RM1) :=
  table_c (.inl ⟨rfl, rfl⟩) parses1 (F := 3000) (by omega) (by decide) (by decide) (by decide) (by decide) comp1
noncomputable def spT (g : FuncId) (ds : List D) : Option D :=
  if Nat.beq g 19 = true then
    match ds with
    | [.v (.int .i64 (.ofNat 1))] => some (tabD cl1 (rs1.map (·.act)) LN1 LM1 RN1 RM1)
    | _ => none
  else spC g ds
theorem spT_ok : @SpOk gtR Tryz.prog spT := fun g ds d h => by
  unfold spT at h
  split at h
  · rename_i hg
    obtain rfl := Nat.eq_of_beq_eq_true hg
    split at h
    · injection h with h; subst h
      exact table1
    · cases h
  · exact spC_ok g ds d h
theorem awake_c : @Pu gtR Tryz.prog 18 [] (boo true) := by
  letI := gtR
  exact Pu.of_x (sp := spT) mixed T0 spT_ok (f := 1000) rfl (by kernel_rfl)
end Go.Proofs.YtbjngeioomjklaaGreatDoor
