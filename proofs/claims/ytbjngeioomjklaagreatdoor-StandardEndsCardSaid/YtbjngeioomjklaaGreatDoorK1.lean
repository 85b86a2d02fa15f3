/-
  What is known of a kind.
-/
import Derived.Test.YtbjngeioomjklaaGreatDoorT1
import Derived.Test.YtbjngeioomjklaaGreatDoorV1
namespace Go.Proofs.YtbjngeioomjklaaGreatDoor
open Go Go.Am
set_option maxRecDepth 1000000
theorem tabk1 : @Pu gtR Tryz.prog 19 [i64 1] (tblD (tbl cl1 (rs1.map (·.act)) LN1 LM1 RN1 RM1)) := by
  letI := gtR
  rw [← tbl_D]
  exact table_c (.inl ⟨rfl, rfl⟩) parses1 (F := 3000) (by omega) (by decide) (by decide) (by decide) (by decide) comp1
theorem nv1 : NV cl1 := @nv_of gtR _ (by kernel_rfl)
theorem kind1 : Kd4 1 cl1 (rs1.map (·.act)) LN1 LM1 RN1 RM1 1 2 := by
  letI := gtR
  have h := tv_of (LN := LN1) (LM := LM1) (RN := RN1) (RM := RM1) nv1 (acts := rs1.map (·.act)) (by kernel_rfl) (by kernel_rfl) (by kernel_rfl)
  exact ⟨tabk1, h.1, h.2, rcls_x (by kernel_rfl), class_x (by kernel_rfl), class_x (by kernel_rfl), by kernel_rfl⟩
end Go.Proofs.YtbjngeioomjklaaGreatDoor
