/-
  What is known of a kind.
-/
import Derived.Test.YtbjngeioomjklaaGreatDoorT2
import Derived.Test.YtbjngeioomjklaaGreatDoorV1
namespace Go.Proofs.YtbjngeioomjklaaGreatDoor
open Go Go.Am
set_option maxRecDepth 1000000
theorem tabk2 : @Pu gtR Tryz.prog 19 [i64 2] (tblD (tbl cl2 (rs2.map (·.act)) LN2 LM2 RN2 RM2)) := by
  letI := gtR
  rw [← tbl_D]
  exact table_c (.inr (.inl ⟨rfl, rfl⟩)) parses2 (F := 3000) (by omega) (by decide) (by decide) (by decide) (by decide) comp2
theorem nv2 : NV cl2 := @nv_of gtR _ (by kernel_rfl)
theorem kind2 : Kd4 2 cl2 (rs2.map (·.act)) LN2 LM2 RN2 RM2 1 2 := by
  letI := gtR
  have h := tv_of (LN := LN2) (LM := LM2) (RN := RN2) (RM := RM2) nv2 (acts := rs2.map (·.act)) (by kernel_rfl) (by kernel_rfl) (by kernel_rfl)
  exact ⟨tabk2, h.1, h.2, rcls_x (by kernel_rfl), class_x (by kernel_rfl), class_x (by kernel_rfl), by kernel_rfl⟩
end Go.Proofs.YtbjngeioomjklaaGreatDoor
