/-
  What is known of a kind.
-/
import Derived.Test.YtbjngeioomjklaaGreatDoorT3
import Derived.Test.YtbjngeioomjklaaGreatDoorV1
namespace Go.Proofs.YtbjngeioomjklaaGreatDoor
open Go Go.Am
set_option maxRecDepth 1000000
theorem tabk3 : @Pu gtR Tryz.prog 19 [i64 3] (tblD (tbl cl3 (rs3.map (·.act)) LN3 LM3 RN3 RM3)) := by
  letI := gtR
  rw [← tbl_D]
  exact table_c (.inr (.inr (.inl ⟨rfl, rfl⟩))) parses3 (F := 3000) (by omega) (by decide) (by decide) (by decide) (by decide) comp3
theorem nv3 : NV cl3 := @nv_of gtR _ (by kernel_rfl)
theorem kind3 : Kd4 3 cl3 (rs3.map (·.act)) LN3 LM3 RN3 RM3 1 2 := by
  letI := gtR
  have h := tv_of (LN := LN3) (LM := LM3) (RN := RN3) (RM := RM3) nv3 (acts := rs3.map (·.act)) (by kernel_rfl) (by kernel_rfl) (by kernel_rfl)
  exact ⟨tabk3, h.1, h.2, rcls_x (by kernel_rfl), class_x (by kernel_rfl), class_x (by kernel_rfl), by kernel_rfl⟩
end Go.Proofs.YtbjngeioomjklaaGreatDoor
