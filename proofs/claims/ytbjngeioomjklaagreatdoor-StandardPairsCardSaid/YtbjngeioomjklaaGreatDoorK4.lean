/-
  What is known of a kind.
-/
import Derived.Test.YtbjngeioomjklaaGreatDoorT4
import Derived.Test.YtbjngeioomjklaaGreatDoorV1
namespace Go.Proofs.YtbjngeioomjklaaGreatDoor
open Go Go.Am
set_option maxRecDepth 1000000
theorem tabk4 : @Pu gtR Tryz.prog 19 [i64 4] (tblD (tbl cl4 (rs4.map (·.act)) LN4 LM4 RN4 RM4)) := by
  letI := gtR
  rw [← tbl_D]
  exact table_c (.inr (.inr (.inr ⟨rfl, rfl⟩))) parses4 (F := 3000) (by omega) (by decide) (by decide) (by decide) (by decide) comp4
theorem nv4 : NV cl4 := @nv_of gtR _ (by kernel_rfl)
theorem kind4 : Kd4 4 cl4 (rs4.map (·.act)) LN4 LM4 RN4 RM4 2 3 := by
  letI := gtR
  have h := tv_of (LN := LN4) (LM := LM4) (RN := RN4) (RM := RM4) nv4 (acts := rs4.map (·.act)) (by kernel_rfl) (by kernel_rfl) (by kernel_rfl)
  exact ⟨tabk4, h.1, h.2, rcls_x (by kernel_rfl), class_x (by kernel_rfl), class_x (by kernel_rfl), by kernel_rfl⟩
end Go.Proofs.YtbjngeioomjklaaGreatDoor
