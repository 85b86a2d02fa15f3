/-
  What is known of a kind.
-/
import Derived.Test.YtbjngeioomjklaaGreatDoorT1
import Derived.Test.YtbjngeioomjklaaGreatDoorT2
import Derived.Test.YtbjngeioomjklaaGreatDoorT3
import Derived.Test.YtbjngeioomjklaaGreatDoorT4
namespace Go.Proofs.YtbjngeioomjklaaGreatDoor
open Go Go.Am
set_option maxRecDepth 1000000
theorem tabk1:@Pu gtR Tryz.prog 19 [i64 1] (tblD (tbl cl1 (rs1.map (·.act)) LN1 LM1 RN1 RM1)):=by
 letI:=gtR
 rw [← tbl_D]
 exact table_c (.inl ⟨rfl,rfl⟩) parses1 (F:=3000) (by omega) (by decide) (by decide) (by decide) (by decide) comp1
theorem nv1:NV cl1:=@nv_of gtR _ (by kernel_rfl)
theorem kind1:Kd4 1 cl1 (rs1.map (·.act)) LN1 LM1 RN1 RM1 1 2:=by
 letI:=gtR
 have h:=tv_of (LN:=LN1) (LM:=LM1) (RN:=RN1) (RM:=RM1) nv1 (acts:=rs1.map (·.act)) (by kernel_rfl) (by kernel_rfl) (by kernel_rfl)
 exact ⟨tabk1,h.1,h.2,rcls_x (by kernel_rfl),class_x (by kernel_rfl),class_x (by kernel_rfl),by kernel_rfl⟩
end Go.Proofs.YtbjngeioomjklaaGreatDoor
namespace Go.Proofs.YtbjngeioomjklaaGreatDoor
open Go Go.Am
set_option maxRecDepth 1000000
theorem tabk2:@Pu gtR Tryz.prog 19 [i64 2] (tblD (tbl cl2 (rs2.map (·.act)) LN2 LM2 RN2 RM2)):=by
 letI:=gtR
 rw [← tbl_D]
 exact table_c (.inr (.inl ⟨rfl,rfl⟩)) parses2 (F:=3000) (by omega) (by decide) (by decide) (by decide) (by decide) comp2
theorem nv2:NV cl2:=@nv_of gtR _ (by kernel_rfl)
theorem kind2:Kd4 2 cl2 (rs2.map (·.act)) LN2 LM2 RN2 RM2 1 2:=by
 letI:=gtR
 have h:=tv_of (LN:=LN2) (LM:=LM2) (RN:=RN2) (RM:=RM2) nv2 (acts:=rs2.map (·.act)) (by kernel_rfl) (by kernel_rfl) (by kernel_rfl)
 exact ⟨tabk2,h.1,h.2,rcls_x (by kernel_rfl),class_x (by kernel_rfl),class_x (by kernel_rfl),by kernel_rfl⟩
end Go.Proofs.YtbjngeioomjklaaGreatDoor
namespace Go.Proofs.YtbjngeioomjklaaGreatDoor
open Go Go.Am
set_option maxRecDepth 1000000
theorem tabk3:@Pu gtR Tryz.prog 19 [i64 3] (tblD (tbl cl3 (rs3.map (·.act)) LN3 LM3 RN3 RM3)):=by
 letI:=gtR
 rw [← tbl_D]
 exact table_c (.inr (.inr (.inl ⟨rfl,rfl⟩))) parses3 (F:=3000) (by omega) (by decide) (by decide) (by decide) (by decide) comp3
theorem nv3:NV cl3:=@nv_of gtR _ (by kernel_rfl)
theorem kind3:Kd4 3 cl3 (rs3.map (·.act)) LN3 LM3 RN3 RM3 1 2:=by
 letI:=gtR
 have h:=tv_of (LN:=LN3) (LM:=LM3) (RN:=RN3) (RM:=RM3) nv3 (acts:=rs3.map (·.act)) (by kernel_rfl) (by kernel_rfl) (by kernel_rfl)
 exact ⟨tabk3,h.1,h.2,rcls_x (by kernel_rfl),class_x (by kernel_rfl),class_x (by kernel_rfl),by kernel_rfl⟩
end Go.Proofs.YtbjngeioomjklaaGreatDoor
namespace Go.Proofs.YtbjngeioomjklaaGreatDoor
open Go Go.Am
set_option maxRecDepth 1000000
theorem tabk4:@Pu gtR Tryz.prog 19 [i64 4] (tblD (tbl cl4 (rs4.map (·.act)) LN4 LM4 RN4 RM4)):=by
 letI:=gtR
 rw [← tbl_D]
 exact table_c (.inr (.inr (.inr ⟨rfl,rfl⟩))) parses4 (F:=3000) (by omega) (by decide) (by decide) (by decide) (by decide) comp4
theorem nv4:NV cl4:=@nv_of gtR _ (by kernel_rfl)
theorem kind4:Kd4 4 cl4 (rs4.map (·.act)) LN4 LM4 RN4 RM4 2 3:=by
 letI:=gtR
 have h:=tv_of (LN:=LN4) (LM:=LM4) (RN:=RN4) (RM:=RM4) nv4 (acts:=rs4.map (·.act)) (by kernel_rfl) (by kernel_rfl) (by kernel_rfl)
 exact ⟨tabk4,h.1,h.2,rcls_x (by kernel_rfl),class_x (by kernel_rfl),class_x (by kernel_rfl),by kernel_rfl⟩
end Go.Proofs.YtbjngeioomjklaaGreatDoor
