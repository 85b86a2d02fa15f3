/-
  StandardValid over data, for one kind.
-/
import Derived.Test.YtbjngeioomjklaaGreatDoorU0
import Derived.Test.YtbjngeioomjklaaGreatDoorK1
import Derived.Test.YtbjngeioomjklaaGreatDoorW2
namespace Go.Proofs.YtbjngeioomjklaaGreatDoor
open Go Go.Am
set_option maxRecDepth 1000000
theorem chk2:@Pu gtR Tryz.prog 22 [.agg [strs cl2,lstS rulC rs2]] (i64 0):=run_x (by kernel_rfl) (by kernel_rfl)
theorem vtab2:@Pu gtR Tryz.prog 23 [tblD (tbl cl2 (rs2.map (·.act)) LN2 LM2 RN2 RM2)] (boo true):=run_x (by kernel_rfl) (by kernel_rfl)
theorem same2:@Pu gtR Tryz.prog 21 [tblD (tbl cl2 (rs2.map (·.act)) LN2 LM2 RN2 RM2),tblD (tbl cl2 (rs2.map (·.act)) LN2 LM2 RN2 RM2)] (boo true):=run_x (by kernel_rfl) (by kernel_rfl)
theorem vf2:VF cl2 rs2 (tblD (tbl cl2 (rs2.map (·.act)) LN2 LM2 RN2 RM2)):=by
 letI:=gtR
 refine ⟨chk2,tx2.str,fun bs L2 dc dr N2 H3 h1 h2 h3 h4 h5 h6=>?_⟩
 rw [← tbl_D]
 exact compile_c (F:=3000) (by omega) (by decide) (by decide) (by decide) (by decide) comp2 h1 h2 h3 h4 h5 h6
theorem valid2:@Pu gtR Tryz.prog 4 [i64 2] (boo true):=valid_x (f:=1000) (spV_ok (spL_ok scan2) kind2.tab vtab2 same2 awake_c) vf2 (by kernel_rfl)
end Go.Proofs.YtbjngeioomjklaaGreatDoor
