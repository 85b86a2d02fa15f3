/-
  StandardValid over data, for one kind.
-/
import Derived.Test.YtbjngeioomjklaaGreatDoorU0
import Derived.Test.YtbjngeioomjklaaGreatDoorK1
import Derived.Test.YtbjngeioomjklaaGreatDoorW2
namespace Go.Proofs.YtbjngeioomjklaaGreatDoor
open Go Go.Am
set_option maxRecDepth 1000000
theorem chk3:@Pu gtR Tryz.prog 22 [.agg [strs cl3,lstS rulC rs3]] (i64 0):=run_x (by kernel_rfl) (by kernel_rfl)
theorem vtab3:@Pu gtR Tryz.prog 23 [tblD (tbl cl3 (rs3.map (·.act)) LN3 LM3 RN3 RM3)] (boo true):=run_x (by kernel_rfl) (by kernel_rfl)
theorem same3:@Pu gtR Tryz.prog 21 [tblD (tbl cl3 (rs3.map (·.act)) LN3 LM3 RN3 RM3),tblD (tbl cl3 (rs3.map (·.act)) LN3 LM3 RN3 RM3)] (boo true):=run_x (by kernel_rfl) (by kernel_rfl)
theorem vf3:VF cl3 rs3 (tblD (tbl cl3 (rs3.map (·.act)) LN3 LM3 RN3 RM3)):=by
 letI:=gtR
 refine ⟨chk3,tx3.str,fun bs L2 dc dr N2 H3 h1 h2 h3 h4 h5 h6=>?_⟩
 rw [← tbl_D]
 exact compile_c (F:=3000) (by omega) (by decide) (by decide) (by decide) (by decide) comp3 h1 h2 h3 h4 h5 h6
theorem valid3:@Pu gtR Tryz.prog 4 [i64 3] (boo true):=valid_x (f:=1000) (spV_ok spC_ok kind3.tab vtab3 same3 awake_c) vf3 (by kernel_rfl)
end Go.Proofs.YtbjngeioomjklaaGreatDoor
