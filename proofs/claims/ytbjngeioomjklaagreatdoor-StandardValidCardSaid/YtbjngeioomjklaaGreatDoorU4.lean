/-
  StandardValid over data, for one kind.
-/
import Derived.Test.YtbjngeioomjklaaGreatDoorU0
import Derived.Test.YtbjngeioomjklaaGreatDoorK1
import Derived.Test.YtbjngeioomjklaaGreatDoorW2
namespace Go.Proofs.YtbjngeioomjklaaGreatDoor
open Go Go.Am
set_option maxRecDepth 1000000
theorem chk4:@Pu gtR Tryz.prog 22 [.agg [strs cl4,lstS rulC rs4]] (i64 0):=run_x (by kernel_rfl) (by kernel_rfl)
theorem vtab4:@Pu gtR Tryz.prog 23 [tblD (tbl cl4 (rs4.map (·.act)) LN4 LM4 RN4 RM4)] (boo true):=run_x (by kernel_rfl) (by kernel_rfl)
theorem same4:@Pu gtR Tryz.prog 21 [tblD (tbl cl4 (rs4.map (·.act)) LN4 LM4 RN4 RM4),tblD (tbl cl4 (rs4.map (·.act)) LN4 LM4 RN4 RM4)] (boo true):=run_x (by kernel_rfl) (by kernel_rfl)
theorem vf4:VF cl4 rs4 (tblD (tbl cl4 (rs4.map (·.act)) LN4 LM4 RN4 RM4)):=by
 letI:=gtR
 refine ⟨chk4,tx4.str,fun bs L2 dc dr N2 H3 h1 h2 h3 h4 h5 h6=>?_⟩
 rw [← tbl_D]
 exact compile_c (F:=3000) (by omega) (by decide) (by decide) (by decide) (by decide) comp4 h1 h2 h3 h4 h5 h6
theorem valid4:@Pu gtR Tryz.prog 4 [i64 4] (boo true):=valid_x (f:=1000) (spV_ok (spL_ok scan4) kind4.tab vtab4 same4 awake_c) vf4 (by kernel_rfl)
end Go.Proofs.YtbjngeioomjklaaGreatDoor
