/-
  The statement StandardValid, over data.
-/
import Derived.Test.YtbjngeioomjklaaGreatDoorU0
import Derived.Test.YtbjngeioomjklaaGreatDoorU2
import Derived.Test.YtbjngeioomjklaaGreatDoorU3
import Derived.Test.YtbjngeioomjklaaGreatDoorU4
namespace Go.Proofs.YtbjngeioomjklaaGreatDoor
open Go Go.Am Classical
set_option maxRecDepth 100000
set_option linter.unusedSectionVars false
theorem same0:@Pu gtR Tryz.prog 21 [tblD (tbl [] [] [] [] [] []),tblD (tbl [] [] [] [] [] [])] (boo true):=run_x (by kernel_rfl) (by kernel_rfl)
theorem valid_no {k:Int}(hk:¬ (1≤k∧k≤4)):@Pu gtR Tryz.prog 4 [i64 k] (boo true):=by
 letI:=gtR
 have h1:=spa_no hk
 have h2:=tab_no hk
 have h3:=same0
 refine Pu.of_v mixed T0 Tryz.func4 rfl rfl rfl ?_
 repeat' ((conv=>whnf) <;> (first|refine SeqV.go mixed T0 ?_|exact True.intro|(refine Br.mk (fun _=>?_) (fun _=>?_) <;> (try (exfalso;omega)))|refine stq ?_|refine Cll.pu h1 ?_|refine Cll.pu h2 ?_|(refine Cll.dec (known_c (k:=k)) (fun _=>?_) (fun _=>?_) <;> (try contradiction))|refine Cll.give (.cons (.same (by rfl)) (.cons (.agg (.cons .nil (.cons .nil (.cons .nil (.cons .nil (.cons .nil (.cons .nil .nil))))))) .nil)) h3 ?_|refine Cll.pu awake_c ?_|fail))
 all_goals (conv=>whnf)
 exact RetV.same rfl rfl
theorem valid32_c {k:Int}:@Pu gtR Tryz.prog 4 [i64 k] (boo true):=by
 by_cases hk:1≤k∧k≤4
 ·have h4:k=1∨k=2∨k=3∨k=4:=by omega
  rcases h4 with rfl|rfl|rfl|rfl
  ·exact valid1
  ·exact valid2
  ·exact valid3
  ·exact valid4
 ·exact valid_no hk
end Go.Proofs.YtbjngeioomjklaaGreatDoor
