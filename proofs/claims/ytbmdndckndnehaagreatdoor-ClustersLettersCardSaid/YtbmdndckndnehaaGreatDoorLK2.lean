/-
  The rules of kind 2 in the specification: each position is decided as the table decides it.
-/
import Derived.Test.YtbmdndckndnehaaGreatDoorLA
import Derived.Test.YtbmdndckndnehaaGreatDoorY2
import Derived.Test.YtbmdndckndnehaaGreatDoorM2
import Derived.Test.YtbmdndckndnehaaGreatDoorHM2
set_option linter.unusedSectionVars false
namespace Go.Proofs.YtbmdndckndnehaaGreatDoor
open Go Go.Am Classical
set_option maxRecDepth 100000
theorem rk2:RK 2 cl2 rs2 t2:=by
 letI:=gtR;have h1:=Hr;have h2:Pu Tryz.prog 71 [i64 2] (.str Cm):=ja rfl (by kernel_rfl);have h3:=F2;have hc:Pu Tryz.prog 74 [.agg [strs cl2,lstS bp rs2]] (i64 0):=ja (by simp[aD,cM]) (by kernel_rfl);have ho:rs2.all (λr=>okP r.left&&okP r.right)=true:=by kernel_rfl
 refine⟨by omega,Hr,?_,rfl,by decide,tv2.1,λ{l} hl hx j hj=>?_⟩
 ·refine pv Tryz.func40 ?_;repeat' ((conv=>whnf);first|exact kQ|(refine bk ?_ ?_<;>intro _<;>try(exfalso;omega))|refine stq ?_|(refine Cll.dec (ph (k:=2)) (λ_=>?_) (λ_=>?_)<;>(try(exfalso;omega)))|refine cp h1 ?_|refine cp h2 ?_|refine cp h3 ?_|fail)
  all_goals(conv=>whnf)
  exact aC.same (cM _ _) rfl
 ·obtain⟨q,q1,q2,q3⟩:=px law2 hl hj
  have e:(acts t2 l).getD j 0=zI rs2 q:=by
   rw[aJ (by rw[dQ];omega)];simp only[acts,List.getElem_map,List.getElem_range];exact q2
  rw[e]
  exact⟨_,kv hc (λr hr=>by
   have:=List.all_eq_true.1 ho r hr
   simp only[kC] at this
   exact⟨jJ _ this.1,jJ _ this.2⟩) (by decide) (by decide) hx hl hj q1⟩
end Go.Proofs.YtbmdndckndnehaaGreatDoor
