/-
  The rules of kind 1 in the specification: each position is decided as the table decides it.
-/
import Derived.Test.YtjpgpihbhicinaaGreatDoorLA
import Derived.Test.YtjpgpihbhicinaaGreatDoorY1
import Derived.Test.YtjpgpihbhicinaaGreatDoorM1
import Derived.Test.YtjpgpihbhicinaaGreatDoorV0
set_option linter.unusedSectionVars false
namespace Go.Proofs.YtjpgpihbhicinaaGreatDoor
open Go Go.Am Classical
set_option maxRecDepth 100000
theorem rk1:RK 1 cl1 rs1 t1:=by
 letI:=gtR;have h1:=Fc;have h2:Pu Tryz.prog 57 [i64 1] (.str FV):=yU rfl (by kernel_rfl);have h3:=D9;have hc:Pu Tryz.prog 60 [.agg [strs cl1,lstS cX rs1]] (i64 0):=yU (by simp[aB,oQ]) (by kernel_rfl);have ho:rs1.all (fun r=>okP r.left&&okP r.right)=true:=by kernel_rfl
 refine⟨by omega,Fc,?_,rfl,by decide,tv1.1,fun {l} hl hx j hj=>?_⟩
 ·refine Pu.of_v aA T0 Tryz.func33 rfl rfl rfl ?_;repeat' ((conv=>whnf)<;>(first|refine sg ?_|exact kQ|(refine Br.mk ?_ ?_<;>intro _<;>try(exfalso;omega))|refine stq ?_|(refine Cll.dec (Ec (k:=1)) (fun _=>?_) (fun _=>?_)<;>(try(exfalso;omega)))|refine Cll.pu h1 ?_|refine Cll.pu h2 ?_|refine Cll.pu h3 ?_|fail))
  all_goals(conv=>whnf)
  exact aI.same (oQ _ _) rfl
 ·obtain⟨q,q1,q2,q3⟩:=Ez law1 hl hj
  have e:(acts t1 l).getD j 0=FG rs1 q:=by
   rw[aX (by rw[ge];omega)];simp only[acts,List.getElem_map,List.getElem_range];exact q2
  rw[e]
  exact⟨_,zt hc (fun r hr=>by
   have:=List.all_eq_true.1 ho r hr
   simp only[kC] at this
   exact⟨xl _ this.1,xl _ this.2⟩) (by decide) (by decide) hx hl hj q1⟩
end Go.Proofs.YtjpgpihbhicinaaGreatDoor
