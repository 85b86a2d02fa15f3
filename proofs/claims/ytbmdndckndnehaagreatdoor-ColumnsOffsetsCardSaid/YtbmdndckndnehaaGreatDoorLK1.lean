/-
  The rules of kind 1 in the specification: each position is decided as the table decides it.
-/
import Derived.Test.YtbmdndckndnehaaGreatDoorLA
import Derived.Test.YtbmdndckndnehaaGreatDoorY1
import Derived.Test.YtbmdndckndnehaaGreatDoorM1
import Derived.Test.YtbmdndckndnehaaGreatDoorV0
set_option linter.unusedSectionVars false
namespace Go.Proofs.YtbmdndckndnehaaGreatDoor
open Go Go.Am Classical
set_option maxRecDepth 100000
theorem rk1:RK 1 cl1 rs1 t1:=by
 letI:=gtR;have h1:=JS;have h2:Pu Tryz.prog 71 [i64 1] (.str EK):=Ek rfl (by kernel_rfl);have h3:=He;have hc:Pu Tryz.prog 74 [.agg [strs cl1,lstS cF rs1]] (i64 0):=Ek (by simp[aE,kj]) (by kernel_rfl);have ho:rs1.all (λr=>okP r.left&&okP r.right)=true:=by kernel_rfl
 refine⟨by omega,JS,?_,rfl,by decide,tv1.1,λ{l} hl hx j hj=>?_⟩
 ·refine pv Tryz.func40 ?_;repeat' ((conv=>whnf);first|exact kQ|(refine bk ?_ ?_<;>intro _<;>try(exfalso;omega))|refine stq ?_|(refine Cll.dec (IA (k:=1)) (λ_=>?_) (λ_=>?_)<;>(try(exfalso;omega)))|refine cp h1 ?_|refine cp h2 ?_|refine cp h3 ?_|fail)
  all_goals(conv=>whnf)
  exact aC.same (kj _ _) rfl
 ·obtain⟨q,q1,q2,q3⟩:=Ij law1 hl hj
  have e:(acts t1 l).getD j 0=I7 rs1 q:=by
   rw[aK (by rw[dW];omega)];simp only[acts,List.getElem_map,List.getElem_range];exact q2
  rw[e]
  exact⟨_,Cn hc (λr hr=>by
   have:=List.all_eq_true.1 ho r hr
   simp only[kC] at this
   exact⟨AN _ this.1,AN _ this.2⟩) (by decide) (by decide) hx hl hj q1⟩
end Go.Proofs.YtbmdndckndnehaaGreatDoor
