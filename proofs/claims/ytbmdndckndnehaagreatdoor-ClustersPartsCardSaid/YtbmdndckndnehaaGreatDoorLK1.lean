/-
  The rules of kind 1 in the specification: each position is decided as the table decides it.
-/
import Derived.Test.YtbmdndckndnehaaGreatDoorLA
import Derived.Test.YtbmdndckndnehaaGreatDoorY1
import Derived.Test.YtbmdndckndnehaaGreatDoorM1
import Derived.Test.YtbmdndckndnehaaGreatDoorV0
import Derived.Test.YtbmdndckndnehaaGreatDoorHM
import Derived.Test.YtbmdndckndnehaaGreatDoorY4
import Derived.Test.YtbmdndckndnehaaGreatDoorM4a
set_option linter.unusedSectionVars false
namespace Go.Proofs.YtbmdndckndnehaaGreatDoor
section
open Go Go.Am Classical
set_option maxRecDepth 100000
theorem rk1:RK 1 cl1 rs1 t1:=by
 letI:=gtR;have h1:=Hs;have h2:Pu Tryz.prog 71 [i64 1] (.str Cn):=ja rfl (by kernel_rfl);have h3:=F3;have hc:Pu Tryz.prog 74 [.agg [strs cl1,lstS bp rs1]] (i64 0):=ja (by simp[aD,cM]) (by kernel_rfl);have ho:rs1.all (λr=>okP r.left&&okP r.right)=true:=by kernel_rfl
 refine⟨by omega,Hs,?_,rfl,by decide,tv1.1,λ{l} hl hx j hj=>?_⟩
 ·refine pv Tryz.func40 ?_;repeat' ((conv=>whnf);first|exact kQ|(refine bk ?_ ?_<;>intro _<;>try(exfalso;omega))|refine stq ?_|(refine Cll.dec (ph (k:=1)) (λ_=>?_) (λ_=>?_)<;>(try(exfalso;omega)))|refine cp h1 ?_|refine cp h2 ?_|refine cp h3 ?_|fail)
  all_goals(conv=>whnf)
  exact aC.same (cM _ _) rfl
 ·obtain⟨q,q1,q2,q3⟩:=px law1 hl hj
  have e:(acts t1 l).getD j 0=zI rs1 q:=by
   rw[aJ (by rw[dQ];omega)];simp only[acts,List.getElem_map,List.getElem_range];exact q2
  rw[e]
  exact⟨_,kv hc (λr hr=>by
   have:=List.all_eq_true.1 ho r hr
   simp only[kC] at this
   exact⟨jJ _ this.1,jJ _ this.2⟩) (by decide) (by decide) hx hl hj q1⟩
end
section
open Go Go.Am Classical
set_option maxRecDepth 100000
theorem rk3:RK 3 cl3 rs3 t3:=by
 letI:=gtR;have h1:=Hq;have h2:Pu Tryz.prog 71 [i64 3] (.str Ck):=ja rfl (by kernel_rfl);have h3:=F1;have hc:Pu Tryz.prog 74 [.agg [strs cl3,lstS bp rs3]] (i64 0):=ja (by simp[aD,cM]) (by kernel_rfl);have ho:rs3.all (λr=>okP r.left&&okP r.right)=true:=by kernel_rfl
 refine⟨by omega,Hq,?_,rfl,by decide,tv3.1,λ{l} hl hx j hj=>?_⟩
 ·refine pv Tryz.func40 ?_;repeat' ((conv=>whnf);first|exact kQ|(refine bk ?_ ?_<;>intro _<;>try(exfalso;omega))|refine stq ?_|(refine Cll.dec (ph (k:=3)) (λ_=>?_) (λ_=>?_)<;>(try(exfalso;omega)))|refine cp h1 ?_|refine cp h2 ?_|refine cp h3 ?_|fail)
  all_goals(conv=>whnf)
  exact aC.same (cM _ _) rfl
 ·obtain⟨q,q1,q2,q3⟩:=px law3 hl hj
  have e:(acts t3 l).getD j 0=zI rs3 q:=by
   rw[aJ (by rw[dQ];omega)];simp only[acts,List.getElem_map,List.getElem_range];exact q2
  rw[e]
  exact⟨_,kv hc (λr hr=>by
   have:=List.all_eq_true.1 ho r hr
   simp only[kC] at this
   exact⟨jJ _ this.1,jJ _ this.2⟩) (by decide) (by decide) hx hl hj q1⟩
end
section
open Go Go.Am Classical
set_option maxRecDepth 100000
theorem rk4:RK 4 cl4 rs4 t4:=by
 letI:=gtR;have h1:=Hp;have h2:Pu Tryz.prog 71 [i64 4] (.str Cj):=ja rfl (by kernel_rfl);have h3:=F0;have hc:Pu Tryz.prog 74 [.agg [strs cl4,lstS bp rs4]] (i64 0):=ja (by simp[aD,cM]) (by kernel_rfl);have ho:rs4.all (λr=>okP r.left&&okP r.right)=true:=by kernel_rfl
 refine⟨by omega,Hp,?_,rfl,by decide,tv4.1,λ{l} hl hx j hj=>?_⟩
 ·refine pv Tryz.func40 ?_;repeat' ((conv=>whnf);first|exact kQ|(refine bk ?_ ?_<;>intro _<;>try(exfalso;omega))|refine stq ?_|(refine Cll.dec (ph (k:=4)) (λ_=>?_) (λ_=>?_)<;>(try(exfalso;omega)))|refine cp h1 ?_|refine cp h2 ?_|refine cp h3 ?_|fail)
  all_goals(conv=>whnf)
  exact aC.same (cM _ _) rfl
 ·obtain⟨q,q1,q2,q3⟩:=px law4 hl hj
  have e:(acts t4 l).getD j 0=zI rs4 q:=by
   rw[aJ (by rw[dQ];omega)];simp only[acts,List.getElem_map,List.getElem_range];exact q2
  rw[e]
  exact⟨_,kv hc (λr hr=>by
   have:=List.all_eq_true.1 ho r hr
   simp only[kC] at this
   exact⟨jJ _ this.1,jJ _ this.2⟩) (by decide) (by decide) hx hl hj q1⟩
end
end Go.Proofs.YtbmdndckndnehaaGreatDoor
