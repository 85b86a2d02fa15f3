/-
  Contracts over data: what a form's quick check is prepared with.
-/
import Derived.Test.YtihggclfifimoaaGreatDoorYA
set_option linter.unusedSectionVars false
namespace Go.Proofs.YtihggclfifimoaaGreatDoor
open Go Go.Am Classical
set_option maxRecDepth 100000
set_option linter.unusedVariables false
theorem Fj {P:Program}{g:FuncId}{ds ds':List D}{d:D}(h:∀ c vs,VS c ds vs->VS c ds' vs) (hp:Pu P g ds' d):Pu P g ds d:=λH=>⟨(hp H).1,λc vs R hv=>(hp H).2 c vs R (h c vs hv)⟩
theorem As {c:Ctx}{vs:List Value}(h:VS c [.agg [aO,aO,aO]] vs):VS c [nmD nm0] vs:=by
 obtain⟨y,ys,rfl,h1,h2⟩:=h.inv;refine VS.cons ?_ h2;simp only[V] at h1 ⊢;obtain⟨zs,rfl,h1⟩:=h1;refine⟨zs,rfl,?_⟩;obtain⟨a,as',rfl,a1,a2⟩:=h1.inv;obtain⟨b,bs',rfl,b1,b2⟩:=a2.inv;obtain⟨d,ds',rfl,d1,d2⟩:=b2.inv;exact VS.cons (xr a1) (VS.cons (xr b1) (VS.cons (xr d1) d2))
def bW (f:Int) (s:List Rng):List Rng:=if cF f=true then s else []
section
variable {n n':Nm}{f:Int}{s:List Rng}
set_option maxHeartbeats 4000000 in
theorem sQ (hf:isF f) (hN:eI n n') (hS:Pu Tryz.prog 150 [nmD n'] (fJ s)):Pu Tryz.prog 73 [nmD n,i64 f] (.tup [.agg (ckC n' f (bW f s)),boo true]):=by
 obtain⟨e,h1,h2,h3⟩:=hN.ck;by_cases he:e=0
 ·have hn:=h2 he;subst hn;subst he;rcases hf with rfl|rfl|rfl|rfl
  ·have e1:ckC n' 1 (bW 1 s)=[bC n'.cl,ag n'.dc,bD n'.xc,i64 1,boo false,bD s]:=by simp[bW,cF,kF]
   rw[e1];refine Pu.of_v aA T0 Tryz.func73 rfl rfl (aD (aQ n') (aD rfl rfl)) ?_;repeat' ((conv=>whnf);first|exact kQ|(refine bk ?_ ?_<;>intro _<;>try(exfalso;omega))|refine stq ?_|refine cp h1 ?_|refine cp hS ?_|fail)
   all_goals(conv=>whnf)
   exact⟨.tup (.cons (.agg (.cons (.same (aY _)) (.cons (.same (bH _)) (.cons (.same (aV _)) (.cons (.same rfl) (.cons (.same rfl) (.cons (.same (aV _)) .nil))))))) (.cons (.same rfl) .nil))⟩
  ·have e1:ckC n' 2 (bW 2 s)=[bC n'.cl,ag n'.dc,bD n'.xc,i64 2,boo false,bD []]:=by simp[bW,cF,kF]
   rw[e1];refine Pu.of_v aA T0 Tryz.func73 rfl rfl (aD (aQ n') (aD rfl rfl)) ?_;repeat' ((conv=>whnf);first|exact kQ|(refine bk ?_ ?_<;>intro _<;>try(exfalso;omega))|refine stq ?_|refine cp h1 ?_|fail)
   all_goals(conv=>whnf)
   exact⟨.tup (.cons (.agg (.cons (.same (aY _)) (.cons (.same (bH _)) (.cons (.same (aV _)) (.cons (.same rfl) (.cons (.same rfl) (.cons .nil .nil))))))) (.cons (.same rfl) .nil))⟩
  ·have e1:ckC n' 3 (bW 3 s)=[bC n'.cl,ag n'.dc,bD n'.xc,i64 3,boo true,bD s]:=by simp[bW,cF,kF]
   rw[e1];refine Pu.of_v aA T0 Tryz.func73 rfl rfl (aD (aQ n') (aD rfl rfl)) ?_;repeat' ((conv=>whnf);first|exact kQ|(refine bk ?_ ?_<;>intro _<;>try(exfalso;omega))|refine stq ?_|refine cp h1 ?_|refine cp hS ?_|fail)
   all_goals(conv=>whnf)
   exact⟨.tup (.cons (.agg (.cons (.same (aY _)) (.cons (.same (bH _)) (.cons (.same (aV _)) (.cons (.same rfl) (.cons (.same rfl) (.cons (.same (aV _)) .nil))))))) (.cons (.same rfl) .nil))⟩
  ·have e1:ckC n' 4 (bW 4 s)=[bC n'.cl,ag n'.dc,bD n'.xc,i64 4,boo true,bD []]:=by simp[bW,cF,kF]
   rw[e1];refine Pu.of_v aA T0 Tryz.func73 rfl rfl (aD (aQ n') (aD rfl rfl)) ?_;repeat' ((conv=>whnf);first|exact kQ|(refine bk ?_ ?_<;>intro _<;>try(exfalso;omega))|refine stq ?_|refine cp h1 ?_|fail)
   all_goals(conv=>whnf)
   exact⟨.tup (.cons (.agg (.cons (.same (aY _)) (.cons (.same (bH _)) (.cons (.same (aV _)) (.cons (.same rfl) (.cons (.same rfl) (.cons .nil .nil))))))) (.cons (.same rfl) .nil))⟩
 ·have hn:=h3 he;subst hn;have hS0:=Fj (λc vs h=>As h) hS;rcases hf with rfl|rfl|rfl|rfl
  ·have e1:ckC nm0 1 (bW 1 s)=[bC [],ag [],bD [],i64 1,boo false,bD s]:=by simp[bW,cF,kF]
   rw[e1];refine Pu.of_v aA T0 Tryz.func73 rfl rfl (aD (aQ n) (aD rfl rfl)) ?_;repeat' ((conv=>whnf);first|exact kQ|(refine bk ?_ ?_<;>intro _<;>try(exfalso;omega))|refine stq ?_|refine cp h1 ?_|refine cp hS0 ?_|fail)
   all_goals(conv=>whnf)
   exact⟨.tup (.cons (.agg (.cons .nil (.cons .nil (.cons .nil (.cons (.same rfl) (.cons (.same rfl) (.cons (.same (aV _)) .nil))))))) (.cons (.same rfl) .nil))⟩
  ·have e1:ckC nm0 2 (bW 2 s)=[bC [],ag [],bD [],i64 2,boo false,bD []]:=by simp[bW,cF,kF]
   rw[e1];refine Pu.of_v aA T0 Tryz.func73 rfl rfl (aD (aQ n) (aD rfl rfl)) ?_;repeat' ((conv=>whnf);first|exact kQ|(refine bk ?_ ?_<;>intro _<;>try(exfalso;omega))|refine stq ?_|refine cp h1 ?_|fail)
   all_goals(conv=>whnf)
   exact⟨.tup (.cons (.agg (.cons .nil (.cons .nil (.cons .nil (.cons (.same rfl) (.cons (.same rfl) (.cons .nil .nil))))))) (.cons (.same rfl) .nil))⟩
  ·have e1:ckC nm0 3 (bW 3 s)=[bC [],ag [],bD [],i64 3,boo true,bD s]:=by simp[bW,cF,kF]
   rw[e1];refine Pu.of_v aA T0 Tryz.func73 rfl rfl (aD (aQ n) (aD rfl rfl)) ?_;repeat' ((conv=>whnf);first|exact kQ|(refine bk ?_ ?_<;>intro _<;>try(exfalso;omega))|refine stq ?_|refine cp h1 ?_|refine cp hS0 ?_|fail)
   all_goals(conv=>whnf)
   exact⟨.tup (.cons (.agg (.cons .nil (.cons .nil (.cons .nil (.cons (.same rfl) (.cons (.same rfl) (.cons (.same (aV _)) .nil))))))) (.cons (.same rfl) .nil))⟩
  ·have e1:ckC nm0 4 (bW 4 s)=[bC [],ag [],bD [],i64 4,boo true,bD []]:=by simp[bW,cF,kF]
   rw[e1];refine Pu.of_v aA T0 Tryz.func73 rfl rfl (aD (aQ n) (aD rfl rfl)) ?_;repeat' ((conv=>whnf);first|exact kQ|(refine bk ?_ ?_<;>intro _<;>try(exfalso;omega))|refine stq ?_|refine cp h1 ?_|fail)
   all_goals(conv=>whnf)
   exact⟨.tup (.cons (.agg (.cons .nil (.cons .nil (.cons .nil (.cons (.same rfl) (.cons (.same rfl) (.cons .nil .nil))))))) (.cons (.same rfl) .nil))⟩
end
end Go.Proofs.YtihggclfifimoaaGreatDoor
