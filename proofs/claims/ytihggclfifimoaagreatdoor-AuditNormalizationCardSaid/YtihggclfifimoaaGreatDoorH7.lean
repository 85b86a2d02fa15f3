/-
  Contracts of functions over data: valid sets of code points (program, reference).
-/
import Derived.Test.YtihggclfifimoaaGreatDoorG1
set_option linter.unusedSectionVars false
namespace Go.Proofs.YtihggclfifimoaaGreatDoor
open Go Go.Am Classical
set_option maxRecDepth 100000
variable [GT]
theorem qR {l:List Rng}(hl:l.length<=12):Pu Tryz.prog 181 [fJ l] (boo (decide (i7 l))):=by
 have hm:=Fv (l:=l);refine pv Tryz.func181 ?_;by_cases hlen:l.length=(mkR l).length
 ·repeat' ((conv=>whnf);first|exact kQ|(refine bk ?_ ?_<;>intro _<;>try(exfalso;omega))|refine stq ?_|refine cp (Hl sd) ?_|fail)
  refine aH.by aA T0 (λk:Nat=>⟨tmp 32 [(1,.ptr 0 0),(17,bD (mkR l)),(18,i64 l.length),(19,i64 (k:Int))],⟨1,[(0,.cells [bD l] true)]⟩⟩)
   (λk=>k<=l.length∧∀ i (h:i<l.length),i<k->l[i]=(mkR l)[i]'(by omega)) (λk=>l.length-k) 0 ⟨by omega,λ_ _ h=>by omega⟩ ?_ ?_
  ·exact lq [(0,_)] []
  intro k ⟨h3,h4⟩;by_cases hk:k<l.length
  ·have hk':k<(mkR l).length:=by omega
   by_cases he:(mkR l)[k]=l[k]
   ·repeat' ((conv=>whnf);first|exact kQ|(refine bk ?_ ?_<;>intro _<;>try(exfalso;omega))|refine stq ?_|refine aX.by aA T0 [0,0,2,0,14,30,63] (by kernel_rfl) ?_|refine Idx.atS (sz:=2) (c:=bq) (λ_=>rfl) k om om ?_|(split<;>rename_i heq<;>rw[he] at heq<;>first|(obtain rfl:=Option.some.inj (uK.symm.trans heq))|exact absurd (uK.symm.trans heq) si))
    all_goals(conv=>whnf)
    refine⟨k+1,⟨by omega,ad om h4 he.symm⟩,by omega,?_⟩;exact lq [(0,_)] []
   ·repeat' ((conv=>whnf);first|exact kQ|(refine bk ?_ ?_<;>intro _<;>try(exfalso;omega))|refine stq ?_|refine aX.by aA T0 [0,0,2,0,14,30,63] (by kernel_rfl) ?_|refine Idx.atS (sz:=2) (c:=bq) (λ_=>rfl) k om om ?_|(split<;>rename_i heq<;>first|(obtain rfl:=Option.some.inj ((pT he).symm.trans heq))|exact absurd ((pT he).symm.trans heq) si))
    all_goals(conv=>whnf)
    exact aE.no (λhc=>he (List.getElem_of_eq (hm.2 hc).symm om))
  ·repeat' ((conv=>whnf);first|exact kQ|(refine bk ?_ ?_<;>intro _<;>try(exfalso;omega))|refine stq ?_)
   all_goals(conv=>whnf)
   exact aE.yes (hm.1 (List.ext_getElem hlen λi h1 h2=>h4 i h1 om))
 ·repeat' ((conv=>whnf);first|exact kQ|(refine bk ?_ ?_<;>intro _<;>try(exfalso;omega))|refine stq ?_|refine cp (Hl sd) ?_|fail)
  all_goals(conv=>whnf)
  exact aE.no (λhc=>hlen (congrArg List.length (hm.2 hc)))
end Go.Proofs.YtihggclfifimoaaGreatDoor
