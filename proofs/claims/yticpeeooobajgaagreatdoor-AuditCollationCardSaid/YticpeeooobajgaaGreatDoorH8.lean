/-
  Contracts of functions over data: sets of code points made by the reference.
-/
import Derived.Test.YticpeeooobajgaaGreatDoorG0
import Derived.Test.YticpeeooobajgaaGreatDoorAmF
import Derived.Test.YticpeeooobajgaaGreatDoorH5
set_option linter.unusedSectionVars false
namespace Go.Proofs.YticpeeooobajgaaGreatDoor
section
open Go Go.Am Classical
set_option maxRecDepth 100000
variable [GT]
theorem Rd.frzI {h:aB}{fz:Nat->Bool}{σ:Nat->Option Nat}{l:List Int}{id n cap es:Nat}{ex:Bool}{cs:List D}{bx:Bool}(hf:fz id=true) (hg:h.get id=some (.cells cs bx)) (hn:n=l.length) (he:es=1) (hc:cs=l.flatMap λx=>[i64 x]):Rd h fz σ (.sl id 0 n cap es ex) (aE l):=by
 rw[show aE l=lstS (λx=>[i64 x]) l from(Ae l).symm];exact Rd.frzL (c:=λx:Int=>[i64 x]) (sz:=1) (λ_=>rfl) (λ_=>rfl) hf hg hn he hc
end
section
open Go Go.Am Classical
set_option maxRecDepth 100000
variable [GT]
end
section
open Go Go.Am Classical
set_option maxRecDepth 100000
variable [GT]
section
variable {p:Int->Bool}{o:List Rng}{op:Bool}{c hi:Int}{l:List Int}
end
end
section
open Go Go.Am Classical
set_option maxRecDepth 100000
variable [GT]
end
section
open Go Go.Am Classical
set_option maxRecDepth 100000
variable [GT]
end
section
open Go Go.Am Classical
set_option maxRecDepth 100000
variable [GT]
theorem jv (l:List Rng):aL (rU l)=true:=by simp[aL,aJ,cC]
theorem zn {l:List Rng}:Pu Tryz.prog 11 [rU l] (boo (decide (l.length<=12))):=by
 refine pv Tryz.func11 ?_;repeat' ((conv=>whnf);first|exact kQ|(refine bk ?_ ?_<;>intro _<;>try(exfalso;omega))|refine stq ?_)
 all_goals(conv=>whnf)
 all_goals first
  | exact aI.yes om
  | exact aI.no om
theorem AY {l:List Mpg}(hlen:l.length<=9223372036854775807) (hto0:∀ i (h:i<l.length),l[i].to.length<=9223372036854775807∧l[i].tag.length<=9223372036854775807):Pu Tryz.prog 10 [dY l] (boo (decide (SmM l))):=by
 refine pv Tryz.func10 ?_;repeat' ((conv=>whnf);first|exact kQ|(refine bk ?_ ?_<;>intro _<;>try(exfalso;omega))|refine stq ?_)
 refine aH.by aA T0 (λk:Nat=>⟨tmp 33 [(0,dY l),(3,i64 (k:Int))],⟨0,[]⟩⟩)
  (λk=>(k<=l.length∧k<=30)∧∀ i (h:i<l.length),i<k->(i<30->l[i].to.length<=65∧l[i].tag.length<=40)) (λk=>l.length-k) 0 ⟨by omega,λ_ _ h=>by omega⟩ ?_ ?_
 ·exact lq0
 intro k ⟨⟨h3,h5⟩,h4⟩;by_cases hk:k<l.length
 ·have hto:=(hto0 k hk).1;have htg:=(hto0 k hk).2;by_cases hk3:k<30
  ·repeat' ((conv=>whnf);first|exact kQ|(refine bk ?_ ?_<;>intro _<;>try(exfalso;omega))|refine stq ?_)
   all_goals(conv=>whnf)
   all_goals first
    | exact aI.no (λhc=>by have:=hc.1 k hk hk3;omega)
    | (refine⟨k+1,⟨⟨by omega,by omega⟩,bv hk h4 (λ_=>by omega)⟩,by omega,?_⟩
       exact lq0)
  ·repeat' ((conv=>whnf);first|exact kQ|(refine bk ?_ ?_<;>intro _<;>try(exfalso;omega))|refine stq ?_)
   all_goals(conv=>whnf)
   all_goals first
    | exact aI.no (λhc=>by have:=hc.2;omega)
    | exact aI.yes ⟨λi h hi=>h4 i h om hi,by omega⟩
 ·repeat' ((conv=>whnf);first|exact kQ|(refine bk ?_ ?_<;>intro _<;>try(exfalso;omega))|refine stq ?_)
  all_goals(conv=>whnf)
  all_goals first
   | exact aI.no (λhc=>by have:=hc.2;omega)
   | exact aI.yes ⟨λi h hi=>h4 i h om hi,by omega⟩
end
end Go.Proofs.YticpeeooobajgaaGreatDoor
