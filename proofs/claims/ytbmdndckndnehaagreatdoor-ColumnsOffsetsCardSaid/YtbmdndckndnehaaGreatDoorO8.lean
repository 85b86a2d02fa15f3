/-
  The specification of layer 35, over data: the columns of the clusters, of a text; a text that is filled up.
-/
import Derived.Test.YtbmdndckndnehaaGreatDoorLA
import Derived.Test.YtbmdndckndnehaaGreatDoorLK1
import Derived.Test.YtbmdndckndnehaaGreatDoorO4
import Derived.Test.YtbmdndckndnehaaGreatDoorO0
set_option linter.unusedSectionVars false
namespace Go.Proofs.YtbmdndckndnehaaGreatDoor
open Go Go.Am Classical
set_option maxRecDepth 100000
theorem xO8.rdX {p:Prop}(h:p:=by first|exact Rd.int om|exact Rd.same rfl|exact Rd.sl' rfl sim sim|fail):p:=h
theorem xO8.rbX {p:Prop}(h:p:=by first|exact Rb.cells (Rds.same (cR _)) rfl|exact Rb.cells (Rds.eqs (af (by intro _;rfl) (x::xs) _) (aF (by intro _;rfl) _)) rfl|fail):p:=h
open xO8
theorem FA {text:List Int}{lo:Int}{k:Nat}(h0:0<=lo) (h1:lo<=k) (hk:k<text.length):pce text lo ((k+1:Nat):Int)=pce text lo k++[text[k]]:=by
 unfold pce;rw[show(((k+1:Nat):Int)-lo).toNat=((k:Int)-lo).toNat+1 by omega,List.take_add_one,List.getElem?_drop,show lo.toNat+((k:Int)-lo).toNat=k by omega,List.getElem?_eq_getElem hk];rfl
theorem xk {p:Prp}{text:List Int}{lo:Int}{k:Nat}(h0:0<=lo) (h1:lo<=k) (hk:k<text.length):mxW p (pce text lo ((k+1:Nat):Int))=max (mxW p (pce text lo k)) (cL p text[k]):=by
 rw[FA h0 h1 hk,xj]
def nj:List Int->Int
 | []=>0
 | x::l=>x+nj l
theorem uX:∀ (l:List Int) (x:Int),nj (l++[x])=nj l+x
 | [],x=>by simp[nj]
 | y::l,x=>by simp only[List.cons_append,nj,uX l x];omega
theorem DG {l:List Int}{k:Nat}(h:k<l.length):nj (l.take (k+1))=nj (l.take k)+l[k]:=by
 rw[List.take_add_one,List.getElem?_eq_getElem h];exact uX _ _
theorem x8 (p:Prp) (text:List Int):∀ P:List Rng,nj (P.map (dI p text))=bQ p text P
 | []=>rfl
 | r::P=>by simp only[List.map_cons,nj,bQ,x8 p text P]
theorem sG:∀ {l:List Int},(∀ x∈l,0<=x∧x<=2)->0<=nj l∧nj l<=2*l.length
 | [],_=>by simp[nj]
 | x::l,h=>by
  have h1:=sG λy hy=>h y (List.mem_cons_of_mem _ hy)
  have h2:=h x si;simp only[nj,kO];omega
set_option maxHeartbeats 8000000 in
theorem Ez {d:Db}{text:List Int}{P:List Rng}(hcode:∀ c:Int,@Pu gtR Tryz.prog 55 [bn d.wid,i64 c] (i64 (cL d.wid c))) (hP:@Pu gtR Tryz.prog 18 [dbD d,i64 1,aD text] (.tup [a7 P,i64 0])) (hc:Chn 0 P text.length) (hx:text.length<=900):@Pu gtR Tryz.prog 32 [dbD d,aD text] (.tup [a7 P,aD (P.map (dI d.wid text))]):=by
 letI:=gtR;have hpl:=gE hc;refine pv Tryz.func32 ?_;repeat' ((conv=>whnf);first|exact kQ|(refine bk ?_ ?_<;>intro _<;>try(exfalso;omega))|refine stq ?_|refine cp hP ?_|fail)
 refine aH.by2 aB T0 (λ(i:Nat) (o:List Int)=>⟨tmp 53 [(1,aD text),(2,.ptr 0 0),(6,a7 P),(8,aU 1 1 o),(9,i64 (i:Int))],⟨2,bz 1 (λx=>[i64 x]) o++[(0,.cells (dbC d) true)]⟩⟩)
  (λi o=>i<=P.length∧o=(P.take i).map (dI d.wid text)) (λi _=>P.length-i) 0 [] ⟨by omega,rfl⟩ ?_ ?_
 ·exact lq [(0,_)] []
 intro i o ⟨h3,h4⟩;have hol:o.length=i:=by rw[h4];simp;omega
 by_cases hi:i<P.length
 ·have hat:=lK hi hc;have hle:=(dG i hc).1;have hs2:o++[dI d.wid text P[i]]=(P.take (i+1)).map (dI d.wid text):=by rw[h4,List.take_add_one,List.getElem?_eq_getElem hi,List.map_append];rfl
  have hwr:=dH d.wid text P[i];cases o with
  | nil=>
   repeat' ((conv=>whnf);first|exact kQ|(refine bk ?_ ?_<;>intro _<;>try(exfalso;omega))|refine stq ?_|fail)
   refine aH.by2 aB T0 (λ(k:Nat) (m:Int)=>⟨tmp 53 [(1,aD text),(2,.ptr 0 0),(6,a7 P),(8,aU 1 1 ([]:List Int)),(9,i64 (i:Int)),(10,i64 m),(11,i64 (k:Int))],⟨2,bz 1 (λx=>[i64 x]) ([]:List Int)++[(0,.cells (dbC d) true)]⟩⟩)
    (λk m=>(P[i].lo<=(k:Int)∧(k:Int)<=P[i].hi)∧m=mxW d.wid (pce text P[i].lo k)) (λk _=>P[i].hi.toNat-k) P[i].lo.toNat 0 ⟨⟨by omega,by omega⟩,by rw[show((P[i].lo.toNat:Nat):Int)=P[i].lo by omega];simp[pce,mxW]⟩ ?_ ?_
   ·exact lq [(0,_)] []
   intro k m ⟨⟨h5,h6⟩,h7⟩;have hmr:=eP d.wid (pce text P[i].lo k);by_cases hk:(k:Int)<P[i].hi
   ·have hkt:k<text.length:=by omega
    have hC:=hcode text[k];have hcr:=cK d.wid text[k];have hms:=xk (p:=d.wid) (text:=text) (lo:=P[i].lo) (k:=k) om om hkt;generalize hcv:cL d.wid text[k]=cv at *;repeat' ((conv=>whnf);first|refine Idx.at (f:=i64) (l:=text) k om om ?_|exact kQ|(refine bk ?_ ?_<;>intro _<;>try(exfalso;omega))|refine stq ?_|refine ap.by aB T0 [0,0,2,0,0,24,56,126,255,511] (by kernel_rfl) ?_|refine cp hC ?_|fail)
    all_goals(conv=>whnf)
    all_goals
     refine⟨k+1,_,⟨⟨by omega,by omega⟩,by rw[hms,<-h7]<;>omega⟩,by omega,?_⟩;exact lq [(0,_)] []
   ·obtain rfl:m=dI d.wid text P[i]:=by rw[h7,show(k:Int)=P[i].hi by omega];rfl
    repeat' ((conv=>whnf);first|exact kQ|(refine bk ?_ ?_<;>intro _<;>try(exfalso;omega))|refine stq ?_|fail)
    all_goals(conv=>whnf)
    refine⟨i+1,_,⟨by omega,hs2⟩,by omega,?_⟩;exact lq [(0,_),(1,_)] []
  | cons x xs=>
   have hlen:(x::xs).length<=1001:=by omega
   repeat' ((conv=>whnf);first|exact kQ|(refine bk ?_ ?_<;>intro _<;>try(exfalso;omega))|refine stq ?_|fail)
   refine aH.by2 aB T0 (λ(k:Nat) (m:Int)=>⟨tmp 53 [(1,aD text),(2,.ptr 0 0),(6,a7 P),(8,aU 1 1 (x::xs)),(9,i64 (i:Int)),(10,i64 m),(11,i64 (k:Int))],⟨2,bz 1 (λx=>[i64 x]) (x::xs)++[(0,.cells (dbC d) true)]⟩⟩)
    (λk m=>(P[i].lo<=(k:Int)∧(k:Int)<=P[i].hi)∧m=mxW d.wid (pce text P[i].lo k)) (λk _=>P[i].hi.toNat-k) P[i].lo.toNat 0 ⟨⟨by omega,by omega⟩,by rw[show((P[i].lo.toNat:Nat):Int)=P[i].lo by omega];simp[pce,mxW]⟩ ?_ ?_
   ·exact lq [(0,_),(1,_)] []
   intro k m ⟨⟨h5,h6⟩,h7⟩;have hmr:=eP d.wid (pce text P[i].lo k);by_cases hk:(k:Int)<P[i].hi
   ·have hkt:k<text.length:=by omega
    have hC:=hcode text[k];have hcr:=cK d.wid text[k];have hms:=xk (p:=d.wid) (text:=text) (lo:=P[i].lo) (k:=k) om om hkt;generalize hcv:cL d.wid text[k]=cv at *;repeat' ((conv=>whnf);first|refine Idx.at (f:=i64) (l:=text) k om om ?_|exact kQ|(refine bk ?_ ?_<;>intro _<;>try(exfalso;omega))|refine stq ?_|refine ap.by aB T0 [0,0,2,0,0,24,56,126,255,511] (by kernel_rfl) ?_|refine cp hC ?_|fail)
    all_goals(conv=>whnf)
    all_goals
     refine⟨k+1,_,⟨⟨by omega,by omega⟩,by rw[hms,<-h7]<;>omega⟩,by omega,?_⟩;exact lq [(0,_),(1,_)] []
   ·obtain rfl:m=dI d.wid text P[i]:=by rw[h7,show(k:Int)=P[i].hi by omega];rfl
    repeat' ((conv=>whnf);first|exact kQ|(refine bk ?_ ?_<;>intro _<;>try(exfalso;omega))|refine stq ?_|fail)
    all_goals(conv=>whnf)
    refine⟨i+1,_,⟨by omega,hs2⟩,by omega,?_⟩;exact lq [(0,_),(1,_)] []
 rw[kE om] at h4;rw[<-h4];cases o with
 | nil=>
  repeat' ((conv=>whnf);first|exact kQ|(refine bk ?_ ?_<;>intro _<;>try(exfalso;omega))|refine stq ?_)
  all_goals(conv=>whnf)
  exact⟨.tup (.cons (.same (ad P)) (.cons .nil .nil))⟩
 | cons x xs=>
  repeat' ((conv=>whnf);first|exact kQ|(refine bk ?_ ?_<;>intro _<;>try(exfalso;omega))|refine stq ?_)
  all_goals(conv=>whnf)
  exact⟨.tup (.cons (.same (ad P)) (.cons (eT (b:=x::xs) rfl rfl (aO _) rfl) .nil))⟩
theorem zo {d:Db}{text:List Int}{P:List Rng}(g:Good d) (hC:@Pu gtR Tryz.prog 32 [dbD d,aD text] (.tup [a7 P,aD (P.map (dI d.wid text))])) (hl:P.length<=1000):@Pu gtR Tryz.prog 27 [dbD d,aD text] (.tup [i64 (bQ d.wid text P),i64 0]):=by
 letI:=gtR;obtain⟨e,he,hi⟩:=gX g.ok g.sm;obtain rfl:=hi.2 g.va
 have hL:∀ x∈P.map (dI d.wid text),0<=x∧x<=2:=λx hx=>by
  obtain⟨r,_,rfl⟩:=List.mem_map.1 hx;exact dH _ _ _
 have hn:(P.map (dI d.wid text)).length=P.length:=by simp
 rw[<-x8];generalize P.map (dI d.wid text)=L at *;refine pv Tryz.func27 ?_;repeat' ((conv=>whnf);first|exact kQ|(refine bk ?_ ?_<;>intro _<;>try(exfalso;omega))|refine stq ?_|refine cp he ?_|refine cp hC ?_|fail)
 refine aH.by2 aB T0 (λ(k:Nat) (s:Int)=>⟨tmp 32 [(7,aD L),(8,i64 s),(9,i64 (k:Int))],⟨0,[]⟩⟩)
  (λk s=>k<=L.length∧s=nj (L.take k)) (λk _=>L.length-k) 0 0 ⟨by omega,rfl⟩ ?_ ?_
 ·exact lq0
 intro k s ⟨h3,h4⟩;have hr:=sG (l:=L.take k) λx hx=>hL x (List.mem_of_mem_take hx)
 have htl:(L.take k).length=k:=by rw[List.length_take];omega
 by_cases hk:k<L.length
 ·have hs2:=DG hk;have hxr:=hL L[k] (kM _);repeat' ((conv=>whnf);first|exact kQ|(refine bk ?_ ?_<;>intro _<;>try(exfalso;omega))|refine stq ?_|fail)
  all_goals(conv=>whnf)
  refine⟨k+1,_,⟨by omega,by rw[hs2,<-h4]⟩,by omega,?_⟩;exact lq0
 ·rw[kE om] at h4;subst h4;repeat' ((conv=>whnf);first|exact kQ|(refine bk ?_ ?_<;>intro _<;>try(exfalso;omega))|refine stq ?_|fail)
  all_goals(conv=>whnf)
  exact⟨Rd.eqd rfl rfl⟩
theorem t9 {d:Db}{text:List Int}(ho:d.ok) (hs:SmD d) (hv:¬DbV d):@Pu gtR Tryz.prog 27 [dbD d,aD text] (.tup [i64 0,i64 11]):=by
 letI:=gtR;obtain⟨e,he,hi⟩:=gX ho hs;have h0:e≠0:=λh=>hv (hi.1 h)
 refine pv Tryz.func27 ?_;repeat' ((conv=>whnf);first|exact kQ|(refine bk ?_ ?_<;>intro _<;>try(exfalso;omega))|refine stq ?_|refine cp he ?_|fail)
 all_goals(conv=>whnf)
 exact⟨Rd.eqd rfl rfl⟩
theorem Good.rcode {d:Db}(g:Good d) (c:Int):@Pu gtR Tryz.prog 55 [bn d.wid,i64 c] (i64 (cL d.wid c)):=@BI gtR _ _ (g.ok.prop 1)
theorem Good.rcells {d:Db}(g:Good d){text:List Int}(hx:text.length<=900):@Pu gtR Tryz.prog 32 [dbD d,aD text] (.tup [a7 (gP d text),aD ((gP d text).map (dI d.wid text))]):=
 Ez g.rcode (Ev (text:=text) (k:=1) g rk1 hx) (gu d text) hx
theorem Good.rwidth {d:Db}(g:Good d){text:List Int}(hx:text.length<=900):@Pu gtR Tryz.prog 27 [dbD d,aD text] (.tup [i64 (bQ d.wid text (gP d text)),i64 0]):=
 zo g (g.rcells hx) (by have:=gE (gu d text);omega)
end Go.Proofs.YtbmdndckndnehaaGreatDoor
