/-
  Contracts of functions over data: sets of the reference made and compared.
-/
import Derived.Test.YtihggclfifimoaaGreatDoorH8
set_option linter.unusedSectionVars false
namespace Go.Proofs.YtihggclfifimoaaGreatDoor
open Go Go.Am Classical
set_option maxRecDepth 100000
theorem xHA.rdX {p:Prop}(h:p:=by first|exact Rd.sl' rfl hle'.symm hle'.symm|exact Rd.sl' rfl sim sim|fail):p:=h
theorem xHA.rbX {p:Prop}(h:p:=by first|exact Rb.cells (Rds.eqs (ae (c:=bq) (sz:=2) aa (x::xs) (⟨(bJ rs)[k],(bJ rs)[k+1]-1⟩:Rng)) (aG aU _)) rfl|exact Rb.cells (Rds.eqs (ae (c:=bq) (sz:=2) aa (x::xs) (⟨(bJ rs)[k],1114111⟩:Rng)) (aG aU _)) rfl|exact Rb.cells (Rds.eqs (by first|(rw[he];done)|fail) (aG aU _)) rfl|fail):p:=h
open xHA
variable [GT]
theorem jU:∀ (rs:List Rng) (l:List Int),(bB l rs).length<=l.length+2*rs.length+1
 | [],l=>by have:=fL (l:=l) (n:=0);simp[bB];exact this
 | r::rs,l=>by
  rw[fh];have h1:=fL (l:=l) (n:=r.lo);have h2:=fL (l:=l) (n:=r.hi+1);have h3:=fL (l:=aw l r.lo) (n:=r.hi+1);have h4:=jU rs;simp only[kO];split<;>split
  ·have:=h4 (aw (aw l r.lo) (r.hi+1));omega
  ·have:=h4 (aw l (r.hi+1));omega
  ·have:=h4 (aw l r.lo);omega
  ·have:=h4 l;omega
def bJ (rs:List Rng):List Int:=bB (bB [] rs) []
theorem oO (rs:List Rng):(bJ rs).length<=2*rs.length+2:=by
 have h1:=jU [] (bB [] rs);have h2:=jU rs [];simp only[List.length_nil] at h1 h2;rw[bJ];omega
theorem xQ {rs:List Rng}{x:Int}(h:x∈bJ rs):0<=x∧x<=1114111:=by
 rcases(gh [] _ x).1 h with rfl|h|⟨_,h,_⟩
 ·omega
 ·rcases(gh rs _ x).1 h with rfl|h|⟨r,_,h⟩
  ·omega
  ·cases h
  ·rcases h with h|h<;>omega
 ·cases h
section
variable {p:Int->Bool}{o:List Rng}{op:Bool}{c hi:Int}{l:List Int}
def GI:List Int->Int
 | []=>1114111
 | d::_=>d-1
theorem ul (h:p c=false):cmb p o op (c::l)=cmb p o false l:=by simp only[cmb,h];rfl
theorem pd (h:p c=true) (hh:hi=GI l):cmb p o false (c::l)=cmb p (o++[⟨c,hi⟩]) true l:=by
 subst hh;simp only[cmb,h];cases l<;>rfl
theorem xV (h:p c=true) (hh:hi=GI l) (ho:0<o.length):cmb p o true (c::l)=cmb p (o.set (o.length-1) ⟨(o[o.length-1]'(by omega)).lo,hi⟩) true l:=by
 subst hh;simp only[cmb,h,if_true,uU ho,ve ho];cases l<;>rfl
end
theorem GG {l:List Int}:¬aF l=aO:=by intro h;simp only[lst] at h;cases h
theorem fT {l:List Rng}:¬D.agg [aO]=jd l:=by
 intro h;injection h with h
 injection h with h
 simp only[lstS] at h;cases h
abbrev cmF (rs:List Rng) (k:Nat) (op:Bool) (o:List Rng):St:=⟨tmp 79 [(2,i64 1),(3,.ptr 0 0),(4,.ptr 1 0),(6,.ptr 2 0),(7,aF (bJ rs)),(8,.ptr 3 0),(9,boo op),(10,i64 (k:Int))],⟨5,(0,.cells [bD rs] true)::(1,.cells [aO] true)::(2,.cells [aO] true)::(3,.cells [fB 4 2 o] true)::gA 4 bq o⟩⟩
set_option maxHeartbeats 8000000 in
theorem CI {rs:List Rng}(hr:rs.length<=40):Pu Tryz.prog 281 [jd rs,.agg [aO],i64 1] (fJ (fx rs)):=by
 have hcl:=oO rs;have hc1:=G6 hr;have hl1:=jU rs [];simp only[List.length_nil] at hl1;have hc2:Pu Tryz.prog 351 [aF (bB [] rs),.agg [aO]] (aF (bJ rs)):=G7 om (jV rs [] List.Pairwise.nil);have hend:fx rs=cmb (λc=>bM rs c) [] false (bJ rs):=rfl;refine pv Tryz.func281 ?_;repeat' ((conv=>whnf);first|exact kQ|(refine bk ?_ ?_<;>intro _<;>try(exfalso;omega))|refine stq ?_|refine cp hc1 ?_|refine cp hc2 ?_|refine Chk.mk (λh=>absurd (List.cons.inj h).1 GG) ?_)
 refine aH.by3 aA T0 (cmF rs) (λk op o=>(k<=(bJ rs).length∧o.length<=k)∧(op=true->o≠[])∧cmb (λc=>bM rs c) [] false (bJ rs)=cmb (λc=>bM rs c) o op ((bJ rs).drop k)) (λk _ _=>(bJ rs).length-k) 0 false [] ⟨⟨by omega,by simp⟩,λh=>Bool.noConfusion h,rfl⟩ ?_ ?_
 ·exact lq [(0,_),(1,_),(2,_),(3,_)] []
 intro k op o ⟨⟨h3,h5⟩,h9,h8⟩;by_cases hk:k<(bJ rs).length
 ·have hd:(bJ rs).drop k=(bJ rs)[k]::(bJ rs).drop (k+1):=kK hk;have hb1:=xQ (kM hk);by_cases hk1:k+1<(bJ rs).length
  ·have hb2:=xQ (kM hk1);have hd2:(bJ rs).drop (k+1)=(bJ rs)[k+1]::(bJ rs).drop (k+1+1):=kK hk1;have hi:(bJ rs)[k+1]-1=GI ((bJ rs).drop (k+1)):=by rw[hd2];rfl
   cases hb:bM rs (bJ rs)[k] with
   | false=>
    have hH:Pu Tryz.prog 287 [jd rs,i64 (bJ rs)[k]] (boo false):=hb▸rn om;have hK:Pu Tryz.prog 352 [i64 1,boo false,boo false] (boo false):=pX;cases o with
    | nil=>
     repeat' ((conv=>whnf);first|refine Idx.at (k+1) om om ?_|exact kQ|(refine bk ?_ ?_<;>intro _<;>try(exfalso;omega))|refine stq ?_|refine cp hH ?_|refine cp iP ?_|refine cp hK ?_|refine Chk.mk (λh=>absurd (List.cons.inj h).1 fT) ?_|fail)
     all_goals(conv=>whnf)
     refine⟨k+1,false,[],⟨⟨by omega,by simp⟩,λh=>Bool.noConfusion h,by rw[h8,hd,ul hb]⟩,by omega,?_⟩;exact lq [(0,_),(1,_),(2,_),(3,_)] []
    | cons x xs=>
     repeat' ((conv=>whnf);first|refine Idx.at (k+1) om om ?_|exact kQ|(refine bk ?_ ?_<;>intro _<;>try(exfalso;omega))|refine stq ?_|refine cp hH ?_|refine cp iP ?_|refine cp hK ?_|refine Chk.mk (λh=>absurd (List.cons.inj h).1 fT) ?_|fail)
     all_goals(conv=>whnf)
     refine⟨k+1,false,x::xs,⟨⟨by omega,by omega⟩,λh=>Bool.noConfusion h,by rw[h8,hd,ul hb]⟩,by omega,?_⟩;exact lq [(0,_),(1,_),(2,_),(3,_),(4,_)] []
   | true=>
    have hH:Pu Tryz.prog 287 [jd rs,i64 (bJ rs)[k]] (boo true):=hb▸rn om;have hK:Pu Tryz.prog 352 [i64 1,boo true,boo false] (boo true):=pX;cases op with
    | false=>
     cases o with
     | nil=>
      repeat' ((conv=>whnf);first|refine Idx.at (k+1) om om ?_|exact kQ|(refine bk ?_ ?_<;>intro _<;>try(exfalso;omega))|refine stq ?_|refine cp hH ?_|refine cp iP ?_|refine cp hK ?_|refine Chk.mk (λh=>absurd (List.cons.inj h).1 fT) ?_|refine aX.by (id:=14) aA T0 [0,1,0,0,12,28,0,124,252,511,1023,2047] (by kernel_rfl) ?_|fail)
      all_goals(conv=>whnf)
      refine⟨k+1,true,[⟨(bJ rs)[k],(bJ rs)[k+1]-1⟩],⟨⟨by omega,by simp⟩,λ_=>by simp,by rw[h8,hd,pd hb hi];rfl⟩,by omega,?_⟩;exact lq [(0,_),(1,_),(2,_),(3,_),(4,_)] []
     | cons x xs=>
      have hlen:(x::xs).length<=100:=by omega
      repeat' ((conv=>whnf);first|refine Idx.at (k+1) om om ?_|exact kQ|(refine bk ?_ ?_<;>intro _<;>try(exfalso;omega))|refine stq ?_|refine cp hH ?_|refine cp iP ?_|refine cp hK ?_|refine Chk.mk (λh=>absurd (List.cons.inj h).1 fT) ?_|refine aX.by (id:=14) aA T0 [0,1,0,0,12,28,0,124,252,511,1023,2047] (by kernel_rfl) ?_|fail)
      all_goals(conv=>whnf)
      refine⟨k+1,true,(x::xs)++[⟨(bJ rs)[k],(bJ rs)[k+1]-1⟩],⟨⟨by omega,by rw[kG];simp only[List.length_singleton];omega⟩,λ_=>by simp,by rw[h8,hd,pd hb hi]⟩,by omega,?_⟩;exact lq [(0,_),(1,_),(2,_),(3,_),(4,_)] []
    | true=>
     cases o with
     | nil=>exact absurd rfl (h9 rfl)
     | cons x xs=>
      have hpos:0<(x::xs).length:=by simp
      have hlen:(x::xs).length<=100:=by omega
      repeat' ((conv=>whnf);first|refine Idx.at (k+1) om om ?_|exact kQ|(refine bk ?_ ?_<;>intro _<;>try(exfalso;omega))|refine stq ?_|refine cp hH ?_|refine cp iP ?_|refine cp hK ?_|refine Chk.mk (λh=>absurd (List.cons.inj h).1 fT) ?_|refine cA.at ((x::xs).length-1) om om ?_|refine Put.flat1 aa ((x::xs).length-1) 1 ⟨((x::xs)[(x::xs).length-1]'(by omega)).lo,(bJ rs)[k+1]-1⟩ (by dsimp only;omega) om om rfl ?_|fail)
      all_goals(conv=>whnf)
      have hj:=xV (p:=λc=>bM rs c) (l:=(bJ rs).drop (k+1)) hb hi hpos;obtain⟨y',ys',he⟩:=iW x xs ((x::xs).length-1) ⟨((x::xs)[(x::xs).length-1]'(by omega)).lo,(bJ rs)[k+1]-1⟩;have hle':(y' :: ys').length=(x::xs).length:=by rw[<-he];simp
      refine⟨k+1,true,y' :: ys',⟨⟨by omega,by omega⟩,λ_=>by simp,by rw[h8,hd,hj,he]⟩,by omega,?_⟩;exact lq [(0,_),(1,_),(2,_),(3,_),(4,_)] []
  ·have hi:(1114111:Int)=GI ((bJ rs).drop (k+1)):=by rw[List.drop_of_length_le om];rfl
   cases hb:bM rs (bJ rs)[k] with
   | false=>
    have hH:Pu Tryz.prog 287 [jd rs,i64 (bJ rs)[k]] (boo false):=hb▸rn om;have hK:Pu Tryz.prog 352 [i64 1,boo false,boo false] (boo false):=pX;cases o with
    | nil=>
     repeat' ((conv=>whnf);first|refine Idx.at (k+1) om om ?_|exact kQ|(refine bk ?_ ?_<;>intro _<;>try(exfalso;omega))|refine stq ?_|refine cp hH ?_|refine cp iP ?_|refine cp hK ?_|refine Chk.mk (λh=>absurd (List.cons.inj h).1 fT) ?_|fail)
     all_goals(conv=>whnf)
     refine⟨k+1,false,[],⟨⟨by omega,by simp⟩,λh=>Bool.noConfusion h,by rw[h8,hd,ul hb]⟩,by omega,?_⟩;exact lq [(0,_),(1,_),(2,_),(3,_)] []
    | cons x xs=>
     repeat' ((conv=>whnf);first|refine Idx.at (k+1) om om ?_|exact kQ|(refine bk ?_ ?_<;>intro _<;>try(exfalso;omega))|refine stq ?_|refine cp hH ?_|refine cp iP ?_|refine cp hK ?_|refine Chk.mk (λh=>absurd (List.cons.inj h).1 fT) ?_|fail)
     all_goals(conv=>whnf)
     refine⟨k+1,false,x::xs,⟨⟨by omega,by omega⟩,λh=>Bool.noConfusion h,by rw[h8,hd,ul hb]⟩,by omega,?_⟩;exact lq [(0,_),(1,_),(2,_),(3,_),(4,_)] []
   | true=>
    have hH:Pu Tryz.prog 287 [jd rs,i64 (bJ rs)[k]] (boo true):=hb▸rn om;have hK:Pu Tryz.prog 352 [i64 1,boo true,boo false] (boo true):=pX;cases op with
    | false=>
     cases o with
     | nil=>
      repeat' ((conv=>whnf);first|refine Idx.at (k+1) om om ?_|exact kQ|(refine bk ?_ ?_<;>intro _<;>try(exfalso;omega))|refine stq ?_|refine cp hH ?_|refine cp iP ?_|refine cp hK ?_|refine Chk.mk (λh=>absurd (List.cons.inj h).1 fT) ?_|refine aX.by (id:=14) aA T0 [0,1,0,0,12,28,0,124,252,511,1023,2047] (by kernel_rfl) ?_|fail)
      all_goals(conv=>whnf)
      refine⟨k+1,true,[⟨(bJ rs)[k],1114111⟩],⟨⟨by omega,by simp⟩,λ_=>by simp,by rw[h8,hd,pd hb hi];rfl⟩,by omega,?_⟩;exact lq [(0,_),(1,_),(2,_),(3,_),(4,_)] []
     | cons x xs=>
      have hlen:(x::xs).length<=100:=by omega
      repeat' ((conv=>whnf);first|refine Idx.at (k+1) om om ?_|exact kQ|(refine bk ?_ ?_<;>intro _<;>try(exfalso;omega))|refine stq ?_|refine cp hH ?_|refine cp iP ?_|refine cp hK ?_|refine Chk.mk (λh=>absurd (List.cons.inj h).1 fT) ?_|refine aX.by (id:=14) aA T0 [0,1,0,0,12,28,0,124,252,511,1023,2047] (by kernel_rfl) ?_|fail)
      all_goals(conv=>whnf)
      refine⟨k+1,true,(x::xs)++[⟨(bJ rs)[k],1114111⟩],⟨⟨by omega,by rw[kG];simp only[List.length_singleton];omega⟩,λ_=>by simp,by rw[h8,hd,pd hb hi]⟩,by omega,?_⟩;exact lq [(0,_),(1,_),(2,_),(3,_),(4,_)] []
    | true=>
     cases o with
     | nil=>exact absurd rfl (h9 rfl)
     | cons x xs=>
      have hpos:0<(x::xs).length:=by simp
      have hlen:(x::xs).length<=100:=by omega
      repeat' ((conv=>whnf);first|refine Idx.at (k+1) om om ?_|exact kQ|(refine bk ?_ ?_<;>intro _<;>try(exfalso;omega))|refine stq ?_|refine cp hH ?_|refine cp iP ?_|refine cp hK ?_|refine Chk.mk (λh=>absurd (List.cons.inj h).1 fT) ?_|refine cA.at ((x::xs).length-1) om om ?_|refine Put.flat1 aa ((x::xs).length-1) 1 ⟨((x::xs)[(x::xs).length-1]'(by omega)).lo,1114111⟩ (by dsimp only;omega) om om rfl ?_|fail)
      all_goals(conv=>whnf)
      have hj:=xV (p:=λc=>bM rs c) (l:=(bJ rs).drop (k+1)) hb hi hpos;obtain⟨y',ys',he⟩:=iW x xs ((x::xs).length-1) ⟨((x::xs)[(x::xs).length-1]'(by omega)).lo,1114111⟩;have hle':(y' :: ys').length=(x::xs).length:=by rw[<-he];simp
      refine⟨k+1,true,y' :: ys',⟨⟨by omega,by omega⟩,λ_=>by simp,by rw[h8,hd,hj,he]⟩,by omega,?_⟩;exact lq [(0,_),(1,_),(2,_),(3,_),(4,_)] []
 ·have he:fx rs=o:=by rw[hend,h8,List.drop_of_length_le om];rfl
  rw[he];cases o with
  | nil=>
   repeat' ((conv=>whnf);first|exact kQ|(refine bk ?_ ?_<;>intro _<;>try(exfalso;omega))|refine stq ?_)
   all_goals(conv=>whnf)
   exact⟨.agg (.cons .nil .nil)⟩
  | cons y ys=>
   repeat' ((conv=>whnf);first|exact kQ|(refine bk ?_ ?_<;>intro _<;>try(exfalso;omega))|refine stq ?_)
   all_goals(conv=>whnf)
   exact⟨.agg (.cons (Rd.frzL aa aU rfl rfl rfl rfl rfl) .nil)⟩
end Go.Proofs.YtihggclfifimoaaGreatDoor
