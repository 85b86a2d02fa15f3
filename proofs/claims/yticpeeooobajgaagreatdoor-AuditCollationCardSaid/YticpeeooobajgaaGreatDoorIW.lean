/-
  Contracts over data: sortkey.Key.
-/
import Derived.Test.YticpeeooobajgaaGreatDoorIN
import Derived.Test.YticpeeooobajgaaGreatDoorIF
import Derived.Test.YticpeeooobajgaaGreatDoorIJ
set_option linter.unusedSectionVars false
namespace Go.Proofs.YticpeeooobajgaaGreatDoor
open Go Go.Am Classical
set_option maxRecDepth 100000
set_option linter.unusedVariables false
theorem xIW.rdX {p:Prop}(h:p:=by first|exact Rd.frzp rfl rfl (Rds.same (b8 n))|exact Rd.frzp rfl rfl (Rds.same rfl)|exact Rd.same (vS n)|exact Rd.same rfl|exact Rd.sl' rfl lnA lnA|fail):p:=h
theorem xIW.rbX {p:Prop}(h:p:=by first|exact Rb.cells (Rds.eqs (appF (x::xs) _ _) (aC (by intro _;rfl) _)) rfl|exact Rb.cells (Rds.eqs (ib (x::xs) [0]) (aC (by intro _;rfl) _)) rfl|exact Rb.cells (Rds.eqs (ib [0] _) (aC (by intro _;rfl) _)) rfl|exact Rb.cells (Rds.eqs (ib (x::xs) [s[j]+1]) (aC (by intro _;rfl) _)) rfl|exact Rb.cells (Rds.eqs (by first|(rw[hg];rfl;done)|fail) (aC (by intro _;rfl) _)) rfl|exact Rb.cells (Rds.eqs (by first|(rw[hg];exact(spl0 _ _).trans (ib (x::xs) [0]);done)|fail) (aC (by intro _;rfl) _)) rfl|exact Rb.cells (Rds.eqs (by first|(rw[hg];exact(aD _).symm;done)|fail) (aC (by intro _;rfl) _)) rfl|fail):p:=h
open xIW
theorem optE_E (o:Opt):fv (fv o)=fv o:=if_pos (ed o)
theorem zW (o:Opt) (es:List Elm):dX (fv o) es=dX o es:=by unfold dX oD;rw[optE_E]
theorem tw (a:List Int):∀ l:List (List Int),jn0 (l++[a])=if l=[] then a else jn0 l++0::a
 | []=>rfl
 | [b]=>rfl
 | b::d::l=>by
  have ih:=tw a (d::l);rw[if_neg si] at ih ⊢;show b++0::jn0 ((d::l)++[a])=(b++0::jn0 (d::l))++0::a;rw[ih];simp
theorem w9 {B:Nat}:∀ l:List (List Int),(∀ a∈l,a.length<=B)->(jn0 l).length<=l.length*(B+1)
 | [],_=>by simp[jn0]
 | [a],h=>by have:=h a si;simp only[jn0,kO,List.length_nil];omega
 | a::b::l,h=>by
  have h1:=h a si;have h2:=w9 (b::l) (λx hx=>h x (List.mem_cons_of_mem _ hx))
  have e:(jn0 (a::b::l)).length=a.length+(1+(jn0 (b::l)).length):=by
   show(a++0::jn0 (b::l)).length=_;simp only[kG,kO];omega
  have e2:(a::b::l).length*(B+1)=(b::l).length*(B+1)+(B+1):=by
   rw[show(a::b::l).length=(b::l).length+1 from rfl,Nat.add_mul,Nat.one_mul]
  omega
theorem jW {B:Nat}{l:List (List Int)}(h:∀ a∈l,a.length<=B) (h4:l.length<=4):(jn0 l).length<=4*(B+1):=Nat.le_trans (w9 l h) (Nat.mul_le_mul_right _ h4)
theorem pB {ls:List (List Int)}{i:Nat}(h:i<ls.length):jn0 (ls.take (i+1))=if i=0 then ls[i] else jn0 (ls.take i)++0::ls[i]:=by
 rw[List.take_succ_eq_append_getElem h,tw];by_cases h0:i=0
 ·subst h0;rw[if_pos rfl,if_pos si]
 ·rw[if_neg h0,if_neg (by intro e;have:=congrArg List.length e;rw[List.length_take,List.length_nil] at this;omega)]
def idn (s:List Int):List Int:=(s.filter λc=>decide (0<=c∧c<=1114111)).map (· + 1)
theorem t7 {s:List Int}{j:Nat}(h:j<s.length):idn (s.take (j+1))=idn (s.take j)++if 0<=s[j]∧s[j]<=1114111 then [s[j]+1] else []:=by
 unfold idn;rw[List.take_succ_eq_append_getElem h,List.filter_append,List.map_append];congr 1;by_cases hc:0<=s[j]∧s[j]<=1114111
 ·rw[if_pos hc,List.filter_cons_of_pos (by simpa using hc)];rfl
 ·rw[if_neg hc,List.filter_cons_of_neg (by simpa using hc)];rfl
theorem rx (s:List Int):(idn s).length<=s.length:=by
 unfold idn;rw[List.length_map];exact List.length_filter_le _ _
theorem xI {g:List Int->(Nat×List Elm×Bool)×List Int}(hg:∀ s,(g s).1.2.1.length<=16):∀ (f:Nat) (s:List Int),(elF g f s).length<=16*f
 | 0,s=>by simp[elF]
 | f+1,s=>by
  simp only[elF];split
  ·simp
  ·have h1:=hg s;have h2:=xI hg f ((g s).2.drop (g s).1.1);simp only[kG];omega
theorem iV {c:Col}{n':Nm}{s:List Int}:(cF c n' s).length<=16*s.length:=by
 unfold cF;exact xI (λs=>wi rr.2.1) _ _
theorem xr {n n':Nm}{k:Bool}{t:List Int}(hN:i5 n n'):bY n' k (bY n' k t)=bY n' k t:=by
 have hI:=Aw (qv hN.g.v k);have h:NK (aK n'.cl) (λ_ _=>none) (j5 (once n' k)):={ zero:=λe=>(nomatch e),pos:=hN.g.v.cls_pos,join:=λe=>(nomatch e),irr:=λc e he=>hI.none (hI.irr (qv hN.g.v k) c e he) };exact Cs h t
theorem Az {c:Col}{x:Int}:∀ e∈qI (dZ c) x,tG e:=by
 have hb:=qz (c:=c);intro e he;unfold qI at he;split at he
 ·rename_i hx;simp only[kH,List.not_mem_nil,or_false] at he;rcases he with rfl|rfl
  ·refine⟨⟨?_,?_⟩,⟨?_,?_⟩,?_,?_⟩<;>simp only<;>omega
  ·refine⟨⟨?_,?_⟩,⟨?_,?_⟩,?_,?_⟩<;>simp only<;>omega
 ·simp at he
theorem lC {c:Col}{n':Nm}{s:List Int}:∀ e∈cF c n' s,tG e:=by
 unfold cF;exact xJ (λs=>CS (λq hq e he=>A8 (rr.2.2 q hq e he)) (λx=>Az)) _ _
noncomputable def d6 (c:Col) (n':Nm) (o:Opt) (t:List Int):List Int:=jn0 (dX o (cF c n' (bY n' false t)))++if(fv o).id=true then 0::idn (bY n' false t) else []
theorem iH {o:Opt}{es:List Elm}{N:Nat}(h:es.length<=N):∀ a∈dX o es,a.length<=N:=by
 intro a ha;have:=List.mem_of_mem_take ha
 rw[List.mem_map] at this;obtain⟨j,_,rfl⟩:=this;exact Nat.le_trans xq h
theorem fH {c:Col}{n':Nm}{o:Opt}{t:List Int}(hT:(bY n' false t).length<=6000):(d6 c n' o t).length<=500000:=by
 have h1:=iV (c:=c) (n':=n') (s:=bY n' false t);have h2:=jW (iH (o:=o) (N:=96000) (by omega:(cF c n' (bY n' false t)).length<=96000)) (by rw[eX];have:=(ed o).1;omega);have h3:=rx (bY n' false t);unfold d6;rw[kG];split
 ·simp only[kO];omega
 ·simp only[List.length_nil];omega
theorem ib (l t:List Int):((l.flatMap cI).drop 0).take (l.length*1)++t.map i64=(l++t).flatMap cI:=by
 rw[List.drop_zero,kE (by rw[aD,List.length_map];omega),List.flatMap_append];congr 1;exact(aD t).symm
theorem appF (l t:List Int) (w:Int):(((((l.flatMap cI).drop 0).take (l.length*1)++[i64 w]).drop 0).take ((l.length+1)*1))++t.map i64=(l++w::t).flatMap cI:=by
 rw[show [i64 w]=[w].map i64 from rfl,ib,show l.length+1=(l++[w]).length by simp];rw[ib,List.append_assoc];rfl
theorem lnA {p:Prop}(h:p:=by first|omega|(simp only[kG,kO,List.length_nil];omega)|(simp;done)|(simp;omega)|fail):p:=h
theorem spl0 (l:List D) (k:Nat):splice l k []=l:=by unfold splice;simp
theorem cn {A B:List D}{n:Nat}(hA:n<=A.length) (hB:1<=B.length):0+(n+1)*1<=(A++B).length:=by rw[kG];omega
theorem cj {A B:List D}{n:Nat}(hA:n<=A.length) (hB:1<=B.length):(n+1)*1<=(A++B).length:=by rw[kG];omega
theorem z7 {n:Nat}{x:Int}{xs:List Int}{rest:List (Nat×Box)}:aI ⟨n,(0,.cells ((x::xs).flatMap cI) false)::rest⟩ (.sl 0 0 (x::xs).length (x::xs).length 1 false) (aE (x::xs)):=
 ⟨Rd.frz (bx:=false) rfl rfl (by rw[aD,List.length_map];omega) (Rds.eqs (by rw[aD,List.drop_zero,kE si]) (aN (λ_=>rfl) _))⟩
theorem vS (n:Nm):aL (.iptr (nmC n))=true:=b8 n
abbrev kyT (n:Nm) (E:Opt) (ls:List (List Int)) (t:List Int) (i:Nat) (acc:List Int):St:=⟨tmp 65 [(3,aE t),(4,.iptr (nmC n)),(6,.iptr (gm E)),(9,bG 0 1 acc),(21,xB ls),(22,i64 (ls.length:Int)),(23,i64 (i:Int))],⟨1,bJ 0 cI acc⟩⟩
abbrev kyU (s:List Int) (j:Nat) (acc:List Int):St:=⟨tmp 65 [(9,bG 0 1 acc),(46,aE s),(47,i64 (s.length:Int)),(48,i64 (j:Int))],⟨1,bJ 0 cI acc⟩⟩
set_option maxHeartbeats 4000000 in
theorem Aq {c:Col}{n n':Nm}{o:Opt}{t:List Int}(hc:c.ok) (hN:i5 n n') (ht:t.length<=1500) (hT:(bY n' false t).length<=6000):Pu Tryz.prog 17 [nmD n,qL c,ob o,aE t] (aE (d6 c n' o t)):=by
 have he:=nR (o:=o);have hE:=pQ hc hN ht;have hl1:=iV (c:=c) (n':=n') (s:=bY n' false t);have hW:=qT (o:=fv o) (es:=cF c n' (bY n' false t)) om;rw[zW] at hW;have hX:=ux (k:=false) hN ht;have hst:=(ed o).1;have hl4:=eX (o:=o) (es:=cF c n' (bY n' false t));have hla:=iH (o:=o) (N:=96000) (by omega:(cF c n' (bY n' false t)).length<=96000);unfold d6;generalize dX o (cF c n' (bY n' false t))=ls at *;generalize cF c n' (bY n' false t)=es at *;generalize bY n' false t=s at *;generalize fv o=E at *;obtain⟨st,vr,bw,id⟩:=E;generalize hR:jn0 ls++_=R;refine Pu.of_v aA T0 Tryz.func17 rfl rfl (aQ (eP n) (aQ (c7 c) (aQ rfl (aQ (aG _) rfl)))) ?_;repeat' ((conv=>whnf);first|exact kQ|(refine bk ?_ ?_<;>intro _<;>try(exfalso;omega))|refine stq ?_|refine cp he ?_|refine cp hE ?_|refine cp hW ?_|refine ab.by (id:=3) aA T0 [0,0,0,7,0,31,63,0] (by kernel_rfl) ?_|fail)
 refine aH.by2 aA T0 (λ(i:Nat) (acc:List Int)=>kyT n ⟨st,vr,bw,id⟩ ls t i acc) (λi acc=>i<=ls.length∧acc=jn0 (ls.take i)) (λi _=>ls.length-i) 0 [] ⟨by omega,rfl⟩ ?_ ?_
 ·exact lq [] [0,2]
 intro i acc ⟨h1,h2⟩
 have hal:acc.length<=400000:=by
  rw[h2];have:=jW (l:=ls.take i) (B:=96000) (λa ha=>hla a (List.mem_of_mem_take ha)) (by simp;omega)
  omega
 by_cases hi:i<ls.length
 ·have h3:=pB hi;have hll:=hla ls[i] (kM hi);by_cases h0:i=0
  ·subst h0;have h2:acc=[]:=h2;subst h2;rw[if_pos rfl] at h3;cases hg:ls[0] with
   | nil=>
    have hlen:ls[0].length=0:=by rw[hg];rfl
    rw[hg] at h3;repeat' ((conv=>whnf);first|exact kQ|(refine bk ?_ ?_<;>intro _<;>try(exfalso;omega))|refine stq ?_|refine ad.lst ?_|refine Chk.mk (aM (λ_=>rfl) _) ?_|refine Chk.growX 8 1 rfl rfl om om (by first|(simp;done)|exact kD rfl|exact cj (by simp[aD]) (by exact kD rfl)) ?_|refine Chk.room 8 rfl om om ?_|refine Chk.mk (by rw[hlen];first|exact kD rfl|exact cn (by simp[aD]) (by exact kD rfl)) ?_|fail)
    all_goals(conv=>whnf)
    refine⟨0+1,[],⟨by omega,h3.symm⟩,by omega,?_⟩;exact lq0
   | cons y ys=>
    have hv1:(y::ys).length=ys.length+1:=rfl;have hlen:ls[0].length=ys.length+1:=by rw[hg];rfl
    rw[hg] at h3;repeat' ((conv=>whnf);first|exact kQ|(refine bk ?_ ?_<;>intro _<;>try(exfalso;omega))|refine stq ?_|refine ad.lst ?_|refine Chk.mk (aM (λ_=>rfl) _) ?_|refine Chk.growX 8 1 rfl rfl om om (by first|(simp;done)|exact kD rfl|exact cj (by simp[aD]) (by exact kD rfl)) ?_|refine Chk.room 8 rfl om om ?_|refine Chk.mk (by rw[hlen];first|exact kD rfl|exact cn (by simp[aD]) (by exact kD rfl)) ?_|fail)
    all_goals(conv=>whnf)
    refine⟨0+1,(y::ys),⟨by omega,h3.symm⟩,by omega,?_⟩;exact lq [(0,11)] []
  ·rw[if_neg h0,<-h2] at h3;cases acc with
   | nil=>
    cases hg:ls[i] with
    | nil=>
     have hlen:ls[i].length=0:=by rw[hg];rfl
     rw[hg] at h3;repeat' ((conv=>whnf);first|exact kQ|(refine bk ?_ ?_<;>intro _<;>try(exfalso;omega))|refine stq ?_|refine ad.lst ?_|refine Chk.mk (aM (λ_=>rfl) _) ?_|refine Chk.growX 8 1 rfl rfl om om (by first|(simp;done)|exact kD rfl|exact cj (by simp[aD]) (by exact kD rfl)) ?_|refine Chk.room 8 rfl om om ?_|refine Chk.mk (by rw[hlen];first|exact kD rfl|exact cn (by simp[aD]) (by exact kD rfl)) ?_|fail)
     all_goals(conv=>whnf)
     refine⟨i+1,[]++0::[],⟨by omega,h3.symm⟩,by omega,?_⟩;exact lq [(0,11)] []
    | cons y ys=>
     have hv1:(y::ys).length=ys.length+1:=rfl;have hlen:ls[i].length=ys.length+1:=by rw[hg];rfl
     repeat' ((conv=>whnf);first|exact kQ|(refine bk ?_ ?_<;>intro _<;>try(exfalso;omega))|refine stq ?_|refine ad.lst ?_|refine Chk.mk (aM (λ_=>rfl) _) ?_|refine Chk.growX 8 1 rfl rfl om om (by first|(simp;done)|exact kD rfl|exact cj (by simp[aD]) (by exact kD rfl)) ?_|refine Chk.room 8 rfl om om ?_|refine Chk.mk (by rw[hlen];first|exact kD rfl|exact cn (by simp[aD]) (by exact kD rfl)) ?_|fail)
     all_goals(conv=>whnf)
     refine⟨i+1,[]++0::ls[i],⟨by omega,h3.symm⟩,by omega,?_⟩;exact lq [(0,15)] []
   | cons x xs=>
    cases hg:ls[i] with
    | nil=>
     have hx1:(x::xs).length=xs.length+1:=rfl;have hlen:ls[i].length=0:=by rw[hg];rfl
     rw[hg] at h3;repeat' ((conv=>whnf);first|exact kQ|(refine bk ?_ ?_<;>intro _<;>try(exfalso;omega))|refine stq ?_|refine ad.lst ?_|refine Chk.mk (aM (λ_=>rfl) _) ?_|refine Chk.growX 8 1 rfl rfl om om (by first|(simp;done)|exact kD rfl|exact cj (by simp[aD]) (by exact kD rfl)) ?_|refine Chk.room 8 rfl om om ?_|refine Chk.mk (by rw[hlen];first|exact kD rfl|exact cn (by simp[aD]) (by exact kD rfl)) ?_|fail)
     all_goals(conv=>whnf)
     refine⟨i+1,(x::xs)++0::[],⟨by omega,h3.symm⟩,by omega,?_⟩;exact lq [(0,11)] []
    | cons y ys=>
     have hx1:(x::xs).length=xs.length+1:=rfl;have hv1:(y::ys).length=ys.length+1:=rfl;have hlen:ls[i].length=ys.length+1:=by rw[hg];rfl
     repeat' ((conv=>whnf);first|exact kQ|(refine bk ?_ ?_<;>intro _<;>try(exfalso;omega))|refine stq ?_|refine ad.lst ?_|refine Chk.mk (aM (λ_=>rfl) _) ?_|refine Chk.growX 8 1 rfl rfl om om (by first|(simp;done)|exact kD rfl|exact cj (by simp[aD]) (by exact kD rfl)) ?_|refine Chk.room 8 rfl om om ?_|refine Chk.mk (by rw[hlen];first|exact kD rfl|exact cn (by simp[aD]) (by exact kD rfl)) ?_|fail)
     all_goals(conv=>whnf)
     refine⟨i+1,(x::xs)++0::ls[i],⟨by omega,h3.symm⟩,by omega,?_⟩;exact lq [(0,15)] []
 ·obtain rfl:i=ls.length:=by omega
  rw[List.take_length] at h2;cases id with
  | false=>
   have hR2:R=acc:=by rw[<-hR,h2];simp
   cases acc with
   | nil=>
    repeat' ((conv=>whnf);first|exact kQ|(refine bk ?_ ?_<;>intro _<;>try(exfalso;omega))|refine stq ?_|fail)
    all_goals(conv=>whnf)
    rw[hR2];exact⟨.nil⟩
   | cons x xs=>
    repeat' ((conv=>whnf);first|exact kQ|(refine bk ?_ ?_<;>intro _<;>try(exfalso;omega))|refine stq ?_|fail)
    all_goals(conv=>whnf)
    rw[hR2];exact z7
  | true=>
   have hR2:R=jn0 ls++0::idn s:=by rw[<-hR];simp
   cases acc with
   | nil=>
    repeat' ((conv=>whnf);first|exact kQ|(refine bk ?_ ?_<;>intro _<;>try(exfalso;omega))|refine stq ?_|refine cp hX ?_|fail)
    all_goals(conv=>whnf)
    refine aH.by2 aA T0 (λ(j:Nat) (q:List Int)=>kyU s j q) (λj q=>(j<=s.length∧q≠[])∧q=jn0 ls++0::idn (s.take j)) (λj _=>s.length-j) 0 [0] ⟨⟨by omega,by simp⟩,by rw[<-h2];rfl⟩ ?_ ?_
    ·exact lq [(0,7)] []
    intro j q ⟨⟨g1,g2⟩,g3⟩
    have gl:q.length<=500000:=by
     have e1:=congrArg List.length g3;have e2:=rx (s.take j);rw[kG,kO,<-h2] at e1;have e3:(s.take j).length<=s.length:=by rw[List.length_take];omega
     omega
    obtain⟨x,xs,rfl⟩:=List.exists_cons_of_ne_nil g2;have gx:(x::xs).length=xs.length+1:=rfl;by_cases hj:j<s.length
    ·have g4:=t7 hj;by_cases hc:0<=s[j]∧s[j]<=1114111
     ·rw[if_pos hc] at g4;repeat' ((conv=>whnf);first|exact kQ|(refine bk ?_ ?_<;>intro _<;>try(exfalso;omega))|refine stq ?_|refine ad.lst ?_|refine Chk.mk (aM (λ_=>rfl) _) ?_|refine Chk.growX 8 1 rfl rfl om om (by first|(simp;done)|exact kD rfl|exact cj (by simp[aD]) (by exact kD rfl)) ?_|refine Chk.room 8 rfl om om ?_|refine Chk.mk (by rw[hlen];first|exact kD rfl|exact cn (by simp[aD]) (by exact kD rfl)) ?_|fail)
      all_goals(conv=>whnf)
      refine⟨j+1,(x::xs)++[s[j]+1],⟨⟨by omega,by simp⟩,by rw[g4,g3,List.append_assoc];rfl⟩,by omega,?_⟩;exact lq [(0,15)] []
     ·rw[if_neg hc,List.append_nil] at g4;repeat' ((conv=>whnf);first|exact kQ|(refine bk ?_ ?_<;>intro _<;>try(exfalso;omega))|refine stq ?_|refine ad.lst ?_|refine Chk.mk (aM (λ_=>rfl) _) ?_|refine Chk.growX 8 1 rfl rfl om om (by first|(simp;done)|exact kD rfl|exact cj (by simp[aD]) (by exact kD rfl)) ?_|refine Chk.room 8 rfl om om ?_|refine Chk.mk (by rw[hlen];first|exact kD rfl|exact cn (by simp[aD]) (by exact kD rfl)) ?_|fail)
      all_goals(conv=>whnf)
      all_goals
       refine⟨j+1,x::xs,⟨⟨by omega,by simp⟩,by rw[g3,g4]⟩,by omega,?_⟩;exact lq [(0,0)] []
    ·obtain rfl:j=s.length:=by omega
     rw[List.take_length] at g3;repeat' ((conv=>whnf);first|exact kQ|(refine bk ?_ ?_<;>intro _<;>try(exfalso;omega))|refine stq ?_|fail)
     all_goals(conv=>whnf)
     rw[hR2,<-g3];exact z7
   | cons x xs=>
    repeat' ((conv=>whnf);first|exact kQ|(refine bk ?_ ?_<;>intro _<;>try(exfalso;omega))|refine stq ?_|refine cp hX ?_|refine ad.lst ?_|refine Chk.mk (aM (λ_=>rfl) _) ?_|refine Chk.growX 8 1 rfl rfl om om (by first|(simp;done)|exact kD rfl|exact cj (by simp[aD]) (by exact kD rfl)) ?_|refine Chk.room 8 rfl om om ?_|refine Chk.mk (by rw[hlen];first|exact kD rfl|exact cn (by simp[aD]) (by exact kD rfl)) ?_|fail)
    all_goals(conv=>whnf)
    refine aH.by2 aA T0 (λ(j:Nat) (q:List Int)=>kyU s j q) (λj q=>(j<=s.length∧q≠[])∧q=jn0 ls++0::idn (s.take j)) (λj _=>s.length-j) 0 ((x::xs)++[0]) ⟨⟨by omega,by simp⟩,by rw[h2];rfl⟩ ?_ ?_
    ·exact lq [(0,7)] []
    intro j q ⟨⟨g1,g2⟩,g3⟩
    have gl:q.length<=500000:=by
     have e1:=congrArg List.length g3;have e2:=rx (s.take j);rw[kG,kO,<-h2] at e1;have e3:(s.take j).length<=s.length:=by rw[List.length_take];omega
     omega
    obtain⟨x,xs,rfl⟩:=List.exists_cons_of_ne_nil g2;have gx:(x::xs).length=xs.length+1:=rfl;by_cases hj:j<s.length
    ·have g4:=t7 hj;by_cases hc:0<=s[j]∧s[j]<=1114111
     ·rw[if_pos hc] at g4;repeat' ((conv=>whnf);first|exact kQ|(refine bk ?_ ?_<;>intro _<;>try(exfalso;omega))|refine stq ?_|refine ad.lst ?_|refine Chk.mk (aM (λ_=>rfl) _) ?_|refine Chk.growX 8 1 rfl rfl om om (by first|(simp;done)|exact kD rfl|exact cj (by simp[aD]) (by exact kD rfl)) ?_|refine Chk.room 8 rfl om om ?_|refine Chk.mk (by rw[hlen];first|exact kD rfl|exact cn (by simp[aD]) (by exact kD rfl)) ?_|fail)
      all_goals(conv=>whnf)
      refine⟨j+1,(x::xs)++[s[j]+1],⟨⟨by omega,by simp⟩,by rw[g4,g3,List.append_assoc];rfl⟩,by omega,?_⟩;exact lq [(0,15)] []
     ·rw[if_neg hc,List.append_nil] at g4;repeat' ((conv=>whnf);first|exact kQ|(refine bk ?_ ?_<;>intro _<;>try(exfalso;omega))|refine stq ?_|refine ad.lst ?_|refine Chk.mk (aM (λ_=>rfl) _) ?_|refine Chk.growX 8 1 rfl rfl om om (by first|(simp;done)|exact kD rfl|exact cj (by simp[aD]) (by exact kD rfl)) ?_|refine Chk.room 8 rfl om om ?_|refine Chk.mk (by rw[hlen];first|exact kD rfl|exact cn (by simp[aD]) (by exact kD rfl)) ?_|fail)
      all_goals(conv=>whnf)
      all_goals
       refine⟨j+1,x::xs,⟨⟨by omega,by simp⟩,by rw[g3,g4]⟩,by omega,?_⟩;exact lq [(0,0)] []
    ·obtain rfl:j=s.length:=by omega
     rw[List.take_length] at g3;repeat' ((conv=>whnf);first|exact kQ|(refine bk ?_ ?_<;>intro _<;>try(exfalso;omega))|refine stq ?_|fail)
     all_goals(conv=>whnf)
     rw[hR2,<-g3];exact z7
end Go.Proofs.YticpeeooobajgaaGreatDoor
