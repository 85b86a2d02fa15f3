/-
  Contracts over data: keypack.Key.
-/
import Derived.Test.YticpeeooobajgaaGreatDoorIW
import Derived.Test.YticpeeooobajgaaGreatDoorIV
set_option linter.unusedSectionVars false
namespace Go.Proofs.YticpeeooobajgaaGreatDoor
open Go Go.Am Classical
set_option maxRecDepth 100000
set_option linter.unusedVariables false
theorem xIX.rdX {p:Prop}(h:p:=by first|exact Rd.same rfl|exact Rd.sl' rfl lnA lnA|exact Rd.int om|fail):p:=h
theorem xIX.rbX {p:Prop}(h:p:=by first|exact Rb.cells (Rds.eqs (appF (x::xs) _ _) (aC (by intro _;rfl) _)) rfl|exact Rb.cells (Rds.eqs (ib (x::xs) [0]) (aC (by intro _;rfl) _)) rfl|exact Rb.cells (Rds.eqs (ib [0] _) (aC (by intro _;rfl) _)) rfl|exact Rb.cells (Rds.eqs (aD _).symm (aC (by intro _;rfl) _)) rfl|exact Rb.cells (Rds.eqs (by first|(rw[hg];exact(aD _).symm;done)|fail) (aC (by intro _;rfl) _)) rfl|exact Rb.cells (Rds.eqs (by first|(rw[hg];rfl;done)|fail) (aC (by intro _;rfl) _)) rfl|exact Rb.cells (Rds.eqs (by first|(rw[hg];exact(spl0 _ _).trans (ib (x::xs) [0]);done)|fail) (aC (by intro _;rfl) _)) rfl|fail):p:=h
open xIX
def pkI (s t:Int) (i:Nat) (a:List Int):List Int:=if i=1 then pk (cmn s) 0 a else if i=2 then pk (cmn t) 0 a else a
def pkL (s t:Int) (l:List (List Int)):List (List Int):=l.mapIdx λi a=>pkI s t i a
theorem xM (m:Int):1<=cmn m∧cmn m<=65535:=by unfold cmn;split<;>omega
noncomputable def kpS (c:Col):Int×Int:=if qK c=0 then(c.s,c.t) else(32,2)
noncomputable def kpV (c:Col) (n':Nm) (o:Opt) (t:List Int):List Int:=jn0 (pkL (kpS c).1 (kpS c).2 (dX o (cF c n' (bY n' false t))))
theorem CN {s t:Int}(i:Nat) (a b:List Int):bq (pkI s t i a) (pkI s t i b)=bq a b:=by
 unfold pkI;split
 ·exact mV a b 0 om
 ·split
  ·exact mV a b 0 om
  ·rfl
theorem CK {s t:Int}(i:Nat) (a:List Int) (h:∀ x∈a,0<x):∀ x∈pkI s t i a,0<x:=by
 unfold pkI;split
 ·exact oZ (xM s).1 a 0 om h
 ·split
  ·exact oZ (xM t).1 a 0 om h
  ·exact h
theorem Cc {c:Col}{n':Nm}{o:Opt}{a b:List Int}(hid:o.id=false):bq (kpV c n' o a) (kpV c n' o b)=bq (d6 c n' o a) (d6 c n' o b):=by
 have e:(fv o).id=false:=by unfold fv;split;exact hid;rfl
 unfold kpV d6 pkL;rw[e];simp only[Bool.false_eq_true,if_false,List.append_nil];have h:=xA (f:=pkI (kpS c).1 (kpS c).2) CN CK (dX o (cF c n' (bY n' false a))) (dX o (cF c n' (bY n' false b))) 0 (by rw[eX,eX]) (λl hl x hx=>(kg lC l hl x hx).1) (λl hl x hx=>(kg lC l hl x hx).1);simpa using h
theorem CL {s t:Int}{i:Nat}{a:List Int}:(pkI s t i a).length<=2*a.length:=by
 unfold pkI;split
 ·exact Nat.le_trans (iM a 0) om
 ·split
  ·exact Nat.le_trans (iM a 0) om
  ·omega
theorem rf {s t:Int}{l:List (List Int)}{N:Nat}(h:∀ a∈l,a.length<=N):∀ a∈pkL s t l,a.length<=2*N:=by
 intro a ha;unfold pkL at ha;obtain⟨i,hi,rfl⟩:=List.getElem_of_mem ha;rw[List.getElem_mapIdx];have:=h _ (kM (by simpa using hi:i<l.length))
 exact Nat.le_trans CL om
theorem fX {s t:Int}{l:List (List Int)}:(pkL s t l).length=l.length:=by simp[pkL]
theorem wy {c:Col}{n':Nm}{o:Opt}{t:List Int}(hT:(bY n' false t).length<=6000):(kpV c n' o t).length<=1000000:=by
 have h1:=iV (c:=c) (n':=n') (s:=bY n' false t);have h2:=jW (l:=pkL (kpS c).1 (kpS c).2 (dX o (cF c n' (bY n' false t)))) (rf (iH (o:=o) (N:=96000) (by omega:(cF c n' (bY n' false t)).length<=96000))) (by rw[fX,eX];have:=(ed o).1;omega);unfold kpV;omega
abbrev kpT (ls:List (List Int)) (s t:Int) (i:Nat) (acc:List Int):St:=⟨tmp 54 [(9,i64 s),(10,i64 t),(11,bG 0 1 acc),(26,xB ls),(27,i64 (ls.length:Int)),(28,i64 (i:Int))],⟨1,bJ 0 cI acc⟩⟩
set_option maxHeartbeats 4000000 in
theorem wz {c:Col}{n n':Nm}{o:Opt}{t:List Int}(hc:c.ok) (hN:i5 n n') (ht:t.length<=1500) (hT:(bY n' false t).length<=6000):Pu Tryz.prog 23 [nmD n,qL c,ob o,aE t] (aE (kpV c n' o t)):=by
 have hE:=pQ hc hN ht;have hk:=pT hc;have hl1:=iV (c:=c) (n':=n') (s:=bY n' false t);have hW:=qT (o:=o) (es:=cF c n' (bY n' false t)) om;have hst:=(ed o).1;have hl4:=eX (o:=o) (es:=cF c n' (bY n' false t));have hla:=iH (o:=o) (N:=96000) (by omega:(cF c n' (bY n' false t)).length<=96000);have hps:=kg (o:=o) (lC (c:=c) (n':=n') (s:=bY n' false t));unfold kpV;have hS:kpS c=if qK c=0 then(c.s,c.t) else(32,2):=rfl
 generalize dX o (cF c n' (bY n' false t))=ls at *;generalize cF c n' (bY n' false t)=es at *;by_cases hce:qK c=0
 ·rw[if_pos hce] at hS;rw[hS];rw[hce] at hk;generalize hR:jn0 _=R;refine Pu.of_v aA T0 Tryz.func23 rfl rfl (aQ (eP n) (aQ (c7 c) (aQ rfl (aQ (aG _) rfl)))) ?_;repeat' ((conv=>whnf);first|exact kQ|(refine bk ?_ ?_<;>intro _<;>try(exfalso;omega))|refine stq ?_|refine cp hk ?_|refine cp hE ?_|refine cp hW ?_|refine ab.by (id:=1) aA T0 [0,1,0,4,3,31] (by kernel_rfl) ?_|refine ab.by (id:=5) aA T0 [0,0,0,7,0,31,63,0] (by kernel_rfl) ?_|fail)
  all_goals(conv=>whnf)
  generalize c.s=sc at *;generalize c.t=th at *;refine aH.by2 aA T0 (λ(i:Nat) (acc:List Int)=>kpT ls sc th i acc) (λi acc=>i<=ls.length∧acc=jn0 ((pkL sc th ls).take i)) (λi _=>ls.length-i) 0 [] ⟨by omega,rfl⟩ ?_ ?_
  ·exact lq0
  intro i acc ⟨hi0,hacc⟩
  have hal:acc.length<=800000:=by
   rw[hacc];have:=jW (l:=(pkL sc th ls).take i) (B:=192000) (λa ha=>rf hla a (List.mem_of_mem_take ha)) (by rw[List.length_take,fX];omega)
   omega
  by_cases hi:i<ls.length
  ·have h3:=pB (ls:=pkL sc th ls) (i:=i) (by rw[fX];exact hi);have hll:=hla ls[i] (kM hi);have hpg:(pkL sc th ls)[i]'(by rw[fX];exact hi)=pkI sc th i ls[i]:=by simp[pkL]
   rw[hpg] at h3;by_cases h0:i=0
   ·subst h0;have hacc:acc=[]:=hacc;subst hacc;rw[if_pos rfl,show pkI sc th 0 ls[0]=ls[0] from rfl] at h3;cases hg:ls[0] with
    | nil=>
     have hlen:ls[0].length=0:=by rw[hg];rfl
     rw[hg] at h3;repeat' ((conv=>whnf);first|exact kQ|(refine bk ?_ ?_<;>intro _<;>try(exfalso;omega))|refine stq ?_|refine ad.lst ?_|refine Chk.mk (aM (λ_=>rfl) _) ?_|refine Chk.growX 8 1 rfl rfl om om (by first|(simp;done)|exact kD rfl|exact cj (by simp[aD]) (by exact kD rfl)) ?_|refine Chk.room 8 rfl om om ?_|refine Chk.mk (by rw[hlen];first|exact kD rfl|exact cn (by simp[aD]) (by exact kD rfl)) ?_|fail)
     all_goals(conv=>whnf)
     refine⟨0+1,[],⟨by omega,h3.symm⟩,by omega,?_⟩;exact lq0
    | cons y ys=>
     have hv1:(y::ys).length=ys.length+1:=rfl;have hlen:ls[0].length=ys.length+1:=by rw[hg];rfl
     rw[hg] at h3;repeat' ((conv=>whnf);first|exact kQ|(refine bk ?_ ?_<;>intro _<;>try(exfalso;omega))|refine stq ?_|refine ad.lst ?_|refine Chk.mk (aM (λ_=>rfl) _) ?_|refine Chk.growX 8 1 rfl rfl om om (by first|(simp;done)|exact kD rfl|exact cj (by simp[aD]) (by exact kD rfl)) ?_|refine Chk.room 8 rfl om om ?_|refine Chk.mk (by rw[hlen];first|exact kD rfl|exact cn (by simp[aD]) (by exact kD rfl)) ?_|fail)
     all_goals(conv=>whnf)
     refine⟨0+1,(y::ys),⟨by omega,h3.symm⟩,by omega,?_⟩;exact lq [(0,16)] []
   ·rw[if_neg h0,<-hacc] at h3;by_cases h1:i=1
    ·have hpk:=rg (l:=ls[i]) (cm:=sc) om;rw[sC (λx hx=>by have:=hps ls[i] (kM hi) x hx;omega)] at hpk;have hpi:pkI sc th i ls[i]=pk (cmn sc) 0 ls[i]:=by unfold pkI;rw[if_pos h1]
     rw[hpi] at h3;have hpl:=iM (m:=cmn sc) ls[i] 0;generalize pk (cmn sc) 0 ls[i]=P at *;cases acc with
     | nil=>
      cases hg:P with
      | nil=>
       have hlen:P.length=0:=by rw[hg];rfl
       rw[hg] at h3;repeat' ((conv=>whnf);first|exact kQ|(refine bk ?_ ?_<;>intro _<;>try(exfalso;omega))|refine stq ?_|refine cp hpk ?_|refine ad.lst ?_|refine Chk.mk (aM (λ_=>rfl) _) ?_|refine Chk.growX 8 1 rfl rfl om om (by first|(simp;done)|exact kD rfl|exact cj (by simp[aD]) (by exact kD rfl)) ?_|refine Chk.room 8 rfl om om ?_|refine Chk.mk (by rw[hlen];first|exact kD rfl|exact cn (by simp[aD]) (by exact kD rfl)) ?_|fail)
       all_goals(conv=>whnf)
       refine⟨i+1,[]++0::[],⟨by omega,h3.symm⟩,by omega,?_⟩;exact lq [(0,11)] []
      | cons y ys=>
       have hv1:(y::ys).length=ys.length+1:=rfl;have hlen:P.length=ys.length+1:=by rw[hg];rfl
       repeat' ((conv=>whnf);first|exact kQ|(refine bk ?_ ?_<;>intro _<;>try(exfalso;omega))|refine stq ?_|refine cp hpk ?_|refine ad.lst ?_|refine Chk.mk (aM (λ_=>rfl) _) ?_|refine Chk.growX 8 1 rfl rfl om om (by first|(simp;done)|exact kD rfl|exact cj (by simp[aD]) (by exact kD rfl)) ?_|refine Chk.room 8 rfl om om ?_|refine Chk.mk (by rw[hlen];first|exact kD rfl|exact cn (by simp[aD]) (by exact kD rfl)) ?_|fail)
       all_goals(conv=>whnf)
       refine⟨i+1,[]++0::P,⟨by omega,h3.symm⟩,by omega,?_⟩;exact lq [(0,22)] []
     | cons x xs=>
      cases hg:P with
      | nil=>
       have hx1:(x::xs).length=xs.length+1:=rfl;have hlen:P.length=0:=by rw[hg];rfl
       rw[hg] at h3;repeat' ((conv=>whnf);first|exact kQ|(refine bk ?_ ?_<;>intro _<;>try(exfalso;omega))|refine stq ?_|refine cp hpk ?_|refine ad.lst ?_|refine Chk.mk (aM (λ_=>rfl) _) ?_|refine Chk.growX 8 1 rfl rfl om om (by first|(simp;done)|exact kD rfl|exact cj (by simp[aD]) (by exact kD rfl)) ?_|refine Chk.room 8 rfl om om ?_|refine Chk.mk (by rw[hlen];first|exact kD rfl|exact cn (by simp[aD]) (by exact kD rfl)) ?_|fail)
       all_goals(conv=>whnf)
       refine⟨i+1,(x::xs)++0::[],⟨by omega,h3.symm⟩,by omega,?_⟩;exact lq [(0,11)] []
      | cons y ys=>
       have hx1:(x::xs).length=xs.length+1:=rfl;have hv1:(y::ys).length=ys.length+1:=rfl;have hlen:P.length=ys.length+1:=by rw[hg];rfl
       repeat' ((conv=>whnf);first|exact kQ|(refine bk ?_ ?_<;>intro _<;>try(exfalso;omega))|refine stq ?_|refine cp hpk ?_|refine ad.lst ?_|refine Chk.mk (aM (λ_=>rfl) _) ?_|refine Chk.growX 8 1 rfl rfl om om (by first|(simp;done)|exact kD rfl|exact cj (by simp[aD]) (by exact kD rfl)) ?_|refine Chk.room 8 rfl om om ?_|refine Chk.mk (by rw[hlen];first|exact kD rfl|exact cn (by simp[aD]) (by exact kD rfl)) ?_|fail)
       all_goals(conv=>whnf)
       refine⟨i+1,(x::xs)++0::P,⟨by omega,h3.symm⟩,by omega,?_⟩;exact lq [(0,22)] []
    ·by_cases h2:i=2
     ·have hpk:=rg (l:=ls[i]) (cm:=th) om;rw[sC (λx hx=>by have:=hps ls[i] (kM hi) x hx;omega)] at hpk;have hpi:pkI sc th i ls[i]=pk (cmn th) 0 ls[i]:=by unfold pkI;rw[if_neg h1,if_pos h2]
      rw[hpi] at h3;have hpl:=iM (m:=cmn th) ls[i] 0;generalize pk (cmn th) 0 ls[i]=P at *;cases acc with
      | nil=>
       cases hg:P with
       | nil=>
        have hlen:P.length=0:=by rw[hg];rfl
        rw[hg] at h3;repeat' ((conv=>whnf);first|exact kQ|(refine bk ?_ ?_<;>intro _<;>try(exfalso;omega))|refine stq ?_|refine cp hpk ?_|refine ad.lst ?_|refine Chk.mk (aM (λ_=>rfl) _) ?_|refine Chk.growX 8 1 rfl rfl om om (by first|(simp;done)|exact kD rfl|exact cj (by simp[aD]) (by exact kD rfl)) ?_|refine Chk.room 8 rfl om om ?_|refine Chk.mk (by rw[hlen];first|exact kD rfl|exact cn (by simp[aD]) (by exact kD rfl)) ?_|fail)
        all_goals(conv=>whnf)
        refine⟨i+1,[]++0::[],⟨by omega,h3.symm⟩,by omega,?_⟩;exact lq [(0,11)] []
       | cons y ys=>
        have hv1:(y::ys).length=ys.length+1:=rfl;have hlen:P.length=ys.length+1:=by rw[hg];rfl
        repeat' ((conv=>whnf);first|exact kQ|(refine bk ?_ ?_<;>intro _<;>try(exfalso;omega))|refine stq ?_|refine cp hpk ?_|refine ad.lst ?_|refine Chk.mk (aM (λ_=>rfl) _) ?_|refine Chk.growX 8 1 rfl rfl om om (by first|(simp;done)|exact kD rfl|exact cj (by simp[aD]) (by exact kD rfl)) ?_|refine Chk.room 8 rfl om om ?_|refine Chk.mk (by rw[hlen];first|exact kD rfl|exact cn (by simp[aD]) (by exact kD rfl)) ?_|fail)
        all_goals(conv=>whnf)
        refine⟨i+1,[]++0::P,⟨by omega,h3.symm⟩,by omega,?_⟩;exact lq [(0,24)] []
      | cons x xs=>
       cases hg:P with
       | nil=>
        have hx1:(x::xs).length=xs.length+1:=rfl;have hlen:P.length=0:=by rw[hg];rfl
        rw[hg] at h3;repeat' ((conv=>whnf);first|exact kQ|(refine bk ?_ ?_<;>intro _<;>try(exfalso;omega))|refine stq ?_|refine cp hpk ?_|refine ad.lst ?_|refine Chk.mk (aM (λ_=>rfl) _) ?_|refine Chk.growX 8 1 rfl rfl om om (by first|(simp;done)|exact kD rfl|exact cj (by simp[aD]) (by exact kD rfl)) ?_|refine Chk.room 8 rfl om om ?_|refine Chk.mk (by rw[hlen];first|exact kD rfl|exact cn (by simp[aD]) (by exact kD rfl)) ?_|fail)
        all_goals(conv=>whnf)
        refine⟨i+1,(x::xs)++0::[],⟨by omega,h3.symm⟩,by omega,?_⟩;exact lq [(0,11)] []
       | cons y ys=>
        have hx1:(x::xs).length=xs.length+1:=rfl;have hv1:(y::ys).length=ys.length+1:=rfl;have hlen:P.length=ys.length+1:=by rw[hg];rfl
        repeat' ((conv=>whnf);first|exact kQ|(refine bk ?_ ?_<;>intro _<;>try(exfalso;omega))|refine stq ?_|refine cp hpk ?_|refine ad.lst ?_|refine Chk.mk (aM (λ_=>rfl) _) ?_|refine Chk.growX 8 1 rfl rfl om om (by first|(simp;done)|exact kD rfl|exact cj (by simp[aD]) (by exact kD rfl)) ?_|refine Chk.room 8 rfl om om ?_|refine Chk.mk (by rw[hlen];first|exact kD rfl|exact cn (by simp[aD]) (by exact kD rfl)) ?_|fail)
        all_goals(conv=>whnf)
        refine⟨i+1,(x::xs)++0::P,⟨by omega,h3.symm⟩,by omega,?_⟩;exact lq [(0,24)] []
     ·have hpi:pkI sc th i ls[i]=ls[i]:=by unfold pkI;rw[if_neg h1,if_neg h2]
      rw[hpi] at h3;cases acc with
      | nil=>
       cases hg:ls[i] with
       | nil=>
        have hlen:ls[i].length=0:=by rw[hg];rfl
        rw[hg] at h3;repeat' ((conv=>whnf);first|exact kQ|(refine bk ?_ ?_<;>intro _<;>try(exfalso;omega))|refine stq ?_|refine ad.lst ?_|refine Chk.mk (aM (λ_=>rfl) _) ?_|refine Chk.growX 8 1 rfl rfl om om (by first|(simp;done)|exact kD rfl|exact cj (by simp[aD]) (by exact kD rfl)) ?_|refine Chk.room 8 rfl om om ?_|refine Chk.mk (by rw[hlen];first|exact kD rfl|exact cn (by simp[aD]) (by exact kD rfl)) ?_|fail)
        all_goals(conv=>whnf)
        refine⟨i+1,[]++0::[],⟨by omega,h3.symm⟩,by omega,?_⟩;exact lq [(0,11)] []
       | cons y ys=>
        have hv1:(y::ys).length=ys.length+1:=rfl;have hlen:ls[i].length=ys.length+1:=by rw[hg];rfl
        repeat' ((conv=>whnf);first|exact kQ|(refine bk ?_ ?_<;>intro _<;>try(exfalso;omega))|refine stq ?_|refine ad.lst ?_|refine Chk.mk (aM (λ_=>rfl) _) ?_|refine Chk.growX 8 1 rfl rfl om om (by first|(simp;done)|exact kD rfl|exact cj (by simp[aD]) (by exact kD rfl)) ?_|refine Chk.room 8 rfl om om ?_|refine Chk.mk (by rw[hlen];first|exact kD rfl|exact cn (by simp[aD]) (by exact kD rfl)) ?_|fail)
        all_goals(conv=>whnf)
        refine⟨i+1,[]++0::ls[i],⟨by omega,h3.symm⟩,by omega,?_⟩;exact lq [(0,20)] []
      | cons x xs=>
       cases hg:ls[i] with
       | nil=>
        have hx1:(x::xs).length=xs.length+1:=rfl;have hlen:ls[i].length=0:=by rw[hg];rfl
        rw[hg] at h3;repeat' ((conv=>whnf);first|exact kQ|(refine bk ?_ ?_<;>intro _<;>try(exfalso;omega))|refine stq ?_|refine ad.lst ?_|refine Chk.mk (aM (λ_=>rfl) _) ?_|refine Chk.growX 8 1 rfl rfl om om (by first|(simp;done)|exact kD rfl|exact cj (by simp[aD]) (by exact kD rfl)) ?_|refine Chk.room 8 rfl om om ?_|refine Chk.mk (by rw[hlen];first|exact kD rfl|exact cn (by simp[aD]) (by exact kD rfl)) ?_|fail)
        all_goals(conv=>whnf)
        refine⟨i+1,(x::xs)++0::[],⟨by omega,h3.symm⟩,by omega,?_⟩;exact lq [(0,11)] []
       | cons y ys=>
        have hx1:(x::xs).length=xs.length+1:=rfl;have hv1:(y::ys).length=ys.length+1:=rfl;have hlen:ls[i].length=ys.length+1:=by rw[hg];rfl
        repeat' ((conv=>whnf);first|exact kQ|(refine bk ?_ ?_<;>intro _<;>try(exfalso;omega))|refine stq ?_|refine ad.lst ?_|refine Chk.mk (aM (λ_=>rfl) _) ?_|refine Chk.growX 8 1 rfl rfl om om (by first|(simp;done)|exact kD rfl|exact cj (by simp[aD]) (by exact kD rfl)) ?_|refine Chk.room 8 rfl om om ?_|refine Chk.mk (by rw[hlen];first|exact kD rfl|exact cn (by simp[aD]) (by exact kD rfl)) ?_|fail)
        all_goals(conv=>whnf)
        refine⟨i+1,(x::xs)++0::ls[i],⟨by omega,h3.symm⟩,by omega,?_⟩;exact lq [(0,20)] []
  ·obtain rfl:i=ls.length:=by omega
   rw[show ls.length=(pkL sc th ls).length from fX.symm,List.take_length] at hacc;have hR2:R=acc:=by rw[<-hR,hacc]
   cases acc with
   | nil=>
    repeat' ((conv=>whnf);first|exact kQ|(refine bk ?_ ?_<;>intro _<;>try(exfalso;omega))|refine stq ?_|fail)
    all_goals(conv=>whnf)
    rw[hR2];exact⟨.nil⟩
   | cons x xs=>
    repeat' ((conv=>whnf);first|exact kQ|(refine bk ?_ ?_<;>intro _<;>try(exfalso;omega))|refine stq ?_|fail)
    all_goals(conv=>whnf)
    rw[hR2];exact z7
 ·rw[if_neg hce] at hS;rw[hS];generalize hR:jn0 _=R;refine Pu.of_v aA T0 Tryz.func23 rfl rfl (aQ (eP n) (aQ (c7 c) (aQ rfl (aQ (aG _) rfl)))) ?_;repeat' ((conv=>whnf);first|exact kQ|(refine bk ?_ ?_<;>intro _<;>try(exfalso;omega))|refine stq ?_|refine cp hk ?_|refine cp hE ?_|refine cp hW ?_|refine ab.by (id:=1) aA T0 [0,1,0,4,3,31] (by kernel_rfl) ?_|refine ab.by (id:=5) aA T0 [0,0,0,7,0,31,63,0] (by kernel_rfl) ?_|fail)
  all_goals(conv=>whnf)
  generalize h32:(32:Int)=sc at hR;generalize hth:(2:Int)=th at hR;refine aH.by2 aA T0 (λ(i:Nat) (acc:List Int)=>kpT ls sc th i acc) (λi acc=>i<=ls.length∧acc=jn0 ((pkL sc th ls).take i)) (λi _=>ls.length-i) 0 [] ⟨by omega,rfl⟩ ?_ ?_
  ·exact lq0
  intro i acc ⟨hi0,hacc⟩
  have hal:acc.length<=800000:=by
   rw[hacc];have:=jW (l:=(pkL sc th ls).take i) (B:=192000) (λa ha=>rf hla a (List.mem_of_mem_take ha)) (by rw[List.length_take,fX];omega)
   omega
  by_cases hi:i<ls.length
  ·have h3:=pB (ls:=pkL sc th ls) (i:=i) (by rw[fX];exact hi);have hll:=hla ls[i] (kM hi);have hpg:(pkL sc th ls)[i]'(by rw[fX];exact hi)=pkI sc th i ls[i]:=by simp[pkL]
   rw[hpg] at h3;by_cases h0:i=0
   ·subst h0;have hacc:acc=[]:=hacc;subst hacc;rw[if_pos rfl,show pkI sc th 0 ls[0]=ls[0] from rfl] at h3;cases hg:ls[0] with
    | nil=>
     have hlen:ls[0].length=0:=by rw[hg];rfl
     rw[hg] at h3;repeat' ((conv=>whnf);first|exact kQ|(refine bk ?_ ?_<;>intro _<;>try(exfalso;omega))|refine stq ?_|refine ad.lst ?_|refine Chk.mk (aM (λ_=>rfl) _) ?_|refine Chk.growX 8 1 rfl rfl om om (by first|(simp;done)|exact kD rfl|exact cj (by simp[aD]) (by exact kD rfl)) ?_|refine Chk.room 8 rfl om om ?_|refine Chk.mk (by rw[hlen];first|exact kD rfl|exact cn (by simp[aD]) (by exact kD rfl)) ?_|fail)
     all_goals(conv=>whnf)
     refine⟨0+1,[],⟨by omega,h3.symm⟩,by omega,?_⟩;exact lq0
    | cons y ys=>
     have hv1:(y::ys).length=ys.length+1:=rfl;have hlen:ls[0].length=ys.length+1:=by rw[hg];rfl
     rw[hg] at h3;repeat' ((conv=>whnf);first|exact kQ|(refine bk ?_ ?_<;>intro _<;>try(exfalso;omega))|refine stq ?_|refine ad.lst ?_|refine Chk.mk (aM (λ_=>rfl) _) ?_|refine Chk.growX 8 1 rfl rfl om om (by first|(simp;done)|exact kD rfl|exact cj (by simp[aD]) (by exact kD rfl)) ?_|refine Chk.room 8 rfl om om ?_|refine Chk.mk (by rw[hlen];first|exact kD rfl|exact cn (by simp[aD]) (by exact kD rfl)) ?_|fail)
     all_goals(conv=>whnf)
     refine⟨0+1,(y::ys),⟨by omega,h3.symm⟩,by omega,?_⟩;exact lq [(0,16)] []
   ·rw[if_neg h0,<-hacc] at h3;by_cases h1:i=1
    ·have hpk:=rg (l:=ls[i]) (cm:=sc) om;rw[sC (λx hx=>by have:=hps ls[i] (kM hi) x hx;omega)] at hpk;have hpi:pkI sc th i ls[i]=pk (cmn sc) 0 ls[i]:=by unfold pkI;rw[if_pos h1]
     rw[hpi] at h3;have hpl:=iM (m:=cmn sc) ls[i] 0;generalize pk (cmn sc) 0 ls[i]=P at *;cases acc with
     | nil=>
      cases hg:P with
      | nil=>
       have hlen:P.length=0:=by rw[hg];rfl
       rw[hg] at h3;repeat' ((conv=>whnf);first|exact kQ|(refine bk ?_ ?_<;>intro _<;>try(exfalso;omega))|refine stq ?_|refine cp hpk ?_|refine ad.lst ?_|refine Chk.mk (aM (λ_=>rfl) _) ?_|refine Chk.growX 8 1 rfl rfl om om (by first|(simp;done)|exact kD rfl|exact cj (by simp[aD]) (by exact kD rfl)) ?_|refine Chk.room 8 rfl om om ?_|refine Chk.mk (by rw[hlen];first|exact kD rfl|exact cn (by simp[aD]) (by exact kD rfl)) ?_|fail)
       all_goals(conv=>whnf)
       refine⟨i+1,[]++0::[],⟨by omega,h3.symm⟩,by omega,?_⟩;exact lq [(0,11)] []
      | cons y ys=>
       have hv1:(y::ys).length=ys.length+1:=rfl;have hlen:P.length=ys.length+1:=by rw[hg];rfl
       repeat' ((conv=>whnf);first|exact kQ|(refine bk ?_ ?_<;>intro _<;>try(exfalso;omega))|refine stq ?_|refine cp hpk ?_|refine ad.lst ?_|refine Chk.mk (aM (λ_=>rfl) _) ?_|refine Chk.growX 8 1 rfl rfl om om (by first|(simp;done)|exact kD rfl|exact cj (by simp[aD]) (by exact kD rfl)) ?_|refine Chk.room 8 rfl om om ?_|refine Chk.mk (by rw[hlen];first|exact kD rfl|exact cn (by simp[aD]) (by exact kD rfl)) ?_|fail)
       all_goals(conv=>whnf)
       refine⟨i+1,[]++0::P,⟨by omega,h3.symm⟩,by omega,?_⟩;exact lq [(0,22)] []
     | cons x xs=>
      cases hg:P with
      | nil=>
       have hx1:(x::xs).length=xs.length+1:=rfl;have hlen:P.length=0:=by rw[hg];rfl
       rw[hg] at h3;repeat' ((conv=>whnf);first|exact kQ|(refine bk ?_ ?_<;>intro _<;>try(exfalso;omega))|refine stq ?_|refine cp hpk ?_|refine ad.lst ?_|refine Chk.mk (aM (λ_=>rfl) _) ?_|refine Chk.growX 8 1 rfl rfl om om (by first|(simp;done)|exact kD rfl|exact cj (by simp[aD]) (by exact kD rfl)) ?_|refine Chk.room 8 rfl om om ?_|refine Chk.mk (by rw[hlen];first|exact kD rfl|exact cn (by simp[aD]) (by exact kD rfl)) ?_|fail)
       all_goals(conv=>whnf)
       refine⟨i+1,(x::xs)++0::[],⟨by omega,h3.symm⟩,by omega,?_⟩;exact lq [(0,11)] []
      | cons y ys=>
       have hx1:(x::xs).length=xs.length+1:=rfl;have hv1:(y::ys).length=ys.length+1:=rfl;have hlen:P.length=ys.length+1:=by rw[hg];rfl
       repeat' ((conv=>whnf);first|exact kQ|(refine bk ?_ ?_<;>intro _<;>try(exfalso;omega))|refine stq ?_|refine cp hpk ?_|refine ad.lst ?_|refine Chk.mk (aM (λ_=>rfl) _) ?_|refine Chk.growX 8 1 rfl rfl om om (by first|(simp;done)|exact kD rfl|exact cj (by simp[aD]) (by exact kD rfl)) ?_|refine Chk.room 8 rfl om om ?_|refine Chk.mk (by rw[hlen];first|exact kD rfl|exact cn (by simp[aD]) (by exact kD rfl)) ?_|fail)
       all_goals(conv=>whnf)
       refine⟨i+1,(x::xs)++0::P,⟨by omega,h3.symm⟩,by omega,?_⟩;exact lq [(0,22)] []
    ·by_cases h2:i=2
     ·have hpk:=rg (l:=ls[i]) (cm:=th) om;rw[sC (λx hx=>by have:=hps ls[i] (kM hi) x hx;omega)] at hpk;have hpi:pkI sc th i ls[i]=pk (cmn th) 0 ls[i]:=by unfold pkI;rw[if_neg h1,if_pos h2]
      rw[hpi] at h3;have hpl:=iM (m:=cmn th) ls[i] 0;generalize pk (cmn th) 0 ls[i]=P at *;cases acc with
      | nil=>
       cases hg:P with
       | nil=>
        have hlen:P.length=0:=by rw[hg];rfl
        rw[hg] at h3;repeat' ((conv=>whnf);first|exact kQ|(refine bk ?_ ?_<;>intro _<;>try(exfalso;omega))|refine stq ?_|refine cp hpk ?_|refine ad.lst ?_|refine Chk.mk (aM (λ_=>rfl) _) ?_|refine Chk.growX 8 1 rfl rfl om om (by first|(simp;done)|exact kD rfl|exact cj (by simp[aD]) (by exact kD rfl)) ?_|refine Chk.room 8 rfl om om ?_|refine Chk.mk (by rw[hlen];first|exact kD rfl|exact cn (by simp[aD]) (by exact kD rfl)) ?_|fail)
        all_goals(conv=>whnf)
        refine⟨i+1,[]++0::[],⟨by omega,h3.symm⟩,by omega,?_⟩;exact lq [(0,11)] []
       | cons y ys=>
        have hv1:(y::ys).length=ys.length+1:=rfl;have hlen:P.length=ys.length+1:=by rw[hg];rfl
        repeat' ((conv=>whnf);first|exact kQ|(refine bk ?_ ?_<;>intro _<;>try(exfalso;omega))|refine stq ?_|refine cp hpk ?_|refine ad.lst ?_|refine Chk.mk (aM (λ_=>rfl) _) ?_|refine Chk.growX 8 1 rfl rfl om om (by first|(simp;done)|exact kD rfl|exact cj (by simp[aD]) (by exact kD rfl)) ?_|refine Chk.room 8 rfl om om ?_|refine Chk.mk (by rw[hlen];first|exact kD rfl|exact cn (by simp[aD]) (by exact kD rfl)) ?_|fail)
        all_goals(conv=>whnf)
        refine⟨i+1,[]++0::P,⟨by omega,h3.symm⟩,by omega,?_⟩;exact lq [(0,24)] []
      | cons x xs=>
       cases hg:P with
       | nil=>
        have hx1:(x::xs).length=xs.length+1:=rfl;have hlen:P.length=0:=by rw[hg];rfl
        rw[hg] at h3;repeat' ((conv=>whnf);first|exact kQ|(refine bk ?_ ?_<;>intro _<;>try(exfalso;omega))|refine stq ?_|refine cp hpk ?_|refine ad.lst ?_|refine Chk.mk (aM (λ_=>rfl) _) ?_|refine Chk.growX 8 1 rfl rfl om om (by first|(simp;done)|exact kD rfl|exact cj (by simp[aD]) (by exact kD rfl)) ?_|refine Chk.room 8 rfl om om ?_|refine Chk.mk (by rw[hlen];first|exact kD rfl|exact cn (by simp[aD]) (by exact kD rfl)) ?_|fail)
        all_goals(conv=>whnf)
        refine⟨i+1,(x::xs)++0::[],⟨by omega,h3.symm⟩,by omega,?_⟩;exact lq [(0,11)] []
       | cons y ys=>
        have hx1:(x::xs).length=xs.length+1:=rfl;have hv1:(y::ys).length=ys.length+1:=rfl;have hlen:P.length=ys.length+1:=by rw[hg];rfl
        repeat' ((conv=>whnf);first|exact kQ|(refine bk ?_ ?_<;>intro _<;>try(exfalso;omega))|refine stq ?_|refine cp hpk ?_|refine ad.lst ?_|refine Chk.mk (aM (λ_=>rfl) _) ?_|refine Chk.growX 8 1 rfl rfl om om (by first|(simp;done)|exact kD rfl|exact cj (by simp[aD]) (by exact kD rfl)) ?_|refine Chk.room 8 rfl om om ?_|refine Chk.mk (by rw[hlen];first|exact kD rfl|exact cn (by simp[aD]) (by exact kD rfl)) ?_|fail)
        all_goals(conv=>whnf)
        refine⟨i+1,(x::xs)++0::P,⟨by omega,h3.symm⟩,by omega,?_⟩;exact lq [(0,24)] []
     ·have hpi:pkI sc th i ls[i]=ls[i]:=by unfold pkI;rw[if_neg h1,if_neg h2]
      rw[hpi] at h3;cases acc with
      | nil=>
       cases hg:ls[i] with
       | nil=>
        have hlen:ls[i].length=0:=by rw[hg];rfl
        rw[hg] at h3;repeat' ((conv=>whnf);first|exact kQ|(refine bk ?_ ?_<;>intro _<;>try(exfalso;omega))|refine stq ?_|refine ad.lst ?_|refine Chk.mk (aM (λ_=>rfl) _) ?_|refine Chk.growX 8 1 rfl rfl om om (by first|(simp;done)|exact kD rfl|exact cj (by simp[aD]) (by exact kD rfl)) ?_|refine Chk.room 8 rfl om om ?_|refine Chk.mk (by rw[hlen];first|exact kD rfl|exact cn (by simp[aD]) (by exact kD rfl)) ?_|fail)
        all_goals(conv=>whnf)
        refine⟨i+1,[]++0::[],⟨by omega,h3.symm⟩,by omega,?_⟩;exact lq [(0,11)] []
       | cons y ys=>
        have hv1:(y::ys).length=ys.length+1:=rfl;have hlen:ls[i].length=ys.length+1:=by rw[hg];rfl
        repeat' ((conv=>whnf);first|exact kQ|(refine bk ?_ ?_<;>intro _<;>try(exfalso;omega))|refine stq ?_|refine ad.lst ?_|refine Chk.mk (aM (λ_=>rfl) _) ?_|refine Chk.growX 8 1 rfl rfl om om (by first|(simp;done)|exact kD rfl|exact cj (by simp[aD]) (by exact kD rfl)) ?_|refine Chk.room 8 rfl om om ?_|refine Chk.mk (by rw[hlen];first|exact kD rfl|exact cn (by simp[aD]) (by exact kD rfl)) ?_|fail)
        all_goals(conv=>whnf)
        refine⟨i+1,[]++0::ls[i],⟨by omega,h3.symm⟩,by omega,?_⟩;exact lq [(0,20)] []
      | cons x xs=>
       cases hg:ls[i] with
       | nil=>
        have hx1:(x::xs).length=xs.length+1:=rfl;have hlen:ls[i].length=0:=by rw[hg];rfl
        rw[hg] at h3;repeat' ((conv=>whnf);first|exact kQ|(refine bk ?_ ?_<;>intro _<;>try(exfalso;omega))|refine stq ?_|refine ad.lst ?_|refine Chk.mk (aM (λ_=>rfl) _) ?_|refine Chk.growX 8 1 rfl rfl om om (by first|(simp;done)|exact kD rfl|exact cj (by simp[aD]) (by exact kD rfl)) ?_|refine Chk.room 8 rfl om om ?_|refine Chk.mk (by rw[hlen];first|exact kD rfl|exact cn (by simp[aD]) (by exact kD rfl)) ?_|fail)
        all_goals(conv=>whnf)
        refine⟨i+1,(x::xs)++0::[],⟨by omega,h3.symm⟩,by omega,?_⟩;exact lq [(0,11)] []
       | cons y ys=>
        have hx1:(x::xs).length=xs.length+1:=rfl;have hv1:(y::ys).length=ys.length+1:=rfl;have hlen:ls[i].length=ys.length+1:=by rw[hg];rfl
        repeat' ((conv=>whnf);first|exact kQ|(refine bk ?_ ?_<;>intro _<;>try(exfalso;omega))|refine stq ?_|refine ad.lst ?_|refine Chk.mk (aM (λ_=>rfl) _) ?_|refine Chk.growX 8 1 rfl rfl om om (by first|(simp;done)|exact kD rfl|exact cj (by simp[aD]) (by exact kD rfl)) ?_|refine Chk.room 8 rfl om om ?_|refine Chk.mk (by rw[hlen];first|exact kD rfl|exact cn (by simp[aD]) (by exact kD rfl)) ?_|fail)
        all_goals(conv=>whnf)
        refine⟨i+1,(x::xs)++0::ls[i],⟨by omega,h3.symm⟩,by omega,?_⟩;exact lq [(0,20)] []
  ·obtain rfl:i=ls.length:=by omega
   rw[show ls.length=(pkL sc th ls).length from fX.symm,List.take_length] at hacc;have hR2:R=acc:=by rw[<-hR,hacc]
   cases acc with
   | nil=>
    repeat' ((conv=>whnf);first|exact kQ|(refine bk ?_ ?_<;>intro _<;>try(exfalso;omega))|refine stq ?_|fail)
    all_goals(conv=>whnf)
    rw[hR2];exact⟨.nil⟩
   | cons x xs=>
    repeat' ((conv=>whnf);first|exact kQ|(refine bk ?_ ?_<;>intro _<;>try(exfalso;omega))|refine stq ?_|fail)
    all_goals(conv=>whnf)
    rw[hR2];exact z7
end Go.Proofs.YticpeeooobajgaaGreatDoor
