/-
  Contracts over data: lists of numbers compared.
-/
import Derived.Test.YtihggclfifimoaaGreatDoorI4
import Derived.Test.YtihggclfifimoaaGreatDoorUB
import Derived.Test.YtihggclfifimoaaGreatDoorXO
set_option linter.unusedSectionVars false
set_option maxRecDepth 100000
set_option maxHeartbeats 8000000
namespace Go.Proofs.YtihggclfifimoaaGreatDoor
open Go Go.Am Classical
set_option linter.unusedVariables false
theorem xI5.rdX {p:Prop}(h:p:=by first|exact Rd.same (aC _)|fail):p:=h
open xI5
def nX:List Int->List Int->Int
 | [],[]=>0
 | [],_::_=>-1
 | _::_,[]=>1
 | x::a,y::b=>if x=y then nX a b else e8 x y
theorem Ad {a b:List Int}{k:Nat}(ha:k<a.length) (hb:k<b.length):nX (a.drop k) (b.drop k)=if a[k]=b[k] then nX (a.drop (k+1)) (b.drop (k+1)) else e8 a[k] b[k]:=by
 rw[kK ha,kK hb];rfl
theorem xU {a b:List Int}{k:Nat}(h:¬k<a.length∨¬k<b.length) (hk:k<=a.length∧k<=b.length):nX (a.drop k) (b.drop k)=e8 (a.length:Int) (b.length:Int):=by
 by_cases ha:k<a.length
 ·have hb:¬k<b.length:=by omega
  rw[kK ha,List.drop_of_length_le (l:=b) om];unfold e8;rw[if_neg om,if_pos om];rfl
 ·rw[List.drop_of_length_le (l:=a) om];by_cases hb:k<b.length
  ·rw[kK hb];unfold e8;rw[if_pos om];rfl
  ·rw[List.drop_of_length_le (l:=b) om];unfold e8;rw[if_neg om,if_neg om];rfl
theorem CJ (x:Int):e8 x x=0:=by unfold e8;rw[if_neg om,if_neg om]
theorem iz:∀ {a b:List Int},nX a b=0↔a=b
 | [],[]=>by simp[nX]
 | [],_::_=>by simp[nX]
 | _::_,[]=>by simp[nX]
 | x::a,y::b=>by
  simp only[nX];by_cases h:x=y
  ·rw[if_pos h,iz,h];simp
  ·rw[if_neg h,pc];simp[h]
theorem xR {a b:List Int}(ha:a.length<=1000000) (hb:b.length<=1000000):Pu Tryz.prog 90 [aF a,aF b] (i64 (nX a b)):=by
 refine pv Tryz.func90 ?_;rcases Nat.lt_or_ge b.length a.length with hab|hab
 all_goals
  repeat' ((conv=>whnf);first|exact kQ|(refine bk ?_ ?_<;>intro _<;>try(exfalso;omega))|refine stq ?_)
  refine aH.by aA T0 (λk:Nat=>⟨tmp 38 [(0,aF a),(1,aF b),(10,i64 (min a.length b.length:Nat)),(11,i64 (k:Int))],⟨0,[]⟩⟩) (λk=>k<=a.length∧k<=b.length∧nX a b=nX (a.drop k) (b.drop k)) (λk=>a.length-k) 0 ⟨by omega,by omega,rfl⟩ ?_ ?_
  ·exact lq0
  intro k ⟨h1,h2,h3⟩;by_cases hk:k<a.length∧k<b.length
  ·rw[Ad hk.1 hk.2] at h3;have hc:=dZ (x:=a[k]'hk.1) (y:=b[k]'hk.2);repeat' ((conv=>whnf);first|exact kQ|(refine bk ?_ ?_<;>intro _<;>try(exfalso;omega))|refine stq ?_|refine cp hc ?_|refine aX.by (id:=4) aA T0 [0,0,3,7,0,0,48,112,255] (by kernel_rfl) ?_|refine aX.by (id:=5) aA T0 [0,0,3,7,0,0,48,112,255,511] (by kernel_rfl) ?_|fail)
   all_goals(conv=>whnf)
   ·have e:a[k]'hk.1=b[k]'hk.2:=by assumption
    rw[if_pos e] at h3;refine⟨k+1,⟨by omega,by omega,h3⟩,by omega,?_⟩;exact lq0
   ·have e:¬a[k]'hk.1=b[k]'hk.2:=by assumption
    rw[if_neg e] at h3;exact aE.int h3.symm
  ·rw[xU om ⟨h1,h2⟩] at h3;have hc:=dZ (x:=(a.length:Int)) (y:=(b.length:Int));repeat' ((conv=>whnf);first|exact kQ|(refine bk ?_ ?_<;>intro _<;>try(exfalso;omega))|refine stq ?_|refine cp hc ?_|fail)
   all_goals(conv=>whnf)
   exact aE.int h3.symm
theorem nv {a b:List Int}(ha:a.length<=1000000) (hb:b.length<=1000000):Pu Tryz.prog 18 [aF a,aF b] (boo (decide (a=b))):=by
 refine pv Tryz.func18 ?_;by_cases hl:a.length=b.length
 ·repeat' ((conv=>whnf);first|exact kQ|(refine bk ?_ ?_<;>intro _<;>try(exfalso;omega))|refine stq ?_)
  refine aH.by aA T0 (λk:Nat=>⟨tmp 26 [(0,aF a),(1,aF b),(12,i64 a.length),(13,i64 (k:Int))],⟨0,[]⟩⟩) (λk=>k<=a.length∧nX a b=nX (a.drop k) (b.drop k)) (λk=>a.length-k) 0 ⟨by omega,rfl⟩ ?_ ?_
  ·exact lq0
  intro k ⟨h1,h3⟩;by_cases hk:k<a.length
  ·rw[Ad hk om] at h3;repeat' ((conv=>whnf);first|exact kQ|(refine bk ?_ ?_<;>intro _<;>try(exfalso;omega))|refine stq ?_|refine aX.by (id:=6) aA T0 [0,0,3,7,0,0,48,112,255] (by kernel_rfl) ?_|fail)
   all_goals(conv=>whnf)
   ·have e:a[k]'hk=b[k]'(by omega):=by assumption
    rw[if_pos e] at h3;refine⟨k+1,⟨by omega,h3⟩,by omega,?_⟩;exact lq0
   ·have e:¬a[k]'hk=b[k]'(by omega):=by assumption
    rw[if_neg e] at h3;exact aE.no λh=>by rw[iz.2 h] at h3;exact e (pc.1 h3.symm)
  ·rw[xU om om,hl,CJ] at h3;repeat' ((conv=>whnf);first|exact kQ|(refine bk ?_ ?_<;>intro _<;>try(exfalso;omega))|refine stq ?_|fail)
   all_goals(conv=>whnf)
   exact aE.yes (iz.1 h3)
 ·repeat' ((conv=>whnf);first|exact kQ|(refine bk ?_ ?_<;>intro _<;>try(exfalso;omega))|refine stq ?_|fail)
  all_goals(conv=>whnf)
  exact aE.no λh=>hl (by rw[h])
end Go.Proofs.YtihggclfifimoaaGreatDoor
namespace Go.Proofs.YtihggclfifimoaaGreatDoor
open Go Go.Am Classical
set_option linter.unusedVariables false
end Go.Proofs.YtihggclfifimoaaGreatDoor
namespace Go.Proofs.YtihggclfifimoaaGreatDoor
open Go Go.Am Classical
set_option linter.unusedVariables false
abbrev cI (x:Int):List D:=[i64 x]
theorem Lf.perm {nb n:Nat}{tm:List D}{bs bs':List (Nat×Box)}(he:∀ i,ac bs' i=ac bs i):Lf nb ⟨tm,⟨n,bs⟩⟩ ⟨tm,⟨n,bs'⟩⟩:=⟨λcb hb c a hB hf=>by
 have hg:∀ i,aB.get ⟨n,bs'⟩ i=aB.get ⟨n,bs⟩ i:=he;have ho:∀ b,bG c ⟨n,bs'⟩ b↔bG c ⟨n,bs⟩ b:=λb=>by simp only[bG,hg]
 have R:=hf.rel;refine⟨c,rfl,⟨⟨R.size,R.fresh,λid box h=>R.live id box (by rw[<-hg];exact h),λid id' box box' b o o' h1 h2=>R.inj id id' box box' b o o' (by rw[<-hg];exact h1) (by rw[<-hg];exact h2),R.inv⟩,hf.tmps⟩,?_⟩;have g:=hB.grow
 exact⟨hB.next,hB.fresh,⟨g.keeps,g.os,g.tape,g.output,g.size,g.next,g.frame,λb h=>g.own b ((ho b).1 h),g.stable⟩,hB.φ⟩⟩
theorem Lf.same {nb:Nat}{s:St}{X:St->Prop}(h:X s):∃ s0,Lf nb s s0∧X s0:=⟨s,.refl s,h⟩
theorem rC:∀ (l r:List (Nat×Box)) (i:Nat),ac (l++r) i=(match ac l i with|some b=>some b|none=>ac r i)
 | [],r,i=>rfl
 | (j,b)::l,r,i=>by
  show(if j=i then some b else ac (l++r) i)=(match(if j=i then some b else ac l i) with|some b=>some b|none=>ac r i);by_cases h:j=i
  ·rw[if_pos h,if_pos h]
  ·rw[if_neg h,if_neg h,rC l r i]
end Go.Proofs.YtihggclfifimoaaGreatDoor
namespace Go.Proofs.YtihggclfifimoaaGreatDoor
open Go Go.Am Classical
set_option linter.unusedVariables false
theorem xUF.rdX {p:Prop}(h:p:=by first|exact Rd.same (uM _)|exact Rd.same (bH _)|exact Rd.nil|exact Rd.frzI rfl rfl rfl rfl rfl|exact Rd.sl' rfl sim sim|fail):p:=h
theorem xUF.rbX {p:Prop}(h:p:=by first|exact rbW rfl|exact Rb.cells (Rds.eqs (Ak _) (aG (by intro _;rfl) _)) rfl|exact Rb.cells (Rds.eqs (appI (x::xs) (y::ys)) (aG (by intro _;rfl) _)) rfl|exact Rb.cells (Rds.eqs (Eu (x::xs)) (aG (by intro _;rfl) _)) rfl|fail):p:=h
open xUF
abbrev yW (o:List (List Int)):List (Nat×Box):=[(0,.cells (o.map aF) true)]
theorem uM (o:List (List Int)):aK (o.map aF)=true:=aN (λ_=>aC _) _
theorem rbW {h:aB}{fz:Nat->Bool}{σ:Nat->Option Nat}{o o':List (List Int)}(e:o=o'):Rb h fz σ (.cells (o.map aF) true) (.cells (o'.map aF) true):=by subst e;exact .cells (.same (uM _)) rfl
def lW (l:List Mpg) (k:Bool) (o:List (List Int)) (e:Int):List Int:=match fI l e k with|some j=>o.getD j []|none=>hd e
theorem vr {l:List Mpg}{k:Bool}{o:List (List Int)}{t:List Int}{j:Nat}(h:j<t.length):eZ l k o (t.take (j+1))=eZ l k o (t.take j)++lW l k o t[j]:=BJ h
theorem qU {l:List Mpg}{k:Bool}{o:List (List Int)}(ho:∀ j,(o.getD j []).length<=64) (e:Int):(lW l k o e).length<=64:=by
 unfold lW;split
 ·exact ho _
 ·have:=mG e;omega
theorem tz {l:List Mpg}{k:Bool}{o:List (List Int)}(ho:∀ j,(o.getD j []).length<=64):∀ t:List Int,(eZ l k o t).length<=64*t.length
 | []=>by simp[eZ]
 | e::t=>by
  have h1:=tz (l:=l) (k:=k) ho t;have h2:=qU (l:=l) (k:=k) ho e;have h3:eZ l k o (e::t)=lW l k o e++eZ l k o t:=rfl;rw[h3,kG,kO];omega
theorem yY {l:List Mpg}{k:Bool}{o:List (List Int)}{t:List Int}(hl:l.length<=1000) (hol:o.length=l.length) (ht:t.length<=1000) (ho:∀ j,(o.getD j []).length<=64):Pu Tryz.prog 390 [ag l,iu o,aF t,boo k] (aF (eZ l k o t)):=by
 refine pv Tryz.func390 ?_;repeat' ((conv=>whnf);first|exact kQ|(refine bk ?_ ?_<;>intro _<;>try(exfalso;omega))|refine stq ?_)
 refine aH.by2 aA T0 (λ(j:Nat) (acc:List Int)=>⟨tmp 41 [(0,ag l),(1,iu o),(2,aF t),(3,boo k),(9,fB 0 1 acc),(10,i64 (j:Int))],⟨1,gA 0 ek acc⟩⟩) (λj acc=>j<=t.length∧acc=eZ l k o (t.take j)) (λj _=>t.length-j) 0 [] ⟨by omega,rfl⟩ ?_ ?_
 ·exact lq0
 intro j acc ⟨g1,g2⟩;have hv0:([]:List Int).length=0:=rfl
 have hal:acc.length<=64*j:=by
  have:=tz (l:=l) (k:=k) ho (t.take j)
  rw[<-g2,List.length_take] at this;omega
 by_cases hj:j<t.length
 ·have g7:=vr (l:=l) (k:=k) (o:=o) hj;rw[<-g2] at g7
  replace g7:=g7.symm
  have hvl:=qU (l:=l) (k:=k) ho t[j];cases hf:fI l t[j] k with
  | none=>
   have hc:=nM hl hf;have hd0:=t8 (c:=t[j]);rw[show hd t[j]=lW l k o t[j] from by unfold lW;rw[hf]] at hd0;generalize lW l k o t[j]=v at *;cases acc with
   | nil=>
    cases v with
    | nil=>
     repeat' ((conv=>whnf);first|fail|fail|exact kQ|(refine bk ?_ ?_<;>intro _<;>try(exfalso;omega))|refine stq ?_|refine cp hc ?_|refine cp hd0 ?_|refine dC.lst ?_)
     all_goals(conv=>whnf)
     refine⟨j+1,[],⟨by omega,g7⟩,by omega,?_⟩;exact lq0
    | cons y ys=>
     have hv1:(y::ys).length=ys.length+1:=rfl;repeat' ((conv=>whnf);first|fail|fail|exact kQ|(refine bk ?_ ?_<;>intro _<;>try(exfalso;omega))|refine stq ?_|refine cp hc ?_|refine cp hd0 ?_|refine dC.lst ?_|refine Chk.growX 8 1 rfl rfl om om si ?_)
     all_goals(conv=>whnf)
     refine⟨j+1,y::ys,⟨by omega,g7⟩,by omega,?_⟩;exact lq [(0,21)] []
   | cons x xs=>
    have hx1:(x::xs).length=xs.length+1:=rfl;cases v with
    | nil=>
     rw[List.append_nil] at g7;repeat' ((conv=>whnf);first|fail|fail|exact kQ|(refine bk ?_ ?_<;>intro _<;>try(exfalso;omega))|refine stq ?_|refine cp hc ?_|refine cp hd0 ?_|refine dC.lst ?_|refine Chk.mk (dJ (λ_=>rfl) _) ?_|refine Chk.mk (by rw[aW (c:=ek) (sz:=1) (λ_=>rfl)];omega) ?_)
     all_goals(conv=>whnf)
     refine⟨j+1,x::xs,⟨by omega,g7⟩,by omega,?_⟩;exact lq [(0,_)] []
    | cons y ys=>
     have hv1:(y::ys).length=ys.length+1:=rfl;repeat' ((conv=>whnf);first|fail|fail|exact kQ|(refine bk ?_ ?_<;>intro _<;>try(exfalso;omega))|refine stq ?_|refine cp hc ?_|refine cp hd0 ?_|refine dC.lst ?_|refine Chk.mk (dJ (λ_=>rfl) _) ?_|refine Chk.growX 8 1 rfl rfl om om si ?_)
     all_goals(conv=>whnf)
     refine⟨j+1,(x::xs)++(y::ys),⟨by omega,g7⟩,by omega,?_⟩;exact lq [(0,21)] []
  | some m=>
   obtain⟨hm,_⟩:=cv hf;have hc:=ep hl hf;have hd0:=hc;have eo:o[m]'(by omega)=lW l k o t[j]:=by unfold lW;rw[hf];exact(gDn om).symm
   generalize lW l k o t[j]=v at *;cases acc with
   | nil=>
    cases v with
    | nil=>
     repeat' ((conv=>whnf);first|fail|refine Idx.atE (l:=o) (f:=aF) m rfl om (congrArg aF eo) ?_|exact kQ|(refine bk ?_ ?_<;>intro _<;>try(exfalso;omega))|refine stq ?_|refine cp hc ?_|refine cp hd0 ?_|refine dC.lst ?_)
     all_goals(conv=>whnf)
     refine⟨j+1,[],⟨by omega,g7⟩,by omega,?_⟩;exact lq0
    | cons y ys=>
     have hv1:(y::ys).length=ys.length+1:=rfl;repeat' ((conv=>whnf);first|fail|refine Idx.atE (l:=o) (f:=aF) m rfl om (congrArg aF eo) ?_|exact kQ|(refine bk ?_ ?_<;>intro _<;>try(exfalso;omega))|refine stq ?_|refine cp hc ?_|refine cp hd0 ?_|refine dC.lst ?_|refine Chk.growX 8 1 rfl rfl om om si ?_)
     all_goals(conv=>whnf)
     refine⟨j+1,y::ys,⟨by omega,g7⟩,by omega,?_⟩;exact lq [(0,20)] []
   | cons x xs=>
    have hx1:(x::xs).length=xs.length+1:=rfl;cases v with
    | nil=>
     rw[List.append_nil] at g7;repeat' ((conv=>whnf);first|fail|refine Idx.atE (l:=o) (f:=aF) m rfl om (congrArg aF eo) ?_|exact kQ|(refine bk ?_ ?_<;>intro _<;>try(exfalso;omega))|refine stq ?_|refine cp hc ?_|refine cp hd0 ?_|refine dC.lst ?_|refine Chk.mk (dJ (λ_=>rfl) _) ?_|refine Chk.mk (by rw[aW (c:=ek) (sz:=1) (λ_=>rfl)];omega) ?_)
     all_goals(conv=>whnf)
     refine⟨j+1,x::xs,⟨by omega,g7⟩,by omega,?_⟩;exact lq [(0,_)] []
    | cons y ys=>
     have hv1:(y::ys).length=ys.length+1:=rfl;repeat' ((conv=>whnf);first|fail|refine Idx.atE (l:=o) (f:=aF) m rfl om (congrArg aF eo) ?_|exact kQ|(refine bk ?_ ?_<;>intro _<;>try(exfalso;omega))|refine stq ?_|refine cp hc ?_|refine cp hd0 ?_|refine dC.lst ?_|refine Chk.mk (dJ (λ_=>rfl) _) ?_|refine Chk.growX 8 1 rfl rfl om om si ?_)
     all_goals(conv=>whnf)
     refine⟨j+1,(x::xs)++(y::ys),⟨by omega,g7⟩,by omega,?_⟩;exact lq [(0,20)] []
 ·rw[kE om] at g2;subst g2;generalize eZ l k o t=acc at *;cases acc with
  | nil=>
   repeat' ((conv=>whnf);first|exact kQ|(refine bk ?_ ?_<;>intro _<;>try(exfalso;omega))|refine stq ?_)
   all_goals(conv=>whnf)
   exact⟨Rd.nil⟩
  | cons x xs=>
   repeat' ((conv=>whnf);first|exact kQ|(refine bk ?_ ?_<;>intro _<;>try(exfalso;omega))|refine stq ?_)
   all_goals(conv=>whnf)
   exact⟨Rd.frzI rfl rfl rfl rfl rfl⟩
theorem oc {l:List Mpg}{k:Bool}{o:List (List Int)}{t:List Int}(hl:l.length<=1000) (hol:o.length=l.length) (ht:t.length<=1000) (ho:∀ j,(o.getD j []).length<=64):AC1 Tryz.prog 390 [ag l,.sl 0 0 l.length l.length 1 true,aF t,boo k] ⟨1,yW o⟩ (aF (eZ l k o t)) ⟨1,yW o⟩:=by
 refine AC1.of_vf aA T0 Tryz.func390 rfl rfl ?_;repeat' ((conv=>whnf);first|exact kQ|(refine bk ?_ ?_<;>intro _<;>try(exfalso;omega))|refine stq ?_)
 refine aH.by2 aA T0 (λ(j:Nat) (acc:List Int)=>⟨tmp 41 [(0,ag l),(1,.sl 0 0 l.length l.length 1 true),(2,aF t),(3,boo k),(9,fB 1 1 acc),(10,i64 (j:Int))],⟨2,gA 1 ek acc++yW o⟩⟩) (λj acc=>j<=t.length∧acc=eZ l k o (t.take j)) (λj _=>t.length-j) 0 [] ⟨by omega,rfl⟩ ?_ ?_
 ·exact lq0
 intro j acc ⟨g1,g2⟩;have hv0:([]:List Int).length=0:=rfl
 have hal:acc.length<=64*j:=by
  have:=tz (l:=l) (k:=k) ho (t.take j)
  rw[<-g2,List.length_take] at this;omega
 by_cases hj:j<t.length
 ·have g7:=vr (l:=l) (k:=k) (o:=o) hj;rw[<-g2] at g7
  replace g7:=g7.symm
  have hvl:=qU (l:=l) (k:=k) ho t[j];cases hf:fI l t[j] k with
  | none=>
   have hc:=nM hl hf;have hd0:=t8 (c:=t[j]);rw[show hd t[j]=lW l k o t[j] from by unfold lW;rw[hf]] at hd0;generalize lW l k o t[j]=v at *;cases acc with
   | nil=>
    cases v with
    | nil=>
     repeat' ((conv=>whnf);first|fail|fail|exact kQ|(refine bk ?_ ?_<;>intro _<;>try(exfalso;omega))|refine stq ?_|refine cp hc ?_|refine cp hd0 ?_|refine dC.lst ?_)
     all_goals(conv=>whnf)
     refine⟨j+1,[],⟨by omega,g7⟩,by omega,?_⟩;exact lq0
    | cons y ys=>
     have hv1:(y::ys).length=ys.length+1:=rfl;repeat' ((conv=>whnf);first|fail|fail|exact kQ|(refine bk ?_ ?_<;>intro _<;>try(exfalso;omega))|refine stq ?_|refine cp hc ?_|refine cp hd0 ?_|refine dC.lst ?_|refine Chk.growX 8 1 rfl rfl om om si ?_)
     all_goals(conv=>whnf)
     refine⟨j+1,y::ys,⟨by omega,g7⟩,by omega,?_⟩;exact lq [(1,22)] []
   | cons x xs=>
    have hx1:(x::xs).length=xs.length+1:=rfl;cases v with
    | nil=>
     rw[List.append_nil] at g7;repeat' ((conv=>whnf);first|fail|fail|exact kQ|(refine bk ?_ ?_<;>intro _<;>try(exfalso;omega))|refine stq ?_|refine cp hc ?_|refine cp hd0 ?_|refine dC.lst ?_|refine Chk.mk (dJ (λ_=>rfl) _) ?_|refine Chk.mk (by rw[aW (c:=ek) (sz:=1) (λ_=>rfl)];omega) ?_)
     all_goals(conv=>whnf)
     refine⟨j+1,x::xs,⟨by omega,g7⟩,by omega,?_⟩;exact lq [(1,1)] []
    | cons y ys=>
     have hv1:(y::ys).length=ys.length+1:=rfl;repeat' ((conv=>whnf);first|fail|fail|exact kQ|(refine bk ?_ ?_<;>intro _<;>try(exfalso;omega))|refine stq ?_|refine cp hc ?_|refine cp hd0 ?_|refine dC.lst ?_|refine Chk.mk (dJ (λ_=>rfl) _) ?_|refine Chk.growX 8 1 rfl rfl om om si ?_)
     all_goals(conv=>whnf)
     refine⟨j+1,(x::xs)++(y::ys),⟨by omega,g7⟩,by omega,?_⟩;exact lq [(1,22)] []
  | some m=>
   obtain⟨hm,_⟩:=cv hf;have hc:=ep hl hf;have hd0:=hc;have eo:o[m]'(by omega)=lW l k o t[j]:=by unfold lW;rw[hf];exact(gDn om).symm
   have hq:(o.map aF)[m]?=some (aF (o[m]'(by omega))):=by rw[List.getElem?_map,List.getElem?_eq_getElem om];rfl
   rw[eo] at hq;generalize lW l k o t[j]=v at *;cases acc with
   | nil=>
    cases v with
    | nil=>
     repeat' ((conv=>whnf);first|refine Get.one hq ?_|refine cA.at m rfl om ?_|exact kQ|(refine bk ?_ ?_<;>intro _<;>try(exfalso;omega))|refine stq ?_|refine cp hc ?_|refine cp hd0 ?_|refine dC.lst ?_|fail)
     all_goals(conv=>whnf)
     refine⟨j+1,[],⟨by omega,g7⟩,by omega,?_⟩;exact lq0
    | cons y ys=>
     have hv1:(y::ys).length=ys.length+1:=rfl;repeat' ((conv=>whnf);first|refine Get.one hq ?_|refine cA.at m rfl om ?_|exact kQ|(refine bk ?_ ?_<;>intro _<;>try(exfalso;omega))|refine stq ?_|refine cp hc ?_|refine cp hd0 ?_|refine dC.lst ?_|refine Chk.growX 8 1 rfl rfl om om si ?_|fail)
     all_goals(conv=>whnf)
     refine⟨j+1,y::ys,⟨by omega,g7⟩,by omega,?_⟩;exact lq [(1,21)] []
   | cons x xs=>
    have hx1:(x::xs).length=xs.length+1:=rfl;cases v with
    | nil=>
     rw[List.append_nil] at g7;repeat' ((conv=>whnf);first|refine Get.one hq ?_|refine cA.at m rfl om ?_|exact kQ|(refine bk ?_ ?_<;>intro _<;>try(exfalso;omega))|refine stq ?_|refine cp hc ?_|refine cp hd0 ?_|refine dC.lst ?_|refine Chk.mk (dJ (λ_=>rfl) _) ?_|refine Chk.mk (by rw[aW (c:=ek) (sz:=1) (λ_=>rfl)];omega) ?_|fail)
     all_goals(conv=>whnf)
     refine⟨j+1,x::xs,⟨by omega,g7⟩,by omega,?_⟩;exact lq [(1,1)] []
    | cons y ys=>
     have hv1:(y::ys).length=ys.length+1:=rfl;repeat' ((conv=>whnf);first|refine Get.one hq ?_|refine cA.at m rfl om ?_|exact kQ|(refine bk ?_ ?_<;>intro _<;>try(exfalso;omega))|refine stq ?_|refine cp hc ?_|refine cp hd0 ?_|refine dC.lst ?_|refine Chk.mk (dJ (λ_=>rfl) _) ?_|refine Chk.growX 8 1 rfl rfl om om si ?_|fail)
     all_goals(conv=>whnf)
     refine⟨j+1,(x::xs)++(y::ys),⟨by omega,g7⟩,by omega,?_⟩;exact lq [(1,21)] []
 ·rw[kE om] at g2;subst g2;generalize eZ l k o t=acc at *;cases acc with
  | nil=>
   repeat' ((conv=>whnf);first|exact kQ|(refine bk ?_ ?_<;>intro _<;>try(exfalso;omega))|refine stq ?_)
   all_goals(conv=>whnf)
   refine⟨Or.inr rfl,_,rfl,?_⟩;exact lq0
  | cons x xs=>
   repeat' ((conv=>whnf);first|exact kQ|(refine bk ?_ ?_<;>intro _<;>try(exfalso;omega))|refine stq ?_)
   all_goals(conv=>whnf)
   refine⟨Or.inr rfl,_,rfl,?_⟩;exact lq [] [1]
end Go.Proofs.YtihggclfifimoaaGreatDoor
namespace Go.Am
set_option linter.unusedVariables false
variable [GT]
section
variable {F:Fence}{n:Nat}{P:Program}{ops pre:Array Oper}{o:Oper}{Q:Exit->Act->World->Prop}
theorem wpIn_Q {x:Oper}{a:Act}{w:World}{K:Act->World->Prop}{Q':Exit->Act->World->Prop}(hp:∀ e a w,e≠.normal->Q' e a w->Q e a w) (h:x.wpIn F n P a w K Q'):x.wpIn F n P a w K Q:=by
 unfold Oper.wpIn at *;refine⟨h.1,?_⟩;have hh:=h.2;have hl:LetsOut Q'->LetsOut Q:=λ⟨a,w,h⟩=>⟨a,w,hp _ _ _ si h⟩
 generalize(x.semAt F.round a.eval).run P w=r at *;cases r with
 | ok x w'=>
  cases x<;>simp only[Oper.uponIn] at hh ⊢ <;>
   first
    | exact hh
    | exact⟨hh.1,CallsIn.mono hh.2 (λe w'' he=>by cases e<;>first|exact he|exact hp _ _ _ si he|exact hl he)⟩
    | exact⟨hh.1,RowsIn.mono hh.2 (λ_ _ he=>he)⟩
    | exact⟨hh.1,RoundIn.mono hh.2 (λe w'' he=>by cases e<;>first|exact he|exact hp _ _ _ si he|exact hl he)⟩
 | halt x w'=>cases x<;>simp only[Oper.uponIn] at hh ⊢<;>first|exact hp _ _ _ si hh|exact hh
def HR (F:Fence) (n:Nat) (P:Program) (ops:Array Oper) (m:Nat) (Q:Exit->Act->World->Prop):Exit->Act->World->Prop:=λe a w=>(e=.normal->wpOpIn F n P ops Q m (Q .normal) a w)∧(e≠.normal->Q e a w)
theorem yA (hops:ops=pre.push o) (hg:∀ (i:Nat) (x:Oper),pre[i]?=some x->x.guard=none){i:Nat}(hi:i<pre.size){K:Act->World->Prop}{a:Act}{w:World}(h:wpOpIn F n P pre (HR F n P ops pre.size Q) i K a w):wpOpIn F n P ops Q i K a w:=by
 unfold wpOpIn at *;have e:ops[i]?=pre[i]?:=by rw[hops,Array.getElem?_push];rw[if_neg om]
 rw[e];rw[Array.getElem?_eq_getElem hi] at h ⊢;have hgi:=hg i pre[i] (Array.getElem?_eq_getElem hi);have hw:∀ z,Region.wanted pre[i] z=true:=λz=>by unfold Region.wanted;rw[hgi]
 simp only[hw,if_true] at h ⊢;exact wpIn_Q (λe a w he hq=>hq.2 he) h
theorem Gy (hok:b6 ops=true) (hops:ops=pre.push o) (hg:∀ (i:Nat) (x:Oper),pre[i]?=some x->x.guard=none) (hanc:∀ i,i<pre.size->anc (MM ops) pre.size i=true):∀ (fuel:Nat) (listed:Array Bool) (a:Act) (w:World),
  listed.size=pre.size->oY ops (λi=>listed.getD i false=true)->listed.toList.count false<=fuel->wpAnyIn F n P .any pre (HR F n P ops pre.size Q) fuel listed a w->wpAnyIn F n P .any ops Q (fuel+1) (listed.push false) a w:=by
 have hm:ops[pre.size]?=some o:=by rw[hops];simp
 have hget:∀ {listed:Array Bool} {i:Nat},listed.size=pre.size->(listed.push false).getD i false=listed.getD i false:=λ{listed i} hs=>by
  simp only[Array.getD_eq_getD_getElem?,Array.getElem?_push];split
  ·rename_i h;rw[Array.getElem?_eq_none om];rfl
  ·rfl
 have fin:∀ (f:Nat) (listed:Array Bool) (a:Act) (w:World),listed.size=pre.size->(∀ i,i<pre.size->listed.getD i false=true)->wpOpIn F n P ops Q pre.size (Q .normal) a w->wpAnyIn F n P .any ops Q (f+1) (listed.push false) a w:=λf listed a w hs hall h=>by
  refine⟨λh0=>?_,λi hi=>?_⟩
  ·exfalso
   have:pre.size∈Region.ready .any ops (listed.push false):=bZ.2 ⟨o,hm,by rw[Array.getD_eq_getD_getElem?,Array.getElem?_push,if_pos hs.symm];rfl,λe he hb=>by rw[hget hs];exact hall _ (m6 hok hm he hb)⟩
   rw[h0] at this;cases this
  ·obtain⟨x,hx,h1,h2⟩:=bZ.1 hi;have hlt:=(Array.getElem?_eq_some_iff.1 hx).1;rw[hops] at hlt;simp only[Array.size_push] at hlt;by_cases him:i=pre.size
   ·subst him;refine wpOpIn_mono (λa w hQ=>wpAnyIn_done (List.eq_nil_iff_forall_not_mem.2 λj hj=>?_) hQ f) h;obtain⟨y,hy,g1,_⟩:=bZ.1 hj;have hjlt:=(Array.getElem?_eq_some_iff.1 hy).1;rw[hops] at hjlt;simp only[Array.size_push] at hjlt
    have hgj:((listed.push false).setIfInBounds pre.size true)[j]?=some false:=by
     rw[Array.getD_eq_getD_getElem?] at g1
     have:j<((listed.push false).setIfInBounds pre.size true).size:=by simp;omega
     rw[Array.getElem?_eq_getElem this] at g1 ⊢;simpa using g1
    rw[Array.getElem?_setIfInBounds] at hgj;split at hgj
    ·split at hgj<;>simp at hgj
    ·rename_i hne;have:=hall j om
     rw[<-hget hs,Array.getD_eq_getD_getElem?,hgj] at this;cases this
   ·have:=hall i om
    rw[<-hget hs,Array.getD_eq_getD_getElem?] at this;rw[Array.getD_eq_getD_getElem?] at h1;have hsz:i<(listed.push false).size:=by simp;omega
    rw[Array.getElem?_eq_getElem hsz] at this h1;simp only[Option.getD_some] at this h1;rw[h1] at this;cases this
 intro fuel
 induction fuel with
 | zero=>
  intro listed a w hs hc hcnt h;refine fin 0 listed a w hs (λi hi=>?_) (h.2.1 rfl);have h0:listed.toList.count false=0:=by omega
  rw[List.count_eq_zero] at h0;rw[Array.getD_eq_getD_getElem?,Array.getElem?_eq_getElem om];simp only[Option.getD_some];cases hx:listed[i] with
  | true=>rfl
  | false=>exact absurd (by rw[<-hx];exact Array.getElem_mem_toList _) h0
 | succ fuel ih=>
  intro listed a w hs hc hcnt h;by_cases hall:∀ i,i<pre.size->listed.getD i false=true
  ·refine fin _ listed a w hs hall ((h.1 (List.eq_nil_iff_forall_not_mem.2 λj hj=>?_)).1 rfl);obtain⟨y,hy,g1,_⟩:=bZ.1 hj;have hjlt:=(Array.getElem?_eq_some_iff.1 hy).1;have:=hall j hjlt
   rw[Array.getD_eq_getD_getElem?,Array.getElem?_eq_getElem om] at this g1;simp only[Option.getD_some] at this g1;rw[g1] at this;cases this
  ·refine⟨λh0=>?_,λi hi=>?_⟩
   ·exfalso;apply hall;intro i
    induction i using Nat.strongRecOn with
    | _ i ihs=>
     intro hi;cases hx:listed.getD i false with
     | true=>rfl
     | false=>
      exfalso;have e:ops[i]?=some pre[i]:=by rw[hops,Array.getElem?_push,if_neg om,Array.getElem?_eq_getElem hi]
      have:i∈Region.ready .any ops (listed.push false):=bZ.2 ⟨pre[i],e,by
       rw[Array.getD_eq_getD_getElem?,Array.getElem?_push,if_neg om];rw[Array.getD_eq_getD_getElem?] at hx;rw[Array.getElem?_eq_getElem om] at hx ⊢;simpa using hx,λe' he hb=>by
       have:=m6 hok e he hb
       rw[hget hs];exact ihs _ this om⟩
      rw[h0] at this;cases this
   ·obtain⟨x,hx,h1,h2⟩:=bZ.1 hi;have hlt:=(Array.getElem?_eq_some_iff.1 hx).1;rw[hops] at hlt;simp only[Array.size_push] at hlt
    have hne:i≠pre.size:=λe=>by
     subst e
     exact hall λj hj=>cw hok hc pre.size j (λo' e ho' he hb=>by
      rw[hx] at ho';injection ho' with ho';subst ho'
      have:=h2 e he hb
      rwa [hget hs] at this) (hanc j hj)
    have hil:i<pre.size:=by omega
    have e:ops[i]?=pre[i]?:=by rw[hops,Array.getElem?_push];rw[if_neg om]
    have h1':listed[i]?=some false:=by
     rw[Array.getD_eq_getD_getElem?,Array.getElem?_push,if_neg om] at h1;rw[Array.getElem?_eq_getElem om] at h1 ⊢;simpa using h1
    have hr:i∈Region.ready .any pre listed:=bZ.2 ⟨x,by rw[<-e];exact hx,by rw[Array.getD_eq_getD_getElem?,h1'];rfl,λe' he hb=>by rw[<-hget hs];exact h2 e' he hb⟩;refine wpOpIn_mono (λa w hw=>?_) (yA hops hg hil (h.2 i hr))
    have e2:(listed.push false).setIfInBounds i true=(listed.setIfInBounds i true).push false:=by
     apply Array.ext';rw[Array.toList_setIfInBounds,Array.toList_push,Array.toList_push,Array.toList_setIfInBounds,List.set_append_left _ _ (by simpa [hs] using hil)]
    rw[e2];refine ih _ a w (by simpa using hs) (λj o' e' hj ho' he hb=>?_) ?_ hw
    ·simp only[Array.getD_eq_getD_getElem?,Array.getElem?_setIfInBounds] at hj ⊢
     have hlist:listed.getD e'.on false=true->(if i=e'.on then if i<listed.size then some true else none else listed[e'.on]?).getD false=true:=λhz=>by
      split
      ·rw[if_pos om];rfl
      ·rwa [Array.getD_eq_getD_getElem?] at hz
     apply hlist;split at hj
     ·rename_i hij;subst hij;rw[hx] at ho';injection ho' with ho';subst ho'
      have:=h2 e' he hb
      rwa [hget hs] at this
     ·exact hc j o' e' (by show listed.getD j false=true;rw[Array.getD_eq_getD_getElem?];exact hj) ho' he hb
    ·have hl:i<listed.toList.length:=by simpa [hs] using hil
     rw[Array.toList_setIfInBounds];unfold List.count at hcnt ⊢;rw[List.countP_set hl]
     have:listed.toList[i]=false:=by
      rw[Array.getElem?_eq_getElem om] at h1';simpa using h1'
     rw[this,if_pos (show(false == false)=true from rfl),if_neg (show ¬(true == false)=true by decide)];have:=List.count_pos_iff.2 (show false∈listed.toList by rw[<-this];exact kM _)
     unfold List.count at this;omega
end
def HK (ops:Array Oper):Bool:=b6 ops&&(ops.pop.toList.all (λx=>x.guard.isNone)&&(List.range ops.pop.size).all λi=>anc (eE ops.toList []) ops.pop.size i)
noncomputable def HC (P:Program) (ti:TI) (xc:XC) (n:Nat) (ops:Array Oper) (o:Oper) (cc:Call) (f:Operand) (t:Tr) (h:HT) (nx:Nat) (df:List DE) (K:KC):Bool:=
 ifB (HK ops) (sI P ti xc n ops.pop t h nx λt h nx=>xev n t f λd=>
  match d with
  | .fn (.func g) first cap=>px n t cc.args.toList λus=>iI n t o.dst aM λt'=>K .normal t' h nx (.call g (first++us++cap)::df)
  | _=>false) false
section
variable {P:Program}{ti:TI}{xc:XC}{n k:Nat}
theorem Cd (hm:P.follows .mixedOrders=true) (T:TOk P ti) (X:XOk P xc) (hn:n<=2 ^ k){id:Nat}{ops:Array Oper}{o:Oper}{cc:Call}{f:Operand}(ho:rN ops=some (o,cc,f)){t:Tr}{h:HT}{nx:Nat}{df:List DE}{K:KC}(hs:HC P ti xc n ops o cc f t h nx df K=true) (hp:t.perf k) :
  ∃ e t' h' nx' df',K e t' h' nx' df'=true∧t'.perf k∧CW P true (.region id ops true) (sT n t h nx) df e (sT n t' h' nx') df':=by
 obtain⟨hops,hop,hcal,hg⟩:=xM ho
 have hpush:ops=ops.pop.push o:=by
  apply Array.ext';rw[Array.toList_push,Array.toList_pop];exact hops
 rcases aP hs with⟨hc,hs⟩|⟨_,h0⟩
 ·unfold HK at hc;simp only[kC,kL,List.mem_range] at hc;obtain⟨hok,hgd,hanc⟩:=hc;obtain⟨hok1,cl,s',t1,h1,nx1,C,hr,e1,e2,k2,k1⟩:=ni X hn hs hp;obtain⟨d,e3,k1⟩:=ah k1;split at k1
  ·rename_i g first cap;obtain⟨us,e4,k1⟩:=eV k1;obtain⟨t',e5,e6,e7⟩:=dw k2 hn k1;refine⟨.normal,t',h1,nx1,_,e7,e6,λro m hro c a Q hf hd hQ=>?_⟩;have hr0:=hro rfl;subst hr0;refine wpIn_region_any hm ?_;have hsz:ops.size=ops.pop.size+1:=by rw[congrArg Array.size hpush];simp
   have hz:Array.replicate ops.size false=(Array.replicate ops.pop.size false).push false:=by rw[hsz];rw[Array.replicate_succ]
   rw[hz,hsz];refine Gy (F:=WF none) hok hpush (λi x hx=>?_) (λi hi=>hanc i hi) _ _ a _ si (λj o' e' hj=>?_) si ?_
   ·have:=hgd x (Array.mem_toList_iff.2 (Array.mem_of_getElem? hx))
    simpa using this
   ·exfalso;simp only[Array.getD_eq_getD_getElem?,Array.getElem?_replicate] at hj;split at hj<;>cases hj
   refine kr T C mI hok1 hr hf λc' a' f1 g1 p1 d1=>⟨λ_=>?_,λh=>absurd rfl h⟩
   have hfit:Fit c' (sT n t1 h1 nx1) a':=⟨f1.rel.congr e2,by have:=f1.tmps;rw[e1] at this;exact this⟩
   have hm':ops[ops.pop.size]?=some o:=by
    have hq:(ops.pop.push o)[ops.pop.size]?=some o:=by rw[Array.getElem?_push,if_pos rfl]
    rwa [<-hpush] at hq
   have hw:∀ z,Region.wanted o z=true:=λz=>by unfold Region.wanted;rw[hg]
   have hv:=aI hfit.rel.inv hfit.tmps e3;simp only[V] at hv;obtain⟨xs,ys,hv,v1,v2⟩:=hv;have hargs:=b9 hfit.rel.inv hfit.tmps e4
   have hrun:(o.semAt none a'.eval).run P c'.w=.ok (.defer ⟨.fn (.func g) ys.toArray,(xs++cc.args.toList.map a'.eval).toArray⟩) c'.w:=by
    show(execOp a'.eval o).run P c'.w=_;unfold execOp;simp only[hop,resolve,hcal,Sem.run_bind,hv,Deferred.ofValue,Sem.run_pure,Result.andThen];congr 3;apply Array.ext';simp
   unfold wpOpIn;rw[hm'];simp only[hw,if_true];refine⟨λ_ _=>trivial,?_⟩;show o.uponIn (WF none) m P a' _ Q ((o.semAt none a'.eval).run P c'.w);rw[hrun];have hput:=bg (a:={ a' with defers:=⟨.fn (.func g) ys.toArray,(xs++cc.args.toList.map a'.eval).toArray⟩::a'.defers }) (dst:=o.dst) hfit.tmps (V.undef (c:=c'));rw[show dp (sT n t1 h1 nx1).tmps o.dst aM=tmL n t' from e5] at hput;refine hQ c' _ ⟨hfit.rel,hput⟩ (g1.congr (Heq.refl _) e2) p1 ?_
   have:({ a' with defers:=⟨.fn (.func g) ys.toArray,(xs++cc.args.toList.map a'.eval).toArray⟩::a'.defers }:Act).put o.dst undef={ (a'.put o.dst undef) with defers:=⟨.fn (.func g) ys.toArray,(xs++cc.args.toList.map a'.eval).toArray⟩::a'.defers }:=by cases o.dst<;>rfl
   rw[this];exact⟨_,_,rfl,⟨_,_,rfl,(v1.append hargs).append v2⟩,by rw[d1];exact DRs.keep g1.keeps _ _ hd⟩
  ·cases k1
 ·cases h0
end
def t6 (P:Program) (ti:TI):Dl:=λg ds h=>
 match P.funcs[g]? with
 | some fn=>
  match fn.body with
  | some (.region _ ops false)=>
   if fn.name == "runtime.NumGoroutine" then none else
   match iA P ti ops (List.range ops.size) (fm fn ds h) with
   | some s1=>(match gu ti fn s1 with|some _=>some s1.h|none=>none)
   | none=>none
  | _=>none
 | none=>none
theorem ya {P:Program}{ti:TI}(T:TOk P ti):zT P (t6 P ti):=λg ds h h' hr=>by
 unfold t6 at hr;split at hr
 ·rename_i fn hfn;split at hr
  ·rename_i id ops hb;split at hr
   ·simp at hr
   ·rename_i hname;split at hr
    ·rename_i s1 h1;split at hr
     ·rename_i d hd;simp only[kA] at hr;subst hr;refine⟨by unfold dK;rw[hfn];simp only[hb,Option.isSome_some,Bool.true_and];simpa using hname,λc vs R hvs n=>?_⟩;refine callsDIn_of_wpSIn hfn hb trivial λc₀ cs hmode=>?_
      have hfit:Fit c (fm fn ds h) { tmps:=vs.toArray++Array.replicate (fn.ntmps-vs.toArray.size) undef,defers:=[] }:=by
       refine⟨R,?_⟩;simp only[fm,Array.toList_append,Array.toList_replicate,List.size_toArray];rw[hvs.length];exact hvs.append (VS.replicate V.undef _)
      have hrec:recoverD (c₀::cs)=none:=by simp[recoverD,hmode]
      have hc0:({ c₀ with mode:=.returning }:Frame)=c₀:=by rw[<-hmode]
      refine wpSIn_region (gV T ops (c₀::cs) hrec _ _ s1 c _ _ h1 hfit λc2 a2 f2 g2 p2 d2=>?_);obtain⟨v,e1,v1⟩:=dN (P:=P) T f2 hd
      exact⟨by rw[d2],.returning,by rw[hc0],v,e1,v,c2,rfl,rfl,rfl,f2.rel,g2,λj hj=>by
       have hn0:(fm fn ds h).h.next=h.next:=rfl
       exact p2 j hj⟩
     ·simp at hr
    ·simp at hr
  ·simp at hr
 ·simp at hr
def mq (P:Program) (ti:TI):Dl:=λg ds h=>match t6 P ti g ds h with|some h'=>some h'|none=>ny P ti 100 g ds h
theorem yZ {P:Program}{ti:TI}(hm:P.follows .mixedOrders=true) (T:TOk P ti):zT P (mq P ti):=λg ds h h' hr=>by
 unfold mq at hr;split at hr
 ·rename_i h1 e;injection hr with hr;subst hr
  exact ya T _ _ _ _ e
 ·exact sO hm T 100 _ _ _ _ hr
section
variable (P:Program) (ti:TI) (xc:XC) (n:Nat)
noncomputable def sG:Code->Tr->HT->Nat->List DE->KC->Bool
 | .seq x y,t,h,nx,df,K=>sG x t h nx df λe t h nx df=>match e with|.normal=>sG y t h nx df K|e=>K e t h nx df
 | .region id ops true,t,h,nx,df,K=>(match rN ops with|some (o,cc,f)=>HC P ti xc n ops o cc f t h nx df K|none=>ls P ti xc n true (.region id ops true) t h nx df K)
 | c,t,h,nx,df,K=>ls P ti xc n true c t h nx df K
noncomputable def mV (df:List DE) (h:HT) (nx:Nat) (K:HT->Nat->Bool):Bool:=
 match df with
 | []=>K h nx
 | [.mark id]=>h.getK id λb=>(match b with|.dfr=>h.delK id λh'=>K h' nx|_=>false)
 | [.call g ds]=>a8 (mq P ti g ds (h.heap nx)) λh1=>K (Dd h1.bs) h1.next
 | _=>false
noncomputable def zZ (g:FuncId) (ds:List D) (h:HT) (nx:Nat) (K:D->HT->Nat->Bool):Bool:=
 match P.funcs[g]? with
 | some fn=>
  match fn.body with
  | some code=>ifB (Nat.ble ds.length fn.ntmps&&Nat.ble fn.ntmps (2 ^ dep fn.ntmps)&&!(fn.name == "runtime.NumGoroutine")) (vF ds 0 (Tr.full aM (dep fn.ntmps)) λt=>sG P ti xc fn.ntmps code t h nx [] λe t h nx df=>
   match e with
   | .normal=>mV P ti df h nx λh nx=>mT ti fn.ntmps t h fn.results.toList λrs=>a8 (ob rs) λd=>K d h nx
   | .ret=>mV P ti df h nx λh nx=>mT ti fn.ntmps t h fn.results.toList λrs=>a8 (ob rs) λd=>K d h nx
   | _=>false) false
  | none=>false
 | none=>false
end
section
variable {P:Program}{ti:TI}{xc:XC}{n k:Nat}
theorem ph (hm:P.follows .mixedOrders=true) (T:TOk P ti) (X:XOk P xc) (hn:n<=2 ^ k):∀ (code:Code) (t:Tr) (h:HT) (nx:Nat) (df:List DE) (K:KC),sG P ti xc n code t h nx df K=true->t.perf k ->
  ∃ e t' h' nx' df',K e t' h' nx' df'=true∧t'.perf k∧CW P true code (sT n t h nx) df e (sT n t' h' nx') df'
 | .seq x y,t,h,nx,df,K,hs,hp=>by
  simp only[sG] at hs;obtain⟨e,t1,h1,nx1,df1,k1,k2,k3⟩:=ph hm T X hn x t h nx df _ hs hp;cases e with
  | normal=>
   obtain⟨e2,t2,h2,nx2,df2,q1,q2,q3⟩:=ph hm T X hn y t1 h1 nx1 df1 _ k1 k2;exact⟨e2,t2,h2,nx2,df2,q1,q2,CW.seq k3 q3⟩
  | _=>exact⟨_,t1,h1,nx1,df1,k1,k2,CW.seqX k3 si⟩
 | .region id ops true,t,h,nx,df,K,hs,hp=>by
  simp only[sG] at hs;split at hs
  ·rename_i ho;exact Cd hm T X hn ho hs hp
  ·exact bN hm T X hn _ t h nx df K hs hp
 | .region id ops false,t,h,nx,df,K,hs,hp=>bN hm T X hn _ t h nx df K hs hp
 | .skip,t,h,nx,df,K,hs,hp=>bN hm T X hn _ t h nx df K hs hp
 | .cond _ _ _,t,h,nx,df,K,hs,hp=>bN hm T X hn _ t h nx df K hs hp
 | .block _ _,t,h,nx,df,K,hs,hp=>bN hm T X hn _ t h nx df K hs hp
 | .loop _,t,h,nx,df,K,hs,hp=>bN hm T X hn _ t h nx df K hs hp
 | .rangeFunc _ _ _ _,t,h,nx,df,K,hs,hp=>bN hm T X hn _ t h nx df K hs hp
 | .exit _,t,h,nx,df,K,hs,hp=>bN hm T X hn _ t h nx df K hs hp
 | .scope _,t,h,nx,df,K,hs,hp=>bN hm T X hn _ t h nx df K hs hp
 | .label _,t,h,nx,df,K,hs,hp=>bN hm T X hn _ t h nx df K hs hp
 | .goto _,t,h,nx,df,K,hs,hp=>bN hm T X hn _ t h nx df K hs hp
 | .ret,t,h,nx,df,K,hs,hp=>bN hm T X hn _ t h nx df K hs hp
 | .refuse _,t,h,nx,df,K,hs,hp=>bN hm T X hn _ t h nx df K hs hp
theorem x8 {df:List DE}{h:HT}{nx:Nat}{K:HT->Nat->Bool}(hs:mV P ti df h nx K=true):∃ h1 h' nx',ej (mq P ti) df (h.heap nx)=some h1∧Heq h1 (h'.heap nx')∧K h' nx'=true:=by
 unfold mV at hs;split at hs
 ·exact⟨_,h,nx,rfl,Heq.refl _,hs⟩
 ·rename_i id;obtain⟨b,hb,hs⟩:=HT.getK_some hs;split at hs
  ·rw[HT.delK_eq] at hs;refine⟨(h.heap nx).del id,_,nx,?_,⟨rfl,λj=>by rw[aB.get_del,HT.heap_get,HT.heap_get,HT.get_del]⟩,hs⟩;simp only[ej,HT.heap_get,hb]
  ·cases hs
 ·rename_i g ds;obtain⟨h1,e1,hs⟩:=aT hs;exact⟨h1,_,_,by simp only[ej,e1],⟨rfl,λj=>by rw[HT.heap_get,qk];rfl⟩,hs⟩
 ·cases hs
theorem Ca (hm:P.follows .mixedOrders=true) (T:TOk P ti) (X:XOk P xc){g:FuncId}{ds:List D}{h:HT}{nx:Nat}{K:D->HT->Nat->Bool}(hs:zZ P ti xc g ds h nx K=true):∃ d h' nx',AC1 P g ds (h.heap nx) d (h'.heap nx')∧K d h' nx'=true:=by
 unfold zZ at hs;split at hs
 ·rename_i fn hfn;split at hs
  ·rename_i code hb;rcases aP hs with⟨hc,hs⟩|⟨_,h0⟩
   ·simp only[kC,Nat.ble_eq,Bool.not_eq_true'] at hc;obtain⟨⟨hc1,hc2⟩,hc3⟩:=hc
    obtain⟨t,t1,t2,hs⟩:=mW (n:=fn.ntmps) (k:=dep fn.ntmps) hc2 (ds:=ds) (p:=[]) (Tr.perf_full (zB _)) (by simpa using hc1) (by
     apply List.ext_getElem?;intro i;by_cases hi:i<fn.ntmps
     ·rw[jD hi,Tr.get_full];simp[hi]
     ·rw[List.getElem?_eq_none (by rw[fH];omega),List.getElem?_eq_none (by simp;omega)]) hs
    obtain⟨e,t',h',nx',df',k1,k2,k3⟩:=ph hm T X hc2 code t h nx [] _ hs t2
    have hbegin:sT fn.ntmps t h nx=fm fn ds (h.heap nx):=by
     simp only[sT,fm,t1,List.nil_append,List.length_nil,Nat.zero_add]
    rw[hbegin] at k3;have DL:zT P (mq P ti):=yZ hm T
    have key:(e=.normal∨e=.ret)->mV P ti df' h' nx' (λh nx=>mT ti fn.ntmps t' h fn.results.toList λrs=>a8 (ob rs) λd=>K d h nx)=true->∃ d h' nx',AC1 P g ds (h.heap nx) d (h'.heap nx')∧K d h' nx'=true:=λhe k1=>by
     obtain⟨h1,h2,nx2,q1,q2,q3⟩:=x8 k1;obtain⟨rs,q4,q5⟩:=pm (nx:=nx2) q3;obtain⟨d,q6,q7⟩:=aT q5
     have hres:gu ti fn ⟨(sT fn.ntmps t' h' nx').tmps,h1⟩=some d:=by
      have hq:cr ti ⟨tmL fn.ntmps t',h1⟩ fn.results.toList=some rs:=by
       rw[<-q4]
       have:∀ l:List ResultVar,cr ti ⟨tmL fn.ntmps t',h1⟩ l=cr ti (sT fn.ntmps t' h2 nx2) l:=by
        intro l
        induction l with
        | nil=>rfl
        | cons r l ih=>
         have:gS ti ⟨tmL fn.ntmps t',h1⟩ r=gS ti (sT fn.ntmps t' h2 nx2) r:=by
          cases r with
          | tmp i=>rfl
          | cell a ty=>
           simp only[gS];split
           ·exact oU q2
           ·rfl
         simp only[cr,this,ih]
       exact this _
      unfold gu;rw[hq];exact q6
     have:=AC1.of_cw T DL hfn hb hc3 k3 he q1 hres
     exact⟨d,h2,nx2,this.congr (Heq.refl _) q2,q7⟩
    split at k1
    ·exact key (.inl rfl) k1
    ·exact key (.inr rfl) k1
    ·cases k1
   ·cases h0
  ·cases hs
 ·cases hs
end
noncomputable def tT (P:Program) (ti:TI) (sp:FuncId->List D->Option D) (f:Nat):XC:=
 Nat.rec (motive:=λ_=>XC) (λ_ _ _ _ _=>false) (λ_ ih k ds h nx K=>
  match k with
  | .fn g=>(match sp g ds with|some d=>K d h (nx+1)|none=>zZ P ti ih g ds h nx K)
  | .yf id=>ju P ti ih id ds h nx K) f
theorem nj {P:Program}{ti:TI}{sp:FuncId->List D->Option D}(hm:P.follows .mixedOrders=true) (T:TOk P ti) (S:pN P sp):∀ f,XOk P (tT P ti sp f)
 | 0=>λk ds h nx K hs=>by cases hs
 | f+1=>λk ds h nx K hs=>by
  cases k with
  | yf id=>exact nh hm T (nj hm T S f) (show ju P ti (tT P ti sp f) id ds h nx K=true from hs)
  | fn g=>
   replace hs:(match sp g ds with|some d=>K d h (nx+1)|none=>zZ P ti (tT P ti sp f) g ds h nx K)=true:=hs
   split at hs
   ·rename_i d hd;exact⟨d,h,nx+1,AC1.bump (S g ds d hd _),hs⟩
   ·exact Ca hm T (nj hm T S f) hs
theorem Pu.of_w {P:Program}{ti:TI}{sp:FuncId->List D->Option D}(hm:P.follows .mixedOrders=true) (T:TOk P ti) (S:pN P sp){f:Nat}{g:FuncId}{ds:List D}{d:D}(hn:aK ds=true) (hr:tT P ti sp f (.fn g) ds .emp 0 (λd1 h1 _=>vq h1 100000 d1 d)=true):Pu P g ds d:=by
 obtain⟨d1,h1,nx1,k1,k2⟩:=nj hm T S f _ _ _ _ _ hr;exact Pu.of_ac hn k1 (mo _ _ _ k2)
end Go.Am
namespace Go.Proofs.YtihggclfifimoaaGreatDoor
open Go Go.Am Classical
set_option linter.unusedVariables false
theorem str0:Pu Tryz.prog 13 [zN,aO,aO,aO] (i64 5):=
 Pu.of_w (sp:=λg ds=>spL g ds T57) aA T0 u9 (f:=60) (by kernel_rfl) (by kernel_rfl)
end Go.Proofs.YtihggclfifimoaaGreatDoor
namespace Go.Proofs.YtihggclfifimoaaGreatDoor
open Go Go.Am Classical
set_option linter.unusedVariables false
abbrev zC0:D:=.agg [aO,aO,i64 0,i64 0,i64 0]
abbrev op0:D:=.agg [i64 3,i64 1,boo false,boo false]
theorem eff0:Pu Tryz.prog 86 [op0] op0:=Pu.of_w (sp:=λ_ _=>none) aA T0 cq (f:=60) (by kernel_rfl) (by kernel_rfl)
theorem els0:Pu Tryz.prog 88 [zN,zC0,aO] aO:=Pu.of_w (sp:=λ_ _=>none) aA T0 cq (f:=60) (by kernel_rfl) (by kernel_rfl)
theorem wts0:Pu Tryz.prog 87 [aO,op0] (iu [[],[],[]]):=by
 refine pv Tryz.func87 ?_;repeat' ((conv=>whnf);first|refine Chk.mk ⟨by omega,by omega,by omega,by omega,kD rfl⟩ ?_|exact kQ|(refine bk ?_ ?_<;>intro _<;>try(exfalso;omega))|refine stq ?_|refine cp eff0 ?_|(apply Cll.inl aA T0 Tryz.func166 rfl rfl ?_;rotate_left)|exact⟨Or.inr rfl,rfl,rfl⟩|refine aH.times aA T0 1 ?_|fail)
 all_goals(conv=>whnf)
 exact⟨Rd.frz rfl rfl (kD rfl) (.cons Rd.nil (.cons Rd.nil (.cons Rd.nil .nil)))⟩
noncomputable def TK0:List (FuncId×List D×D):=[(88,[zN,zC0,aO],aO),(86,[op0],op0),(87,[aO,op0],iu [[],[],[]])]
theorem E3:pN Tryz.prog (λg ds=>spL g ds TK0):=yP (by
 unfold TK0;simp only[List.forall_mem_cons]
 exact⟨els0,eff0,wts0,by simp⟩)
theorem key0:Pu Tryz.prog 30 [zN,zC0,op0,aO] (aF [0,0]):=Pu.of_w (sp:=λg ds=>spL g ds TK0) aA T0 E3 (f:=60) (by kernel_rfl) (by kernel_rfl)
theorem kpk0:Pu Tryz.prog 35 [zN,zC0,op0,aO] (aF [0,0]):=Pu.of_w (sp:=λg ds=>spL g ds TK0) aA T0 E3 (f:=60) (by kernel_rfl) (by kernel_rfl)
noncomputable def TC0:List (FuncId×List D×D):=[(30,[zN,zC0,op0,aO],aF [0,0]),(35,[zN,zC0,op0,aO],aF [0,0])]
theorem TC0_ok:pN Tryz.prog (λg ds=>spL g ds TC0):=yP (by
 unfold TC0;simp only[List.forall_mem_cons]
 exact⟨key0,kpk0,by simp⟩)
theorem coll0:Pu Tryz.prog 12 [zN,zC0,op0,aO,aO] (i64 3):=Pu.of_w (sp:=λg ds=>spL g ds TC0) aA T0 TC0_ok (f:=60) (by kernel_rfl) (by kernel_rfl)
end Go.Proofs.YtihggclfifimoaaGreatDoor
namespace Go.Proofs.YtihggclfifimoaaGreatDoor
open Go Go.Am Classical
set_option linter.unusedVariables false
theorem xYF.rdX {p:Prop}(h:p:=by first|exact Rd.yf rfl|exact Rd.same (nbTq t)|exact Rd.map rfl|exact Rd.sl' rfl rfl rfl|exact Rd.same rfl|exact Rd.own sim rfl sim sim|exact Rd.own sim rfl lnQ3 lnQ3|fail):p:=h
theorem xYF.rbX {p:Prop}(h:p:=by first|exact Rb.dfr|exact rbQ|exact Rb.map .nil|exact Rb.map (Res.same (nbED _))|exact Rb.map (Res.eqs (Dr _ _) (nbED _))|exact Rb.cells (Rds.eqs (apC (x::xs) t[k]) (aG (by intro _;rfl) _)) rfl|fail):p:=h
open xYF
def nS (o:List Int) (c:Int):List Int:=if 0<=c∧c<=1114111∧c∉o then o++[c] else o
def c9 (t:List Int):List Int:=t.foldl nS []
theorem CF (t:List Int) (c:Int):c9 (t++[c])=nS (c9 t) c:=by simp[c9]
theorem mJ:∀ (t o:List Int),o.Nodup->(∀ c∈o,0<=c∧c<=1114111)->(t.foldl nS o).Nodup∧(∀ c∈t.foldl nS o,0<=c∧c<=1114111)∧(∀ c,c∈t.foldl nS o↔c∈o∨(c∈t∧0<=c∧c<=1114111))∧(t.foldl nS o).length<=o.length+t.length
 | [],o,h1,h2=>⟨h1,h2,λc=>by simp,by simp⟩
 | c::t,o,h1,h2=>by
  rw[List.foldl_cons];by_cases hc:0<=c∧c<=1114111∧c∉o
  ·have e:nS o c=o++[c]:=if_pos hc;rw[e]
   obtain⟨k1,k2,k3,k4⟩:=mJ t (o++[c]) (by
    rw[List.nodup_append];exact⟨h1,by simp,λa ha b hb=>by rw[List.mem_singleton.1 hb];exact λe=>hc.2.2 (e▸ha)⟩) (λx hx=>by
    rcases List.mem_append.1 hx with hx|hx
    ·exact h2 x hx
    ·rw[List.mem_singleton.1 hx];exact⟨hc.1,hc.2.1⟩)
   refine⟨k1,k2,λx=>?_,by simp at k4 ⊢;omega⟩;rw[k3 x];simp only[List.mem_append,kH,List.not_mem_nil,or_false];constructor
   ·rintro((h|h)|h)
    ·exact .inl h
    ·exact .inr ⟨.inl h,by rw[h];exact⟨hc.1,hc.2.1⟩⟩
    ·exact .inr ⟨.inr h.1,h.2⟩
   ·rintro(h|⟨h|h,h3⟩)
    ·exact .inl (.inl h)
    ·exact .inl (.inr h)
    ·exact .inr ⟨h,h3⟩
  ·have e:nS o c=o:=if_neg hc;rw[e];obtain⟨k1,k2,k3,k4⟩:=mJ t o h1 h2;refine⟨k1,k2,λx=>?_,by simp;omega⟩;rw[k3 x];simp only[kH];constructor
   ·rintro(h|h)
    ·exact .inl h
    ·exact .inr ⟨.inr h.1,h.2⟩
   ·rintro(h|⟨h|h,h3⟩)
    ·exact .inl h
    ·subst h;by_cases hm:x∈o
     ·exact .inl hm
     ·exact absurd ⟨h3.1,h3.2,hm⟩ hc
    ·exact .inr ⟨h,h3⟩
abbrev dsFn (t:List Int):D:=.fn (.func 153) [] [.iptr [aF t]]
noncomputable abbrev sZ (t:List Int):Box:=.loop .ready none [dsFn t,aM,aO,.ptr 1 0,aM,dsFn t,aM,aM,aM,aM,aM,aM] [6] (fnA Tryz.f78) (fnB Tryz.f78)
theorem nbTq (t:List Int):aL (.iptr [aF t])=true:=by simp[aL,aK,aC]
theorem rbQ {h:aB}{fz:Nat->Bool}{σl:List (Nat×Nat)}{t:List Int}:Rb h fz (sgm 5 σl) (sZ t) (sZ t):=
 .loop (by repeat(first|exact Rds.nil|refine Rds.cons (by first|exact Rd.same rfl|exact Rd.ptr rfl|exact Rd.same (by simp[aL,aK,aC])) ?_))
abbrev mpD (o:List Int):List (Int×Bool):=o.map λc=>(c,true)
abbrev ET (o:List Int):List (D×D):=(mpD o).map λp=>(i64 p.1,boo p.2)
theorem nbED (o:List Int):∀ p∈ET o,aL p.1=true∧aL p.2=true:=λp hp=>by
 obtain⟨q,_,rfl⟩:=List.mem_map.1 hp;exact⟨rfl,rfl⟩
theorem lkD {c:Int}{o:List Int}{i:Nat}:lkZ c (mpD o) i=none↔c∉o:=by
 rw[io];constructor
 ·exact λh hc=>h (c,true) (List.mem_map.2 ⟨c,hc,rfl⟩) rfl
 ·intro h p hp e;obtain⟨x,hx,rfl⟩:=List.mem_map.1 hp;exact h (e▸hx)
theorem uQ {c:Int}{o:List Int}{i:Nat}{j:Nat}{b:Bool}(h:lkZ c (mpD o) i=some (j,b)):b=true:=by
 induction o generalizing i with
 | nil=>simp[lkZ] at h
 | cons x o ih=>
  simp only[mpD,List.map_cons,lkZ] at h;split at h
  ·simp at h;exact h.2
  ·exact ih h
theorem Dr (o:List Int) (c:Int):ET o++[(i64 c,boo true)]=ET (o++[c]):=by simp[ET,mpD]
theorem flC:∀ l:List Int,l.flatMap cI=l.map i64
 | []=>rfl
 | x::l=>by rw[List.flatMap_cons,flC l];rfl
theorem apC (l:List Int) (w:Int):(((l.flatMap cI).drop 0).take (l.length*1))++[i64 w]=(l++[w]).flatMap cI:=by
 rw[flC,flC,List.drop_zero,kE si,List.map_append];rfl
theorem lnQ3 {p:Prop}(h:p:=by first|omega|(simp only[kG,kO,List.length_nil,List.length_set];omega)|(simp;done)|(simp;omega)|fail):p:=h
theorem dst1_c {t:List Int}(ht:t.length<=100000) :
  AC1 Tryz.prog 153 [.yf 4,.iptr [aF t]] ⟨5,[(4,sZ t),(3,.dfr),(1,.cells [aO] true)]⟩ (.tup []) ⟨7,gA 5 cI (c9 t)++[(4,sZ t),(3,.dfr),(1,.cells [fB 5 1 (c9 t)] true)]⟩:=by
 refine AC1.of_vf aA T0 Tryz.func153 rfl rfl ?_;repeat' ((conv=>whnf);first|exact kQ|(refine bk ?_ ?_<;>intro _<;>try(exfalso;omega))|refine stq ?_)
 refine aH.by aA T0 (λ(k:Nat)=>⟨tmp 31 [(0,.yf 4),(1,.iptr [aF t]),(3,.map 5),(7,aF t),(8,i64 t.length),(9,i64 (k:Int))],⟨7,gA 6 cI (c9 (t.take k))++[(5,.map (ET (c9 (t.take k)))),(4,sZ t),(3,.dfr),(1,.cells [fB 6 1 (c9 (t.take k))] true)]⟩⟩)
  (λk=>k<=t.length) (λk=>t.length-k) 0 om ?_ ?_
 ·show Lf _ _ ⟨tmp 31 [(0,.yf 4),(1,.iptr [aF t]),(3,.map 5),(7,aF t),(8,i64 t.length),(9,i64 0)],⟨7,[(5,.map []),(4,sZ t),(3,.dfr),(1,.cells [aO] true)]⟩⟩;exact lq [(5,5)] []
 intro k hk;by_cases h:k<t.length
 ·have hs1:c9 (t.take (k+1))=nS (c9 (t.take k)) t[k]:=by rw[aS h,CF]
  have hol:(c9 (t.take k)).length<=k:=by
   have:=(mJ (t.take k) [] si si).2.2.2
   rw[List.length_take] at this;unfold c9;simp at this;omega
  generalize c9 (t.take k)=o at *;cases o with
  | nil=>
   by_cases hv:0<=t[k]∧t[k]<=1114111
   ·have he:nS [] t[k]=[t[k]]:=if_pos ⟨hv.1,hv.2,by simp⟩;rw[he] at hs1;have hz:lkZ t[k] (mpD []) 0=none:=rfl;repeat' ((conv=>whnf);first|exact kQ|(refine bk ?_ ?_<;>intro _<;>try(exfalso;omega))|refine stq ?_|(refine cB.int (λ_ b hq=>?_) (λhq=>?_)<;>first|(rw[hz] at hq;cases hq)|skip)|(apply Yll.sv rfl rfl (SvR.region T0 ?_);rotate_left)|exact And.intro rfl rfl|refine And.intro rfl (SvR.block (SvR.region T0 ?_))|refine Chk.growX 8 1 rfl rfl om om (by first|(simp;done)|exact kD rfl) ?_|fail)
    all_goals(conv=>whnf)
    refine⟨k+1,by omega,by omega,?_⟩;simp only[hs1];exact lq [(5,5),(6,32)] []
   ·have he:nS [] t[k]=[]:=if_neg λh=>hv ⟨h.1,h.2.1⟩
    rw[he] at hs1;have hz:∀ i:Nat,True:=λ_=>trivial
    repeat' ((conv=>whnf);first|exact kQ|(refine bk ?_ ?_<;>intro _<;>try(exfalso;omega))|refine stq ?_|(refine cB.int (λ_ b hq=>?_) (λhq=>?_)<;>first|exact absurd hq (hz 0)|(obtain rfl:=uQ hq))|fail)
    all_goals(conv=>whnf)
    all_goals first
     | contradiction
     | (refine⟨k+1,by omega,by omega,?_⟩
        simp only[hs1]
        exact lq [(5,5)] [])
  | cons x xs=>
   have hlen:(x::xs).length=xs.length+1:=rfl;by_cases hv:0<=t[k]∧t[k]<=1114111
   ·by_cases hm:t[k]∈x::xs
    ·have he:nS (x::xs) t[k]=x::xs:=if_neg λh=>h.2.2 hm
     rw[he] at hs1;have hz:∀ i,lkZ t[k] (mpD (x::xs)) i≠none:=λi hn=>lkD.1 hn hm
     repeat' ((conv=>whnf);first|exact kQ|(refine bk ?_ ?_<;>intro _<;>try(exfalso;omega))|refine stq ?_|(refine cB.int (λ_ b hq=>?_) (λhq=>?_)<;>first|exact absurd hq (hz 0)|(obtain rfl:=uQ hq))|fail)
     all_goals(conv=>whnf)
     all_goals first
      | contradiction
      | (refine⟨k+1,by omega,by omega,?_⟩
         simp only[hs1]
         exact lq [(5,5),(6,6)] [])
    ·have he:nS (x::xs) t[k]=(x::xs)++[t[k]]:=if_pos ⟨hv.1,hv.2,hm⟩;rw[he] at hs1;have hz:lkZ t[k] (mpD (x::xs)) 0=none:=lkD.2 hm;repeat' ((conv=>whnf);first|exact kQ|(refine bk ?_ ?_<;>intro _<;>try(exfalso;omega))|refine stq ?_|(refine cB.int (λ_ b hq=>?_) (λhq=>?_)<;>first|(rw[hz] at hq;cases hq)|skip)|(apply Yll.sv rfl rfl (SvR.region T0 ?_);rotate_left)|exact And.intro rfl rfl|refine And.intro rfl (SvR.block (SvR.region T0 ?_))|refine Chk.growX 8 1 rfl rfl om om (by first|(simp;done)|exact kD rfl) ?_|fail)
     all_goals(conv=>whnf)
     refine⟨k+1,by omega,by omega,?_⟩;simp only[hs1];exact lq [(5,5),(6,32)] []
   ·have he:nS (x::xs) t[k]=x::xs:=if_neg λh=>hv ⟨h.1,h.2.1⟩
    rw[he] at hs1;have hz:∀ i:Nat,True:=λ_=>trivial
    repeat' ((conv=>whnf);first|exact kQ|(refine bk ?_ ?_<;>intro _<;>try(exfalso;omega))|refine stq ?_|(refine cB.int (λ_ b hq=>?_) (λhq=>?_)<;>first|exact absurd hq (hz 0)|(obtain rfl:=uQ hq))|fail)
    all_goals(conv=>whnf)
    all_goals first
     | contradiction
     | (refine⟨k+1,by omega,by omega,?_⟩
        simp only[hs1]
        exact lq [(5,5),(6,6)] [])
 ·obtain rfl:k=t.length:=by omega
  rw[List.take_length];generalize c9 t=o;cases o with
  | nil=>
   repeat' ((conv=>whnf);first|exact kQ|(refine bk ?_ ?_<;>intro _<;>try(exfalso;omega))|refine stq ?_|fail)
   all_goals(conv=>whnf)
   refine⟨Or.inl rfl,_,rfl,?_⟩;exact lq0
  | cons x xs=>
   repeat' ((conv=>whnf);first|exact kQ|(refine bk ?_ ?_<;>intro _<;>try(exfalso;omega))|refine stq ?_|fail)
   all_goals(conv=>whnf)
   refine⟨Or.inl rfl,_,rfl,?_⟩;exact lq [(5,6)] []
theorem Ec {t:List Int}(ht:t.length<=100000):Pu Tryz.prog 78 [dsFn t] (aF (c9 t)):=by
 have h1:=dst1_c ht;refine Pu.of_fw (ti:=pH Tryz.prog) Tryz.func78 rfl rfl (by simp[aL,aK,aC]) ?_;generalize c9 t=o at h1 ⊢;cases o with
 | nil=>
  repeat' ((conv=>whnf);first|exact kQ|(refine bk ?_ ?_<;>intro _<;>try(exfalso;omega))|refine stq ?_|refine Fw.range aA T0 rfl h1 rfl si ?_|refine Fw.split ?_|refine Fw.one aA T0 ?_|fail)
  all_goals(conv=>whnf)
  exact⟨rfl,_,rfl,⟨.nil⟩⟩
 | cons x xs=>
  repeat' ((conv=>whnf);first|exact kQ|(refine bk ?_ ?_<;>intro _<;>try(exfalso;omega))|refine stq ?_|refine Fw.range aA T0 rfl h1 rfl si ?_|refine Fw.split ?_|refine Fw.one aA T0 ?_|fail)
  all_goals(conv=>whnf)
  exact⟨rfl,_,rfl,aE.own1 (id:=5) (f:=i64) (l:=x::xs) (λ_=>rfl)⟩
end Go.Proofs.YtihggclfifimoaaGreatDoor
