/-
  Contracts of functions over data: boundaries and ranges of a text by a table (the program).
-/
import Derived.Test.YtbmdndckndnehaaGreatDoorG0
import Derived.Test.YtbmdndckndnehaaGreatDoorAmD
set_option linter.unusedSectionVars false
namespace Go.Proofs.YtbmdndckndnehaaGreatDoor
section
open Go Go.Am Classical
set_option maxRecDepth 100000
theorem xL0.rdX {p:Prop}(h:p:=by first|exact Rd.sl' rfl sim sim|fail):p:=h
theorem xL0.rbX {p:Prop}(h:p:=by first|exact Rb.cells (Rds.eqs (ad (by intro _;rfl) (x::xs) _) (aE (by intro _;rfl) _)) rfl|fail):p:=h
open xL0
variable [GT]
def ends (l:List Int) (k:Nat):List Int:=((List.range k).filter λi=>decide (l.getD i 0≠1)).map λ(i:Nat)=>(i:Int)
theorem ic {l:List Int}{k:Nat}(h:k<l.length) (e:¬l[k]=1):ends l (k+1)=ends l k++[(k:Int)]:=by
 have this:l.getD k 0≠1:=by rw[aJ h];exact e
 unfold ends;rw[List.range_succ,List.filter_append,List.map_append,List.filter_cons_of_pos (p:=λi=>decide (l.getD i 0≠1)) (a:=k) (decide_eq_true this)];rfl
theorem lN {l:List Int}{k:Nat}(h:k<l.length) (e:l[k]=1):ends l (k+1)=ends l k:=by
 have this:l.getD k 0=1:=by rw[aJ h];exact e
 unfold ends;rw[List.range_succ,List.filter_append,List.map_append,List.filter_cons_of_neg (p:=λi=>decide (l.getD i 0≠1)) (a:=k) (λh=>absurd this (of_decide_eq_true h)),List.filter_nil,List.map_nil,List.append_nil]
theorem nI {l:List Int}{k:Nat}:(ends l k).length<=k:=by
 simp only[ends,List.length_map];refine Nat.le_trans (List.length_filter_le _ _) si
theorem zH {p:Prp}{t:Tbl}{text:List Int}(h:text.length<=1000):(jm p t text).length<=1001:=by
 unfold jm;split
 ·rw[dQ];simp[ao];omega
 ·simp
noncomputable def sJ (p:Prp) (t:Tbl) (text:List Int):List Int:=ends (jm p t text) (jm p t text).length
theorem Aj {p:Prp}{t:Tbl}{text:List Int}(h:text.length<=1000):(sJ p t text).length<=1001:=by
 have:=nI (l:=jm p t text) (k:=(jm p t text).length)
 have:=zH (p:=p) (t:=t) h
 unfold sJ;omega
theorem r4 {p:Prp}{t:Tbl}{text:List Int}(hp:p.ok) (ht:t.ok) (h1:p.names.length<=1000) (h2:p.spans.length<=1000) (hx:text.length<=1000):Pu Tryz.prog 38 [cm p,dU t,aF text] (aF (sJ p t text)):=by
 have ha:=qU (text:=text) hp ht h1 h2 hx;have hl:=zH (p:=p) (t:=t) hx;unfold sJ;refine pv Tryz.func38 ?_;generalize jm p t text=l at ha hl ⊢;repeat' ((conv=>whnf);first|exact kQ|(refine bk ?_ ?_<;>intro _<;>try(exfalso;omega))|refine stq ?_|refine cp ha ?_|fail)
 all_goals(conv=>whnf)
 refine aH.by2 aB T0 (λ(k:Nat) (o:List Int)=>⟨tmp 28 [(7,aS 0 1 o),(13,aF l),(14,i64 l.length),(15,i64 (k:Int))],⟨1,bq 0 (λx=>[i64 x]) o⟩⟩)
  (λk o=>k<=l.length∧o=ends l k) (λk _=>l.length-k) 0 [] ⟨by omega,rfl⟩ ?_ ?_
 ·exact lq0
 intro k o ⟨h3,h4⟩;cases o with
 | nil=>
  repeat' ((conv=>whnf);first|exact kQ|(refine bk ?_ ?_<;>intro _<;>try(exfalso;omega))|refine stq ?_)
  all_goals(conv=>whnf)
  all_goals first
   | (refine⟨k+1,[],⟨by omega,by rw[lN om om];exact h4⟩,by omega,?_⟩
      exact lq0)
   | (refine⟨k+1,_,⟨by omega,by rw[ic om om,<-h4]⟩,by omega,?_⟩
      exact lq [(0,_)] [])
   | (rw[show l.length=k by omega,<-h4]
      exact⟨.nil⟩)
 | cons x xs=>
  have hlen:(x::xs).length<=1001:=by have:=nI (l:=l) (k:=k);rw[h4];omega
  repeat' ((conv=>whnf);first|exact kQ|(refine bk ?_ ?_<;>intro _<;>try(exfalso;omega))|refine stq ?_)
  all_goals(conv=>whnf)
  all_goals first
   | (refine⟨k+1,x::xs,⟨by omega,by rw[lN om om];exact h4⟩,by omega,?_⟩
      exact lq [(0,_)] [])
   | (refine⟨k+1,_,⟨by omega,by rw[ic om om,<-h4]⟩,by omega,?_⟩
      exact lq [(0,_)] [])
   | (rw[show l.length=k by omega,<-h4]
      exact aC.own1 (id:=0) (l:=x::xs) (rest:=[]) (λ_=>rfl))
noncomputable def l8 (p:Prp) (t:Tbl) (text:List Int):List Rng:=if TV t then btw 0 (sJ p t text++[(text.length:Int)]) else []
end
section
open Go Go.Am Classical
variable [GT]
def ptF (n:Int):Int->Int->List Int->List Rng
 | _,_,[]=>[]
 | i,s,a::l=>if i=s∨(a=1∧i<n-1) then ptF n (i+1) s l else⟨s,i⟩::ptF n (i+1) i l
def pM:Int->List Int->List Int
 | _,[]=>[]
 | i,a::l=>if a≠1 then i::pM (i+1) l else pM (i+1) l
theorem uT {n:Int}:∀ (l:List Int) (i s:Int),s<=i->i+l.length=n->l≠[]->ptF n i s l=btw s (pM i l++[n-1])
 | [],_,_,_,_,h=>absurd rfl h
 | [a],i,s,h1,h2,_=>by
  simp only[List.length_singleton] at h2;have e:n-1=i:=by omega
  rw[e];simp only[ptF,pM,e,Int.lt_irrefl,and_false,or_false];by_cases h:i=s
  ·subst h;by_cases ha:a=1<;>simp[ha,btw]
  ·have:s<i:=by omega
   by_cases ha:a=1<;>simp[h,ha,btw,this]
 | a::b::l,i,s,h1,h2,_=>by
  have hlen:i+1+((b::l).length:Int)=n:=by simp only[kO] at h2 ⊢;omega
  have hi:i<n-1:=by simp only[kO] at h2;omega
  have e1:ptF n i s (a::b::l)=if i=s∨(a=1∧i<n-1) then ptF n (i+1) s (b::l) else⟨s,i⟩::ptF n (i+1) i (b::l):=rfl
  have e2:pM i (a::b::l)=if a≠1 then i::pM (i+1) (b::l) else pM (i+1) (b::l):=rfl
  rw[e1,e2];have q1:=uT (b::l) (i+1) s om hlen si;have q2:=uT (b::l) (i+1) i om hlen si;by_cases h:i=s
  ·rw[if_pos (.inl h),q1];by_cases ha:a=1
   ·rw[if_neg (by simpa using ha)]
   ·rw[if_pos ha,List.cons_append,btw,if_neg om]
  ·by_cases ha:a=1
   ·rw[if_pos (.inr ⟨ha,hi⟩),if_neg (by simpa using ha),q1]
   ·rw[if_neg (by intro hc;rcases hc with hc|hc;exact h hc;exact ha hc.1),if_pos ha,List.cons_append,btw,if_pos om,q2]
theorem AV:∀ (l:List Int) (i:Int),pM i l=((List.range l.length).filter λj=>decide (l.getD j 0≠1)).map λ(j:Nat)=>i+(j:Int)
 | [],_=>rfl
 | a::l,i=>by
  have ih:=AV l (i+1);have e1:pM i (a::l)=if a≠1 then i::pM (i+1) l else pM (i+1) l:=rfl
  have e3:∀ (f:Nat->Int),(((List.range l.length).map Nat.succ).filter λj=>decide ((a::l).getD j 0≠1)).map f=((List.range l.length).filter λj=>decide (l.getD j 0≠1)).map λj=>f (j+1):=by
   intro f;rw[List.filter_map,List.map_map];rfl
  rw[e1,kO,List.range_succ_eq_map,ih];have e4:(λj:Nat=>i+1+(j:Int))=λj:Nat=>i+((j+1:Nat):Int):=by funext j;omega
  by_cases ha:a=1
  ·rw[if_neg (by simpa using ha),List.filter_cons_of_neg (p:=λj=>decide ((a::l).getD j 0≠1)) (a:=0) (by simp[ha]),e3,e4]
  ·rw[if_pos ha,List.filter_cons_of_pos (p:=λj=>decide ((a::l).getD j 0≠1)) (a:=0) (by simp[ha]),List.map_cons,e3,e4];simp
theorem B4 (l:List Int):ends l l.length=pM 0 l:=by
 rw[AV,ends];congr 1;funext j;omega
def ptV (l:List Int):List Rng:=ptF l.length 0 0 l
theorem GE {p:Prp}{t:Tbl}{text:List Int}:ptV (jm p t text)=l8 p t text:=by
 unfold ptV l8 sJ;by_cases hv:TV t
 ·have hl:(jm p t text).length=text.length+1:=by rw[jm,if_pos hv,dQ];simp[ao]
  rw[if_pos hv,B4,uT _ _ _ om om (by intro h;rw[h] at hl;simp at hl),hl];congr 3;omega
 ·rw[if_neg hv,jm,if_neg hv];rfl
end
section
open Go Go.Am Classical
set_option maxRecDepth 100000
theorem xL2.rdX {p:Prop}(h:p:=by first|exact Rd.yf rfl|exact Rd.same (by first|(simp[aK,aD,aM];done)|fail)|exact Rd.sl' rfl sim sim|fail):p:=h
theorem xL2.rbX {p:Prop}(h:p:=by first|exact Rb.dfr|exact rb95|exact Rb.cells (Rds.eqs (ad (c:=b7) (sz:=2) (by intro _;rfl) (x::xs) (⟨s,k⟩:Rng)) (aE (by intro _;rfl) _)) rfl|fail):p:=h
open xL2
variable [GT]
theorem DB {l:List Int}:Pk Tryz.prog 79 [aF l] 1 (λn=>.fn (.func 111) [] [.ptr n 0]) (λn=>[(n,.cells [aF l] true)]):=by
 refine Pk.of_v aB T0 Tryz.func79 rfl rfl (by simp[aD,aM]) ?_;repeat' ((conv=>whnf);first|exact kQ|(refine bk ?_ ?_<;>intro _<;>try(exfalso;omega))|refine stq ?_)
 all_goals(conv=>whnf)
 exact⟨[0],rfl,⟨by simp,λn=>.fn .nil (.cons (.ptr (by simp[sgn])) .nil),λn=>.cons (id:=0) (by simp[sgn]) rfl rfl (.cells (.cons (.same (aM l)) .nil) rfl) .nil⟩⟩
noncomputable abbrev qy (l:List Int):Box:=.loop .ready none [aI,.fn (.func 111) [] [.iptr [aF l]],.ptr 0 0,aN,aI,aN,.fn (.func 111) [] [.iptr [aF l]],aN,aN,aN,aN,aN,aN] [7] (fnA Tryz.f110) (fnB Tryz.f110)
theorem DY {n i s a:Int}{l:List Int}(h:i=s∨(a=1∧i<n-1)):ptF n i s (a::l)=ptF n (i+1) s l:=by rw[ptF,if_pos h]
theorem pX {n i s a:Int}{l:List Int}(h:¬(i=s∨(a=1∧i<n-1))):ptF n i s (a::l)=⟨s,i⟩::ptF n (i+1) i l:=by rw[ptF,if_neg h]
theorem rb95 {h:aA}{fz:Nat->Bool}{σl:List (Nat×Nat)}{l:List Int}:Rb h fz (sgm 5 σl) (qy l) (qy l):=
 .loop (by repeat(first|exact Rds.nil|refine Rds.cons (by first|exact Rd.same rfl|exact Rd.ptr rfl|exact Rd.same (by simp[aK,aD,aM])) ?_))
theorem yT {l:List Int}(hx:l.length<=1001):AC1 Tryz.prog 111 [.yf 4,.iptr [aF l]] ⟨5,[(4,qy l),(3,.dfr),(0,.cells [aI] true)]⟩ (.tup []) ⟨7,bq 5 b7 (ptV l)++[(4,qy l),(3,.dfr),(0,.cells [aS 5 2 (ptV l)] true)]⟩:=by
 refine AC1.of_vl aB T0 Tryz.func111 rfl rfl ?_;repeat' ((conv=>whnf);first|exact kQ|(refine bk ?_ ?_<;>intro _<;>try(exfalso;omega))|refine stq ?_)
 all_goals(conv=>whnf)
 refine aH.by3 aB T0 (λ(k:Nat) (s:Int) (o:List Rng)=>⟨tmp 35 [(0,.yf 4),(1,.iptr [aF l]),(3,i64 s),(6,aF l),(7,i64 l.length),(8,i64 (k:Int))],⟨6,bq 5 b7 o++[(4,qy l),(3,.dfr),(0,.cells [aS 5 2 o] true)]⟩⟩)
  (λk s o=>(k<=l.length∧o.length<=k)∧ptV l=o++ptF l.length k s (l.drop k)) (λk _ _=>l.length-k) 0 0 [] ⟨⟨by omega,by simp⟩,rfl⟩ ?_ ?_
 ·exact lq0
 intro k s o ⟨⟨h3,h5⟩,h4⟩;cases o with
 | nil=>
  repeat' ((conv=>whnf);first|exact kQ|(refine bk ?_ ?_<;>intro _<;>try(exfalso;omega))|refine stq ?_|(apply Yll.sv rfl rfl (SvR.region T0 ?_);rotate_left)|exact And.intro rfl rfl|refine And.intro rfl (SvR.block (SvR.region T0 ?_))|fail)
  all_goals(conv=>whnf)
  all_goals first
   | (refine⟨k+1,s,[],⟨⟨by omega,by simp⟩,by rw[h4,kK om,DY (by first|(left;omega)|(right;omega))];rfl⟩,by omega,?_⟩
      exact lq0)
   | (have h9:l[k]'(by omega)=1:=by assumption
      refine⟨k+1,k,[⟨s,k⟩],⟨⟨by omega,by simp⟩,by rw[h4,kK om,pX om];rfl⟩,by omega,?_⟩
      exact lq [(5,36)] [])
   | (refine⟨k+1,k,[⟨s,k⟩],⟨⟨by omega,by simp⟩,by rw[h4,kK om,pX om];rfl⟩,by omega,?_⟩
      exact lq [(5,31)] [])
   | (refine⟨Or.inl rfl,rfl,?_⟩
      rw[h4,List.drop_of_length_le om]
      rfl)
 | cons x xs=>
  have hlen:(x::xs).length<=1001:=by omega
  repeat' ((conv=>whnf);first|exact kQ|(refine bk ?_ ?_<;>intro _<;>try(exfalso;omega))|refine stq ?_|(apply Yll.sv rfl rfl (SvR.region T0 ?_);rotate_left)|exact And.intro rfl rfl|refine And.intro rfl (SvR.block (SvR.region T0 ?_))|fail)
  all_goals(conv=>whnf)
  all_goals first
   | (refine⟨k+1,s,x::xs,⟨⟨by omega,by omega⟩,by rw[h4,kK om,DY (by first|(left;omega)|(right;omega))];rfl⟩,by omega,?_⟩
      exact lq [(5,5)] [])
   | (have h9:l[k]'(by omega)=1:=by assumption
      refine⟨k+1,k,(x::xs)++[⟨s,k⟩],⟨⟨by omega,by simp only[kG,List.length_singleton];omega⟩,by rw[h4,kK om,pX om,List.append_assoc];rfl⟩,by omega,?_⟩
      exact lq [(5,36)] [])
   | (refine⟨k+1,k,(x::xs)++[⟨s,k⟩],⟨⟨by omega,by simp only[kG,List.length_singleton];omega⟩,by rw[h4,kK om,pX om,List.append_assoc];rfl⟩,by omega,?_⟩
      exact lq [(5,31)] [])
   | (refine⟨Or.inl rfl,rfl,?_⟩
      rw[h4,List.drop_of_length_le om,ptF,List.append_nil]
      rfl)
theorem xk {l:List Int}(hx:l.length<=1001):Pu Tryz.prog 110 [aI,.fn (.func 111) [] [.iptr [aF l]]] (ay (ptV l)):=by
 have h1:=yT hx;refine Pu.of_fw (ti:=ek Tryz.prog) Tryz.func110 rfl rfl (by simp[aK,aD,aM]) ?_;generalize ptV l=o at h1 ⊢;cases o with
 | nil=>
  repeat' ((conv=>whnf);first|exact kQ|(refine bk ?_ ?_<;>intro _<;>try(exfalso;omega))|refine stq ?_|refine Fw.range aB T0 rfl h1 rfl si ?_|refine Fw.split ?_|refine Fw.one aB T0 ?_|fail)
  all_goals(conv=>whnf)
  exact⟨rfl,_,rfl,⟨.nil⟩⟩
 | cons x xs=>
  repeat' ((conv=>whnf);first|exact kQ|(refine bk ?_ ?_<;>intro _<;>try(exfalso;omega))|refine stq ?_|refine Fw.range aB T0 rfl h1 rfl si ?_|refine Fw.split ?_|refine Fw.one aB T0 ?_|fail)
  all_goals(conv=>whnf)
  exact⟨rfl,_,rfl,aC.own (id:=5) (es:=2) (c:=b7) (l:=x::xs) (λ_=>rfl) (λ_=>rfl)⟩
theorem CV {l:List Int}(hx:l.length<=1001):Pu Tryz.prog 78 [.fn (.func 111) [] [.iptr [aF l]]] (ay (ptV l)):=by
 refine pv Tryz.func78 ?_;repeat' ((conv=>whnf);first|exact kQ|(refine bk ?_ ?_<;>intro _<;>try(exfalso;omega))|refine stq ?_|refine cp (xk sd) ?_|fail)
 all_goals(conv=>whnf)
 exact aC.same (ax _) rfl
theorem Au {p:Prp}{t:Tbl}{text l:List Int}(ha:Pu Tryz.prog 67 [cm p,dU t,aF text] (aF l)) (hl:l.length<=1001):Pu Tryz.prog 44 [cm p,dU t,aF text] (ay (ptV l)):=by
 refine pv Tryz.func44 ?_;repeat' ((conv=>whnf);first|exact kQ|(refine bk ?_ ?_<;>intro _<;>try(exfalso;omega))|refine stq ?_|refine cp ha ?_|refine Cll.pk DB ?_|refine Cll.give (.cons (.fn .nil (.cons (.frzp rfl rfl (.cons (.same (aM l)) .nil)) .nil)) .nil) (CV hl) ?_|fail)
 all_goals(conv=>whnf)
 exact aC.same (ax _) rfl
theorem At {p:Prp}{t:Tbl}{text:List Int}(hp:p.ok) (ht:t.ok) (h1:p.names.length<=1000) (h2:p.spans.length<=1000) (hx:text.length<=1000):Pu Tryz.prog 44 [cm p,dU t,aF text] (ay (l8 p t text)):=by
 rw[<-GE];exact Au (qU hp ht h1 h2 hx) (zH hx)
end
section
open Go Go.Am Classical
set_option maxRecDepth 100000
def Chn:Int->List Rng->Int->Prop
 | s,[],e=>s=e
 | s,r::P,e=>r.lo=s∧s<r.hi∧Chn r.hi P e
theorem vD [GT]:∀ {b:List Int}{s n:Int},(s::(b++[n])).Pairwise (·<=·)->Chn s (btw s (b++[n])) n
 | [],s,n,h=>by
  have h1:s<=n:=(List.pairwise_cons.1 h).1 n si;show Chn s (btw s [n]) n;by_cases h2:s<n
  ·rw[lR h2];exact⟨rfl,h2,rfl⟩
  ·rw[oJ h2];exact show s=n by omega
 | e::b,s,n,h=>by
  have hp:=List.pairwise_cons.1 h;have h1:s<=e:=hp.1 e si;rw[List.cons_append];by_cases h2:s<e
  ·rw[lR h2];exact⟨rfl,h2,vD hp.2⟩
  ·rw[oJ h2];refine vD (List.pairwise_cons.2 ⟨λa ha=>hp.1 a (by simp at ha ⊢;exact .inr ha),(List.pairwise_cons.1 hp.2).2⟩)
theorem G6 {A:List Int}{n:Nat}(hA:A.length=n+1):(0::(ends A A.length++[(n:Int)])).Pairwise (·<=·):=by
 have hm:∀ a∈ends A A.length,0<=a∧a<=(n:Int):=λa ha=>by
  simp only[ends,List.mem_map,List.mem_filter,List.mem_range] at ha;obtain⟨i,⟨h1,_⟩,rfl⟩:=ha;omega
 rw[List.pairwise_cons,List.pairwise_append];refine⟨λa ha=>?_,?_,by simp,λa ha b hb=>?_⟩
 ·rcases List.mem_append.1 ha with h|h
  ·exact(hm a h).1
  ·simp at h;omega
 ·unfold ends;rw[List.pairwise_map];exact(List.Pairwise.filter _ List.pairwise_lt_range).imp λh=>by omega
 ·simp at hb;have:=(hm a ha).2;omega
theorem vA:∀ {P:List Rng}{s e:Int},Chn s P e->s<=e
 | [],_,_,h=>by rw[show _=_ from h];exact Int.le_refl _
 | r::P,s,e,h=>by have:=vA h.2.2;have:=h.2.1;omega
def fW (s:Int):List Rng->Nat->Int
 | _,0=>s
 | [],_+1=>s
 | r::P,k+1=>fW r.hi P k
theorem fj:∀ {P:List Rng}{s e:Int}(k:Nat),Chn s P e->s<=fW s P k∧fW s P k<=e
 | [],s,e,k,h=>by cases k<;>exact⟨Int.le_refl _,by simp only[fW];exact Int.le_of_eq h⟩
 | r::P,s,e,0,h=>⟨Int.le_refl _,vA h⟩
 | r::P,s,e,k+1,h=>by have:=fj k h.2.2;have:=h.2.1;simp only[fW];omega
theorem nJ:∀ {P:List Rng}{s:Int}{k:Nat}(h:k<P.length),fW s P (k+1)=P[k].hi
 | r::P,s,0,_=>by cases P<;>rfl
 | r::P,s,k+1,h=>by simp only[fW,List.getElem_cons_succ];exact nJ (by simpa using h)
theorem nK:∀ {P:List Rng}{s e:Int}{k:Nat},Chn s P e->P.length<=k->fW s P k=e
 | [],s,e,k,h,_=>by cases k<;>exact h
 | r::P,s,e,0,_,hk=>by simp at hk
 | r::P,s,e,k+1,h,hk=>by simp only[fW];exact nK h.2.2 (by simpa using hk)
theorem mP:∀ {P:List Rng}{s e:Int}{k:Nat}(h:k<P.length),Chn s P e->P[k].lo=fW s P k∧fW s P k<P[k].hi∧P[k].hi<=e
 | r::P,s,e,0,_,h=>⟨h.1,h.2.1,vA h.2.2⟩
 | r::P,s,e,k+1,hk,h=>by
  have:=mP (P:=P) (k:=k) (by simpa using hk) h.2.2
  simpa only[fW,List.getElem_cons_succ] using this
theorem B5 {P:List Rng}{s:Int}:fW s P 0=s:=by cases P<;>rfl
def lv (text:List Int):List Rng->List Int
 | []=>[]
 | r::P=>lv text P++(text.drop r.lo.toNat).take (r.hi-r.lo).toNat
theorem sj (text:List Int) (r:Rng):∀ P:List Rng,lv text (P++[r])=(text.drop r.lo.toNat).take (r.hi-r.lo).toNat++lv text P
 | []=>by simp[lv]
 | q::P=>by simp only[List.cons_append,lv,sj text r P,List.append_assoc]
theorem mf {text:List Int}:∀ {P:List Rng}{s e:Int},Chn s P e->0<=s->e<=text.length->((lv text P).length:Int)=e-s
 | [],s,e,h,_,_=>by rw[show s=e from h];simp[lv]
 | r::P,s,e,h,h0,h1=>by
  have ih:=mf h.2.2 (by have:=h.2.1;omega) h1;have:=vA h.2.2
  have:=h.2.1
  have:=h.1
  simp only[lv,kG,List.length_take,List.length_drop];omega
end
section
open Go Go.Am
set_option maxRecDepth 100000
variable [GT]
end
end Go.Proofs.YtbmdndckndnehaaGreatDoor
