/-
  Contracts of functions over data: boundaries and ranges of a text by a table (the program).
-/
import Derived.Test.YtpgcjpcenaefpaaGreatDoorG0
import Derived.Test.YtpgcjpcenaefpaaGreatDoorAmD
set_option linter.unusedSectionVars false
namespace Go.Proofs.YtpgcjpcenaefpaaGreatDoor
section
open Go Go.Am Classical
set_option maxRecDepth 100000
variable [GT]
def iE (l:List Int) (k:Nat):List Int:=((List.range k).filter λi=>decide (l.getD i 0≠1)).map λ(i:Nat)=>(i:Int)
theorem LC {p:Prp}{t:Tbl}{text:List Int}(h:text.length<=1000):(gg p t text).length<=1001:=by
 unfold gg;split
 ·rw[dY];simp[av];omega
 ·simp
noncomputable def Jw (p:Prp) (t:Tbl) (text:List Int):List Int:=iE (gg p t text) (gg p t text).length
noncomputable def ue (p:Prp) (t:Tbl) (text:List Int):List Rng:=if TV t then btw 0 (Jw p t text++[(text.length:Int)]) else []
end
section
open Go Go.Am Classical
variable [GT]
def ptF (n:Int):Int->Int->List Int->List Rng
 | _,_,[]=>[]
 | i,s,a::l=>if i=s∨(a=1∧i<n-1) then ptF n (i+1) s l else⟨s,i⟩::ptF n (i+1) i l
def pE:Int->List Int->List Int
 | _,[]=>[]
 | i,a::l=>if a≠1 then i::pE (i+1) l else pE (i+1) l
theorem ud {n:Int}:∀ (l:List Int) (i s:Int),s<=i->i+l.length=n->l≠[]->ptF n i s l=btw s (pE i l++[n-1])
 | [],_,_,_,_,h=>absurd rfl h
 | [a],i,s,h1,h2,_=>by
  simp only[List.length_singleton] at h2;have e:n-1=i:=by omega
  rw[e];simp only[ptF,pE,e,Int.lt_irrefl,and_false,or_false];by_cases h:i=s
  ·subst h;by_cases ha:a=1<;>simp[ha,btw]
  ·have:s<i:=by omega
   by_cases ha:a=1<;>simp[h,ha,btw,this]
 | a::b::l,i,s,h1,h2,_=>by
  have hlen:i+1+((b::l).length:Int)=n:=by simp only[kO] at h2 ⊢;omega
  have hi:i<n-1:=by simp only[kO] at h2;omega
  have e1:ptF n i s (a::b::l)=if i=s∨(a=1∧i<n-1) then ptF n (i+1) s (b::l) else⟨s,i⟩::ptF n (i+1) i (b::l):=rfl
  have e2:pE i (a::b::l)=if a≠1 then i::pE (i+1) (b::l) else pE (i+1) (b::l):=rfl
  rw[e1,e2];have q1:=ud (b::l) (i+1) s om hlen si;have q2:=ud (b::l) (i+1) i om hlen si;by_cases h:i=s
  ·rw[if_pos (.inl h),q1];by_cases ha:a=1
   ·rw[if_neg (by simpa using ha)]
   ·rw[if_pos ha,List.cons_append,btw,if_neg om]
  ·by_cases ha:a=1
   ·rw[if_pos (.inr ⟨ha,hi⟩),if_neg (by simpa using ha),q1]
   ·rw[if_neg (by intro hc;rcases hc with hc|hc;exact h hc;exact ha hc.1),if_pos ha,List.cons_append,btw,if_pos om,q2]
theorem Al:∀ (l:List Int) (i:Int),pE i l=((List.range l.length).filter λj=>decide (l.getD j 0≠1)).map λ(j:Nat)=>i+(j:Int)
 | [],_=>rfl
 | a::l,i=>by
  have ih:=Al l (i+1);have e1:pE i (a::l)=if a≠1 then i::pE (i+1) l else pE (i+1) l:=rfl
  have e3:∀ (f:Nat->Int),(((List.range l.length).map Nat.succ).filter λj=>decide ((a::l).getD j 0≠1)).map f=((List.range l.length).filter λj=>decide (l.getD j 0≠1)).map λj=>f (j+1):=by
   intro f;rw[List.filter_map,List.map_map];rfl
  rw[e1,kO,List.range_succ_eq_map,ih];have e4:(λj:Nat=>i+1+(j:Int))=λj:Nat=>i+((j+1:Nat):Int):=by funext j;omega
  by_cases ha:a=1
  ·rw[if_neg (by simpa using ha),List.filter_cons_of_neg (p:=λj=>decide ((a::l).getD j 0≠1)) (a:=0) (by simp[ha]),e3,e4]
  ·rw[if_pos ha,List.filter_cons_of_pos (p:=λj=>decide ((a::l).getD j 0≠1)) (a:=0) (by simp[ha]),List.map_cons,e3,e4];simp
theorem CQ (l:List Int):iE l l.length=pE 0 l:=by
 rw[Al,iE];congr 1;funext j;omega
def ptV (l:List Int):List Rng:=ptF l.length 0 0 l
theorem GZ {p:Prp}{t:Tbl}{text:List Int}:ptV (gg p t text)=ue p t text:=by
 unfold ptV ue Jw;by_cases hv:TV t
 ·have hl:(gg p t text).length=text.length+1:=by rw[gg,if_pos hv,dY];simp[av]
  rw[if_pos hv,CQ,ud _ _ _ om om (by intro h;rw[h] at hl;simp at hl),hl];congr 3;omega
 ·rw[if_neg hv,gg,if_neg hv];rfl
end
section
open Go Go.Am Classical
set_option maxRecDepth 100000
theorem xL2.rdX {p:Prop}(h:p:=by first|exact Rd.yf rfl|exact Rd.same (by first|(simp[aI,aF,aO];done)|fail)|exact Rd.sl' rfl sim sim|fail):p:=h
theorem xL2.rbX {p:Prop}(h:p:=by first|exact Rb.dfr|exact rb95|exact Rb.cells (Rds.eqs (aU (c:=bX) (sz:=2) (by intro _;rfl) (x::xs) (⟨s,k⟩:Rng)) (aE (by intro _;rfl) _)) rfl|fail):p:=h
open xL2
variable [GT]
theorem DW {l:List Int}:Pk Tryz.prog 156 [aD l] 1 (λn=>.fn (.func 194) [] [.ptr n 0]) (λn=>[(n,.cells [aD l] true)]):=by
 refine Pk.of_v aB T0 Tryz.func156 rfl rfl (by simp[aF,aO]) ?_;repeat' ((conv=>whnf);first|exact kQ|(refine bk ?_ ?_<;>intro _<;>try(exfalso;omega))|refine stq ?_)
 all_goals(conv=>whnf)
 exact⟨[0],rfl,⟨by simp,λn=>.fn .nil (.cons (.ptr (by simp[sgn])) .nil),λn=>.cons (id:=0) (by simp[sgn]) rfl rfl (.cells (.cons (.same (aO l)) .nil) rfl) .nil⟩⟩
noncomputable abbrev qw (l:List Int):Box:=.loop .ready none [aM,.fn (.func 194) [] [.iptr [aD l]],.ptr 0 0,aJ,aM,aJ,.fn (.func 194) [] [.iptr [aD l]],aJ,aJ,aJ,aJ,aJ,aJ] [7] (fnA Tryz.f193) (fnB Tryz.f193)
theorem Dm {n i s a:Int}{l:List Int}(h:i=s∨(a=1∧i<n-1)):ptF n i s (a::l)=ptF n (i+1) s l:=by rw[ptF,if_pos h]
theorem pK {n i s a:Int}{l:List Int}(h:¬(i=s∨(a=1∧i<n-1))):ptF n i s (a::l)=⟨s,i⟩::ptF n (i+1) i l:=by rw[ptF,if_neg h]
theorem rb95 {h:aA}{fz:Nat->Bool}{σl:List (Nat×Nat)}{l:List Int}:Rb h fz (sgm 5 σl) (qw l) (qw l):=
 .loop (by repeat(first|exact Rds.nil|refine Rds.cons (by first|exact Rd.same rfl|exact Rd.ptr rfl|exact Rd.same (by simp[aI,aF,aO])) ?_))
set_option maxHeartbeats 1600000 in
theorem yq {l:List Int}(hx:l.length<=1001):AC1 Tryz.prog 194 [.yf 4,.iptr [aD l]] ⟨5,[(4,qw l),(3,.dfr),(0,.cells [aM] true)]⟩ (.tup []) ⟨7,cK 5 bX (ptV l)++[(4,qw l),(3,.dfr),(0,.cells [aV 5 2 (ptV l)] true)]⟩:=by
 refine AC1.of_vl aB T0 Tryz.func194 rfl rfl ?_;repeat' ((conv=>whnf);first|exact kQ|(refine bk ?_ ?_<;>intro _<;>try(exfalso;omega))|refine stq ?_)
 all_goals(conv=>whnf)
 refine aH.by3 aB T0 (λ(k:Nat) (s:Int) (o:List Rng)=>⟨tmp 35 [(0,.yf 4),(1,.iptr [aD l]),(3,i64 s),(6,aD l),(7,i64 l.length),(8,i64 (k:Int))],⟨6,cK 5 bX o++[(4,qw l),(3,.dfr),(0,.cells [aV 5 2 o] true)]⟩⟩)
  (λk s o=>(k<=l.length∧o.length<=k)∧ptV l=o++ptF l.length k s (l.drop k)) (λk _ _=>l.length-k) 0 0 [] ⟨⟨by omega,by simp⟩,rfl⟩ ?_ ?_
 ·exact lq0
 intro k s o ⟨⟨h3,h5⟩,h4⟩;cases o with
 | nil=>
  repeat' ((conv=>whnf);first|exact kQ|(refine bk ?_ ?_<;>intro _<;>try(exfalso;omega))|refine stq ?_|(apply Yll.sv rfl rfl (SvR.region T0 ?_);rotate_left)|exact And.intro rfl rfl|refine And.intro rfl (SvR.block (SvR.region T0 ?_))|fail)
  all_goals(conv=>whnf)
  all_goals first
   | (refine⟨k+1,s,[],⟨⟨by omega,by simp⟩,by rw[h4,kK om,Dm (by first|(left;omega)|(right;omega))];rfl⟩,by omega,?_⟩
      exact lq0)
   | (have h9:l[k]'(by omega)=1:=by assumption
      refine⟨k+1,k,[⟨s,k⟩],⟨⟨by omega,by simp⟩,by rw[h4,kK om,pK om];rfl⟩,by omega,?_⟩
      exact lq [(5,36)] [])
   | (refine⟨k+1,k,[⟨s,k⟩],⟨⟨by omega,by simp⟩,by rw[h4,kK om,pK om];rfl⟩,by omega,?_⟩
      exact lq [(5,31)] [])
   | (refine⟨Or.inl rfl,rfl,?_⟩
      rw[h4,List.drop_of_length_le om]
      rfl)
 | cons x xs=>
  have hlen:(x::xs).length<=1001:=by omega
  repeat' ((conv=>whnf);first|exact kQ|(refine bk ?_ ?_<;>intro _<;>try(exfalso;omega))|refine stq ?_|(apply Yll.sv rfl rfl (SvR.region T0 ?_);rotate_left)|exact And.intro rfl rfl|refine And.intro rfl (SvR.block (SvR.region T0 ?_))|fail)
  all_goals(conv=>whnf)
  all_goals first
   | (refine⟨k+1,s,x::xs,⟨⟨by omega,by omega⟩,by rw[h4,kK om,Dm (by first|(left;omega)|(right;omega))];rfl⟩,by omega,?_⟩
      exact lq [(5,5)] [])
   | (have h9:l[k]'(by omega)=1:=by assumption
      refine⟨k+1,k,(x::xs)++[⟨s,k⟩],⟨⟨by omega,by simp only[kG,List.length_singleton];omega⟩,by rw[h4,kK om,pK om,List.append_assoc];rfl⟩,by omega,?_⟩
      exact lq [(5,36)] [])
   | (refine⟨k+1,k,(x::xs)++[⟨s,k⟩],⟨⟨by omega,by simp only[kG,List.length_singleton];omega⟩,by rw[h4,kK om,pK om,List.append_assoc];rfl⟩,by omega,?_⟩
      exact lq [(5,31)] [])
   | (refine⟨Or.inl rfl,rfl,?_⟩
      rw[h4,List.drop_of_length_le om,ptF,List.append_nil]
      rfl)
theorem yH {l:List Int}(hx:l.length<=1001):Pu Tryz.prog 193 [aM,.fn (.func 194) [] [.iptr [aD l]]] (bB (ptV l)):=by
 have h1:=yq hx;refine Pu.of_fw (ti:=dM Tryz.prog) Tryz.func193 rfl rfl (by simp[aI,aF,aO]) ?_;generalize ptV l=o at h1 ⊢;cases o with
 | nil=>
  repeat' ((conv=>whnf);first|exact kQ|(refine bk ?_ ?_<;>intro _<;>try(exfalso;omega))|refine stq ?_|refine Fw.range aB T0 rfl h1 rfl si ?_|refine Fw.split ?_|refine Fw.one aB T0 ?_|fail)
  all_goals(conv=>whnf)
  exact⟨rfl,_,rfl,⟨.nil⟩⟩
 | cons x xs=>
  repeat' ((conv=>whnf);first|exact kQ|(refine bk ?_ ?_<;>intro _<;>try(exfalso;omega))|refine stq ?_|refine Fw.range aB T0 rfl h1 rfl si ?_|refine Fw.split ?_|refine Fw.one aB T0 ?_|fail)
  all_goals(conv=>whnf)
  exact⟨rfl,_,rfl,aC.own (id:=5) (es:=2) (c:=bX) (l:=x::xs) (λ_=>rfl) (λ_=>rfl)⟩
theorem Ct {l:List Int}(hx:l.length<=1001):Pu Tryz.prog 155 [.fn (.func 194) [] [.iptr [aD l]]] (bB (ptV l)):=by
 refine pv Tryz.func155 ?_;repeat' ((conv=>whnf);first|exact kQ|(refine bk ?_ ?_<;>intro _<;>try(exfalso;omega))|refine stq ?_|refine cp (yH sd) ?_|fail)
 all_goals(conv=>whnf)
 exact aC.same (aw _) rfl
theorem BC {p:Prp}{t:Tbl}{text l:List Int}(ha:Pu Tryz.prog 59 [bw p,f9 t,aD text] (aD l)) (hl:l.length<=1001):Pu Tryz.prog 120 [bw p,f9 t,aD text] (bB (ptV l)):=by
 refine pv Tryz.func120 ?_;repeat' ((conv=>whnf);first|exact kQ|(refine bk ?_ ?_<;>intro _<;>try(exfalso;omega))|refine stq ?_|refine cp ha ?_|refine Cll.pk DW ?_|refine Cll.give (.cons (.fn .nil (.cons (.frzp rfl rfl (.cons (.same (aO l)) .nil)) .nil)) .nil) (Ct hl) ?_|fail)
 all_goals(conv=>whnf)
 exact aC.same (aw _) rfl
theorem Hz {p:Prp}{t:Tbl}{text:List Int}(hp:p.ok) (ht:t.ok) (h1:p.names.length<=1000) (h2:p.spans.length<=1000) (hx:text.length<=1000):Pu Tryz.prog 120 [bw p,f9 t,aD text] (bB (ue p t text)):=by
 rw[<-GZ];exact BC (qO hp ht h1 h2 hx) (LC hx)
end
section
open Go Go.Am Classical
set_option maxRecDepth 100000
def Chn:Int->List Rng->Int->Prop
 | s,[],e=>s=e
 | s,r::P,e=>r.lo=s∧s<r.hi∧Chn r.hi P e
theorem pd [GT]:∀ {b:List Int}{s n:Int},(s::(b++[n])).Pairwise (·<=·)->Chn s (btw s (b++[n])) n
 | [],s,n,h=>by
  have h1:s<=n:=(List.pairwise_cons.1 h).1 n si;show Chn s (btw s [n]) n;by_cases h2:s<n
  ·rw[eR h2];exact⟨rfl,h2,rfl⟩
  ·rw[jO h2];exact show s=n by omega
 | e::b,s,n,h=>by
  have hp:=List.pairwise_cons.1 h;have h1:s<=e:=hp.1 e si;rw[List.cons_append];by_cases h2:s<e
  ·rw[eR h2];exact⟨rfl,h2,pd hp.2⟩
  ·rw[jO h2];refine pd (List.pairwise_cons.2 ⟨λa ha=>hp.1 a (by simp at ha ⊢;exact .inr ha),(List.pairwise_cons.1 hp.2).2⟩)
theorem Aj {A:List Int}{n:Nat}(hA:A.length=n+1):(0::(iE A A.length++[(n:Int)])).Pairwise (·<=·):=by
 have hm:∀ a∈iE A A.length,0<=a∧a<=(n:Int):=λa ha=>by
  simp only[iE,List.mem_map,List.mem_filter,List.mem_range] at ha;obtain⟨i,⟨h1,_⟩,rfl⟩:=ha;omega
 rw[List.pairwise_cons,List.pairwise_append];refine⟨λa ha=>?_,?_,by simp,λa ha b hb=>?_⟩
 ·rcases List.mem_append.1 ha with h|h
  ·exact(hm a h).1
  ·simp at h;omega
 ·unfold iE;rw[List.pairwise_map];exact(List.Pairwise.filter _ List.pairwise_lt_range).imp λh=>by omega
 ·simp at hb;have:=(hm a ha).2;omega
theorem oB:∀ {P:List Rng}{s e:Int},Chn s P e->s<=e
 | [],_,_,h=>by rw[show _=_ from h];exact Int.le_refl _
 | r::P,s,e,h=>by have:=oB h.2.2;have:=h.2.1;omega
def mA (s:Int):List Rng->Nat->Int
 | _,0=>s
 | [],_+1=>s
 | r::P,k+1=>mA r.hi P k
theorem vK:∀ {P:List Rng}{s e:Int}(k:Nat),Chn s P e->s<=mA s P k∧mA s P k<=e
 | [],s,e,k,h=>by cases k<;>exact⟨Int.le_refl _,by simp only[mA];exact Int.le_of_eq h⟩
 | r::P,s,e,0,h=>⟨Int.le_refl _,oB h⟩
 | r::P,s,e,k+1,h=>by have:=vK k h.2.2;have:=h.2.1;simp only[mA];omega
theorem rS:∀ {P:List Rng}{s:Int}{k:Nat}(h:k<P.length),mA s P (k+1)=P[k].hi
 | r::P,s,0,_=>by cases P<;>rfl
 | r::P,s,k+1,h=>by simp only[mA,List.getElem_cons_succ];exact rS (by simpa using h)
theorem xT:∀ {P:List Rng}{s e:Int}{k:Nat},Chn s P e->P.length<=k->mA s P k=e
 | [],s,e,k,h,_=>by cases k<;>exact h
 | r::P,s,e,0,_,hk=>by simp at hk
 | r::P,s,e,k+1,h,hk=>by simp only[mA];exact xT h.2.2 (by simpa using hk)
theorem zY:∀ {P:List Rng}{s e:Int}{k:Nat}(h:k<P.length),Chn s P e->P[k].lo=mA s P k∧mA s P k<P[k].hi∧P[k].hi<=e
 | r::P,s,e,0,_,h=>⟨h.1,h.2.1,oB h.2.2⟩
 | r::P,s,e,k+1,hk,h=>by
  have:=zY (P:=P) (k:=k) (by simpa using hk) h.2.2
  simpa only[mA,List.getElem_cons_succ] using this
theorem CR {P:List Rng}{s:Int}:mA s P 0=s:=by cases P<;>rfl
end
section
open Go Go.Am
set_option maxRecDepth 100000
variable [GT]
end
end Go.Proofs.YtpgcjpcenaefpaaGreatDoor
