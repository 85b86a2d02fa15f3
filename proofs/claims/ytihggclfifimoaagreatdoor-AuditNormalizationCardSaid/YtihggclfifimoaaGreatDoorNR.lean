/-
  What decompose.Check says: where it finds no error the data is valid.
-/
import Derived.Test.YtihggclfifimoaaGreatDoorNO
import Derived.Test.YtihggclfifimoaaGreatDoorNW
set_option linter.unusedSectionVars false
namespace Go.Proofs.YtihggclfifimoaaGreatDoor
set_option maxHeartbeats 8000000
set_option maxRecDepth 100000
section
open Go Go.Am Classical
theorem Es {l:List Mpg}(h:Asc l):∀ (j i:Nat) (hj:i+j<l.length),(l[i]'(by omega)).frm<=l[i+j].frm
 | 0,i,hj=>Int.le_refl _
 | j+1,i,hj=>by
  have h1:=Es h j i om;have h2:=h (i+j+1) om om;have e:i+j+1-1=i+j:=by omega
  simp only[e] at h2
  have h3:l[i+j].frm<=l[i+j+1].frm:=by
   rcases h2 with h2|⟨h2,_⟩<;>omega
  have e2:i+(j+1)=i+j+1:=by omega
  simp only[e2];omega
theorem mn {l:List Mpg}(h:Asc l) (hd:Ga l):i9 l:=λi hi h0=>by
 have h1:=Es h 1 (i-1) om;have h2:=hd (i-1) om;have e:i-1+1=i:=by omega
 simp only[e] at h1 h2;omega
theorem i9.inj {l:List Mpg}(h:i9 l):∀ m∈l,∀ m' ∈ l,m.frm=m'.frm->m=m':=by
 intro m hm m' hm' e;obtain⟨i,hi,rfl⟩:=List.getElem_of_mem hm;obtain⟨j,hj,rfl⟩:=List.getElem_of_mem hm';rcases Nat.lt_trichotomy i j with hlt|he|hgt
 ·have:=iY h (j-i-1) hi om
  have e2:i+(j-i-1)+1=j:=by omega
  simp only[e2] at this;omega
 ·subst he;rfl
 ·have:=iY h (i-j-1) hj om
  have e2:j+(i-j-1)+1=i:=by omega
  simp only[e2] at this;omega
theorem mG (c:Int):(hd c).length<=3:=by
 unfold hd;split
 ·split<;>simp
 ·simp
theorem qj {n:Nm}(hc:∀ i (h:i<n.dc.length),n.dc[i].to.length<=1000){c:Int}{to:List Int}(h:once n true c=some to):to.length<=1000:=by
 by_cases h4:4<=hk c
 ·have:to=hd c:=by unfold once at h;rw[if_pos h4] at h;injection h with h;exact h.symm
  rw[this];have:=mG c;omega
 ·obtain⟨m,h1,_,h3⟩:=gB h h4;obtain⟨i,hi,rfl⟩:=List.getElem_of_mem h1;rw[<-h3];exact hc i hi
theorem Cw {n:Nm}(hkd:∀ m∈n.dc,hk m.frm=0) (h1:(msF (once n true) (n.dc.length+1) n.dc).2.1=false) (h2:(msF (once n true) (n.dc.length+1) n.dc).2.2=false) :
  ∀ m∈n.dc,∃ s,SzR (once n true) m.frm s∧s<=64:=λm hm=>by
 obtain⟨s,h3,h4⟩:=(Do hkd (kP _) n.dc ([],false,false) (λ_ p hp=>by simp at hp) (λp hp=>by simp at hp) (λp hp=>by simp at hp) h1).2 m hm;exact⟨s,h3,h4 h2⟩
theorem kp {n:Nm}(hkd:∀ m∈n.dc,hk m.frm=0) (hs:∀ m∈n.dc,∃ s,SzR (once n true) m.frm s∧s<=64):nf (once n true):=AR λc=>by
 cases h:once n true c with
 | none=>exact⟨0,h⟩
 | some to=>
  by_cases h4:4<=hk c
  ·refine⟨1,λto' ht e he=>?_⟩
   have:to'=hd c:=by unfold once at ht;rw[if_pos h4] at ht;injection ht with ht;exact ht.symm
   exact dr hkd h4 (by rw[<-this];exact he)
  ·obtain⟨m,h1,h2,_⟩:=gB h h4;obtain⟨s,h3,_⟩:=hs m h1;rw[h2] at h3;exact h3.dep
theorem nQ {on:Int->Option (List Int)}{ex:Int->List Int}(hx:oX on ex):∀ l:List Int,(∀ e∈l,on e=none)->l.flatMap ex=l
 | [],_=>rfl
 | e::l,h=>by
  rw[List.flatMap_cons,hx.none (h e si),nQ hx l λx hxm=>h x (List.mem_cons_of_mem _ hxm)];rfl
theorem F2 {n:Nm}(hkd:∀ m∈n.dc,hk m.frm=0) (hs:∀ m∈n.dc,∃ s,SzR (once n true) m.frm s∧s<=64) (c:Int):(bA (once n true) c).length<=64:=by
 have hx:=lY (kp hkd hs);cases h:once n true c with
 | none=>rw[hx.none h];simp
 | some to=>
  by_cases h4:4<=hk c
  ·have ht:to=hd c:=by have h:=h;unfold once at h;rw[if_pos h4] at h;injection h with h;exact h.symm
   rw[hx.some h,nQ hx to λe he=>dr hkd h4 (by rw[<-ht];exact he),ht];have:=mG c;omega
  ·obtain⟨m,h1,h2,_⟩:=gB h h4;obtain⟨s,h3,h5⟩:=hs m h1;rw[h2] at h3;have:=(h3.len hx).1
   omega
theorem vN {l:List Mpg}{m:Mpg}(h:m∈l) (ht:m.tag≠[]):m.frm∈iJ l:=by
 unfold iJ;exact List.mem_map.2 ⟨m,List.mem_filter.2 ⟨h,by simpa using ht⟩,rfl⟩
theorem EI {l:List Spn}(h:ClV l) (c:Int):0<=aJ l c:=by
 have:∀ l:List Spn,(∀ s∈l,1<=s.val)->0<=aJ l c:=λl=>by
  induction l with
  | nil=>intro _;simp[aJ]
  | cons s l ih=>
   intro hl;simp only[aJ];split
   ·have:=hl s si;omega
   ·exact ih λx hx=>hl x (List.mem_cons_of_mem _ hx)
 exact this _ λs hs=>by
  obtain⟨i,hi,rfl⟩:=List.getElem_of_mem hs;exact(h i hi).1.2.2.2.1
theorem SzR.lenD {n:Nm}{ex:Int->List Int}(hx:oX (once n false) ex){c s:Int}(h:SzR (once n true) c s):((ex c).length:Int)<=s∧1<=s:=
 SzR.rec (motive_1:=λc s _=>((ex c).length:Int)<=s∧1<=s) (motive_2:=λl s _=>((l.flatMap ex).length:Int)<=s∧(l.length:Int)<=s)
  (λ{c} h=>by
   cases h0:once n false c with
   | none=>rw[hx.none h0];simp
   | some to=>rw[dF h0] at h;cases h)
  (λ{c} h=>by
   cases h0:once n false c with
   | none=>rw[hx.none h0];simp
   | some to=>rw[dF h0] at h;injection h with h;subst h;rw[hx.some h0];simp)
  (λ{c s to} h1 h2 _ ih=>by
   have:to.length≠0:=λh=>h2 (List.eq_nil_of_length_eq_zero h)
   cases h0:once n false c with
   | none=>rw[hx.none h0];simp only[List.length_singleton];omega
   | some to'=>rw[dF h0] at h1;injection h1 with h1;subst h1;rw[hx.some h0];omega)
  si
  (λ{e a b l} _ _ ih1 ih2=>by
   simp only[List.flatMap_cons,kG,kO]
   omega) h
theorem D5 {n:Nm}(hkd:∀ m∈n.dc,hk m.frm=0) (hs:∀ m∈n.dc,∃ s,SzR (once n true) m.frm s∧s<=64) (hE:nf (once n false)) (c:Int):(bA (once n false) c).length<=64:=by
 have hx:=lY hE;cases h:once n false c with
 | none=>rw[hx.none h];simp
 | some to=>
  have h':=dF h;by_cases h4:4<=hk c
  ·have ht:to=hd c:=by have h:=h;unfold once at h;rw[if_pos h4] at h;injection h with h;exact h.symm
   rw[hx.some h,nQ hx to λe he=>(by
    have h5:=dr hkd h4 (by rw[<-ht];exact he);cases h6:once n false e with
    | none=>rfl
    | some x=>rw[dF h6] at h5;cases h5),ht]
   have:=mG c;omega
  ·obtain⟨m,h1,h2,_⟩:=gB h' h4;obtain⟨s,h3,h5⟩:=hs m h1;rw[h2] at h3;have:=(h3.lenD hx).1
   omega
structure NmG (n:Nm):Prop where
 v:NmV n
 rise:i9 n.dc
 cls:OrV n.cl
 lenD:∀ c,(bA (once n false) c).length<=64
theorem Dh {n:Nm}(hc:Ch3 n) (hr:mj n.cl (iJ n.dc)=[]) (h1:(msF (once n true) (n.dc.length+1) n.dc).2.1=false) (h2:(msF (once n true) (n.dc.length+1) n.dc).2.2=false):NmG n:=by
 have hkd:∀ m∈n.dc,hk m.frm=0:=λm hm=>by
  obtain⟨i,hi,rfl⟩:=List.getElem_of_mem hm;exact hc.kind i hi
 have hs:=Cw hkd h1 h2;have hE:=kp hkd hs
 refine⟨{
  cl:=hc.cl.1
  dc:=hc.dc
  xc:=hc.xc
  inj:=(mn hc.dc.2 hc.dup).inj
  two:=λm hm ht=>by
   obtain⟨i,hi,rfl⟩:=List.getElem_of_mem hm;exact hc.two i hi ht
  kind:=hkd
  tagged:=λm hm ht=>qS.1 hr _ (vN hm ht)
  ends:=kp hkd hs
  len:=F2 hkd hs },mn hc.dc.2 hc.dup,hc.cl,D5 hkd hs ?_⟩
 obtain⟨rk,h⟩:=hE;exact⟨rk,λc to ht=>h c to (dF ht)⟩
def xu (n:Nm):Prop:=Ch3 n∧mj n.cl (iJ n.dc)=[]∧(msF (once n true) (n.dc.length+1) n.dc).2.1=false∧(msF (once n true) (n.dc.length+1) n.dc).2.2=false
theorem xu.g {n:Nm}(h:xu n):NmG n:=Dh h.1 h.2.1 h.2.2.1 h.2.2.2
theorem tA {n:Nm}(hn:n.ok):∃ e:Int,Pu Tryz.prog 94 [nmD n] (i64 e)∧(e=0↔xu n):=by
 by_cases hc:Ch3 n
 ·have hkd:∀ m∈n.dc,hk m.frm=0:=λm hm=>by
   obtain⟨i,hi,rfl⟩:=List.getElem_of_mem hm;exact hc.kind i hi
  have hu:fG n.cl=n.cl:=if_pos hc.cl;have hrun:=Runs_c (l:=n.cl) (t:=iJ n.dc) hn.cl (by have:=iU n.dc;have:=hn.dc;omega);rw[hu] at hrun;have hms:=Bc hn.dc (mn hc.dc.2 hc.dup) hkd (λc to h=>qj hn.to h);obtain⟨e,h1,h2⟩:=chk2_c hn hc hrun hms;exact⟨e,h1,h2.trans ⟨λh=>⟨hc,h⟩,λh=>h.2⟩⟩
 ·obtain⟨e,h1,h2⟩:=chk1_c hn hc;exact⟨e,h1,⟨λhe=>(h2 he).elim,λh=>absurd h.1 hc⟩⟩
theorem zC {n:Nm}(hn:n.ok):∃ e:Int,Pu Tryz.prog 94 [nmD n] (i64 e)∧(e=0->NmG n):=by
 obtain⟨e,h1,h2⟩:=tA hn;exact⟨e,h1,λhe=>(h2.1 he).g⟩
end
section
open Go Go.Am Classical
set_option linter.unusedVariables false
theorem xI0.rdX {p:Prop}(h:p:=by first|exact Rd.yf rfl|exact Rd.same (nbT cl t).1|exact Rd.same (nbT cl t).2|exact Rd.fn .nil (.cons (.frzp rfl rfl (.cons (.same (aC _)) .nil)) (.cons (.frzp rfl rfl (.cons (.same (aY _)) .nil)) .nil))|exact Rd.frzp rfl rfl (Rds.cons (Rd.same (aY _)) Rds.nil)|exact Rd.same (nbF _)|exact Rd.slO rfl om om om|exact Rd.slO rfl rfl sim sim|fail):p:=h
theorem xI0.rbX {p:Prop}(h:p:=by first|exact Rb.dfr|exact rbS|exact rbZ|exact Rb.cells (Rds.eqs (by first|(rw[h6 asm];done)|fail) (aN (λ_=>rfl) _)) rfl|exact Rb.cells (Rds.eqs (by first|(simp[cx];done)|fail) (aN (λ_=>rfl) _)) rfl|fail):p:=h
open xI0
theorem dJ {α:Type}{f:α->D}(h:∀ x,one (f x)=true):∀ l:List α,gW (l.map f)=true
 | []=>rfl
 | x::l=>by simp[gW,h,dJ h l]
theorem Rd.slO {h:aB}{fz:Nat->Bool}{σ:Nat->Option Nat}{id id' off off' n cap es:Nat}{ex:Bool}{n' cap':Nat}(hs:σ id'=some id) (eo:off=off') (e:n=n') (e':cap=cap'):Rd h fz σ (.sl id off n cap es ex) (.sl id' off' n' cap' es ex):=by subst eo;subst e;subst e';exact .sl hs
section
variable {cls:Int->Int}
def Est (cls:Int->Int) (X:List Int):Prop:=X=[]∨∃ X' z,X=X' ++ [z]∧cls z=0
theorem Est.apart {X:List Int}(h:Est cls X) (G:List Int):can cls (X++G)=can cls X++can cls G:=by
 rcases h with rfl|⟨X',z,rfl,hz⟩
 ·rfl
 ·rw[List.append_assoc,show [z]++G=z::G from rfl,gj hz,gj hz];simp only[List.append_assoc];rfl
theorem xa {X:List Int}{z:Int}(hz:cls z=0):can cls (X++[z])=can cls X++[z]:=by
 rw[gj hz];rfl
structure RnI (cls:Int->Int) (t:List Int) (k p:Nat) (s:Int):Prop where
 le:p<=k∧k<=t.length
 s:s=if p<k then(p:Int) else -1
 est:Est cls (t.take p)
 mks:Mk cls ((t.drop p).take (k-p))
abbrev rnS (cls:Int->Int) (t:List Int) (p:Nat):List Int:=can cls (t.take p)++t.drop p
theorem RnI.zero (cls:Int->Int) (t:List Int):RnI cls t 0 0 (-1):=⟨by omega,rfl,.inl rfl,by intro x hx;simp at hx⟩
theorem qG {t:List Int}{k:Nat}(h:k<t.length):t.take (k+1)=t.take k++[t[k]]:=List.take_succ_eq_append_getElem h
theorem RnI.part {t:List Int}{k p:Nat}(h:p<=k):t.drop p=(t.drop p).take (k-p)++t.drop k:=by
 have:=(List.take_append_drop (k-p) (t.drop p)).symm
 rwa [List.drop_drop,show p+(k-p)=k by omega] at this
theorem RnI.front {t:List Int}{k p:Nat}(h:p<=k):t.take k=t.take p++(t.drop p).take (k-p):=by
 rw[<-List.take_add,show p+(k-p)=k by omega]
theorem RnI.next {t:List Int}{k p:Nat}{s:Int}(h:RnI cls t k p s) (hk:k<t.length) (hz:cls t[k]=0):RnI cls t (k+1) (k+1) (-1):=⟨by omega,by rw[if_neg om],.inr ⟨t.take k,t[k],qG hk,hz⟩,by rw[Nat.sub_self];intro x hx;simp at hx⟩
theorem RnI.same {t:List Int}{k:Nat}(hk:k<t.length) (hz:cls t[k]=0):rnS cls t (k+1)=rnS cls t k:=by
 unfold rnS;rw[qG hk,xa hz,kK hk];simp
theorem RnI.run {t:List Int}{k p:Nat}{s:Int}(h:RnI cls t k p s) (hk:k<t.length) (hz:cls t[k]=0):rnS cls t (k+1)=can cls (t.take p)++(can cls ((t.drop p).take (k-p))++t.drop k):=by
 unfold rnS;rw[qG hk,xa hz,RnI.front h.le.1,h.est.apart,kK hk];simp
theorem RnI.more {t:List Int}{k p:Nat}{s:Int}(h:RnI cls t k p s) (hk:k<t.length) (hz:0<cls t[k]):RnI cls t (k+1) p (if p<k then(p:Int) else(k:Int)):=by
 have hle:=h.le;refine⟨by omega,by rw[if_pos (show p<k+1 by omega)];split<;>omega,h.est,?_⟩
 have e:(t.drop p).take (k+1-p)=(t.drop p).take (k-p)++[t[k]]:=by
  rw[show k+1-p=k-p+1 by omega,List.take_succ_eq_append_getElem (by simp;omega)];simp only[List.getElem_drop,show p+(k-p)=k by omega]
 rw[e];intro x hx;rcases List.mem_append.1 hx with hx|hx
 ·exact h.mks x hx
 ·rw[List.mem_singleton.1 hx];exact hz
theorem RnI.end1 {t:List Int}:rnS cls t t.length=can cls t:=by
 unfold rnS;rw[List.take_length,List.drop_length,List.append_nil]
theorem RnI.end2 {t:List Int}{p:Nat}{s:Int}(h:RnI cls t t.length p s):can cls t=can cls (t.take p)++(can cls ((t.drop p).take (t.length-p))++[]):=by
 have:=h.est.apart ((t.drop p).take (t.length-p))
 rw[<-RnI.front h.le.1,List.take_length] at this;rw[this,List.append_nil]
theorem rnS_at {t:List Int}{k p:Nat}(h:p<=k):rnS cls t p=can cls (t.take p)++((t.drop p).take (k-p)++t.drop k):=by
 unfold rnS;rw[<-RnI.part h]
theorem Fc (t:List Int) (p:Nat):(rnS cls t p).length=t.length:=by
 unfold rnS;rw[kG,(cj _).length_eq,<-kG,List.take_append_drop]
end
noncomputable abbrev wa (cl:List Spn) (t:List Int):Box:=.loop .ready none [.any,.any,.iptr [bC cl],.any,.any,.ptr 0 0,.any,.any,.any,.any,.any,.any,.any,tv cl t,.any,.any,.any,.any,.any,.any,.any,.any,.any,.any] [14] (fnA Tryz.f151) (fnB Tryz.f151)
noncomputable abbrev HQ (cl:List Spn) (t:List Int):Box:=.loop .busy none [.any,.any,.iptr [bC cl],.any,.any,.ptr 0 0,.any,.any,.any,.any,.any,.any,.any,tv cl t,.any,.any,.any,.any,.any,.any,.any,.any,.any,.any] [14] (fnA Tryz.f151) (fnB Tryz.f151)
theorem rbS {h:aB}{fz:Nat->Bool}{σl:List (Nat×Nat)}{cl:List Spn}{t:List Int}:Rb h fz (sgm 4 σl) (wa cl t) (wa cl t):=
 .loop (by repeat(first|exact Rds.nil|refine Rds.cons (by first|exact Rd.any|exact Rd.ptr rfl|exact Rd.same (by simp[aL,aK,aC,aY])) ?_))
abbrev srtB (t:List Int) (n:Nat):List (Nat×Box):=[(0,.cells [.sl 1 0 n n 1 false] true),(1,.cells (t.map bT) false)]
theorem BC {cl:List Spn}{t:List Int}(hl:cl.length<=1000) (hr:lA cl) (hc:∀ c,0<=aJ cl c) (ht:t.length<=100000) :
  AC1 Tryz.prog 345 [.yf 3,.iptr [aF t],.iptr [bC cl]] ⟨4,(3,wa cl t)::(2,.dfr)::srtB t t.length⟩ (.tup []) ⟨4,(3,wa cl t)::(2,.dfr)::srtB (can (aJ cl) t) t.length⟩:=by
 refine AC1.of_vf aA T0 Tryz.func345 rfl rfl ?_;repeat' ((conv=>whnf);first|exact kQ|(refine bk ?_ ?_<;>intro _<;>try(exfalso;omega))|refine stq ?_)
 all_goals(conv=>whnf)
 refine aH.by3 aA T0 (λ(k:Nat) (p:Nat) (s:Int)=>⟨tmp 48 [(0,.yf 3),(1,.iptr [aF t]),(2,.iptr [bC cl]),(4,i64 s),(8,aF t),(9,i64 t.length),(10,i64 (k:Int))],⟨4,(3,wa cl t)::(2,.dfr)::srtB (rnS (aJ cl) t p) t.length⟩⟩)
  (λk p s=>RnI (aJ cl) t k p s) (λk _ _=>t.length-k) 0 0 (-1) (RnI.zero _ _) ?_ ?_
 ·exact lq0
 intro k p s hI;have hle:=hI.le;have hs:=hI.s;have hlen:=Fc (cls:=aJ cl) t p;have hcp:(can (aJ cl) (t.take p)).length=p:=by rw[(cj _).length_eq];simp;omega
 by_cases hp:p<k
 ·rw[if_pos hp] at hs;subst hs;have hG:((t.drop p).take (k-p)).length=k-p:=by simp;omega
  have hb:=E4 hl hr (P:=can (aJ cl) (t.take p)) (G:=(t.drop p).take (k-p)) (S:=t.drop k) (o:=p) (n:=k-p) (c:=t.length-p) (by simp[hcp];omega) hcp hG hI.mks;rw[<-rnS_at hle.1] at hb;by_cases hk:k<t.length
  ·have hcc:=hc t[k];have h6:=hI.run hk;have h7:=hI.more hk;rw[if_pos hp] at h7;repeat' ((conv=>whnf);first|exact kQ|(refine bk ?_ ?_<;>intro _<;>try(exfalso;omega))|refine stq ?_|refine cp (lT hl hr) ?_|(apply Yll.sv rfl rfl (SvR.region T0 ?_);rotate_left)|exact And.intro rfl rfl|refine And.intro rfl (SvR.block (SvR.region T0 ?_))|refine Chk.mk ⟨by omega,by omega,by omega⟩ ?_|refine Cll.emb hb [(0,1)] [] (.tup []) [(1,.cells ((can (aJ cl) (t.take p)++(can (aJ cl) ((t.drop p).take (k-p))++t.drop k)).map bT) false)] [(3,HQ cl t),(2,.dfr),(0,.cells [.sl 1 0 t.length t.length 1 false] true)] rfl cZ bxA rdA bxA reA ?_|fail)
   all_goals(conv=>whnf)
   ·refine⟨k+1,k+1,-1,hI.next hk asm,by omega,?_⟩;exact lq0
   ·refine⟨k+1,p,p,h7 om,by omega,?_⟩;exact lq0
  ·have hk2:k=t.length:=by omega
   subst hk2;have h6:=hI.end2;rw[List.drop_length] at hb;repeat' ((conv=>whnf);first|exact kQ|(refine bk ?_ ?_<;>intro _<;>try(exfalso;omega))|refine stq ?_|(apply Yll.sv rfl rfl (SvR.region T0 ?_);rotate_left)|exact And.intro rfl rfl|refine And.intro rfl (SvR.block (SvR.region T0 ?_))|refine Chk.mk ⟨by omega,by omega,by omega⟩ ?_|refine Cll.emb hb [(0,1)] [] (.tup []) [(1,.cells ((can (aJ cl) (t.take p)++(can (aJ cl) ((t.drop p).take (t.length-p))++[])).map bT) false)] [(3,HQ cl t),(2,.dfr),(0,.cells [.sl 1 0 t.length t.length 1 false] true)] rfl cZ bxA rdA bxA reA ?_|fail)
   all_goals(conv=>whnf)
   refine⟨Or.inl rfl,_,rfl,?_⟩;rw[h6];exact lq0
 ·have hpk:p=k:=by omega
  subst hpk;rw[if_neg hp] at hs;subst hs;by_cases hk:p<t.length
  ·have hcc:=hc t[p];have h6:=RnI.same (cls:=aJ cl) hk;have h7:=hI.more hk;rw[if_neg hp] at h7;repeat' ((conv=>whnf);first|exact kQ|(refine bk ?_ ?_<;>intro _<;>try(exfalso;omega))|refine stq ?_|refine cp (lT hl hr) ?_|fail)
   all_goals(conv=>whnf)
   ·refine⟨p+1,p+1,-1,hI.next hk asm,by omega,?_⟩;rw[h6 asm];exact lq0
   ·refine⟨p+1,p,p,h7 om,by omega,?_⟩;exact lq0
  ·have hk2:p=t.length:=by omega
   subst hk2;rw[RnI.end1];repeat' ((conv=>whnf);first|exact kQ|(refine bk ?_ ?_<;>intro _<;>try(exfalso;omega))|refine stq ?_|fail)
   all_goals(conv=>whnf)
   refine⟨Or.inl rfl,_,rfl,?_⟩;exact lq0
noncomputable abbrev wd (cl:List Spn):Box:=.loop .ready none [.any,.any,.any,.any,.any,.ptr 0 0,.any,.any,.any,.any,.any,.any,.any,tv cl [],.any,.any,.any,.any,.any,.any,.any,.any,.any,.any] [14] (fnA Tryz.f151) (fnB Tryz.f151)
theorem rbZ {h:aB}{fz:Nat->Bool}{σl:List (Nat×Nat)}{cl:List Spn}:Rb h fz (sgm 3 σl) (wd cl) (wd cl):=
 .loop (by repeat(first|exact Rds.nil|refine Rds.cons (by first|exact Rd.any|exact Rd.ptr rfl|exact Rd.same (by simp[aL,aK,aC,aY])) ?_))
theorem zG:Pu Tryz.prog 72 [aF []] (aF []):=by
 refine Pu.empty ?_ ?_
 ·refine pv Tryz.func72 ?_;repeat' ((conv=>whnf);first|exact kQ|(refine bk ?_ ?_<;>intro _<;>try(exfalso;omega))|refine stq ?_)
  all_goals(conv=>whnf)
  exact⟨.nil⟩
 ·refine pv Tryz.func72 ?_;repeat' ((conv=>whnf);first|exact kQ|(refine bk ?_ ?_<;>intro _<;>try(exfalso;omega))|refine stq ?_)
  all_goals(conv=>whnf)
  exact⟨Rd.frz rfl rfl (kD rfl) (Rds.eqs rfl rfl)⟩
theorem BD {cl:List Spn}:AC1 Tryz.prog 345 [.yf 2,.iptr [aF []],.iptr [bC cl]] ⟨3,[(2,wd cl),(1,.dfr),(0,.cells [aF []] true)]⟩ (.tup []) ⟨3,[(2,wd cl),(1,.dfr),(0,.cells [aF []] true)]⟩:=by
 refine AC1.of_vf aA T0 Tryz.func345 rfl rfl ?_;repeat' ((conv=>whnf);first|refine bk (λh=>absurd h si) (λ_=>?_)|exact kQ|(refine bk ?_ ?_<;>intro _<;>try(exfalso;omega))|refine stq ?_|refine aH.times aA T0 1 ?_|fail)
 all_goals(conv=>whnf)
 refine⟨Or.inl rfl,_,rfl,?_⟩;exact lq0
theorem sV {l:List Spn}{t:List Int}(hl:l.length<=1000) (ht:t.length<=100000):Pu Tryz.prog 151 [bC l,aF t] (aF (can (aJ (fG l)) t)):=by
 have hu:=qC hl;have hcl:=qB hl;have hv:=tY l;have hr:=hv.rise;have hpos:∀ c,0<=aJ (fG l) c:=EI hv.cl;generalize fG l=cl at *;cases t with
 | nil=>
  have hcn:=zG;have h1:=BD (cl:=cl);refine Pu.of_fw (ti:=pH Tryz.prog) Tryz.func151 rfl rfl (by simp[aK,aY,aC]) ?_;repeat' ((conv=>whnf);first|refine Fw.range aA T0 rfl h1 rfl si ?_|exact kQ|(refine bk ?_ ?_<;>intro _<;>try(exfalso;omega))|refine stq ?_|refine cp hu ?_|refine cp hcn ?_|refine Fw.split ?_|refine Fw.one (x:=Code.region _ _ _) aA T0 ?_|refine Fw.weak (code:=Code.block _ _::_) (s':=⟨tmp 24 [(5,.ptr 0 0),(13,tv cl [])],⟨1,[(0,.cells [aF []] true)]⟩⟩) ?_ ?_|refine Cll.pk yV ?_|fail)
  ·exact lq [(0,7)] [0,12,13]
  all_goals(conv=>whnf)
  exact⟨rfl,_,rfl,⟨.same rfl⟩⟩
 | cons x xs=>
  have hx2:(x::xs).length=xs.length+1:=rfl;have h1:=BC (t:=x::xs) hcl hr hpos ht;refine Pu.of_fw (ti:=pH Tryz.prog) Tryz.func151 rfl rfl (by simp[aK,aC,aY]) ?_;repeat' ((conv=>whnf);first|refine Fw.range aA T0 rfl h1 rfl si ?_|exact kQ|(refine bk ?_ ?_<;>intro _<;>try(exfalso;omega))|refine stq ?_|refine cp hu ?_|refine Fw.split ?_|refine Fw.one (x:=Code.region _ _ _) aA T0 ?_|refine Fw.weak (code:=Code.block _ _::_) (s':=⟨tmp 24 [(2,.iptr [bC cl]),(5,.ptr 0 0),(13,tv cl (x::xs))],⟨2,[(0,.cells [.sl 1 0 (x::xs).length (x::xs).length 1 false] true),(1,.cells ((x::xs).map bT) false)]⟩⟩) ?_ ?_|refine Cll.pk yV ?_|(apply Cll.inl aA T0 Tryz.func72 rfl rfl ?_;rotate_left)|exact⟨Or.inr rfl,rfl,rfl⟩|refine dC.lst ?_|refine Chk.mk (dJ (λ_=>rfl) _) ?_|refine Chk.growX 8 1 rfl rfl om om si ?_|fail)
  ·exact lq [(0,_),(1,_)] [0,19,20]
  all_goals(conv=>whnf)
  exact⟨rfl,_,rfl,aE.frz1 rfl rfl (by rw[(cj _).length_eq]) (λ_=>rfl) rfl⟩
end
section
open Go Go.Am Classical
set_option linter.unusedVariables false
theorem xI1.rdX {p:Prop}(h:p:=by first|exact rdEx|exact Rd.same (nbN n)|exact Rd.frzI rfl rfl rfl rfl rfl|exact Rd.nil|exact Rd.sl' rfl sim sim|fail):p:=h
theorem xI1.rbX {p:Prop}(h:p:=by first|exact Rb.map (Res.same (Fs _))|exact Rb.cells (Rds.eqs (Ak _) (aG (by intro _;rfl) _)) rfl|exact Rb.cells (Rds.eqs (appI (x::xs) (y::ys)) (aG (by intro _;rfl) _)) rfl|exact Rb.cells (Rds.eqs (Eu (x::xs)) (aG (by intro _;rfl) _)) rfl|exact Rb.map (Res.eqs (by first|(rw[hp1 _ _ asm];done)|fail) (Fs _))|exact Rb.map (Res.eqs (by first|(rw[hp2 asm];done)|fail) (Fs _))|fail):p:=h
open xI1
abbrev pK (n:Nm) (k:Bool):D:=.fn (.func 293) [] [.ptr 1 0,.iptr (nmC n),.iptr [boo k],.ptr 2 0]
abbrev fsM (fs:List (Int×List Int)):List (D×D):=fs.map λp=>(i64 p.1,aF p.2)
abbrev exH (n:Nm) (k:Bool) (fs:List (Int×List Int)):List (Nat×Box):=[(0,.map (fsM fs)),(1,.cells [.map 0] true),(2,.cells [pK n k] true)]
theorem Fs (fs:List (Int×List Int)):∀ p∈fsM fs,aL p.1=true∧aL p.2=true:=λp hp=>by
 obtain⟨q,_,rfl⟩:=List.mem_map.1 hp;exact⟨rfl,aC _⟩
theorem rdEx {h:aB}{fz:Nat->Bool}{σ:Nat->Option Nat}{n:Nm}{k:Bool}(h1:σ 1=some 1:=by rfl) (h2:σ 2=some 2:=by rfl):Rd h fz σ (pK n k) (pK n k):=
 Rd.fn .nil (.cons (.ptr h1) (.cons (.same (nbN n)) (.cons (.same rfl) (.cons (.ptr h2) .nil))))
def fR (ex:Int->List Int) (fs:List (Int×List Int)):Prop:=∀ p∈fs,p.2=ex p.1
theorem fR.at {ex:Int->List Int}{fs:List (Int×List Int)}(h:fR ex fs){c:Int}{i:Nat}{x:List Int}(hl:lkZ c fs 0=some (i,x)):x=ex c:=by
 obtain⟨h1,h2,h3⟩:=mF hl;have:=h _ (kM h1)
 rw[h3] at this;exact this
theorem fR.set {ex:Int->List Int}{fs:List (Int×List Int)}(h:fR ex fs) (c:Int) (i:Nat):fR ex (fs.set i (c,ex c)):=λp hp=>by
 rcases List.mem_or_eq_of_mem_set hp with h1|h1
 ·exact h p h1
 ·rw[h1]
theorem fR.add {ex:Int->List Int}{fs:List (Int×List Int)}(h:fR ex fs) (c:Int):fR ex (fs++[(c,ex c)]):=λp hp=>by
 rcases List.mem_append.1 hp with h1|h1
 ·exact h p h1
 ·rw[List.mem_singleton.1 h1]
def wC (c:Int) (v:List Int) (fs:List (Int×List Int)):List (Int×List Int):=match lkZ c fs 0 with|some (i,_)=>fs.set i (c,v)|none=>fs++[(c,v)]
def fsF (on:Int->Option (List Int)) (ex:Int->List Int):Nat->Int->List (Int×List Int)->List (Int×List Int)
 | 0,_,fs=>fs
 | f+1,c,fs=>match lkZ c fs 0 with
  | some _=>fs
  | none=>match on c with
   | none=>fs
   | some to=>wC c (ex c) (to.foldl (λst e=>fsF on ex f e st) fs)
theorem fR.put {ex:Int->List Int}{fs:List (Int×List Int)}(h:fR ex fs) (c:Int):fR ex (wC c (ex c) fs):=by
 unfold wC;split
 ·exact h.set c _
 ·exact h.add c
theorem fR.fold {ex:Int->List Int}{g:Int->List (Int×List Int)->List (Int×List Int)}(hg:∀ e fs,fR ex fs->fR ex (g e fs)):∀ (l:List Int) (fs:List (Int×List Int)),fR ex fs->fR ex (l.foldl (λst e=>g e st) fs)
 | [],_,h=>h
 | e::l,fs,h=>fR.fold hg l _ (hg e fs h)
theorem fR.next {on:Int->Option (List Int)}{ex:Int->List Int}:∀ (f:Nat) (c:Int) (fs:List (Int×List Int)),fR ex fs->fR ex (fsF on ex f c fs)
 | 0,_,_,h=>h
 | f+1,c,fs,h=>by
  simp only[fsF];split
  ·exact h
  ·split
   ·exact h
   ·exact(fR.fold (λe fs=>fR.next f e fs) _ _ h).put c
theorem B0 {α:Type}{g:α->Int->α}{l:List Int}{z:α}{k:Nat}(h:k<l.length):(l.take (k+1)).foldl g z=g ((l.take k).foldl g z) l[k]:=by rw[aS h,List.foldl_append];rfl
theorem xD {ex:Int->List Int}{l:List Int}{k:Nat}(h:k<l.length):exs ex (l.take (k+1))=exs ex (l.take k)++ex l[k]:=by unfold exs;rw[aS h,List.flatMap_append];simp
theorem Ak (b:List Int):b.map i64=b.flatMap ek:=(ge (f:=i64) b).symm
theorem appI (a b:List Int):((a.flatMap ek).drop 0).take (a.length*1)++b.map i64=(a++b).flatMap ek:=by
 rw[List.drop_zero,kE (by rw[aW (c:=ek) (sz:=1) (λ_=>rfl)];omega),List.flatMap_append,<-Ak b]
theorem Eu (a:List Int):splice (a.flatMap ek) (0+a.length*1) []=a.flatMap ek:=by
 unfold splice;simp
theorem exp_c {n:Nm}{k:Bool}{ex:Int->List Int}{rk:Int->Nat}(hn:n.dc.length<=1000) (hr:i9 n.dc) (hrk:∀ c to,once n k c=some to->∀ e∈to,rk e<rk c) (hx:oX (once n k) ex) (hlen:∀ c,(ex c).length<=64) (hto:∀ c to,once n k c=some to->to.length<=1000) :
  ∀ (f:Nat) (c:Int) (fs:List (Int×List Int)),rk c<f->fR ex fs ->
   AC1 Tryz.prog 293 [i64 c,.ptr 1 0,.iptr (nmC n),.iptr [boo k],.ptr 2 0] ⟨3,exH n k fs⟩ (aF (ex c)) ⟨3,exH n k (fsF (once n k) ex f c fs)⟩:=by
 intro f
 induction f with
 | zero=>intro c fs h;omega
 | succ f ih=>
  intro c fs hf hok;have h1:=yh (n:=n) (k:=k) (c:=c) hn hr;refine AC1.of_vf aA T0 Tryz.func293 rfl rfl ?_;cases hl:lkZ c fs 0 with
  | some q=>
   obtain⟨i,v⟩:=q;have hv:=hok.at hl;subst hv;have e:fsF (once n k) ex (f+1) c fs=fs:=by simp only[fsF,hl]
   rw[e];repeat' ((conv=>whnf);first|exact kQ|(refine bk ?_ ?_<;>intro _<;>try(exfalso;omega))|refine stq ?_|(refine cB.int (λi x hq=>?_) (λhq=>?_)<;>(rw[hl] at hq;first|(cases hq;done)|(simp only[kA,kB] at hq;obtain⟨rfl,rfl⟩:=hq)))|fail)
   all_goals(conv=>whnf)
   refine⟨Or.inr rfl,_,rfl,?_⟩;exact lq0
  | none=>
   cases ho:once n k c with
   | none=>
    rw[ho] at h1;have he:=hx.none ho;have e:fsF (once n k) ex (f+1) c fs=fs:=by simp only[fsF,hl,ho]
    rw[e,he];repeat' ((conv=>whnf);first|exact kQ|(refine bk ?_ ?_<;>intro _<;>try(exfalso;omega))|refine stq ?_|refine cp h1 ?_|(refine cB.int (λi x hq=>?_) (λhq=>?_)<;>first|(rw[hl] at hq;cases hq;done)|skip)|fail)
    all_goals(conv=>whnf)
    refine⟨Or.inr rfl,_,rfl,?_⟩;exact lq [] [25]
   | some to=>
    rw[ho] at h1;have hto2:=hto c to ho;have he:=hx.some ho;have hex:=hlen c;have e:fsF (once n k) ex (f+1) c fs=wC c (ex c) (to.foldl (λst e=>fsF (once n k) ex f e st) fs):=by simp only[fsF,hl,ho]
    rw[e];have key:∀ j (h:j<to.length),rk to[j]<f:=λj h=>by have:=hrk c to ho to[j] (kM h);omega
    have hpl:∀ j,(exs ex (to.take j)).length<=64:=λj=>by
     have h3:(exs ex to).length=(exs ex (to.take j)).length+(exs ex (to.drop j)).length:=by
      unfold exs;rw[<-kG,<-List.flatMap_append,List.take_append_drop]
     have h2:(exs ex to).length<=64:=by rw[he] at hex;exact hex
     omega
    repeat' ((conv=>whnf);first|exact kQ|(refine bk ?_ ?_<;>intro _<;>try(exfalso;omega))|refine stq ?_|refine cp h1 ?_|(refine cB.int (λi x hq=>?_) (λhq=>?_)<;>first|(rw[hl] at hq;cases hq;done)|skip)|fail)
    refine aH.by3 aA T0 (λ(j:Nat) (acc:List Int) (gs:List (Int×List Int))=>⟨tmp 49 [(0,i64 c),(1,.ptr 1 0),(2,.iptr (nmC n)),(3,.iptr [boo k]),(4,.ptr 2 0),(11,fB 3 1 acc),(33,aF to),(34,i64 to.length),(35,i64 (j:Int))],⟨4,gA 3 ek acc++exH n k gs⟩⟩)
     (λj acc gs=>(j<=to.length∧acc=exs ex (to.take j))∧fR ex gs∧gs=(to.take j).foldl (λst e=>fsF (once n k) ex f e st) fs) (λj _ _=>to.length-j) 0 [] fs ⟨⟨by omega,rfl⟩,hok,rfl⟩ ?_ ?_
    ·exact lq0
    intro j acc gs ⟨⟨g1,g2⟩,g3,g4⟩;have hacc:=hpl j;rw[<-g2] at hacc;by_cases hj:j<to.length
    ·have hb:=ih to[j] gs (key j hj) g3;have g5:=fR.next (on:=once n k) f to[j] gs g3;have g6:fsF (once n k) ex f to[j] gs=(to.take (j+1)).foldl (λst e=>fsF (once n k) ex f e st) fs:=by rw[B0 hj,<-g4]
     have g7:acc++ex to[j]=exs ex (to.take (j+1)):=by rw[xD hj,<-g2]
     have hvl:=hlen to[j];generalize fsF (once n k) ex f to[j] gs=gs' at *;generalize ex to[j]=v at *;have hv0:([]:List Int).length=0:=rfl;cases acc with
     | nil=>
      cases v with
      | nil=>
       repeat' ((conv=>whnf);first|exact kQ|(refine bk ?_ ?_<;>intro _<;>try(exfalso;omega))|refine stq ?_|refine Cll.emb hb [(0,0),(1,1),(2,2)] [] (aF ([])) [(0,.map (fsM gs')),(1,.cells [.map 0] true),(2,.cells [pK n k] true)] [] rfl cZ bxA rdA bxA reA ?_|fail)
       all_goals(conv=>whnf)
       refine⟨j+1,[],gs',⟨⟨by omega,g7⟩,g5,g6⟩,by omega,?_⟩;exact lq0
      | cons y ys=>
       have hv1:(y::ys).length=ys.length+1:=rfl;repeat' ((conv=>whnf);first|exact kQ|(refine bk ?_ ?_<;>intro _<;>try(exfalso;omega))|refine stq ?_|refine Cll.emb hb [(0,0),(1,1),(2,2)] [] (aF (y::ys)) [(0,.map (fsM gs')),(1,.cells [.map 0] true),(2,.cells [pK n k] true)] [] rfl cZ bxA rdA bxA reA ?_|refine dC.lst ?_|refine Chk.growX 8 1 rfl rfl om om si ?_|fail)
       all_goals(conv=>whnf)
       refine⟨j+1,y::ys,gs',⟨⟨by omega,g7⟩,g5,g6⟩,by omega,?_⟩;exact lq [(3,12)] []
     | cons x xs=>
      have hx1:(x::xs).length=xs.length+1:=rfl;cases v with
      | nil=>
       repeat' ((conv=>whnf);first|exact kQ|(refine bk ?_ ?_<;>intro _<;>try(exfalso;omega))|refine stq ?_|refine Cll.emb hb [(0,0),(1,1),(2,2)] [] (aF ([])) [(0,.map (fsM gs')),(1,.cells [.map 0] true),(2,.cells [pK n k] true)] [(3,.cells ((x::xs).flatMap ek) false)] rfl cZ bxA rdA bxA reA ?_|refine dC.lst ?_|refine Chk.mk (dJ (λ_=>rfl) _) ?_|refine Chk.mk (by rw[aW (c:=ek) (sz:=1) (λ_=>rfl)];omega) ?_|fail)
       all_goals(conv=>whnf)
       rw[List.append_nil] at g7;refine⟨j+1,x::xs,gs',⟨⟨by omega,g7⟩,g5,g6⟩,by omega,?_⟩;exact lq [(3,3)] []
      | cons y ys=>
       have hv1:(y::ys).length=ys.length+1:=rfl;repeat' ((conv=>whnf);first|exact kQ|(refine bk ?_ ?_<;>intro _<;>try(exfalso;omega))|refine stq ?_|refine Cll.emb hb [(0,0),(1,1),(2,2)] [] (aF (y::ys)) [(0,.map (fsM gs')),(1,.cells [.map 0] true),(2,.cells [pK n k] true)] [(3,.cells ((x::xs).flatMap ek) false)] rfl cZ bxA rdA bxA reA ?_|refine dC.lst ?_|refine Chk.mk (dJ (λ_=>rfl) _) ?_|refine Chk.growX 8 1 rfl rfl om om si ?_|fail)
       all_goals(conv=>whnf)
       refine⟨j+1,(x::xs)++(y::ys),gs',⟨⟨by omega,g7⟩,g5,g6⟩,by omega,?_⟩;exact lq [(3,12)] []
    ·have hall:acc=ex c:=by rw[g2,kE om,he]
     rw[kE om] at g4;rw[<-g4,<-hall];have hp1:∀ i v,lkZ c gs 0=some (i,v)->(fsM gs).set i (i64 c,aF acc)=fsM (wC c acc gs):=λi v h=>by simp only[fsM,wC,h,List.map_set]
     have hp2:lkZ c gs 0=none->fsM gs++[(i64 c,aF acc)]=fsM (wC c acc gs):=λh=>by simp only[fsM,wC,h,List.map_append];rfl
     clear g2 g4 hacc g3 hall e;cases acc with
     | nil=>
      repeat' ((conv=>whnf);first|refine cm.weak (x:=Code.seq (Code.region 13 _ false) _) aA T0 (s0:=⟨tmp 49 [(0,i64 c),(1,.ptr 1 0),(11,aF [])],⟨3,exH n k gs⟩⟩) ?_ ?_|exact kQ|(refine bk ?_ ?_<;>intro _<;>try(exfalso;omega))|refine stq ?_|refine cB.int (λi x hq=>?_) (λhq=>?_)|fail)
      ·exact lq0
      all_goals(conv=>whnf)
      all_goals
       refine⟨Or.inr rfl,_,rfl,?_⟩;exact lq0
     | cons x xs=>
      repeat' ((conv=>whnf);first|refine cm.weak (x:=Code.seq (Code.region 13 _ false) _) aA T0 (s0:=⟨tmp 49 [(0,i64 c),(1,.ptr 1 0),(11,aF (x::xs))],⟨3,exH n k gs⟩⟩) ?_ ?_|exact kQ|(refine bk ?_ ?_<;>intro _<;>try(exfalso;omega))|refine stq ?_|refine cB.int (λi x hq=>?_) (λhq=>?_)|fail)
      ·exact lq [] [3]
      all_goals(conv=>whnf)
      all_goals
       refine⟨Or.inr rfl,_,rfl,?_⟩;exact lq0
end
section
open Go Go.Am Classical
set_option linter.unusedVariables false
theorem xI2.rdX {p:Prop}(h:p:=by first|exact Rd.fn .nil (.cons (.ptr rfl) (.cons (.frzp rfl rfl (Rds.same (ce n'))) (.cons (.frzp rfl rfl (Rds.same rfl)) (.cons (.ptr rfl) .nil))))|exact Rd.frzp rfl rfl (Rds.same (ce n'))|exact rdEx|exact Rd.same (nbN n')|exact Rd.sl' rfl sim sim|fail):p:=h
theorem xI2.rbX {p:Prop}(h:p:=by first|exact Rb.map Res.nil|exact Rb.map (Res.same (Fs _))|exact Rb.cells (Rds.eqs (Ak _) (aG (by intro _;rfl) _)) rfl|exact Rb.cells (Rds.eqs (appI (x::xs) (y::ys)) (aG (by intro _;rfl) _)) rfl|exact Rb.cells (Rds.eqs (Eu (x::xs)) (aG (by intro _;rfl) _)) rfl|fail):p:=h
open xI2
abbrev nm0:Nm:=⟨[],[],[]⟩
theorem nmG0:NmG nm0:=Dh ⟨⟨λi h=>by simp at h,λi h=>by simp at h⟩,⟨rfl,λi h=>by simp at h⟩,trivial,λi h=>by simp at h,λi h=>by simp at h,λi h=>by simp at h⟩ rfl rfl rfl
theorem Nm.ok.zero:nm0.ok:=⟨by simp,by simp,by simp,λi h=>by simp at h,λi h=>by simp at h⟩
structure eI (n n':Nm):Prop where
 g:NmG n'
 ok:n'.ok
 us:Pu Tryz.prog 170 [nmD n] (nmD n')
 ck:∃ e:Int,Pu Tryz.prog 94 [nmD n] (i64 e)∧(e=0->n'=n)∧(e≠0->n'=nm0)
theorem nrm_c {n:Nm}(hn:n.ok):∃ n',eI n n':=by
 obtain⟨e,h1,h2⟩:=zC hn;by_cases he:e=0
 ·refine⟨n,h2 he,hn,?_,e,h1,λ_=>rfl,λh=>absurd he h⟩;refine pv Tryz.func170 ?_;repeat' ((conv=>whnf);first|exact kQ|(refine bk ?_ ?_<;>intro _<;>try(exfalso;omega))|refine stq ?_|refine cp h1 ?_|fail)
  all_goals(conv=>whnf)
  exact aE.same (aQ n) rfl
 ·refine⟨nm0,nmG0,Nm.ok.zero,?_,e,h1,λh=>absurd h he,λ_=>rfl⟩;refine pv Tryz.func170 ?_;repeat' ((conv=>whnf);first|exact kQ|(refine bk ?_ ?_<;>intro _<;>try(exfalso;omega))|refine stq ?_|refine cp h1 ?_|fail)
  all_goals(conv=>whnf)
  exact⟨.agg (.cons .nil (.cons .nil (.cons .nil .nil)))⟩
noncomputable abbrev d7 (n:Nm) (k:Bool) (t:List Int):List Int:=dcm (aJ n.cl) (bA (once n k)) t
theorem xK {n:Nm}(h:NmV n) (k:Bool):nf (once n k):=by cases k;exact h.endsD;exact h.ends
theorem lenB {n:Nm}(h:NmG n) (k:Bool) (c:Int):(bA (once n k) c).length<=64:=by cases k;exact h.lenD c;exact h.v.len c
theorem toB {n:Nm}(h:n.ok) (k:Bool){c:Int}{to:List Int}(ht:once n k c=some to):to.length<=1000:=by
 cases k
 ·exact qj h.to (dF ht)
 ·exact qj h.to ht
theorem ub {ex:Int->List Int}(h:∀ c,(ex c).length<=64):∀ l:List Int,(exs ex l).length<=64*l.length
 | []=>by simp[exs]
 | c::l=>by
  have h1:=ub h l;have h2:=h c;show((c::l).flatMap ex).length<=_;rw[List.flatMap_cons,kG,kO];have h3:(l.flatMap ex).length<=64*l.length:=h1;omega
theorem iR {n:Nm}(h:NmG n) (k:Bool) (t:List Int):(d7 n k t).length<=64*t.length:=by
 show(can _ (exs _ t)).length<=_;rw[(cj _).length_eq];exact ub (lenB h k) t
theorem yG {n n':Nm}{k:Bool}{t:List Int}(hN:eI n n') (ht:t.length<=1500):Pu Tryz.prog 89 [nmD n,aF t,boo k] (aF (d7 n' k t)):=by
 have hu:=hN.us;have hg:=hN.g;obtain⟨rk,hrk⟩:=xK hg.v k;have hx:=lY (xK hg.v k);have hlen:=lenB hg k;have hcl:fG n'.cl=n'.cl:=if_pos hg.cls;have hS:=λ(l:List Int) (hl:l.length<=100000)=>sV (l:=n'.cl) (t:=l) hN.ok.cl hl
 rw[hcl] at hS;have hE:=exp_c (k:=k) hN.ok.dc hg.rise hrk hx hlen (λc to h=>toB hN.ok k h);show Pu _ _ _ (aF (can (aJ n'.cl) (exs (bA (once n' k)) t)));generalize bA (once n' k)=ex at *;refine pv Tryz.func89 ?_;repeat' ((conv=>whnf);first|exact kQ|(refine bk ?_ ?_<;>intro _<;>try(exfalso;omega))|refine stq ?_|refine cp hu ?_|(apply Cll.inl aA T0 Tryz.func171 rfl rfl ?_;rotate_left)|exact⟨Or.inr rfl,rfl,rfl⟩|fail)
 refine aH.by3 aA T0 (λ(j:Nat) (acc:List Int) (gs:List (Int×List Int))=>⟨tmp 32 [(3,.iptr (nmC n')),(7,pK n' k),(8,fB 3 1 acc),(16,aF t),(17,i64 t.length),(18,i64 (j:Int))],⟨4,gA 3 ek acc++exH n' k gs⟩⟩)
  (λj acc gs=>(j<=t.length∧acc=exs ex (t.take j))∧fR ex gs) (λj _ _=>t.length-j) 0 [] [] ⟨⟨by omega,rfl⟩,λp h=>by simp at h⟩ ?_ ?_
 ·exact lq [(0,11),(1,12),(2,14)] [0,8,9]
 intro j acc gs ⟨⟨g1,g2⟩,g3⟩
 have hal:acc.length<=64*t.length:=by
  rw[g2];have h1:=ub hlen (t.take j);rw[List.length_take] at h1;omega
 by_cases hj:j<t.length
 ·have hb:=hE (rk t[j]+1) t[j] gs om g3;have g5:=fR.next (on:=once n' k) (rk t[j]+1) t[j] gs g3;have g7:acc++ex t[j]=exs ex (t.take (j+1)):=by rw[xD hj,<-g2]
  have hvl:=hlen t[j];generalize fsF (once n' k) ex (rk t[j]+1) t[j] gs=gs' at *;generalize ex t[j]=v at *;have hv0:([]:List Int).length=0:=rfl;cases acc with
  | nil=>
   cases v with
   | nil=>
    repeat' ((conv=>whnf);first|exact kQ|(refine bk ?_ ?_<;>intro _<;>try(exfalso;omega))|refine stq ?_|refine Cll.emb hb [(0,0),(1,1),(2,2)] [] (aF ([])) [(0,.map (fsM gs')),(1,.cells [.map 0] true),(2,.cells [pK n' k] true)] [] rfl cZ bxA rdA bxA reA ?_|fail)
    all_goals(conv=>whnf)
    refine⟨j+1,[],gs',⟨⟨by omega,g7⟩,g5⟩,by omega,?_⟩;exact lq [(0,0),(1,1),(2,2)] []
   | cons y ys=>
    have hv1:(y::ys).length=ys.length+1:=rfl;repeat' ((conv=>whnf);first|exact kQ|(refine bk ?_ ?_<;>intro _<;>try(exfalso;omega))|refine stq ?_|refine Cll.emb hb [(0,0),(1,1),(2,2)] [] (aF (y::ys)) [(0,.map (fsM gs')),(1,.cells [.map 0] true),(2,.cells [pK n' k] true)] [] rfl cZ bxA rdA bxA reA ?_|refine dC.lst ?_|refine Chk.growX 8 1 rfl rfl om om si ?_|fail)
    all_goals(conv=>whnf)
    refine⟨j+1,y::ys,gs',⟨⟨by omega,g7⟩,g5⟩,by omega,?_⟩;exact lq [(0,0),(1,1),(2,2),(3,12)] []
  | cons x xs=>
   have hx1:(x::xs).length=xs.length+1:=rfl;cases v with
   | nil=>
    repeat' ((conv=>whnf);first|exact kQ|(refine bk ?_ ?_<;>intro _<;>try(exfalso;omega))|refine stq ?_|refine Cll.emb hb [(0,0),(1,1),(2,2)] [] (aF ([])) [(0,.map (fsM gs')),(1,.cells [.map 0] true),(2,.cells [pK n' k] true)] [(3,.cells ((x::xs).flatMap ek) false)] rfl cZ bxA rdA bxA reA ?_|refine dC.lst ?_|refine Chk.mk (dJ (λ_=>rfl) _) ?_|refine Chk.mk (by rw[aW (c:=ek) (sz:=1) (λ_=>rfl)];omega) ?_|fail)
    all_goals(conv=>whnf)
    rw[List.append_nil] at g7;refine⟨j+1,x::xs,gs',⟨⟨by omega,g7⟩,g5⟩,by omega,?_⟩;exact lq [(0,0),(1,1),(2,2),(3,3)] []
   | cons y ys=>
    have hv1:(y::ys).length=ys.length+1:=rfl;repeat' ((conv=>whnf);first|exact kQ|(refine bk ?_ ?_<;>intro _<;>try(exfalso;omega))|refine stq ?_|refine Cll.emb hb [(0,0),(1,1),(2,2)] [] (aF (y::ys)) [(0,.map (fsM gs')),(1,.cells [.map 0] true),(2,.cells [pK n' k] true)] [(3,.cells ((x::xs).flatMap ek) false)] rfl cZ bxA rdA bxA reA ?_|refine dC.lst ?_|refine Chk.mk (dJ (λ_=>rfl) _) ?_|refine Chk.growX 8 1 rfl rfl om om si ?_|fail)
    all_goals(conv=>whnf)
    refine⟨j+1,(x::xs)++(y::ys),gs',⟨⟨by omega,g7⟩,g5⟩,by omega,?_⟩;exact lq [(0,0),(1,1),(2,2),(3,12)] []
 ·rw[kE om] at g2;have hs:=hS acc om;subst g2;generalize exs ex t=acc at *;cases acc with
  | nil=>
   repeat' ((conv=>whnf);first|exact kQ|(refine bk ?_ ?_<;>intro _<;>try(exfalso;omega))|refine stq ?_|refine Cll.give (.cons (.same (aY _)) (.cons .nil .nil)) hs ?_|fail)
   all_goals(conv=>whnf)
   exact aE.same (aC _) rfl
  | cons x xs=>
   repeat' ((conv=>whnf);first|exact kQ|(refine bk ?_ ?_<;>intro _<;>try(exfalso;omega))|refine stq ?_|refine Cll.give (.cons (.same (aY _)) (.cons (Rd.frzI rfl rfl rfl rfl rfl) .nil)) hs ?_|fail)
   all_goals(conv=>whnf)
   exact aE.same (aC _) rfl
end
section
open Go Go.Am Classical
set_option linter.unusedVariables false
theorem Ah {n n':Nm}{t:List Int}(hN:eI n n') (ht:t.length<=1500):Pu Tryz.prog 70 [nmD n,aF t] (aF (d7 n' false t)):=by
 have hT:=yG (k:=false) hN ht;refine pv Tryz.func70 ?_;repeat' ((conv=>whnf);first|exact kQ|(refine bk ?_ ?_<;>intro _<;>try(exfalso;omega))|refine stq ?_|refine cp hT ?_|fail)
 all_goals(conv=>whnf)
 exact aE.same (aC _) rfl
theorem GR {n n':Nm}{t:List Int}(hN:eI n n') (ht:t.length<=1500):Pu Tryz.prog 16 [nmD n,i64 2,aF t] (aF (d7 n' false t)):=by
 have hT:=Ah hN ht;refine pv Tryz.func16 ?_;repeat' ((conv=>whnf);first|exact kQ|(refine bk ?_ ?_<;>intro _<;>try(exfalso;omega))|refine stq ?_|refine cp hT ?_|fail)
 all_goals(conv=>whnf)
 exact aE.same (aC _) rfl
end
end Go.Proofs.YtihggclfifimoaaGreatDoor
