/-
  Contracts of functions over data: the mapping of a number.
-/
import Derived.Test.YticpeeooobajgaaGreatDoorND
import Derived.Test.YticpeeooobajgaaGreatDoorH5
import Derived.Test.YticpeeooobajgaaGreatDoorAmF
import Derived.Test.YticpeeooobajgaaGreatDoorAmE
set_option linter.unusedSectionVars false
namespace Go.Proofs.YticpeeooobajgaaGreatDoor
section
open Go Go.Am Classical
set_option maxRecDepth 100000
theorem xNK.rdX {p:Prop}(h:p:=by first|exact Rd.same (cD _)|exact Rd.int em|exact Rd.int (by first|(rw[em];omega;done)|fail)|fail):p:=h
open xNK
abbrev nmC (n:Nm):List D:=[cB n.cl,dY n.dc,dJ n.xc]
abbrev nmD (n:Nm):D:=.agg (nmC n)
theorem b8 (n:Nm):aJ (nmC n)=true:=by simp[aJ,aO,cD,cC]
theorem eP (n:Nm):aL (nmD n)=true:=b8 n
def iq (l:List Mpg):Prop:=∀ i (h:i<l.length),∀ h0:i≠0,(l[i-1]'(by omega)).frm<l[i].frm
theorem lU {l:List Mpg}(h:iq l){i:Nat}(j:Nat) (hi:i<l.length) (hj:i+j+1<l.length):l[i].frm<l[i+j+1].frm:=by
 induction j with
 | zero=>have:=h (i+1) om om;simpa using this
 | succ j ih=>
  have h1:=ih om;have h2:=h (i+(j+1)+1) om om;have e:i+(j+1)+1-1=i+j+1:=by omega
  simp only[e] at h2;omega
noncomputable def bD (l:List Mpg) (c:Int):Nat:=l.findIdx λm=>decide (c<=m.frm)
theorem ye (l:List Mpg) (c:Int):bD l c<=l.length:=List.findIdx_le_length
theorem iS {l:List Mpg}{c:Int}{i:Nat}(h:i<l.length) (hlt:i<bD l c):l[i].frm<c:=by
 have:=List.not_of_lt_findIdx hlt
 have:¬c<=l[i].frm:=by simpa using this
 omega
theorem qr {l:List Mpg}{c:Int}(h:bD l c<l.length):c<=l[bD l c].frm:=by
 have:=List.findIdx_getElem (p:=λm:Mpg=>decide (c<=m.frm)) (w:=h)
 exact of_decide_eq_true this
theorem yg {l:List Mpg}{c:Int}(hr:iq l){i:Nat}(h:i<l.length) (hle:bD l c<=i):c<=l[i].frm:=by
 have h1:=qr (l:=l) (c:=c) om;rcases Nat.lt_or_eq_of_le hle with hlt|he
 ·have h2:=lU hr (i-bD l c-1) (i:=bD l c) om om;have e:bD l c+(i-bD l c-1)+1=i:=by omega
  simp only[e] at h2;omega
 ·simp only[<-he];exact h1
theorem we {m:Mpg}{c:Int}:Pu Tryz.prog 323 [.agg (mY m),i64 c] (i64 (dF m.frm c)):=by
 refine pv Tryz.func323 ?_;repeat' ((conv=>whnf);first|exact kQ|(refine bk ?_ ?_<;>intro _<;>try(exfalso;omega))|refine stq ?_|refine cp cq ?_|fail)
 all_goals(conv=>whnf)
 exact aI.int rfl
abbrev onF:D:=.fn (.func 323) [] []
theorem ep {a b:Int}:dF a b<0↔a<b:=by
 unfold dF;repeat' split
 all_goals omega
theorem j2 {a b:Int}:dF a b=0↔a=b:=by
 unfold dF;repeat' split
 all_goals omega
theorem bsM_c {l:List Mpg}{c:Int}(hn:l.length<=1000) (hr:iq l):Pu Tryz.prog 322 [dY l,i64 c,onF] (.tup [i64 (bD l c:Nat),boo (decide (∃ h:bD l c<l.length,l[bD l c].frm=c))]):=by
 refine pv Tryz.func322 ?_;have hle:=ye l c;have h1:∀ m (h:m<l.length),m<bD l c->l[m].frm<c:=λm h hlt=>iS h hlt
 have h2:∀ m (h:m<l.length),bD l c<=m->c<=l[m].frm:=λm h hle=>yg hr h hle
 repeat' ((conv=>whnf);first|exact kQ|(refine bk ?_ ?_<;>intro _<;>try(exfalso;omega))|refine stq ?_)
 refine aH.by2 aA T0 (λi j:Nat=>⟨tmp 49 [(0,dY l),(1,i64 c),(2,onF),(8,i64 l.length),(9,i64 (i:Int)),(10,i64 (j:Int))],⟨0,[]⟩⟩)
  (λi j=>i<=bD l c∧bD l c<=j∧j<=l.length) (λi j=>j-i) 0 l.length ⟨by omega,by omega,by omega⟩ ?_ ?_
 ·exact lq0
 intro i j ⟨h3,h4,h5⟩;by_cases hij:i<j
 ·have em:=gq (i:=i) (j:=j) (n:=2000) om om;have hm:(i+j) / 2<l.length:=by omega
  repeat' ((conv=>whnf);first|exact kQ|(refine bk ?_ ?_<;>intro _<;>try(exfalso;omega))|refine stq ?_|refine cp (we (m:=l[(i+j) / 2]'hm) (c:=c)) ?_|refine Idx.atS (by intro _;rfl) ((i+j) / 2) em hm ?_|refine Chk.mk (gM (by rw[em];omega) (by rw[em];omega)) ?_|fail)
  all_goals(conv=>whnf)
  all_goals first
   | (refine⟨(i+j) / 2+1,j,⟨Nat.succ_le_of_lt (Nat.lt_of_not_le λhle=>by have:=h2 _ hm hle;have:=ep.1 asm;omega),by omega,by omega⟩,by omega,?_⟩
      exact lq0)
   | (refine⟨i,(i+j) / 2,⟨by omega,Nat.le_of_not_lt λhlt=>absurd (ep.2 (h1 _ hm hlt)) asm,by omega⟩,by omega,?_⟩
      exact lq0)
 ·have e:i=bD l c:=by omega
  subst e;by_cases hs:bD l c<l.length
  ·repeat' ((conv=>whnf);first|exact kQ|(refine bk ?_ ?_<;>intro _<;>try(exfalso;omega))|refine stq ?_|refine cp (we (m:=l[bD l c]'hs) (c:=c)) ?_|fail)
   all_goals(conv=>whnf)
   all_goals first
    | exact aI.same rfl (by rw[decide_eq_true ⟨hs,j2.1 asm⟩];rfl)
    | exact aI.same rfl (by rw[decide_eq_false λ⟨_,h⟩=>absurd (j2.2 h) asm];rfl)
  ·repeat' ((conv=>whnf);first|exact kQ|(refine bk ?_ ?_<;>intro _<;>try(exfalso;omega))|refine stq ?_)
   all_goals(conv=>whnf)
   exact aI.same rfl (by rw[decide_eq_false λ⟨h,_⟩=>hs h];rfl)
theorem yd {l:List Mpg}(hr:iq l) (c:Int):fnd l c=if h:bD l c<l.length then(if l[bD l c].frm=c then some l[bD l c] else none) else none:=by
 unfold fnd;split
 ·rename_i h;have h1:=qr h;split
  ·rename_i h2;rw[List.find?_eq_some_iff_getElem];refine⟨by simpa using h2,bD l c,h,rfl,λj hj=>?_⟩;have:=iS (c:=c) (show j<l.length by omega) hj
   simp;omega
  ·rename_i h2;rw[List.find?_eq_none];intro x hx;obtain⟨i,hi,rfl⟩:=List.getElem_of_mem hx;simp only[decide_eq_true_eq];intro e;rcases Nat.lt_trichotomy i (bD l c) with hlt|he|hgt
   ·have:=iS hi hlt;omega
   ·subst he;exact h2 e
   ·have h3:=lU hr (i-bD l c-1) (i:=bD l c) om om;have e2:bD l c+(i-bD l c-1)+1=i:=by omega
    simp only[e2] at h3;omega
 ·rename_i h;rw[List.find?_eq_none];intro x hx;obtain⟨i,hi,rfl⟩:=List.getElem_of_mem hx;have:=iS (c:=c) hi om
  simp;omega
def onD (o:Option (List Int)):D:=match o with|some to=>.tup [aE to,boo true]|none=>.tup [aT,boo false]
theorem vO {n:Nm}{k:Bool}{c:Int}(hn:n.dc.length<=1000) (hr:iq n.dc):Pu Tryz.prog 263 [nmD n,i64 c,boo k] (onD (once n k c)):=by
 refine pv Tryz.func263 ?_;have hb:=bsM_c (c:=c) hn hr;have hf:=yd hr c;by_cases h4:4<=hk c
 ·have ho:once n k c=some (hd c):=by unfold once;rw[if_pos h4]
  rw[ho];repeat' ((conv=>whnf);first|exact kQ|(refine bk ?_ ?_<;>intro _<;>try(exfalso;omega))|refine stq ?_|refine cp dO ?_|refine cp hDec_c ?_|fail)
  all_goals(conv=>whnf)
  exact aI.same (by simp[aL,aJ,aG]) rfl
 ·by_cases h:∃ h:bD n.dc c<n.dc.length,n.dc[bD n.dc c].frm=c
  ·rw[decide_eq_true h] at hb;obtain⟨h1,h2⟩:=h;rw[dif_pos h1,if_pos h2] at hf;have ho:once n k c=if n.dc[bD n.dc c].tag≠[]∧k=false then none else some n.dc[bD n.dc c].to:=by unfold once;rw[if_neg h4,hf]
   cases k with
   | true=>
    rw[if_neg si] at ho;rw[ho];repeat' ((conv=>whnf);first|exact kQ|(refine bk ?_ ?_<;>intro _<;>try(exfalso;omega))|refine stq ?_|refine cp dO ?_|refine cp hb ?_|fail)
    all_goals(conv=>whnf)
    all_goals first
     | exact aI.same (by simp[aL,aJ,aG]) rfl
   | false=>
    by_cases ht:n.dc[bD n.dc c].tag=[]
    ·rw[if_neg (by simp[ht])] at ho;rw[ho];repeat' ((conv=>whnf);first|exact kQ|(refine bk ?_ ?_<;>intro _<;>try(exfalso;omega))|refine stq ?_|refine cp dO ?_|refine cp hb ?_|fail)
     all_goals(conv=>whnf)
     all_goals first
      | exact aI.same (by simp[aL,aJ,aG]) rfl
      | exact absurd ht asm
    ·rw[if_pos ⟨ht,rfl⟩] at ho;rw[ho];repeat' ((conv=>whnf);first|exact kQ|(refine bk ?_ ?_<;>intro _<;>try(exfalso;omega))|refine stq ?_|refine cp dO ?_|refine cp hb ?_|fail)
     all_goals(conv=>whnf)
     all_goals first
      | exact aI.same rfl rfl
      | exact absurd asm ht
  ·rw[decide_eq_false h] at hb
   have ho:once n k c=none:=by
    unfold once;rw[if_neg h4,hf];split
    ·rename_i m hm;split at hm
     ·rename_i h1;split at hm
      ·rename_i h2;exact absurd ⟨h1,h2⟩ h
      ·cases hm
     ·cases hm
    ·rfl
   rw[ho];repeat' ((conv=>whnf);first|exact kQ|(refine bk ?_ ?_<;>intro _<;>try(exfalso;omega))|refine stq ?_|refine cp dO ?_|refine cp hb ?_|fail)
   all_goals(conv=>whnf)
   exact aI.same rfl rfl
end
section
open Go Go.Am Classical
set_option maxRecDepth 100000
set_option linter.unusedVariables false
def lkZ {α:Type}(c:Int):List (Int×α)->Nat->Option (Nat×α)
 | [],_=>none
 | (k,x)::m,i=>if c=k then some (i,x) else lkZ c m (i+1)
theorem mn {α:Type}{f:α->D}{h:aB}{c:Int}:∀ {m:List (Int×α)}{i:Nat},bn h (i64 c) (m.map λp=>(i64 p.1,f p.2)) i=some ((lkZ c m i).map λq=>(q.1,f q.2))
 | [],i=>rfl
 | (k,x)::m,i=>by
  simp only[List.map_cons,bn,bB,if_true,lkZ];by_cases e:c=k
  ·subst e;simp
  ·rw[beq_eq_false_iff_ne.2 e,if_neg e];exact mn
theorem eV.int {α:Type}{f:α->D}{h:aB}{c:Int}{m:List (Int×α)}{K:Option (Nat×D)->Prop}(yes:∀ i x,lkZ c m 0=some (i,x)->K (some (i,f x))) (no:lkZ c m 0=none->K none):eV h (i64 c) (m.map λp=>(i64 p.1,f p.2)) K:=by
 cases hl:lkZ c m 0 with
 | none=>exact⟨none,by rw[mn,hl];rfl,no hl⟩
 | some q=>exact⟨some (q.1,f q.2),by rw[mn,hl];rfl,yes q.1 q.2 hl⟩
theorem o5 {α:Type}{c:Int}:∀ {m:List (Int×α)}{i:Nat},lkZ c m i=none↔∀ p∈m,p.1≠c
 | [],_=>by simp[lkZ]
 | (k,x)::m,i=>by
  simp only[lkZ];split
  ·rename_i e;simp[e]
  ·rename_i e;rw[o5];simp only[kH,forall_eq_or_imp];exact⟨λh=>⟨λe2=>e e2.symm,h⟩,λh=>h.2⟩
theorem mc {α:Type}{c:Int}{x:α}{j:Nat}:∀ {m:List (Int×α)}{i:Nat},lkZ c m i=some (j,x)->∃ h:j-i<m.length,i<=j∧m[j-i]=(c,x)
 | [],_,h=>by simp[lkZ] at h
 | (k,y)::m,i,h=>by
  simp only[lkZ] at h;split at h
  ·rename_i e;simp only[kA,kB] at h;obtain⟨rfl,rfl⟩:=h;exact⟨by simp,kP _,by simp[e]⟩
  ·obtain⟨h1,h2,h3⟩:=mc h;have e:j-i=(j-(i+1))+1:=by omega
   refine⟨by simp;omega,by omega,?_⟩;simp only[e,List.getElem_cons_succ];exact h3
def na {α:Type}(c:Int) (v:α) (m:List (Int×α)):List (Int×α):=match lkZ c m 0 with|some (i,_)=>m.set i (c,v)|none=>m
abbrev SzS:=List (Int×Int)×Bool×Bool
def szL (g:Int->SzS->Int×SzS):List Int->Int×SzS->Int×SzS
 | [],r=>r
 | e::l,r=>szL g l (min (r.1+(g e r.2).1) 65,(g e r.2).2)
def szF (on:Int->Option (List Int)):Nat->Int->SzS->Int×SzS
 | 0,_,st=>(1,st)
 | f+1,c,st=>
  match on c with
  | none=>(1,st)
  | some to=>
   if to=[] then(1,st) else
   match lkZ c st.1 0 with
   | some (_,v)=>(max v 1,(st.1,st.2.1 || v == -1,st.2.2))
   | none=>
    let r:=szL (szF on f) to (0,(st.1++[(c,-1)],st.2.1,st.2.2))
    (r.1,(na c r.1 r.2.1,r.2.2.1,r.2.2.2 || decide (64<r.1)))
theorem sy (g:Int->SzS->Int×SzS):∀ (l:List Int) (e:Int) (r:Int×SzS),szL g (l++[e]) r=(min ((szL g l r).1+(g e (szL g l r).2).1) 65,(g e (szL g l r).2).2)
 | [],e,r=>rfl
 | a::l,e,r=>by simp only[List.cons_append,szL];exact sy g l e _
def left (l:List Mpg) (zs:List (Int×Int)):Nat:=(l.filter λm=>(lkZ m.frm zs 0).isNone).length
theorem zr {α:Type}{c:Int}{v:α}{m:List (Int×α)}:(na c v m).map (·.1)=m.map (·.1):=by
 unfold na;split
 ·rename_i i x h;obtain⟨h1,_,h3⟩:=mc h;simp only[Nat.sub_zero] at h1 h3;apply List.ext_getElem
  ·simp
  ·intro j hj hj';simp only[List.getElem_map,List.getElem_set];split
   ·rename_i e;subst e;simp[h3]
   ·rfl
 ·rfl
theorem oN (on:Int->Option (List Int)):∀ (f:Nat) (c:Int) (st:SzS),∃ ks,(szF on f c st).2.1.map (·.1)=st.1.map (·.1)++ks
 | 0,c,st=>⟨[],by simp[szF]⟩
 | f+1,c,st=>by
  have hL:∀ (l:List Int) (r:Int×SzS),∃ ks,(szL (szF on f) l r).2.1.map (·.1)=r.2.1.map (·.1)++ks:=λl=>by
   induction l with
   | nil=>intro r;exact⟨[],by simp[szL]⟩
   | cons e l ih=>
    intro r;obtain⟨k1,h1⟩:=oN on f e r.2;obtain⟨k2,h2⟩:=ih (min (r.1+(szF on f e r.2).1) 65,(szF on f e r.2).2);exact⟨k1++k2,by simp only[szL];rw[h2,h1,List.append_assoc]⟩
  simp only[szF];split
  ·exact⟨[],by simp⟩
  ·split
   ·exact⟨[],by simp⟩
   ·split
    ·exact⟨[],by simp⟩
    ·obtain⟨ks,h⟩:=hL _ (0,(st.1++[(c,-1)],st.2.1,st.2.2));rename_i to _ _ _;refine⟨c::ks,?_⟩;simp only[zr];rw[h];simp
theorem nP {α:Type}{p q:α->Bool}(h:∀ x,p x=true->q x=true):∀ {l:List α},(l.filter p).length<=(l.filter q).length
 | []=>kP _
 | x::l=>by
  have ih:=nP h (l:=l);simp only[List.filter_cons];split
  ·rename_i hp;rw[if_pos (h x hp)];simpa using ih
  ·split
   ·simp only[kO];omega
   ·exact ih
theorem qu {α:Type}{p q:α->Bool}(h:∀ x,p x=true->q x=true):∀ {l:List α}{y:α},y∈l->p y=false->q y=true->(l.filter p).length<(l.filter q).length
 | x::l,y,hm,hp,hq=>by
  simp only[List.filter_cons];rcases List.mem_cons.1 hm with rfl|hm
  ·rw[if_neg (by simp[hp]),if_pos hq];have:=nP h (l:=l)
   simp only[kO];omega
  ·have ih:=qu h hm hp hq;split
   ·rename_i hx;rw[if_pos (h x hx)];simpa using ih
   ·split
    ·simp only[kO];omega
    ·exact ih
theorem wv {l:List Mpg}{zs zs2:List (Int×Int)}{m:Mpg}{ks:List Int}(hm:m∈l) (h0:lkZ m.frm zs 0=none) (hk:zs2.map (·.1)=zs.map (·.1)++m.frm::ks):left l zs2<left l zs:=by
 have hno:∀ {c:Int} {w:List (Int×Int)},(lkZ c w 0).isNone=true↔¬c∈w.map (·.1):=λ{c w}=>by
  rw[Option.isNone_iff_eq_none,o5];simp only[List.mem_map,not_exists,not_and,ne_eq]
 unfold left;refine qu (λx hx=>?_) hm ?_ ?_
 ·rw[hno] at hx ⊢;intro h;exact hx (by rw[hk];exact List.mem_append_left _ h)
 ·rw[Bool.eq_false_iff,ne_eq,hno];intro h;exact h (by rw[hk];simp)
 ·rw[h0];rfl
theorem oL (on:Int->Option (List Int)) (f:Nat):∀ (l:List Int) (r:Int×SzS),∃ ks,(szL (szF on f) l r).2.1.map (·.1)=r.2.1.map (·.1)++ks
 | [],r=>⟨[],by simp[szL]⟩
 | e::l,r=>by
  obtain⟨k1,h1⟩:=oN on f e r.2;obtain⟨k2,h2⟩:=oL on f l (min (r.1+(szF on f e r.2).1) 65,(szF on f e r.2).2);exact⟨k1++k2,by simp only[szL];rw[h2,h1,List.append_assoc]⟩
def SzB (zs:List (Int×Int)):Prop:=∀ p∈zs,-1<=p.2∧p.2<=65
theorem CF {c v:Int}{zs:List (Int×Int)}(h:SzB zs) (hv:-1<=v∧v<=65):SzB (na c v zs):=by
 unfold na;split
 ·intro p hp;rcases List.mem_or_eq_of_mem_set hp with hp|rfl
  ·exact h p hp
  ·exact hv
 ·exact h
theorem mN (on:Int->Option (List Int)):∀ (f:Nat) (c:Int) (st:SzS),SzB st.1->(0<=(szF on f c st).1∧(szF on f c st).1<=65)∧SzB (szF on f c st).2.1
 | 0,c,st,h=>⟨by simp[szF],h⟩
 | f+1,c,st,h=>by
  have hL:∀ (l:List Int) (r:Int×SzS),(0<=r.1∧r.1<=65)->SzB r.2.1->(0<=(szL (szF on f) l r).1∧(szL (szF on f) l r).1<=65)∧SzB (szL (szF on f) l r).2.1:=λl=>by
   induction l with
   | nil=>intro r h1 h2;exact⟨h1,h2⟩
   | cons e l ih=>
    intro r h1 h2;obtain⟨h3,h4⟩:=mN on f e r.2 h2;exact ih (min (r.1+(szF on f e r.2).1) 65,(szF on f e r.2).2) (by constructor<;>simp only<;>omega) h4
  simp only[szF];split
  ·exact⟨by simp,h⟩
  ·split
   ·exact⟨by simp,h⟩
   ·split
    ·rename_i v hl;obtain⟨h1,_,h3⟩:=mc hl;have:=h _ (h3▸kM h1)
     simp only at this;exact⟨by simp only;omega,h⟩
    ·obtain⟨h1,h2⟩:=hL _ (0,(st.1++[(c,-1)],st.2.1,st.2.2)) si (λp hp=>by
      rcases List.mem_append.1 hp with hp|hp
      ·exact h p hp
      ·rw[List.mem_singleton.1 hp];simp)
     exact⟨h1,CF h2 om⟩
theorem zi (on:Int->Option (List Int)) (f:Nat):∀ (l:List Int) (r:Int×SzS),(0<=r.1∧r.1<=65)->SzB r.2.1->(0<=(szL (szF on f) l r).1∧(szL (szF on f) l r).1<=65)∧SzB (szL (szF on f) l r).2.1
 | [],r,h1,h2=>⟨h1,h2⟩
 | e::l,r,h1,h2=>by
  obtain⟨h3,h4⟩:=mN on f e r.2 h2;exact zi on f l (min (r.1+(szF on f e r.2).1) 65,(szF on f e r.2).2) (by constructor<;>simp only<;>omega) h4
theorem jQ {n:Nm}(hkd:∀ m∈n.dc,hk m.frm=0){c e:Int}(h:4<=hk c) (he:e∈hd c):once n true e=none:=by
 have h1:=hd_low h he;unfold once;rw[if_neg om];cases hf:fnd n.dc e with
 | none=>rfl
 | some m=>
  obtain⟨h2,h3⟩:=uD hf;have:=hkd m h2
  rw[h3] at this;omega
theorem ju {n:Nm}{c:Int}{to:List Int}(h:once n true c=some to) (h4:¬4<=hk c):∃ m∈n.dc,m.frm=c∧m.to=to:=by
 unfold once at h;rw[if_neg h4] at h;cases hf:fnd n.dc c with
 | none=>rw[hf] at h;cases h
 | some m=>
  rw[hf] at h;simp only[Bool.true_eq_false,and_false,if_false,kA] at h;obtain⟨h2,h3⟩:=uD hf;exact⟨m,h2,h3,h⟩
end
section
open Go Go.Am Classical
set_option maxRecDepth 100000
theorem xNM.rdX {p:Prop}(h:p:=by first|exact rdSz|exact Rd.same (nbN n)|exact Rd.int om|exact DW|exact Rd.eqd (by first|(simp_all;done)|fail) rfl|exact Rd.int (by first|(simp only;omega;done)|fail)|fail):p:=h
theorem xNM.rbX {p:Prop}(h:p:=by first|exact Rb.map (Res.same (nbZ _))|exact Rb.map (Res.eqs (by first|(simp[zsM];done)|fail) (nbZ _))|exact Rb.map (Res.eqs (by first|(simp only[zsM,na,hlk,List.map_set];done)|fail) (nbZ _))|fail):p:=h
open xNM
abbrev uy (n:Nm):D:=.fn (.func 281) [] [.iptr (nmC n),.ptr 3 0,.ptr 0 0,.ptr 4 0,.ptr 1 0]
abbrev zsM (zs:List (Int×Int)):List (D×D):=zs.map λp=>(i64 p.1,i64 p.2)
abbrev szH (n:Nm) (zs:List (Int×Int)) (cy lg:Bool):List (Nat×Box):=[(0,.cells [boo cy] true),(1,.cells [boo lg] true),(2,.map (zsM zs)),(3,.cells [.map 2] true),(4,.cells [uy n] true)]
theorem nbZ (zs:List (Int×Int)):∀ p∈zsM zs,aL p.1=true∧aL p.2=true:=λp hp=>by
 obtain⟨q,_,rfl⟩:=List.mem_map.1 hp;exact⟨rfl,rfl⟩
theorem nbN (n:Nm):aL (.iptr (nmC n))=true:=b8 n
theorem rdSz {h:aB}{fz:Nat->Bool}{σl:List (Nat×Nat)}{n:Nm}:Rd h fz (sgm 5 σl) (uy n) (uy n):=
 Rd.fn .nil (.cons (.same (nbN n)) (.cons (.ptr rfl) (.cons (.ptr rfl) (.cons (.ptr rfl) (.cons (.ptr rfl) .nil)))))
theorem DW {h:aB}{fz:Nat->Bool}{σ:Nat->Option Nat}{n:Nm}(h0:σ 0=some 0:=by rfl) (h1:σ 1=some 1:=by rfl) (h3:σ 3=some 3:=by rfl) (h4:σ 4=some 4:=by rfl):Rd h fz σ (uy n) (uy n):=
 Rd.fn .nil (.cons (.same (nbN n)) (.cons (.ptr h3) (.cons (.ptr h0) (.cons (.ptr h4) (.cons (.ptr h1) .nil)))))
set_option maxHeartbeats 4000000 in
theorem size_c {n:Nm}(hn:n.dc.length<=1000) (hr:iq n.dc) (hkd:∀ m∈n.dc,hk m.frm=0) (hto:∀ c to,once n true c=some to->to.length<=1000):∀ (f:Nat) (c:Int) (zs:List (Int×Int)) (cy lg:Bool),(once n true c=none∨left n.dc zs+1<=f)->SzB zs ->
  AC1 Tryz.prog 281 [i64 c,.iptr (nmC n),.ptr 3 0,.ptr 0 0,.ptr 4 0,.ptr 1 0] ⟨5,szH n zs cy lg⟩ (i64 (szF (once n true) f c (zs,cy,lg)).1) ⟨5,szH n (szF (once n true) f c (zs,cy,lg)).2.1 (szF (once n true) f c (zs,cy,lg)).2.2.1 (szF (once n true) f c (zs,cy,lg)).2.2.2⟩:=by
 intro f
 induction f with
 | zero=>
  intro c zs cy lg h hsb
  have ho:once n true c=none:=by
   rcases h with h|h
   ·exact h
   ·omega
  have h1:=vO (n:=n) (k:=true) (c:=c) hn hr;rw[ho] at h1;refine AC1.of_vf aA T0 Tryz.func281 rfl rfl ?_;have e:szF (once n true) 0 c (zs,cy,lg)=(1,(zs,cy,lg)):=rfl;rw[e];repeat' ((conv=>whnf);first|exact kQ|(refine bk ?_ ?_<;>intro _<;>try(exfalso;omega))|refine stq ?_|refine cp h1 ?_|fail)
  all_goals(conv=>whnf)
  all_goals first
   | (refine⟨Or.inr rfl,_,rfl,?_⟩
      exact lq0)
 | succ f ih=>
  intro c zs cy lg hf hsb;have h1:=vO (n:=n) (k:=true) (c:=c) hn hr;refine AC1.of_vf aA T0 Tryz.func281 rfl rfl ?_;cases ho:once n true c with
  | none=>
   rw[ho] at h1;have e:szF (once n true) (f+1) c (zs,cy,lg)=(1,(zs,cy,lg)):=by simp only[szF,ho]
   rw[e];repeat' ((conv=>whnf);first|exact kQ|(refine bk ?_ ?_<;>intro _<;>try(exfalso;omega))|refine stq ?_|refine cp h1 ?_|fail)
   all_goals(conv=>whnf)
   all_goals first
    | (refine⟨Or.inr rfl,_,rfl,?_⟩
       exact lq0)
  | some to=>
   rw[ho] at h1;by_cases he:to=[]
   ·subst he;have e:szF (once n true) (f+1) c (zs,cy,lg)=(1,(zs,cy,lg)):=by simp only[szF,ho,if_true]
    rw[e];have hl0:([]:List Int).length=0:=rfl;repeat' ((conv=>whnf);first|exact kQ|(refine bk ?_ ?_<;>intro _<;>try(exfalso;omega))|refine stq ?_|refine cp h1 ?_|fail)
    all_goals(conv=>whnf)
    all_goals first
     | (refine⟨Or.inr rfl,_,rfl,?_⟩
        exact lq0)
   ·have hlen:to.length≠0:=λh=>he (List.eq_nil_of_length_eq_zero h)
    have hlen2:=hto c to ho;cases hz:lkZ c zs 0 with
    | some q=>
     obtain⟨i,v⟩:=q;have e:szF (once n true) (f+1) c (zs,cy,lg)=(max v 1,(zs,cy || v == -1,lg)):=by simp only[szF,ho,if_neg he,hz]
     rw[e];cases cy
     ·repeat' ((conv=>whnf);first|exact kQ|(refine bk ?_ ?_<;>intro _<;>try(exfalso;omega))|refine stq ?_|refine cp h1 ?_|(refine eV.int (λ_ _ hq=>?_) (λhq=>?_)<;>first|(rw[hz] at hq;cases hq)|skip)|fail)
      all_goals(conv=>whnf)
      all_goals first
       | (refine⟨Or.inr rfl,_,rfl,?_⟩
          exact lq0)
     ·repeat' ((conv=>whnf);first|exact kQ|(refine bk ?_ ?_<;>intro _<;>try(exfalso;omega))|refine stq ?_|refine cp h1 ?_|(refine eV.int (λ_ _ hq=>?_) (λhq=>?_)<;>first|(rw[hz] at hq;cases hq)|skip)|fail)
      all_goals(conv=>whnf)
      all_goals first
       | (refine⟨Or.inr rfl,_,rfl,?_⟩
          exact lq0)
    | none=>
     have e:szF (once n true) (f+1) c (zs,cy,lg)=((szL (szF (once n true) f) to (0,(zs++[(c,-1)],cy,lg))).1,(na c (szL (szF (once n true) f) to (0,(zs++[(c,-1)],cy,lg))).1 (szL (szF (once n true) f) to (0,(zs++[(c,-1)],cy,lg))).2.1,(szL (szF (once n true) f) to (0,(zs++[(c,-1)],cy,lg))).2.2.1,(szL (szF (once n true) f) to (0,(zs++[(c,-1)],cy,lg))).2.2.2 || decide (64<(szL (szF (once n true) f) to (0,(zs++[(c,-1)],cy,lg))).1))):=by
      simp only[szF,ho,if_neg he,hz]
     rw[e];generalize hR:szL (szF (once n true) f) to (0,(zs++[(c,-1)],cy,lg))=R;repeat' ((conv=>whnf);first|exact kQ|(refine bk ?_ ?_<;>intro _<;>try(exfalso;omega))|refine stq ?_|refine cp h1 ?_|(refine eV.int (λ_ _ hq=>?_) (λhq=>?_)<;>first|(rw[hz] at hq;cases hq)|skip)|fail)
     refine aH.by3 aA T0 (λ(k:Nat) (r:Int×List (Int×Int)) (b:Bool×Bool)=>⟨tmp 66 [(0,i64 c),(1,.iptr (nmC n)),(2,.ptr 3 0),(3,.ptr 0 0),(4,.ptr 4 0),(5,.ptr 1 0),(12,i64 r.1),(44,aE to),(45,i64 to.length),(46,i64 (k:Int))],⟨5,szH n r.2 b.1 b.2⟩⟩)
      (λk r b=>k<=to.length∧(r.1,(r.2,b.1,b.2))=szL (szF (once n true) f) (to.take k) (0,(zs++[(c,-1)],cy,lg))) (λk _ _=>to.length-k) 0 (0,zs++[(c,-1)]) (cy,lg) ⟨by omega,rfl⟩ ?_ ?_
     ·exact lq0
     intro k ⟨sm,zs2⟩ ⟨cy2,lg2⟩ ⟨h3,h4⟩;by_cases hkl:k<to.length
     ·obtain⟨ks,hks⟩:=oL (once n true) f (to.take k) (0,(zs++[(c,-1)],cy,lg));rw[<-h4] at hks
      have hcall:once n true to[k]=none∨left n.dc zs2+1<=f:=by
       by_cases h5:4<=hk c
       ·left
        have:to=hd c:=by unfold once at ho;rw[if_pos h5] at ho;injection ho with ho;exact ho.symm
        exact jQ hkd h5 (by rw[<-this];exact kM hkl)
       ·right;obtain⟨m,hm1,hm2,_⟩:=ju ho h5;have:=wv (zs:=zs) (zs2:=zs2) (ks:=ks) hm1 (by rw[hm2];exact hz) (by rw[hks,hm2];simp)
        rcases hf with hf|hf
        ·rw[ho] at hf;cases hf
        ·omega
      have hbd:=zi (once n true) f (to.take k) (0,(zs++[(c,-1)],cy,lg)) si (λp hp=>by
       rcases List.mem_append.1 hp with hp|hp
       ·exact hsb p hp
       ·rw[List.mem_singleton.1 hp];simp)
      rw[<-h4] at hbd;have hbd2:=(mN (once n true) f to[k] (zs2,cy2,lg2) hbd.2).1;have hb:=ih to[k] zs2 cy2 lg2 hcall hbd.2;generalize hS:szF (once n true) f to[k] (zs2,cy2,lg2)=S at hb hbd2
      have h6:(min (sm+S.1) 65,S.2)=szL (szF (once n true) f) (to.take (k+1)) (0,(zs++[(c,-1)],cy,lg)):=by
       rw[ao hkl,sy,<-h4,<-hS]
      repeat' ((conv=>whnf);first|exact kQ|(refine bk ?_ ?_<;>intro _<;>try(exfalso;omega))|refine stq ?_|refine Cll.emb hb [(0,0),(1,1),(2,2),(3,3),(4,4)] [] (i64 S.1) [(0,.cells [boo S.2.2.1] true),(1,.cells [boo S.2.2.2] true),(2,.map (zsM S.2.1)),(3,.cells [.map 2] true),(4,.cells [uy n] true)] [] rfl aq bxA rdA bxA reA ?_|refine Chk.mk (gM (by simp only;simp only at hbd;omega) (by simp only;simp only at hbd;omega)) ?_|fail)
      all_goals(conv=>whnf)
      all_goals first
       | (refine⟨k+1,(min (sm+S.1) 65,S.2.1),(S.2.2.1,S.2.2.2),⟨by omega,h6⟩,by omega,?_⟩
          exact lq0)
     ·obtain⟨ks,hks⟩:=oL (once n true) f (to.take k) (0,(zs++[(c,-1)],cy,lg));rw[<-h4] at hks;have hR2:R=(sm,(zs2,(cy2,lg2))):=by rw[<-hR];rw[kE om] at h4;exact h4.symm
      subst hR2
      obtain⟨i,v,hlk⟩:∃ i v,lkZ c zs2 0=some (i,v):=by
       cases hl:lkZ c zs2 0 with
       | some q=>exact⟨q.1,q.2,rfl⟩
       | none=>
        exfalso;have h5:=o5.1 hl;have h6:c∈zs2.map (·.1):=by rw[hks];simp
        obtain⟨p,hp1,hp2⟩:=List.mem_map.1 h6;exact h5 p hp1 hp2
      have hset:(zsM zs2).set i (i64 c,i64 sm)=zsM (na c sm zs2):=by simp only[zsM,na,hlk,List.map_set]
      cases lg2
      ·repeat' ((conv=>whnf);first|exact kQ|(refine bk ?_ ?_<;>intro _<;>try(exfalso;omega))|refine stq ?_|(refine eV.int (λ_ _ hq=>?_) (λhq=>?_)<;>(rw[hlk] at hq;first|(cases hq;done)|(simp only[kA,kB] at hq;obtain⟨rfl,rfl⟩:=hq)))|fail)
       all_goals(conv=>whnf)
       all_goals first
        | (refine⟨Or.inr rfl,_,rfl,?_⟩
           exact lq0)
      ·repeat' ((conv=>whnf);first|exact kQ|(refine bk ?_ ?_<;>intro _<;>try(exfalso;omega))|refine stq ?_|(refine eV.int (λ_ _ hq=>?_) (λhq=>?_)<;>(rw[hlk] at hq;first|(cases hq;done)|(simp only[kA,kB] at hq;obtain⟨rfl,rfl⟩:=hq)))|fail)
       all_goals(conv=>whnf)
       all_goals first
        | (refine⟨Or.inr rfl,_,rfl,?_⟩
           exact lq0)
end
section
open Go Go.Am Classical
set_option maxRecDepth 100000
theorem xNO.rdX {p:Prop}(h:p:=by first|exact Rd.fn .nil (Rds.cons (Rd.frzp rfl rfl (Rds.same (b8 n))) (Rds.cons (Rd.ptr rfl) (Rds.cons (Rd.ptr rfl) (Rds.cons (Rd.ptr rfl) (Rds.cons (Rd.ptr rfl) Rds.nil)))))|exact Rd.same (cD _)|exact DW|exact Rd.same (nbN n)|fail):p:=h
theorem xNO.rbX {p:Prop}(h:p:=by first|exact Rb.map (Res.same (nbZ _))|fail):p:=h
open xNO
def msF (on:Int->Option (List Int)) (f:Nat) (l:List Mpg):SzS:=l.foldl (λst m=>(szF on f m.frm st).2) ([],false,false)
theorem AZ {on:Int->Option (List Int)}{f:Nat}{l:List Mpg}{k:Nat}(h:k<l.length):msF on f (l.take (k+1))=(szF on f l[k].frm (msF on f (l.take k))).2:=by
 unfold msF;rw[ao h,List.foldl_append];rfl
theorem ww (l:List Mpg) (zs:List (Int×Int)):left l zs<=l.length:=List.length_filter_le _ _
theorem yP {n:Nm}(hn:n.dc.length<=1000) (hr:iq n.dc) (hkd:∀ m∈n.dc,hk m.frm=0) (hto:∀ c to,once n true c=some to->to.length<=1000) :
  Pu Tryz.prog 174 [nmD n] (.tup [boo (msF (once n true) (n.dc.length+1) n.dc).2.1,boo (msF (once n true) (n.dc.length+1) n.dc).2.2]):=by
 refine pv Tryz.func174 ?_;repeat' ((conv=>whnf);first|exact kQ|(refine bk ?_ ?_<;>intro _<;>try(exfalso;omega))|refine stq ?_)
 refine aH.by2 aA T0 (λ(k:Nat) (st:SzS)=>⟨tmp 24 [(2,.ptr 0 0),(3,.ptr 1 0),(5,.ptr 4 0),(11,dY n.dc),(12,i64 n.dc.length),(13,i64 (k:Int))],⟨5,szH n st.1 st.2.1 st.2.2⟩⟩)
  (λk st=>(k<=n.dc.length∧SzB st.1)∧st=msF (once n true) (n.dc.length+1) (n.dc.take k)) (λk _=>n.dc.length-k) 0 ([],false,false) ⟨⟨by omega,λp hp=>by simp at hp⟩,rfl⟩ ?_ ?_
 ·exact lq [(0,1),(1,2),(2,3),(3,4),(4,6)] [0]
 intro k ⟨zs,cy,lg⟩ ⟨⟨h3,h5⟩,h4⟩;by_cases hkl:k<n.dc.length
 ·have hb:=size_c hn hr hkd hto (n.dc.length+1) n.dc[k].frm zs cy lg (.inr (by have:=ww n.dc zs;omega)) h5;have hbd:=mN (once n true) (n.dc.length+1) n.dc[k].frm (zs,cy,lg) h5;generalize hS:szF (once n true) (n.dc.length+1) n.dc[k].frm (zs,cy,lg)=S at hb hbd;have h6:S.2=msF (once n true) (n.dc.length+1) (n.dc.take (k+1)):=by rw[AZ hkl,<-h4,<-hS]
  repeat' ((conv=>whnf);first|exact kQ|(refine bk ?_ ?_<;>intro _<;>try(exfalso;omega))|refine stq ?_|refine Cll.emb hb [(0,0),(1,1),(2,2),(3,3),(4,4)] [] (i64 S.1) [(0,.cells [boo S.2.2.1] true),(1,.cells [boo S.2.2.2] true),(2,.map (zsM S.2.1)),(3,.cells [.map 2] true),(4,.cells [uy n] true)] [] rfl aq bxA rdA bxA reA ?_|fail)
  all_goals(conv=>whnf)
  all_goals first
   | (refine⟨k+1,S.2,⟨⟨by omega,hbd.2⟩,h6⟩,by omega,?_⟩
      exact lq [(0,0),(1,1),(2,2),(3,3),(4,4)] [])
 ·rw[kE om] at h4;rw[<-h4];repeat' ((conv=>whnf);first|exact kQ|(refine bk ?_ ?_<;>intro _<;>try(exfalso;omega))|refine stq ?_|refine ab.by (id:=9) aA T0 [0,0,1,7] (by kernel_rfl) ?_|refine Chk.mk ⟨_,rfl⟩ ?_|fail)
  all_goals(conv=>whnf)
  all_goals first
   | exact aI.same rfl rfl
end
end Go.Proofs.YticpeeooobajgaaGreatDoor
