/-
  Contracts of functions over data: the mapping of a number.
-/
import Derived.Test.YtihggclfifimoaaGreatDoorNF
import Derived.Test.YtihggclfifimoaaGreatDoorHB
set_option linter.unusedSectionVars false
namespace Go.Proofs.YtihggclfifimoaaGreatDoor
open Go Go.Am Classical
set_option maxRecDepth 100000
section
theorem xNK.rdX {p:Prop}(h:p:=by first|exact Rd.same (bH _)|exact Rd.int em|exact Rd.int (by first|(rw[em];omega;done)|fail)|fail):p:=h
open xNK
abbrev nmC (n:Nm):List D:=[bC n.cl,ag n.dc,bD n.xc]
abbrev nmD (n:Nm):D:=.agg (nmC n)
theorem ce (n:Nm):aK (nmC n)=true:=by simp[aK,aY,bH,aV]
theorem aQ (n:Nm):aL (nmD n)=true:=ce n
def i9 (l:List Mpg):Prop:=∀ i (h:i<l.length),∀ h0:i≠0,(l[i-1]'(by omega)).frm<l[i].frm
theorem iY {l:List Mpg}(h:i9 l){i:Nat}(j:Nat) (hi:i<l.length) (hj:i+j+1<l.length):l[i].frm<l[i+j+1].frm:=by
 induction j with
 | zero=>have:=h (i+1) om om;simpa using this
 | succ j ih=>
  have h1:=ih om;have h2:=h (i+(j+1)+1) om om;have e:i+(j+1)+1-1=i+j+1:=by omega
  simp only[e] at h2;omega
noncomputable def bI (l:List Mpg) (c:Int):Nat:=l.findIdx λm=>decide (c<=m.frm)
theorem B5 (l:List Mpg) (c:Int):bI l c<=l.length:=List.findIdx_le_length
theorem jS {l:List Mpg}{c:Int}{i:Nat}(h:i<l.length) (hlt:i<bI l c):l[i].frm<c:=by
 have:=List.not_of_lt_findIdx hlt
 have:¬c<=l[i].frm:=by simpa using this
 omega
theorem sy {l:List Mpg}{c:Int}(h:bI l c<l.length):c<=l[bI l c].frm:=by
 have:=List.findIdx_getElem (p:=λm:Mpg=>decide (c<=m.frm)) (w:=h)
 exact of_decide_eq_true this
theorem B6 {l:List Mpg}{c:Int}(hr:i9 l){i:Nat}(h:i<l.length) (hle:bI l c<=i):c<=l[i].frm:=by
 have h1:=sy (l:=l) (c:=c) om;rcases Nat.lt_or_eq_of_le hle with hlt|he
 ·have h2:=iY hr (i-bI l c-1) (i:=bI l c) om om;have e:bI l c+(i-bI l c-1)+1=i:=by omega
  simp only[e] at h2;omega
 ·simp only[<-he];exact h1
theorem zw {m:Mpg}{c:Int}:Pu Tryz.prog 365 [.agg (iM m),i64 c] (i64 (e8 m.frm c)):=by
 refine pv Tryz.func365 ?_;repeat' ((conv=>whnf);first|exact kQ|(refine bk ?_ ?_<;>intro _<;>try(exfalso;omega))|refine stq ?_|refine cp dZ ?_|fail)
 all_goals(conv=>whnf)
 exact aE.int rfl
abbrev onF:D:=.fn (.func 365) [] []
theorem fX {a b:Int}:e8 a b<0↔a<b:=by
 unfold e8;repeat' split
 all_goals omega
theorem pc {a b:Int}:e8 a b=0↔a=b:=by
 unfold e8;repeat' split
 all_goals omega
theorem bsM_c {l:List Mpg}{c:Int}(hn:l.length<=1000) (hr:i9 l):Pu Tryz.prog 364 [ag l,i64 c,onF] (.tup [i64 (bI l c:Nat),boo (decide (∃ h:bI l c<l.length,l[bI l c].frm=c))]):=by
 refine pv Tryz.func364 ?_;have hle:=B5 l c;have h1:∀ m (h:m<l.length),m<bI l c->l[m].frm<c:=λm h hlt=>jS h hlt
 have h2:∀ m (h:m<l.length),bI l c<=m->c<=l[m].frm:=λm h hle=>B6 hr h hle
 repeat' ((conv=>whnf);first|exact kQ|(refine bk ?_ ?_<;>intro _<;>try(exfalso;omega))|refine stq ?_)
 refine aH.by2 aA T0 (λi j:Nat=>⟨tmp 49 [(0,ag l),(1,i64 c),(2,onF),(8,i64 l.length),(9,i64 (i:Int)),(10,i64 (j:Int))],⟨0,[]⟩⟩)
  (λi j=>i<=bI l c∧bI l c<=j∧j<=l.length) (λi j=>j-i) 0 l.length ⟨by omega,by omega,by omega⟩ ?_ ?_
 ·exact lq0
 intro i j ⟨h3,h4,h5⟩;by_cases hij:i<j
 ·have em:=im (i:=i) (j:=j) (n:=2000) om om;have hm:(i+j) / 2<l.length:=by omega
  repeat' ((conv=>whnf);first|exact kQ|(refine bk ?_ ?_<;>intro _<;>try(exfalso;omega))|refine stq ?_|refine cp (zw (m:=l[(i+j) / 2]'hm) (c:=c)) ?_|refine Idx.atS (by intro _;rfl) ((i+j) / 2) em hm ?_|refine Chk.mk (fg (by rw[em];omega) (by rw[em];omega)) ?_|fail)
  all_goals(conv=>whnf)
  all_goals first
   | (refine⟨(i+j) / 2+1,j,⟨Nat.succ_le_of_lt (Nat.lt_of_not_le λhle=>by have:=h2 _ hm hle;have:=fX.1 asm;omega),by omega,by omega⟩,by omega,?_⟩
      exact lq0)
   | (refine⟨i,(i+j) / 2,⟨by omega,Nat.le_of_not_lt λhlt=>absurd (fX.2 (h1 _ hm hlt)) asm,by omega⟩,by omega,?_⟩
      exact lq0)
 ·have e:i=bI l c:=by omega
  subst e;by_cases hs:bI l c<l.length
  ·repeat' ((conv=>whnf);first|exact kQ|(refine bk ?_ ?_<;>intro _<;>try(exfalso;omega))|refine stq ?_|refine cp (zw (m:=l[bI l c]'hs) (c:=c)) ?_|fail)
   all_goals(conv=>whnf)
   all_goals first
    | exact aE.same rfl (by rw[decide_eq_true ⟨hs,pc.1 asm⟩];rfl)
    | exact aE.same rfl (by rw[decide_eq_false λ⟨_,h⟩=>absurd (pc.2 h) asm];rfl)
  ·repeat' ((conv=>whnf);first|exact kQ|(refine bk ?_ ?_<;>intro _<;>try(exfalso;omega))|refine stq ?_)
   all_goals(conv=>whnf)
   exact aE.same rfl (by rw[decide_eq_false λ⟨h,_⟩=>hs h];rfl)
theorem B4 {l:List Mpg}(hr:i9 l) (c:Int):fnd l c=if h:bI l c<l.length then(if l[bI l c].frm=c then some l[bI l c] else none) else none:=by
 unfold fnd;split
 ·rename_i h;have h1:=sy h;split
  ·rename_i h2;rw[List.find?_eq_some_iff_getElem];refine⟨by simpa using h2,bI l c,h,rfl,λj hj=>?_⟩;have:=jS (c:=c) (show j<l.length by omega) hj
   simp;omega
  ·rename_i h2;rw[List.find?_eq_none];intro x hx;obtain⟨i,hi,rfl⟩:=List.getElem_of_mem hx;simp only[decide_eq_true_eq];intro e;rcases Nat.lt_trichotomy i (bI l c) with hlt|he|hgt
   ·have:=jS hi hlt;omega
   ·subst he;exact h2 e
   ·have h3:=iY hr (i-bI l c-1) (i:=bI l c) om om;have e2:bI l c+(i-bI l c-1)+1=i:=by omega
    simp only[e2] at h3;omega
 ·rename_i h;rw[List.find?_eq_none];intro x hx;obtain⟨i,hi,rfl⟩:=List.getElem_of_mem hx;have:=jS (c:=c) hi om
  simp;omega
def onD (o:Option (List Int)):D:=match o with|some to=>.tup [aF to,boo true]|none=>.tup [aO,boo false]
theorem yh {n:Nm}{k:Bool}{c:Int}(hn:n.dc.length<=1000) (hr:i9 n.dc):Pu Tryz.prog 294 [nmD n,i64 c,boo k] (onD (once n k c)):=by
 refine pv Tryz.func294 ?_;have hb:=bsM_c (c:=c) hn hr;have hf:=B4 hr c;by_cases h4:4<=hk c
 ·have ho:once n k c=some (hd c):=by unfold once;rw[if_pos h4]
  rw[ho];repeat' ((conv=>whnf);first|exact kQ|(refine bk ?_ ?_<;>intro _<;>try(exfalso;omega))|refine stq ?_|refine cp cu ?_|refine cp hDec_c ?_|fail)
  all_goals(conv=>whnf)
  exact aE.same (by simp[aL,aK,aC]) rfl
 ·by_cases h:∃ h:bI n.dc c<n.dc.length,n.dc[bI n.dc c].frm=c
  ·rw[decide_eq_true h] at hb;obtain⟨h1,h2⟩:=h;rw[dif_pos h1,if_pos h2] at hf;have ho:once n k c=if n.dc[bI n.dc c].tag≠[]∧k=false then none else some n.dc[bI n.dc c].to:=by unfold once;rw[if_neg h4,hf]
   cases k with
   | true=>
    rw[if_neg si] at ho;rw[ho];repeat' ((conv=>whnf);first|exact kQ|(refine bk ?_ ?_<;>intro _<;>try(exfalso;omega))|refine stq ?_|refine cp cu ?_|refine cp hb ?_|fail)
    all_goals(conv=>whnf)
    all_goals first
     | exact aE.same (by simp[aL,aK,aC]) rfl
   | false=>
    by_cases ht:n.dc[bI n.dc c].tag=[]
    ·rw[if_neg (by simp[ht])] at ho;rw[ho];repeat' ((conv=>whnf);first|exact kQ|(refine bk ?_ ?_<;>intro _<;>try(exfalso;omega))|refine stq ?_|refine cp cu ?_|refine cp hb ?_|fail)
     all_goals(conv=>whnf)
     all_goals first
      | exact aE.same (by simp[aL,aK,aC]) rfl
      | exact absurd ht asm
    ·rw[if_pos ⟨ht,rfl⟩] at ho;rw[ho];repeat' ((conv=>whnf);first|exact kQ|(refine bk ?_ ?_<;>intro _<;>try(exfalso;omega))|refine stq ?_|refine cp cu ?_|refine cp hb ?_|fail)
     all_goals(conv=>whnf)
     all_goals first
      | exact aE.same rfl rfl
      | exact absurd asm ht
  ·rw[decide_eq_false h] at hb
   have ho:once n k c=none:=by
    unfold once;rw[if_neg h4,hf];split
    ·rename_i m hm;split at hm
     ·rename_i h1;split at hm
      ·rename_i h2;exact absurd ⟨h1,h2⟩ h
      ·cases hm
     ·cases hm
    ·rfl
   rw[ho];repeat' ((conv=>whnf);first|exact kQ|(refine bk ?_ ?_<;>intro _<;>try(exfalso;omega))|refine stq ?_|refine cp cu ?_|refine cp hb ?_|fail)
   all_goals(conv=>whnf)
   exact aE.same rfl rfl
end
section
set_option linter.unusedVariables false
def lkZ {α:Type}(c:Int):List (Int×α)->Nat->Option (Nat×α)
 | [],_=>none
 | (k,x)::m,i=>if c=k then some (i,x) else lkZ c m (i+1)
theorem oL {α:Type}{f:α->D}{h:aB}{c:Int}:∀ {m:List (Int×α)}{i:Nat},bo h (i64 c) (m.map λp=>(i64 p.1,f p.2)) i=some ((lkZ c m i).map λq=>(q.1,f q.2))
 | [],i=>rfl
 | (k,x)::m,i=>by
  simp only[List.map_cons,bo,az,if_true,lkZ];by_cases e:c=k
  ·subst e;simp
  ·rw[beq_eq_false_iff_ne.2 e,if_neg e];exact oL
theorem cB.int {α:Type}{f:α->D}{h:aB}{c:Int}{m:List (Int×α)}{K:Option (Nat×D)->Prop}(yes:∀ i x,lkZ c m 0=some (i,x)->K (some (i,f x))) (no:lkZ c m 0=none->K none):cB h (i64 c) (m.map λp=>(i64 p.1,f p.2)) K:=by
 cases hl:lkZ c m 0 with
 | none=>exact⟨none,by rw[oL,hl];rfl,no hl⟩
 | some q=>exact⟨some (q.1,f q.2),by rw[oL,hl];rfl,yes q.1 q.2 hl⟩
theorem io {α:Type}{c:Int}:∀ {m:List (Int×α)}{i:Nat},lkZ c m i=none↔∀ p∈m,p.1≠c
 | [],_=>by simp[lkZ]
 | (k,x)::m,i=>by
  simp only[lkZ];split
  ·rename_i e;simp[e]
  ·rename_i e;rw[io];simp only[kH,forall_eq_or_imp];exact⟨λh=>⟨λe2=>e e2.symm,h⟩,λh=>h.2⟩
theorem mF {α:Type}{c:Int}{x:α}{j:Nat}:∀ {m:List (Int×α)}{i:Nat},lkZ c m i=some (j,x)->∃ h:j-i<m.length,i<=j∧m[j-i]=(c,x)
 | [],_,h=>by simp[lkZ] at h
 | (k,y)::m,i,h=>by
  simp only[lkZ] at h;split at h
  ·rename_i e;simp only[kA,kB] at h;obtain⟨rfl,rfl⟩:=h;exact⟨by simp,kP _,by simp[e]⟩
  ·obtain⟨h1,h2,h3⟩:=mF h;have e:j-i=(j-(i+1))+1:=by omega
   refine⟨by simp;omega,by omega,?_⟩;simp only[e,List.getElem_cons_succ];exact h3
def mf {α:Type}(c:Int) (v:α) (m:List (Int×α)):List (Int×α):=match lkZ c m 0 with|some (i,_)=>m.set i (c,v)|none=>m
abbrev SzS:=List (Int×Int)×Bool×Bool
def szL (g:Int->SzS->Int×SzS):List Int->Int×SzS->Int×SzS
 | [],r=>r
 | e::l,r=>szL g l (min (r.1+(g e r.2).1) 65,(g e r.2).2)
def szF (on:Int->Option (List Int)):Nat->Int->SzS->Int×SzS
 | 0,_,st=>(1,st)
 | f+1,c,st=>
  match on c with
  | none=>(1,st)
  | some to=>
   if to=[] then(1,st) else
   match lkZ c st.1 0 with
   | some (_,v)=>(max v 1,(st.1,st.2.1 || v == -1,st.2.2))
   | none=>
    let r:=szL (szF on f) to (0,(st.1++[(c,-1)],st.2.1,st.2.2))
    (r.1,(mf c r.1 r.2.1,r.2.2.1,r.2.2.2 || decide (64<r.1)))
theorem vQ (g:Int->SzS->Int×SzS):∀ (l:List Int) (e:Int) (r:Int×SzS),szL g (l++[e]) r=(min ((szL g l r).1+(g e (szL g l r).2).1) 65,(g e (szL g l r).2).2)
 | [],e,r=>rfl
 | a::l,e,r=>by simp only[List.cons_append,szL];exact vQ g l e _
def left (l:List Mpg) (zs:List (Int×Int)):Nat:=(l.filter λm=>(lkZ m.frm zs 0).isNone).length
theorem C7 {α:Type}{c:Int}{v:α}{m:List (Int×α)}:(mf c v m).map (·.1)=m.map (·.1):=by
 unfold mf;split
 ·rename_i i x h;obtain⟨h1,_,h3⟩:=mF h;simp only[Nat.sub_zero] at h1 h3;apply List.ext_getElem
  ·simp
  ·intro j hj hj';simp only[List.getElem_map,List.getElem_set];split
   ·rename_i e;subst e;simp[h3]
   ·rfl
 ·rfl
theorem mc (on:Int->Option (List Int)):∀ (f:Nat) (c:Int) (st:SzS),∃ ks,(szF on f c st).2.1.map (·.1)=st.1.map (·.1)++ks
 | 0,c,st=>⟨[],by simp[szF]⟩
 | f+1,c,st=>by
  have hL:∀ (l:List Int) (r:Int×SzS),∃ ks,(szL (szF on f) l r).2.1.map (·.1)=r.2.1.map (·.1)++ks:=λl=>by
   induction l with
   | nil=>intro r;exact⟨[],by simp[szL]⟩
   | cons e l ih=>
    intro r;obtain⟨k1,h1⟩:=mc on f e r.2;obtain⟨k2,h2⟩:=ih (min (r.1+(szF on f e r.2).1) 65,(szF on f e r.2).2);exact⟨k1++k2,by simp only[szL];rw[h2,h1,List.append_assoc]⟩
  simp only[szF];split
  ·exact⟨[],by simp⟩
  ·split
   ·exact⟨[],by simp⟩
   ·split
    ·exact⟨[],by simp⟩
    ·obtain⟨ks,h⟩:=hL _ (0,(st.1++[(c,-1)],st.2.1,st.2.2));rename_i to _ _ _;refine⟨c::ks,?_⟩;simp only[C7];rw[h];simp
theorem o7 {α:Type}{p q:α->Bool}(h:∀ x,p x=true->q x=true):∀ {l:List α},(l.filter p).length<=(l.filter q).length
 | []=>kP _
 | x::l=>by
  have ih:=o7 h (l:=l);simp only[List.filter_cons];split
  ·rename_i hp;rw[if_pos (h x hp)];simpa using ih
  ·split
   ·simp only[kO];omega
   ·exact ih
theorem s7 {α:Type}{p q:α->Bool}(h:∀ x,p x=true->q x=true):∀ {l:List α}{y:α},y∈l->p y=false->q y=true->(l.filter p).length<(l.filter q).length
 | x::l,y,hm,hp,hq=>by
  simp only[List.filter_cons];rcases List.mem_cons.1 hm with rfl|hm
  ·rw[if_neg (by simp[hp]),if_pos hq];have:=o7 h (l:=l)
   simp only[kO];omega
  ·have ih:=s7 h hm hp hq;split
   ·rename_i hx;rw[if_pos (h x hx)];simpa using ih
   ·split
    ·simp only[kO];omega
    ·exact ih
theorem uR {l:List Mpg}{zs zs2:List (Int×Int)}{m:Mpg}{ks:List Int}(hm:m∈l) (h0:lkZ m.frm zs 0=none) (hk:zs2.map (·.1)=zs.map (·.1)++m.frm::ks):left l zs2<left l zs:=by
 have hno:∀ {c:Int} {w:List (Int×Int)},(lkZ c w 0).isNone=true↔¬c∈w.map (·.1):=λ{c w}=>by
  rw[Option.isNone_iff_eq_none,io];simp only[List.mem_map,not_exists,not_and,ne_eq]
 unfold left;refine s7 (λx hx=>?_) hm ?_ ?_
 ·rw[hno] at hx ⊢;intro h;exact hx (by rw[hk];exact List.mem_append_left _ h)
 ·rw[Bool.eq_false_iff,ne_eq,hno];intro h;exact h (by rw[hk];simp)
 ·rw[h0];rfl
theorem qI (on:Int->Option (List Int)) (f:Nat):∀ (l:List Int) (r:Int×SzS),∃ ks,(szL (szF on f) l r).2.1.map (·.1)=r.2.1.map (·.1)++ks
 | [],r=>⟨[],by simp[szL]⟩
 | e::l,r=>by
  obtain⟨k1,h1⟩:=mc on f e r.2;obtain⟨k2,h2⟩:=qI on f l (min (r.1+(szF on f e r.2).1) 65,(szF on f e r.2).2);exact⟨k1++k2,by simp only[szL];rw[h2,h1,List.append_assoc]⟩
def SzB (zs:List (Int×Int)):Prop:=∀ p∈zs,-1<=p.2∧p.2<=65
theorem Fb {c v:Int}{zs:List (Int×Int)}(h:SzB zs) (hv:-1<=v∧v<=65):SzB (mf c v zs):=by
 unfold mf;split
 ·intro p hp;rcases List.mem_or_eq_of_mem_set hp with hp|rfl
  ·exact h p hp
  ·exact hv
 ·exact h
theorem jE (on:Int->Option (List Int)):∀ (f:Nat) (c:Int) (st:SzS),SzB st.1->(0<=(szF on f c st).1∧(szF on f c st).1<=65)∧SzB (szF on f c st).2.1
 | 0,c,st,h=>⟨by simp[szF],h⟩
 | f+1,c,st,h=>by
  have hL:∀ (l:List Int) (r:Int×SzS),(0<=r.1∧r.1<=65)->SzB r.2.1->(0<=(szL (szF on f) l r).1∧(szL (szF on f) l r).1<=65)∧SzB (szL (szF on f) l r).2.1:=λl=>by
   induction l with
   | nil=>intro r h1 h2;exact⟨h1,h2⟩
   | cons e l ih=>
    intro r h1 h2;obtain⟨h3,h4⟩:=jE on f e r.2 h2;exact ih (min (r.1+(szF on f e r.2).1) 65,(szF on f e r.2).2) (by constructor<;>simp only<;>omega) h4
  simp only[szF];split
  ·exact⟨by simp,h⟩
  ·split
   ·exact⟨by simp,h⟩
   ·split
    ·rename_i v hl;obtain⟨h1,_,h3⟩:=mF hl;have:=h _ (h3▸kM h1)
     simp only at this;exact⟨by simp only;omega,h⟩
    ·obtain⟨h1,h2⟩:=hL _ (0,(st.1++[(c,-1)],st.2.1,st.2.2)) si (λp hp=>by
      rcases List.mem_append.1 hp with hp|hp
      ·exact h p hp
      ·rw[List.mem_singleton.1 hp];simp)
     exact⟨h1,Fb h2 om⟩
theorem yH (on:Int->Option (List Int)) (f:Nat):∀ (l:List Int) (r:Int×SzS),(0<=r.1∧r.1<=65)->SzB r.2.1->(0<=(szL (szF on f) l r).1∧(szL (szF on f) l r).1<=65)∧SzB (szL (szF on f) l r).2.1
 | [],r,h1,h2=>⟨h1,h2⟩
 | e::l,r,h1,h2=>by
  obtain⟨h3,h4⟩:=jE on f e r.2 h2;exact yH on f l (min (r.1+(szF on f e r.2).1) 65,(szF on f e r.2).2) (by constructor<;>simp only<;>omega) h4
theorem dr {n:Nm}(hkd:∀ m∈n.dc,hk m.frm=0){c e:Int}(h:4<=hk c) (he:e∈hd c):once n true e=none:=by
 have h1:=yv h he;unfold once;rw[if_neg om];cases hf:fnd n.dc e with
 | none=>rfl
 | some m=>
  obtain⟨h2,h3⟩:=dv hf;have:=hkd m h2
  rw[h3] at this;omega
theorem gB {n:Nm}{c:Int}{to:List Int}(h:once n true c=some to) (h4:¬4<=hk c):∃ m∈n.dc,m.frm=c∧m.to=to:=by
 unfold once at h;rw[if_neg h4] at h;cases hf:fnd n.dc c with
 | none=>rw[hf] at h;cases h
 | some m=>
  rw[hf] at h;simp only[Bool.true_eq_false,and_false,if_false,kA] at h;obtain⟨h2,h3⟩:=dv hf;exact⟨m,h2,h3,h⟩
end
section
set_option linter.unusedVariables false
theorem xNT.rdX {p:Prop}(h:p:=by first|exact Rd.same (nbF _)|fail):p:=h
theorem xNT.rbX {p:Prop}(h:p:=by first|exact Rb.cells (Rds.eqs (nr om om) (aN (λ_=>rfl) _)) rfl|fail):p:=h
open xNT
theorem Get.mapO {α:Type}{f:α->D}{l:List α}{k o:Nat}{K:List D->Prop}(h:o+k<l.length) (go:K [f l[o+k]]):Get (l.map f) (o+k*1) 1 K:=by
 have:=Get.map (f:=f) (l:=l) (k:=o+k) (K:=K) h go
 rwa [show 0+(o+k)*1=o+k*1 from by omega] at this
theorem Put.oneO {cs:List D}{k o:Nat}{d:D}{K:List D->Prop}(h:o+k<cs.length) (go:K (cs.set (o+k) d)):Put cs (o+k*1) [d] K:=by
 have:=Put.one (cs:=cs) (k:=o+k) (d:=d) (K:=K) h go
 rwa [show 0+(o+k)*1=o+k*1 from by omega] at this
abbrev bT (x:Int):D:=i64 x
abbrev slO (o n c:Nat):D:=.sl 0 o n c 1 false
abbrev cJ (cl:List Spn):D:=.fn (.func 274) [] [.iptr [bC cl]]
theorem nbF (cl:List Spn):aL (cJ cl)=true:=by simp[aL,aK,aY]
theorem nr {l:List Int}{a b:Nat}(ha:a<l.length) (hb:b<l.length):((l.map bT).set a (bT l[b])).set b (bT l[a])=(eK l a b).map bT:=by
 unfold eK;rw[List.map_set,List.map_set,bR ha,bR hb]
theorem tg {cl:List Spn}{l:List Int}{o n c a b k:Nat}(hl:l.length<=100000) (hn:o+n<=l.length) (ha:a+k<=n) (hb:b+k<=n) :
  AC1 Tryz.prog 422 [slO o n c,i64 a,i64 b,i64 k,cJ cl] ⟨1,[(0,.cells (l.map bT) false)]⟩ (.tup []) ⟨4,[(0,.cells ((jy l (o+a) (o+b) k).map bT) false)]⟩:=by
 refine AC1.of_vl aA T0 Tryz.func422 rfl rfl ?_;repeat' ((conv=>whnf);first|exact kQ|(refine bk ?_ ?_<;>intro _<;>try(exfalso;omega))|refine stq ?_)
 refine aH.by2 aA T0 (λ(i:Nat) (cur:List Int)=>⟨tmp 38 [(0,slO o n c),(1,i64 a),(2,i64 b),(3,i64 k),(4,cJ cl),(10,i64 (i:Int))],⟨1,[(0,.cells (cur.map bT) false)]⟩⟩)
  (λi cur=>i<=k∧cur.length=l.length∧jy cur (o+(a+i)) (o+(b+i)) (k-i)=jy l (o+a) (o+b) k) (λi _=>k-i) 0 l ⟨by omega,rfl,rfl⟩ ?_ ?_
 ·exact lq0
 intro i cur ⟨h1,h2,h3⟩;by_cases hk:i<k
 ·repeat' ((conv=>whnf);first|exact kQ|(refine bk ?_ ?_<;>intro _<;>try(exfalso;omega))|refine stq ?_|refine aX.by (id:=3) aA T0 [0,0,0,6,0,0,0,96,0,0,0,1536,3840,7936,0,0,0,98304,245760,507904,1048335,2096911,4194303,8388607] (by kernel_rfl) ?_|refine cA.at (b+i) om om ?_|refine cA.at (a+i) om om ?_|refine Get.mapO om ?_|refine Put.oneO (by simp;omega) ?_|fail)
  all_goals(conv=>whnf)
  have e:k-i=(k-(i+1))+1:=by omega
  rw[e] at h3;have h4:jy (eK cur (o+(a+i)) (o+(b+i))) (o+(a+(i+1))) (o+(b+(i+1))) (k-(i+1))=jy l (o+a) (o+b) k:=h3;refine⟨i+1,eK cur (o+(a+i)) (o+(b+i)),⟨by omega,by simp[h2],h4⟩,by omega,?_⟩;exact lq0
 ·have e:i=k:=by omega
  subst e;rw[Nat.sub_self] at h3;rw[<-h3];repeat' ((conv=>whnf);first|exact kQ|(refine bk ?_ ?_<;>intro _<;>try(exfalso;omega))|refine stq ?_|fail)
  all_goals(conv=>whnf)
  exact⟨Or.inl rfl,rfl,rfl⟩
theorem qM:∀ (k:Nat) (l:List Int) (a b:Nat),(jy l a b k).length=l.length
 | 0,_,_,_=>rfl
 | k+1,l,a,b=>by show(jy (eK l a b) _ _ k).length=_;rw[qM k];simp
def sE (o m n:Nat) (T:List Int) (ij:Nat×Nat) (cur:List Int):Prop:=
 0<ij.1∧0<ij.2∧∃ P X Y S:List Int,cur=P++(X++(Y++S))∧P.length+X.length=o+m∧X.length=ij.1∧Y.length=ij.2∧P++(Y++(X++S))=T∧m+ij.2<=n∧ij.1<=m
theorem sE.gt {o m n:Nat}{T:List Int}{i j:Nat}{cur:List Int}(h:sE o m n T (i,j) cur) (hlt:j<i):sE o m n T (i-j,j) (jy cur (o+(m-i)) (o+m) j):=by
 obtain⟨h1,h2,P,X,Y,S,e,h3,h4,h5,h6,h7,h8⟩:=h;simp only at h1 h2 h4 h5 h7 h8;have hs:=pQ (X.take j) Y P (X.drop j) S (by simp;omega);have e1:P.length+((X.take j).length+(X.drop j).length)=o+m:=by simp;omega
 have e2:P.length=o+(m-i):=by omega
 have e3:(X.take j).length=j:=by simp;omega
 have e4:P++(X.take j++(X.drop j++(Y++S)))=cur:=by rw[e,<-List.append_assoc (X.take j),List.take_append_drop]
 rw[e1,e2,e3,e4] at hs;refine⟨by simp only;omega,h2,P++Y,X.drop j,X.take j,S,by rw[hs];simp,by simp;omega,by simp;omega,by simp;omega,?_,h7,by simp only;omega⟩;rw[<-h6,List.append_assoc,<-List.append_assoc (X.take j),List.take_append_drop]
theorem sE.lt {o m n:Nat}{T:List Int}{i j:Nat}{cur:List Int}(h:sE o m n T (i,j) cur) (hlt:i<j):sE o m n T (i,j-i) (jy cur (o+(m-i)) (o+(m+j-i)) i):=by
 obtain⟨h1,h2,P,X,Y,S,e,h3,h4,h5,h6,h7,h8⟩:=h;simp only at h1 h2 h4 h5 h7 h8;have hs:=pQ X (Y.drop (j-i)) P (Y.take (j-i)) S (by simp;omega);have e1:P.length+(X.length+(Y.take (j-i)).length)=o+(m+j-i):=by simp;omega
 have e2:P.length=o+(m-i):=by omega
 have e4:P++(X++(Y.take (j-i)++(Y.drop (j-i)++S)))=cur:=by rw[e,<-List.append_assoc (Y.take (j-i)),List.take_append_drop]
 rw[e1,e2,h4,e4] at hs;refine⟨h1,by simp only;omega,P,Y.drop (j-i),Y.take (j-i),X++S,by rw[hs],by simp;omega,by simp;omega,by simp;omega,?_,by simp only;omega,h8⟩;rw[<-h6,<-List.append_assoc (Y.take (j-i)),List.take_append_drop]
theorem sE.eq {o m n:Nat}{T:List Int}{i:Nat}{cur:List Int}(h:sE o m n T (i,i) cur):jy cur (o+(m-i)) (o+m) i=T:=by
 obtain⟨h1,h2,P,X,Y,S,e,h3,h4,h5,h6,h7,h8⟩:=h;simp only at h1 h2 h4 h5 h7 h8;have hs:=pQ X Y P [] S om;rw[show P.length+(X.length+([]:List Int).length)=o+m by simp;omega,show P.length=o+(m-i) by omega,h4] at hs;simp only[List.nil_append] at hs;rw[e,hs,h6]
theorem rot_c {cl:List Spn}{P X Y S:List Int}{o n c a m b:Nat}(hl:(P++(X++(Y++S))).length<=100000) (hX:0<X.length) (hY:0<Y.length) (hp:P.length=o+a) (hm:m=a+X.length) (hb:b=m+Y.length) (hn:b<=n) (hon:o+n<=(P++(X++(Y++S))).length) :
  AC1 Tryz.prog 411 [slO o n c,i64 a,i64 m,i64 b,cJ cl] ⟨1,[(0,.cells ((P++(X++(Y++S))).map bT) false)]⟩ (.tup []) ⟨4,[(0,.cells ((P++(Y++(X++S))).map bT) false)]⟩:=by
 refine AC1.of_vf aA T0 Tryz.func411 rfl rfl ?_;generalize hT:P++(Y++(X++S))=T;have hlen:T.length=(P++(X++(Y++S))).length:=by rw[<-hT];simp;omega
 have hI:sE o m n T (X.length,Y.length) (P++(X++(Y++S))):=⟨hX,hY,P,X,Y,S,rfl,by omega,rfl,rfl,hT,by omega,by simp only;omega⟩;generalize hc:P++(X++(Y++S))=cur0 at *;repeat' ((conv=>whnf);first|exact kQ|(refine bk ?_ ?_<;>intro _<;>try(exfalso;omega))|refine stq ?_)
 refine aH.by2 aA T0 (λ(ij:Nat×Nat) (cur:List Int)=>⟨tmp 58 [(0,slO o n c),(2,i64 m),(4,cJ cl),(10,i64 (ij.1:Int)),(11,i64 (ij.2:Int))],⟨1,[(0,.cells (cur.map bT) false)]⟩⟩)
  (λij cur=>sE o m n T ij cur∧cur.length=cur0.length) (λij _=>ij.1+ij.2) (X.length,Y.length) cur0 ⟨hI,rfl⟩ ?_ ?_
 ·exact lq0
 intro⟨i,j⟩ cur ⟨h1,h2⟩;have hi0:0<i:=h1.1;have hj0:0<j:=h1.2.1;have him:i<=m:=h1.2.2.elim λ_ h=>h.elim λ_ h=>h.elim λ_ h=>h.elim λ_ h=>h.2.2.2.2.2.2
 have hjn:m+j<=n:=h1.2.2.elim λ_ h=>h.elim λ_ h=>h.elim λ_ h=>h.elim λ_ h=>h.2.2.2.2.2.1
 rcases Nat.lt_trichotomy i j with hlt|he|hgt
 ·have h3:=h1.lt hlt;have hb:=tg (cl:=cl) (l:=cur) (o:=o) (n:=n) (c:=c) (a:=m-i) (b:=m+j-i) (k:=i) om om om om;rw[show((m-i:Nat):Int)=(m:Int)-(i:Int) by omega,show((m+j-i:Nat):Int)=(m:Int)+(j:Int)-(i:Int) by omega] at hb;repeat' ((conv=>whnf);first|exact kQ|(refine bk ?_ ?_<;>intro _<;>try(exfalso;omega))|refine stq ?_|refine Cll.emb hb [(0,0)] [] (.tup []) [(0,.cells ((jy cur (o+(m-i)) (o+(m+j-i)) i).map bT) false)] [] rfl cZ bxA rdA bxA reA ?_|fail)
  all_goals(conv=>whnf)
  refine⟨(i,j-i),jy cur (o+(m-i)) (o+(m+j-i)) i,⟨h3,by rw[qM];exact h2⟩,by simp only;omega,?_⟩;exact lq0
 ·subst he;have h3:=h1.eq;have hb:=tg (cl:=cl) (l:=cur) (o:=o) (n:=n) (c:=c) (a:=m-i) (b:=m) (k:=i) om om om om;rw[show((m-i:Nat):Int)=(m:Int)-(i:Int) by omega,h3] at hb;repeat' ((conv=>whnf);first|exact kQ|(refine bk ?_ ?_<;>intro _<;>try(exfalso;omega))|refine stq ?_|refine Cll.emb hb [(0,0)] [] (.tup []) [(0,.cells (T.map bT) false)] [] rfl cZ bxA rdA bxA reA ?_|fail)
  all_goals(conv=>whnf)
  refine⟨Or.inl rfl,_,rfl,?_⟩;exact lq0
 ·have h3:=h1.gt hgt;have hb:=tg (cl:=cl) (l:=cur) (o:=o) (n:=n) (c:=c) (a:=m-i) (b:=m) (k:=j) om om om om;rw[show((m-i:Nat):Int)=(m:Int)-(i:Int) by omega] at hb;repeat' ((conv=>whnf);first|exact kQ|(refine bk ?_ ?_<;>intro _<;>try(exfalso;omega))|refine stq ?_|refine Cll.emb hb [(0,0)] [] (.tup []) [(0,.cells ((jy cur (o+(m-i)) (o+m) j).map bT) false)] [] rfl cZ bxA rdA bxA reA ?_|fail)
  all_goals(conv=>whnf)
  refine⟨(i-j,j),jy cur (o+(m-i)) (o+m) j,⟨h3,by rw[qM];exact h2⟩,by simp only;omega,?_⟩;exact lq0
end
end Go.Proofs.YtihggclfifimoaaGreatDoor
