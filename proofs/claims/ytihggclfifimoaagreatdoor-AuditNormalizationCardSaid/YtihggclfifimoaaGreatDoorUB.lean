/-
  Plain: where all sizes are known and none is long, measuring finds no cycle and nothing long.
-/
import Derived.Test.YtihggclfifimoaaGreatDoorNR
import Derived.Test.YtihggclfifimoaaGreatDoorUA
set_option linter.unusedSectionVars false
namespace Go.Proofs.YtihggclfifimoaaGreatDoor
set_option maxHeartbeats 4000000
set_option maxRecDepth 100000
section
open Go Go.Am Classical
set_option linter.unusedVariables false
def gO (k:Int) (m:List (Int×Int)):Option Int:=(lkZ k m 0).map (·.2)
def yC (c v:Int):List (Int×Int)->List (Int×Int)
 | []=>[]
 | (k,x)::m=>if c=k then(c,v)::m else(k,x)::yC c v m
theorem D1 {k:Int}:∀ {m:List (Int×Int)}{i j:Nat},(lkZ k m i).map (·.2)=(lkZ k m j).map (·.2)
 | [],_,_=>rfl
 | (k',x)::m,i,j=>by
  simp only[lkZ];split
  ·rfl
  ·exact D1
theorem dV {k k' x:Int}{m:List (Int×Int)}:gO k ((k',x)::m)=if k=k' then some x else gO k m:=by
 simp only[gO,lkZ];split
 ·rfl
 ·exact D1
theorem zl {c v:Int}:∀ (m:List (Int×Int)) (j:Nat),(match lkZ c m j with|some (i,_)=>m.set (i-j) (c,v)|none=>m)=yC c v m
 | [],j=>rfl
 | (k,x)::m,j=>by
  simp only[lkZ,yC];by_cases e:c=k
  ·simp[e]
  ·rw[if_neg e,if_neg e];have ih:=zl (c:=c) (v:=v) m (j+1);cases hl:lkZ c m (j+1) with
   | none=>rw[hl] at ih;simp only at ih ⊢;rw[<-ih]
   | some q=>
    obtain⟨i,y⟩:=q;rw[hl] at ih;obtain⟨h1,h2,_⟩:=mF hl;simp only at ih ⊢;rw[show i-j=(i-(j+1))+1 from by omega,List.set_cons_succ,ih]
theorem Fa {c v:Int}{m:List (Int×Int)}:mf c v m=yC c v m:=by
 rw[<-zl m 0];unfold mf;cases lkZ c m 0<;>rfl
theorem vH {c v k:Int}:∀ {m:List (Int×Int)},gO k (yC c v m)=if k=c∧(gO c m).isSome then some v else gO k m
 | []=>by simp[yC,gO,lkZ]
 | (k',x)::m=>by
  simp only[yC];by_cases e:c=k'
  ·subst e;rw[if_pos rfl,dV,dV,dV];by_cases h:k=c<;>simp[h]
  ·rw[if_neg e,dV,dV,dV,vH,if_neg e];by_cases h:k=k'
   ·subst h;have hne:¬k=c:=λh2=>e h2.symm
    simp[hne]
   ·simp[h]
theorem vI {c v k:Int}:∀ {m:List (Int×Int)},gO k (m++[(c,v)])=match gO k m with|some x=>some x|none=>if k=c then some v else none
 | []=>by rw[List.nil_append,dV];simp[gO,lkZ]
 | (k',x)::m=>by
  rw[List.cons_append,dV,dV,vI];split<;>rfl
section
variable {on:Int->Option (List Int)}
theorem SzR.one {c s:Int}(h:SzR on c s):∀ s',SzR on c s'->s=s':=
 SzR.rec (motive_1:=λc s _=>∀ s',SzR on c s'->s=s') (motive_2:=λl s _=>∀ s',mS on l s'->s=s')
  (λ{c} h s' h'=>by cases h'<;>simp_all) (λ{c} h s' h'=>by cases h'<;>simp_all)
  (λ{c s to} h1 h2 _ ih s' h'=>by
   cases h' with
   | leaf h3=>rw[h1] at h3;cases h3
   | nil h3=>rw[h1] at h3;injection h3 with h3;exact absurd h3 h2
   | node h3 h4 h5=>rw[h1] at h3;injection h3 with h3;subst h3;exact ih _ h5)
  (λs' h'=>by cases h';rfl)
  (λ{e a b l} _ _ ih1 ih2 s' h'=>by
   cases h' with
   | cons h3 h4=>rw[ih1 _ h3,ih2 _ h4]) h
theorem Cz {rk:Int->Nat}(hr:∀ c to,on c=some to->∀ e∈to,rk e<rk c):∀ (f:Nat) (c:Int) (st:SzS),SzB st.1->(∀ k,gO k st.1=some (-1)->rk c<rk k)->st.2.1=false ->
  (szF on f c st).2.2.1=false∧∀ k,gO k (szF on f c st).2.1=some (-1)->gO k st.1=some (-1)
 | 0,c,st,_,_,h=>⟨h,λ_ h=>h⟩
 | f+1,c,st,hb,hu,h=>by
  simp only[szF];split
  ·exact⟨h,λ_ h=>h⟩
  ·rename_i to ho;split
   ·exact⟨h,λ_ h=>h⟩
   ·split
    ·rename_i i v hl;refine⟨?_,λ_ h=>h⟩;have hv:gO c st.1=some v:=by simp only[gO,hl,kF]
     have:v≠-1:=λe=>by rw[e] at hv;exact absurd (hu c hv) (Nat.lt_irrefl _)
     simp only[h,Bool.false_or,beq_eq_false_iff_ne];exact this
    ·rename_i hz;have hz0:gO c st.1=none:=by simp only[gO,hz,Option.map_none]
     have hL:∀ (l:List Int) (r:Int×SzS),(∀ e∈l,e∈to)->(0<=r.1∧r.1<=65)->SzB r.2.1->(∀ k,gO k r.2.1=some (-1)->gO k st.1=some (-1)∨k=c)->r.2.2.1=false ->
       (szL (szF on f) l r).2.2.1=false∧∀ k,gO k (szL (szF on f) l r).2.1=some (-1)->gO k st.1=some (-1)∨k=c:=λl=>by
      induction l with
      | nil=>intro r _ _ _ h1 h2;exact⟨h2,h1⟩
      | cons e l ih=>
       intro r hm hr0 hb0 h1 h2;have he:=hr c to ho e (hm e si)
       obtain⟨q1,q2⟩:=Cz hr f e r.2 hb0 (λk hk=>by
        rcases h1 k hk with h3|h3
        ·have:=hu k h3;omega
        ·rw[h3];exact he) h2
       obtain⟨b1,b2⟩:=jE on f e r.2 hb0;exact ih (min (r.1+(szF on f e r.2).1) 65,(szF on f e r.2).2) (λx hx=>hm x (List.mem_cons_of_mem _ hx)) (by constructor<;>simp only<;>omega) b2 (λk hk=>h1 k (q2 k hk)) q1
     have hb1:SzB (st.1++[(c,-1)]):=λp hp=>by
      rcases List.mem_append.1 hp with hp|hp
      ·exact hb p hp
      ·rw[List.mem_singleton.1 hp];simp
     obtain⟨r1,r2⟩:=hL to (0,(st.1++[(c,-1)],st.2.1,st.2.2)) (λ_ h=>h) si hb1 (λk hk=>by
      simp only[vI] at hk;split at hk
      ·rename_i x hx;injection hk with hk;subst hk;exact .inl hx
      ·split at hk
       ·rename_i e;exact .inr e
       ·cases hk) h
     obtain⟨b1,b2⟩:=yH on f to (0,(st.1++[(c,-1)],st.2.1,st.2.2)) si hb1;refine⟨r1,λk hk=>?_⟩;rw[Fa,vH] at hk;split at hk
     ·injection hk with hk;omega
     ·rename_i hne;rcases r2 k hk with h3|h3
      ·exact h3
      ·subst h3;rw[hk] at hne;exact absurd ⟨rfl,rfl⟩ hne
end
theorem qK {n:Nm}(hkd:∀ m∈n.dc,hk m.frm=0) (hs:∀ c s,SzR (once n true) c s->s<=64):∀ (f:Nat) (c:Int) (st:SzS),(once n true c=none∨left n.dc st.1+1<=f)->SzP (once n true) st->SzB st.1 ->
  (szF (once n true) f c st).2.2.1=false->st.2.2=false->(szF (once n true) f c st).2.2.2=false
 | 0,c,st,_,_,_,_,h=>h
 | f+1,c,st,hf,hp,hb,hcy,h=>by
  have hv:=(qJ hkd (f+1) c st hf hp hb).1 hcy;simp only[szF] at hv hcy ⊢;split at hv
  ·exact h
  ·rename_i to ho;simp only[ho] at hcy ⊢;split at hv
   ·rename_i he;rw[if_pos he];exact h
   ·rename_i he;rw[if_neg he] at hcy ⊢;split at hv
    ·rename_i i v hl;exact h
    ·rename_i hz;simp only[hz] at hcy ⊢;obtain⟨s,h1,h2⟩:=hv;have hs1:=hs c s h1;simp only at h2
     have hL:∀ (l:List Int) (r:Int×SzS),(∀ e∈l,e∈to)->(∃ ks,r.2.1.map (·.1)=st.1.map (·.1)++c::ks)->SzP (once n true) r.2->SzB r.2.1->(szL (szF (once n true) f) l r).2.2.1=false->r.2.2.2=false->(szL (szF (once n true) f) l r).2.2.2=false:=λl=>by
      induction l with
      | nil=>intro r _ _ _ _ _ h;exact h
      | cons e l ih=>
       intro r hm ⟨ks,hks⟩ hp hbr hc h
       have hcall:once n true e=none∨left n.dc r.2.1+1<=f:=by
        by_cases h5:4<=hk c
        ·left
         have:to=hd c:=by have ho:=ho;unfold once at ho;rw[if_pos h5] at ho;injection ho with ho;exact ho.symm
         exact dr hkd h5 (by rw[<-this];exact hm e si)
        ·right;obtain⟨m,hm1,hm2,_⟩:=gB ho h5;have:=uR (zs:=st.1) (zs2:=r.2.1) (ks:=ks) hm1 (by rw[hm2];exact hz) (by rw[hks,hm2])
         rcases hf with hf|hf
         ·rw[ho] at hf;cases hf
         ·omega
       obtain⟨q1,q2⟩:=qJ hkd f e r.2 hcall hp hbr;obtain⟨b1,b2⟩:=jE (once n true) f e r.2 hbr;obtain⟨k1,hk1⟩:=mc (once n true) f e r.2;have hc':(szL (szF (once n true) f) l (min (r.1+(szF (once n true) f e r.2).1) 65,(szF (once n true) f e r.2).2)).2.2.1=false:=hc;exact ih (min (r.1+(szF (once n true) f e r.2).1) 65,(szF (once n true) f e r.2).2) (λx hx=>hm x (List.mem_cons_of_mem _ hx)) ⟨ks++k1,by simp only;rw[hk1,hks];simp⟩ q2 b2 hc' (qK hkd hs f e r.2 hcall hp hbr (te (once n true) f l (min (r.1+(szF (once n true) f e r.2).1) 65,(szF (once n true) f e r.2).2) hc') h)
     have:=hL to (0,(st.1++[(c,-1)],st.2.1,st.2.2)) (λ_ h=>h) ⟨[],by simp⟩ (λhc p hp hne=>by
      rcases List.mem_append.1 hp with hp|hp
      ·exact ‹SzP (once n true) st› hc p hp hne
      ·rw[List.mem_singleton.1 hp] at hne;exact absurd rfl hne) (λp hp=>by
      rcases List.mem_append.1 hp with hp|hp
      ·exact hb p hp
      ·rw[List.mem_singleton.1 hp];simp) hcy h
     simp only[this,Bool.false_or,decide_eq_false_iff_not];omega
theorem FS {n:Nm}(hkd:∀ m∈n.dc,hk m.frm=0) (hs:∀ m∈n.dc,∃ s,SzR (once n true) m.frm s∧s<=64) (c s:Int) (h:SzR (once n true) c s):s<=64:=by
 cases ho:once n true c with
 | none=>rw[SzR.one h 1 (.leaf ho)];decide
 | some to=>
  by_cases h4:4<=hk c
  ·have e:to=hd c:=by unfold once at ho;rw[if_pos h4] at ho;injection ho with ho;exact ho.symm
   have hlen:to.length<=3:=by rw[e];exact mG c
   have hsum:∀ l:List Int,(∀ e∈l,e∈to)->mS (once n true) l l.length:=λl=>by
    induction l with
    | nil=>intro _;exact .nil
    | cons e' l ih=>
     intro hm;have:=mS.cons (SzR.leaf (dr hkd h4 (by rw[<-e];exact hm e' si))) (ih λx hx=>hm x (List.mem_cons_of_mem _ hx))
     rw[kO,Int.natCast_add,Int.add_comm];exact this
   have hne:to≠[]:=by rw[e];exact HU
   have:=SzR.one h _ (.node ho hne (hsum to λ_ h=>h))
   omega
  ·obtain⟨m,hm,e1,_⟩:=gB ho h4;obtain⟨s',h1,h2⟩:=hs m hm;rw[e1] at h1;rw[SzR.one h s' h1];exact h2
theorem Dq {n:Nm}(hkd:∀ m∈n.dc,hk m.frm=0) (hs:∀ m∈n.dc,∃ s,SzR (once n true) m.frm s∧s<=64):(msF (once n true) (n.dc.length+1) n.dc).2.1=false∧(msF (once n true) (n.dc.length+1) n.dc).2.2=false:=by
 obtain⟨rk,hr⟩:=kp hkd hs
 have key:∀ (l:List Mpg) (st:SzS),SzP (once n true) st->SzB st.1->(∀ k,gO k st.1≠some (-1))->st.2.1=false->st.2.2=false ->
   (l.foldl (λst m=>(szF (once n true) (n.dc.length+1) m.frm st).2) st).2.1=false∧(l.foldl (λst m=>(szF (once n true) (n.dc.length+1) m.frm st).2) st).2.2=false:=λl=>by
  induction l with
  | nil=>intro st _ _ _ h1 h2;exact⟨h1,h2⟩
  | cons m l ih=>
   intro st hp hb hu h1 h2;simp only[List.foldl_cons];have hlf:once n true m.frm=none∨left n.dc st.1+1<=n.dc.length+1:=.inr (by have:=uS n.dc st.1;omega);obtain⟨q1,q2⟩:=Cz hr (n.dc.length+1) m.frm st hb (λk hk=>absurd hk (hu k)) h1;obtain⟨_,p2⟩:=qJ hkd (n.dc.length+1) m.frm st hlf hp hb;obtain⟨b1,b2⟩:=jE (once n true) (n.dc.length+1) m.frm st hb;exact ih _ p2 b2 (λk hk=>hu k (q2 k hk)) q1 (qK hkd (FS hkd hs) (n.dc.length+1) m.frm st hlf hp hb q1 h2)
 exact key n.dc ([],false,false) (λ_ p hp=>by simp at hp) (λp hp=>by simp at hp) (λk h=>by simp[gO,lkZ] at h) rfl rfl
end
section
open Go Go.Am Classical
set_option linter.unusedVariables false
def fI (l:List Mpg) (c:Int) (k:Bool):Option Nat:=l.findIdx? λm=>decide (m.frm=c∧(k=true∨m.tag=[]))
theorem cv {l:List Mpg}{c:Int}{k:Bool}{i:Nat}(h:fI l c k=some i):∃ hi:i<l.length,l[i].frm=c∧(k=true∨l[i].tag=[]):=by
 obtain⟨hi,h1,_⟩:=List.findIdx?_eq_some_iff_getElem.1 h;exact⟨hi,of_decide_eq_true h1⟩
theorem ua {l:List Mpg}{c:Int}{k:Bool}(h:fI l c k=none):∀ m∈l,¬(m.frm=c∧(k=true∨m.tag=[])):=λm hm=>by
 have:=List.findIdx?_eq_none_iff.1 h m hm
 exact of_decide_eq_false this
abbrev Wrk (α:Type):=List α->Nat->α
section
variable {α:Type}(F:Wrk α)
def rnd (o:List α):Nat->List α
 | 0=>o
 | k+1=>(rnd o k).set k (F (rnd o k) k)
def jk (N:Nat) (o:List α):Nat->List α
 | 0=>o
 | r+1=>rnd F (jk N o r) N
@[simp] theorem rnd_len (o:List α):∀ k,(rnd F o k).length=o.length
 | 0=>rfl
 | k+1=>by rw[rnd,List.length_set,rnd_len o k]
@[simp] theorem rnds_len (N:Nat) (o:List α):∀ r,(jk F N o r).length=o.length
 | 0=>rfl
 | r+1=>by rw[jk,rnd_len,rnds_len N o r]
theorem vp {Good:Nat->α->Prop}{N:Nat}{o:List α}(hN:o.length=N) (h0:∀ i (h:i<o.length),Good i o[i]) (hs:∀ o:List α,o.length=N->(∀ i (h:i<o.length),Good i o[i])->∀ i,i<N->Good i (F o i)) :
  ∀ r i (h:i<(jk F N o r).length),Good i ((jk F N o r)[i]):=by
 have hr:∀ (o:List α),o.length=N->(∀ i (h:i<o.length),Good i o[i])->∀ k,k<=N->∀ i (h:i<(rnd F o k).length),Good i ((rnd F o k)[i]):=by
  intro o ho h0 k
  induction k with
  | zero=>intro _;exact h0
  | succ k ih=>
   intro hk i hi;simp only[rnd] at hi ⊢;rw[List.getElem_set];split
   ·rename_i e;subst e;exact hs _ (by simp[ho]) (ih om) k om
   ·exact ih om i _
 intro r
 induction r with
 | zero=>exact h0
 | succ r ih=>exact hr _ (by simp[hN]) ih N (kP _)
theorem ml {Dp:Nat->Nat->Prop}{Fin:Nat->α->Prop}{N:Nat}{o:List α}(hN:o.length=N) (h0:∀ i,¬Dp 0 i) (hup:∀ r i,Dp r i->Dp (r+1) i)
  (hs:∀ r (o:List α),o.length=N->∀ i,i<N->Dp (r+1) i->(∀ m (h:m<o.length),Dp r m->Fin m o[m])->Fin i (F o i)) :
  ∀ r i (h:i<(jk F N o r).length),Dp r i->Fin i ((jk F N o r)[i]):=by
 intro r
 induction r with
 | zero=>intro i _ hd;exact absurd hd (h0 i)
 | succ r ih=>
  have key:∀ k,k<=N->∀ i (h:i<(rnd F (jk F N o r) k).length),(Dp r i∨(i<k∧Dp (r+1) i))->Fin i ((rnd F (jk F N o r) k)[i]):=by
   intro k
   induction k with
   | zero=>intro _ i hi hd;exact ih i hi (hd.elim id λh=>absurd h.1 (Nat.not_lt_zero _))
   | succ k ihk=>
    intro hk i hi hd;simp only[rnd] at hi ⊢;rw[List.getElem_set];split
    ·rename_i e;subst e;exact hs r _ (by simp[hN]) k om (hd.elim (hup r k) λh=>h.2) λm hm hdm=>ihk om m hm (.inl hdm)
    ·rename_i e;exact ihk om i _ (hd.imp id λh=>⟨by omega,h.2⟩)
  intro i hi hd;exact key N (kP _) i hi (.inr ⟨by simpa [jk,hN] using hi,hd⟩)
end
def DpI (l:List Mpg):Nat->Nat->Prop
 | 0,_=>False
 | r+1,i=>∀ m,l[i]?=some m->∀ e∈m.to,∀ j,fI l e true=some j->DpI l r j
theorem DpI.up {l:List Mpg}:∀ r i,DpI l r i->DpI l (r+1) i
 | 0,_,h=>h.elim
 | r+1,i,h=>λm hm e he j hj=>DpI.up r j (h m hm e he j hj)
theorem DpI.le {l:List Mpg}{r i:Nat}(k:Nat) (h:DpI l r i):DpI l (r+k) i:=by
 induction k with
 | zero=>exact h
 | succ k ih=>exact DpI.up _ _ ih
theorem oP {α:Type}{p q:α->Bool}:∀ {l:List α},(∀ x∈l,p x=true->q x=true)->(∃ x∈l,p x=false∧q x=true)->l.countP p<l.countP q
 | [],_,⟨x,h,_⟩=>by cases h
 | y::l,h1,⟨x,hx,h2,h3⟩=>by
  have hle:l.countP p<=l.countP q:=List.countP_mono_left λz hz=>h1 z (List.mem_cons_of_mem _ hz)
  rcases List.mem_cons.1 hx with rfl|hx
  ·rw[List.countP_cons,List.countP_cons];simp[h2,h3];omega
  ·have:=oP (λz hz=>h1 z (List.mem_cons_of_mem _ hz)) ⟨x,hx,h2,h3⟩
   have hy:=h1 y si;rw[List.countP_cons,List.countP_cons];cases hp:p y with
   | false=>simp;omega
   | true=>rw[hy hp];simp;omega
theorem pa {n:Nm}(hkd:∀ m∈n.dc,hk m.frm=0) (hi:∀ m∈n.dc,∀ m' ∈ n.dc,m.frm=m'.frm->m=m') (hE:nf (once n true)):∀ i,i<n.dc.length->DpI n.dc n.dc.length i:=by
 obtain⟨rk,hr⟩:=hE
 have key:∀ c i (h:i<n.dc.length),n.dc.countP (λm=>decide (rk m.frm<rk n.dc[i].frm))=c->DpI n.dc (c+1) i:=by
  intro c
  induction c using Nat.strongRecOn with
  | _ c ih=>
   intro i h hc m hm e he j hj;obtain⟨hj1,hj2,_⟩:=cv hj;have hm':n.dc[i]=m:=by rw[List.getElem?_eq_getElem h] at hm;injection hm
   have ho:once n true n.dc[i].frm=some m.to:=by
    have h0:hk n.dc[i].frm=0:=hkd _ (kM h);unfold once;rw[if_neg om,rE hi (kM h)];simp[hm']
   have hlt:rk n.dc[j].frm<rk n.dc[i].frm:=by rw[hj2];exact hr _ _ ho e he
   have hlt2:n.dc.countP (λx=>decide (rk x.frm<rk n.dc[j].frm))<c:=by
    rw[<-hc];refine oP (λx _ hx=>?_) ⟨n.dc[j],kM hj1,?_,?_⟩
    ·simp only[decide_eq_true_eq] at hx ⊢;omega
    ·simp
    ·simpa using hlt
   have:=ih _ hlt2 j hj1 rfl
   have h2:=DpI.le (c-(n.dc.countP (λx=>decide (rk x.frm<rk n.dc[j].frm))+1)) this
   rwa [show n.dc.countP (λx=>decide (rk x.frm<rk n.dc[j].frm))+1+(c-(n.dc.countP (λx=>decide (rk x.frm<rk n.dc[j].frm))+1))=c from by omega] at h2
 intro i h;have h1:=key _ i h rfl
 have hlt:n.dc.countP (λm=>decide (rk m.frm<rk n.dc[i].frm))<n.dc.length:=by
  have:=oP (p:=λm=>decide (rk m.frm<rk n.dc[i].frm)) (q:=λ_=>true) (l:=n.dc) (λ_ _ _=>rfl) ⟨n.dc[i],kM h,by simp,rfl⟩
  simpa using this
 have h2:=DpI.le (n.dc.length-(n.dc.countP (λm=>decide (rk m.frm<rk n.dc[i].frm))+1)) h1
 rwa [show n.dc.countP (λm=>decide (rk m.frm<rk n.dc[i].frm))+1+(n.dc.length-(n.dc.countP (λm=>decide (rk m.frm<rk n.dc[i].frm))+1))=n.dc.length from by omega] at h2
def r9 (l:List Mpg):Wrk Bool:=λo i=>(l.getD i default).to.all λe=>match fI l e true with|none=>true|some j=>o.getD j false
def cW (l:List Mpg):List Bool:=jk (r9 l) l.length (List.replicate l.length false) l.length
theorem Cx {n:Nm}(hkd:∀ m∈n.dc,hk m.frm=0){e:Int}(h:fI n.dc e true=none):SzR (once n true) e (hd e).length:=by
 by_cases h4:4<=hk e
 ·have ho:once n true e=some (hd e):=by unfold once;rw[if_pos h4]
  have hsum:∀ l:List Int,(∀ x∈l,x∈hd e)->mS (once n true) l l.length:=λl=>by
   induction l with
   | nil=>intro _;exact .nil
   | cons x l ih=>
    intro hm;have:=mS.cons (SzR.leaf (dr hkd h4 (hm x si))) (ih λx hx=>hm x (List.mem_cons_of_mem _ hx))
    rw[kO,Int.natCast_add,Int.add_comm];exact this
  exact .node ho HU (hsum _ λ_ h=>h)
 ·have ho:once n true e=none:=by
   unfold once;rw[if_neg h4];cases hf:fnd n.dc e with
   | none=>rfl
   | some m=>exact absurd ⟨(dv hf).2,.inl rfl⟩ (ua h m (dv hf).1)
  have:(hd e).length=1:=by unfold hd;rw[if_neg h4];rfl
  rw[this];exact .leaf ho
theorem Da {n:Nm}(hkd:∀ m∈n.dc,hk m.frm=0) (hi:∀ m∈n.dc,∀ m' ∈ n.dc,m.frm=m'.frm->m=m'){i:Nat}(h:i<n.dc.length):once n true n.dc[i].frm=some n.dc[i].to:=by
 have h0:hk n.dc[i].frm=0:=hkd _ (kM h);unfold once;rw[if_neg om,rE hi (kM h)];simp
theorem Cy {on:Int->Option (List Int)}:∀ {l:List Int},(∀ e∈l,∃ s,SzR on e s)->∃ s,mS on l s
 | [],_=>⟨0,.nil⟩
 | e::l,h=>by
  obtain⟨a,ha⟩:=h e si;obtain⟨b,hb⟩:=Cy λx hx=>h x (List.mem_cons_of_mem _ hx)
  exact⟨a+b,.cons ha hb⟩
theorem szR_of {on:Int->Option (List Int)}{c:Int}{to:List Int}(ho:on c=some to) (h:∀ e∈to,∃ s,SzR on e s):∃ s,SzR on c s:=by
 by_cases he:to=[]
 ·subst he;exact⟨1,.nil ho⟩
 ·obtain⟨s,hs⟩:=Cy h;exact⟨s,.node ho he hs⟩
theorem gDn {α:Type} [Inhabited α] {l:List α}{i:Nat}(h:i<l.length):l.getD i default=l[i]:=by simp[List.getD_eq_getElem?_getD,h]
theorem EU {n:Nm}(hkd:∀ m∈n.dc,hk m.frm=0) (hi:∀ m∈n.dc,∀ m' ∈ n.dc,m.frm=m'.frm->m=m'){i:Nat}(h:i<n.dc.length) (he:(cW n.dc).getD i false=true):∃ s,SzR (once n true) n.dc[i].frm s:=by
 have hinv:=vp (r9 n.dc) (Good:=λi b=>b=true->∀ h:i<n.dc.length,∃ s,SzR (once n true) n.dc[i].frm s) (N:=n.dc.length) (o:=List.replicate n.dc.length false) si
  (λi h e=>by simp at e) (λo ho hg i hi' e h=>by
   refine szR_of (Da hkd hi h) λx hx=>?_
   unfold r9 at e;rw[gDn h,kL] at e;have ex:=e x hx;cases hf:fI n.dc x true with
   | none=>exact⟨_,Cx hkd hf⟩
   | some j=>
    rw[hf] at ex;obtain⟨hj,e1,_⟩:=cv hf;simp only at ex;rw[List.getD_eq_getElem?_getD,List.getElem?_eq_getElem om,Option.getD_some] at ex;rw[<-e1]
    exact hg j om ex hj) n.dc.length
 have hlen:(cW n.dc).length=n.dc.length:=by simp[cW]
 rw[List.getD_eq_getElem?_getD,List.getElem?_eq_getElem om,Option.getD_some] at he;exact hinv i (by simpa [cW] using hlen▸h) he h
theorem GY {n:Nm}(hkd:∀ m∈n.dc,hk m.frm=0) (hi:∀ m∈n.dc,∀ m' ∈ n.dc,m.frm=m'.frm->m=m') (hE:nf (once n true)){i:Nat}(h:i<n.dc.length):(cW n.dc).getD i false=true:=by
 have hfin:=ml (r9 n.dc) (Dp:=DpI n.dc) (Fin:=λ_ b=>b=true) (N:=n.dc.length) (o:=List.replicate n.dc.length false) si (λ_ h=>h) DpI.up
  (λr o ho i hi' hd hg=>by
   unfold r9;rw[gDn hi',kL];intro x hx;cases hf:fI n.dc x true with
   | none=>rfl
   | some j=>
    obtain⟨hj,e1,_⟩:=cv hf;simp only;rw[List.getD_eq_getElem?_getD,List.getElem?_eq_getElem om,Option.getD_some]
    exact hg j om (hd _ (List.getElem?_eq_getElem hi') x hx j hf)) n.dc.length
 have hlen:(cW n.dc).length=n.dc.length:=by simp[cW]
 rw[List.getD_eq_getElem?_getD,List.getElem?_eq_getElem om,Option.getD_some];exact hfin i (by simpa [cW] using hlen▸h) (pa hkd hi hE i h)
end
section
open Go Go.Am Classical
set_option linter.unusedVariables false
def rq (l:List Mpg):Prop:=∀ i (h:i<l.length),fI l l[i].frm true=some i
theorem rq.inj {l:List Mpg}(h:rq l):∀ m∈l,∀ m' ∈ l,m.frm=m'.frm->m=m':=λm hm m' hm' e=>by
 obtain⟨i,hi,rfl⟩:=List.getElem_of_mem hm;obtain⟨j,hj,rfl⟩:=List.getElem_of_mem hm';have h1:=h i hi;have h2:=h j hj;rw[e,h2] at h1;injection h1 with h1
 subst h1;rfl
theorem rq.more {l:List Mpg}(h:rq l){c:Int}{k:Bool}{j:Nat}(hf:fI l c k=some j):fI l c true=some j:=by
 obtain⟨hj,e,_⟩:=cv hf;rw[<-e];exact h j hj
theorem AM {l:List Mpg}(h:i9 l):rq l:=λi hi=>by
 refine List.findIdx?_eq_some_iff_getElem.2 ⟨hi,by simp,λj hj=>?_⟩;have:=iY h (i-j-1) (i:=j) om om
 have e:j+(i-j-1)+1=i:=by omega
 simp only[e] at this;simp only[Bool.not_eq_true,decide_eq_false_iff_not];intro h2;omega
theorem EK {l:List Mpg}(h:rq l):Ga l:=λi hi e=>by
 have h1:=h i om;have h2:=h (i+1) hi;rw[e,h1] at h2;injection h2 with h2;omega
def gv (l:List Mpg) (k:Bool) (o:List Int):List Int->Int
 | []=>0
 | e::t=>(match fI l e k with|some j=>o.getD j 0|none=>((hd e).length:Int))+gv l k o t
def dY (l:List Mpg) (k:Bool):Wrk Int:=λo i=>if(l.getD i default).tag≠[]∧k=false then 1 else min (max (gv l k o (l.getD i default).to) 1) 65
def fC (l:List Mpg) (k:Bool):List Int:=jk (dY l k) l.length (List.replicate l.length 0) l.length
@[simp] theorem lenL_len (l:List Mpg) (k:Bool):(fC l k).length=l.length:=by simp[fC]
theorem wj {l:List Mpg}{k:Bool}{o:List Int}:∀ (a b:List Int),gv l k o (a++b)=gv l k o a+gv l k o b
 | [],b=>by simp[gv]
 | e::a,b=>by simp only[List.cons_append,gv,wj a b];omega
theorem AH (l:List Mpg) (k:Bool) (o:List Int) (i:Nat):0<=dY l k o i∧dY l k o i<=65:=by
 unfold dY;split<;>omega
theorem wi {n:Nm}(hkd:∀ m∈n.dc,hk m.frm=0) (hF:rq n.dc) (hE:nf (once n true)) (hz:∀ i (h:i<n.dc.length),∃ s,SzR (once n true) n.dc[i].frm s) :
  ∀ i (h:i<n.dc.length),∃ s,SzR (once n true) n.dc[i].frm s∧(fC n.dc true).getD i 0=min s 65:=by
 have hi:=hF.inj
 have hfin:=ml (dY n.dc true) (Dp:=DpI n.dc) (Fin:=λi v=>∀ h:i<n.dc.length,∃ s,SzR (once n true) n.dc[i].frm s∧v=min s 65) (N:=n.dc.length) (o:=List.replicate n.dc.length 0) si (λ_ h=>h) DpI.up
  (λr o ho i hi' hdp hg h=>by
   have key:∀ t:List Int,(∀ e∈t,e∈n.dc[i].to)->∃ s,mS (once n true) t s∧min (gv n.dc true o t) 65=min s 65∧0<=gv n.dc true o t:=λt=>by
    induction t with
    | nil=>intro _;exact⟨0,.nil,by simp[gv],by simp[gv]⟩
    | cons e t ih=>
     intro hm;obtain⟨b,hb,hb2,hb3⟩:=ih λx hx=>hm x (List.mem_cons_of_mem _ hx)
     have hb0:=hb.pos;simp only[gv];cases hf:fI n.dc e true with
     | none=>
      refine⟨_,.cons (Cx hkd hf) hb,?_,?_⟩<;>simp only<;>omega
     | some j=>
      obtain⟨hj,e1,_⟩:=cv hf;obtain⟨a,ha,ha2⟩:=hg j om (hdp _ (List.getElem?_eq_getElem hi') e (hm e si) j hf) hj;rw[e1] at ha;have ha0:=ha.pos;have hgo:o.getD j 0=min a 65:=by rw[List.getD_eq_getElem?_getD,List.getElem?_eq_getElem om,Option.getD_some];exact ha2
      refine⟨_,.cons ha hb,?_,?_⟩<;>simp only[hgo]<;>omega
   have hon:=Da hkd hi h;unfold dY;rw[gDn hi',if_neg si];by_cases ht:n.dc[i].to=[]
   ·exact⟨1,.nil (by rw[hon,ht]),by rw[ht];rfl⟩
   ·obtain⟨s,h1,h2,h3⟩:=key _ λ_ h=>h
    have hs:SzR (once n true) n.dc[i].frm s:=.node hon ht h1;have:=hs.pos
    exact⟨s,hs,by omega⟩) n.dc.length
 intro i h;have hl:i<(fC n.dc true).length:=by simpa using h
 rw[List.getD_eq_getElem?_getD,List.getElem?_eq_getElem hl,Option.getD_some];exact hfin i hl (pa hkd hi hE i h) h
theorem yn {n:Nm}(hkd:∀ m∈n.dc,hk m.frm=0) (hF:rq n.dc) (hE:nf (once n true)) (hz:∀ i (h:i<n.dc.length),∃ s,SzR (once n true) n.dc[i].frm s∧s<=64) :
  ∀ i (h:i<n.dc.length),(fC n.dc false).getD i 0<=64:=by
 have hi:=hF.inj
 have hfin:=ml (dY n.dc false) (Dp:=DpI n.dc) (Fin:=λi v=>∀ h:i<n.dc.length,∃ s,SzR (once n true) n.dc[i].frm s∧v<=s) (N:=n.dc.length) (o:=List.replicate n.dc.length 0) si (λ_ h=>h) DpI.up
  (λr o ho i hi' hdp hg h=>by
   have key:∀ t:List Int,(∀ e∈t,e∈n.dc[i].to)->∃ s,mS (once n true) t s∧gv n.dc false o t<=s:=λt=>by
    induction t with
    | nil=>intro _;exact⟨0,.nil,by simp[gv]⟩
    | cons e t ih=>
     intro hm;obtain⟨b,hb,hb2⟩:=ih λx hx=>hm x (List.mem_cons_of_mem _ hx)
     simp only[gv];cases hf:fI n.dc e false with
     | none=>
      cases hf2:fI n.dc e true with
      | none=>exact⟨_,.cons (Cx hkd hf2) hb,by simp only;omega⟩
      | some j=>
       obtain⟨hj,e1,_⟩:=cv hf2;obtain⟨s,hs,_⟩:=hz j hj;rw[e1] at hs;have h4:hk e=0:=by rw[<-e1];exact hkd _ (kM hj)
       have h5:(hd e).length=1:=by unfold hd;rw[if_neg om];rfl
       have:=hs.pos
       exact⟨_,.cons hs hb,by simp only[h5];omega⟩
     | some j=>
      obtain⟨hj,e1,_⟩:=cv hf;obtain⟨a,ha,ha2⟩:=hg j om (hdp _ (List.getElem?_eq_getElem hi') e (hm e si) j (hF.more hf)) hj;rw[e1] at ha;have hgo:o.getD j 0<=a:=by rw[List.getD_eq_getElem?_getD,List.getElem?_eq_getElem om,Option.getD_some];exact ha2
      exact⟨_,.cons ha hb,by simp only;omega⟩
   have hon:=Da hkd hi h;unfold dY;rw[gDn hi'];obtain⟨s0,hs0,_⟩:=hz i h;have hp:=hs0.pos;split
   ·exact⟨s0,hs0,hp⟩
   ·by_cases ht:n.dc[i].to=[]
    ·refine⟨1,.nil (by rw[hon,ht]),?_⟩;rw[ht];show min (max (0:Int) 1) 65<=1;omega
    ·obtain⟨s,h1,h2⟩:=key _ λ_ h=>h
     have hs:SzR (once n true) n.dc[i].frm s:=.node hon ht h1;have:=hs.pos
     exact⟨s,hs,by omega⟩) n.dc.length
 intro i h;have hl:i<(fC n.dc false).length:=by simpa using h
 rw[List.getD_eq_getElem?_getD,List.getElem?_eq_getElem hl,Option.getD_some];obtain⟨s,hs,h2⟩:=hfin i hl (pa hkd hi hE i h) h;obtain⟨s',hs',h3⟩:=hz i h;have:=SzR.one hs s' hs'
 have h2':(fC n.dc false)[i]<=s:=h2;omega
structure RefG (n:Nm):Prop where
 cl:OrV n.cl
 dc:MOk n.dc
 xc:i7 n.xc
 fst:rq n.dc
 two:∀ i (h:i<n.dc.length),lu n.dc[i]
 kc:∀ i (h:i<n.dc.length),hk n.dc[i].frm=0∧(n.dc[i].tag≠[]->aJ n.cl n.dc[i].frm=0)
 ends:∀ i (h:i < n.dc.length),(cW n.dc).getD i false=true
 lens:∀ i (h:i<n.dc.length),(fC n.dc false).getD i 0<=64∧(fC n.dc true).getD i 0<=64
theorem Cs {l:List Mpg}{c:Int}(h:c∈iJ l):∃ m∈l,m.tag≠[]∧m.frm=c:=by
 unfold iJ at h;obtain⟨m,hm,e⟩:=List.mem_map.1 h;obtain⟨h1,h2⟩:=List.mem_filter.1 hm;exact⟨m,h1,by simpa using h2,e⟩
theorem vt {n:Nm}:RefG n↔xu n:=by
 constructor
 ·intro h
  have hkd:∀ m∈n.dc,hk m.frm=0:=λm hm=>by
   obtain⟨i,hi,rfl⟩:=List.getElem_of_mem hm;exact(h.kc i hi).1
  have hi:=h.fst.inj;have hz:=λi (hi':i<n.dc.length)=>EU hkd hi hi' (h.ends i hi')
  have hE:nf (once n true):=AR λc=>by
   cases ho:once n true c with
   | none=>exact⟨0,ho⟩
   | some to=>
    by_cases h4:4<=hk c
    ·refine⟨1,λto' ht e he=>?_⟩
     have:to'=hd c:=by unfold once at ht;rw[if_pos h4] at ht;injection ht with ht;exact ht.symm
     exact dr hkd h4 (by rw[<-this];exact he)
    ·obtain⟨m,h1,h2,_⟩:=gB ho h4;obtain⟨i,hi',rfl⟩:=List.getElem_of_mem h1;obtain⟨s,h3⟩:=hz i hi';rw[h2] at h3;exact h3.dep
  have hl:=wi hkd h.fst hE hz
  have hs:∀ m∈n.dc,∃ s,SzR (once n true) m.frm s∧s<=64:=λm hm=>by
   obtain⟨i,hi',rfl⟩:=List.getElem_of_mem hm;obtain⟨s,h1,h2⟩:=hl i hi';have:=(h.lens i hi').2
   exact⟨s,h1,by omega⟩
  have hm:=Dq hkd hs;refine⟨⟨h.cl,h.dc,h.xc,EK h.fst,h.two,λi hi'=>(h.kc i hi').1⟩,qS.2 λc hc=>?_,hm.1,hm.2⟩;obtain⟨m,h1,h2,rfl⟩:=Cs hc;obtain⟨i,hi',rfl⟩:=List.getElem_of_mem h1;exact(h.kc i hi').2 h2
 ·intro h;have hc:=h.1
  have hkd:∀ m∈n.dc,hk m.frm=0:=λm hm=>by
   obtain⟨i,hi,rfl⟩:=List.getElem_of_mem hm;exact hc.kind i hi
  have hr:=mn hc.dc.2 hc.dup;have hF:=AM hr;have hs:=Cw hkd h.2.2.1 h.2.2.2;have hE:=kp hkd hs;have hz:∀ i (h:i<n.dc.length),∃ s,SzR (once n true) n.dc[i].frm s∧s<=64:=λi h=>hs _ (kM h)
  refine⟨hc.cl,hc.dc,hc.xc,hF,hc.two,λi hi=>⟨hc.kind i hi,λht=>qS.1 h.2.1 _ (vN (kM hi) ht)⟩,λi hi=>GY hkd hF.inj hE hi,λi hi=>⟨yn hkd hF hE hz i hi,?_⟩⟩;obtain⟨s,h1,h2⟩:=wi hkd hF hE (λi h=>(hz i h).imp λs hs=>hs.1) i hi;obtain⟨s',h3,h4⟩:=hz i hi;have:=SzR.one h1 s' h3
  omega
noncomputable def okN (n:Nm):Nm:=if xu n then n else nm0
theorem qn {n:Nm}(hn:n.ok):eI n (okN n):=by
 obtain⟨e,h1,h2⟩:=tA hn;by_cases he:e=0
 ·have hg:=h2.1 he;rw[show okN n=n from if_pos hg];refine⟨hg.g,hn,?_,e,h1,λ_=>rfl,λh=>absurd he h⟩;refine pv Tryz.func170 ?_;repeat' ((conv=>whnf);first|exact kQ|(refine bk ?_ ?_<;>intro _<;>try(exfalso;omega))|refine stq ?_|refine cp h1 ?_|fail)
  all_goals(conv=>whnf)
  exact aE.same (aQ n) rfl
 ·rw[show okN n=nm0 from if_neg λhg=>he (h2.2 hg)];refine⟨nmG0,Nm.ok.zero,?_,e,h1,λh=>absurd h he,λ_=>rfl⟩;refine pv Tryz.func170 ?_;repeat' ((conv=>whnf);first|exact kQ|(refine bk ?_ ?_<;>intro _<;>try(exfalso;omega))|refine stq ?_|refine cp h1 ?_|fail)
  all_goals(conv=>whnf)
  exact⟨.agg (.cons .nil (.cons .nil (.cons .nil .nil)))⟩
def eZ (l:List Mpg) (k:Bool) (o:List (List Int)) (t:List Int):List Int:=t.flatMap λe=>match fI l e k with|some j=>o.getD j []|none=>hd e
def gP (l:List Mpg) (k:Bool):Wrk (List Int):=λo i=>if k=true∨(l.getD i default).tag=[] then eZ l k o (l.getD i default).to else o.getD i []
def nq (l:List Mpg) (k:Bool):List (List Int):=jk (gP l k) l.length (List.replicate l.length []) l.length
@[simp] theorem tabL_len (l:List Mpg) (k:Bool):(nq l k).length=l.length:=by simp[nq]
theorem BJ {l:List Mpg}{k:Bool}{o:List (List Int)}{t:List Int}{j:Nat}(h:j<t.length):eZ l k o (t.take (j+1))=eZ l k o (t.take j)++(match fI l t[j] k with|some j=>o.getD j []|none=>hd t[j]):=by
 unfold eZ;rw[aS h,List.flatMap_append];simp
section
variable {n:Nm}{k:Bool}(hG:NmG n)
include hG
theorem Fq {c:Int}{j:Nat}(h:fI n.dc c k=some j):∃ hj:j<n.dc.length,n.dc[j].frm=c∧once n k c=some n.dc[j].to:=by
 obtain⟨hj,e,ht⟩:=cv h;refine⟨hj,e,?_⟩;have h0:hk c=0:=by rw[<-e];exact hG.v.kind _ (kM hj)
 unfold once;rw[if_neg om,<-e,rE hG.v.inj (kM hj)];simp only;rw[if_neg];rintro⟨h1,h2⟩;rcases ht with ht|ht
 ·rw[h2] at ht;cases ht
 ·exact h1 ht
theorem ud {c:Int}(h:fI n.dc c k=none):bA (once n k) c=hd c:=by
 have hx:=lY (xK hG.v k);by_cases h4:4<=hk c
 ·have ho:once n k c=some (hd c):=by unfold once;rw[if_pos h4]
  rw[hx.some ho];refine nQ hx _ λe he=>?_
  have h5:=yv h4 he;cases h6:once n k e with
  | none=>rfl
  | some to=>
   have h7:once n true e=some to:=by cases k;exact dF h6;exact h6
   have:=dr (n:=n) hG.v.kind h4 he
   rw[h7] at this;cases this
 ·have ho:once n k c=none:=by
   unfold once;rw[if_neg h4];cases hf:fnd n.dc c with
   | none=>rfl
   | some m=>
    obtain⟨h1,h2⟩:=dv hf;have:=ua h m h1
    simp only;rw[if_pos];refine⟨λht=>this ⟨h2,.inr ht⟩,?_⟩;cases k
    ·rfl
    ·exact absurd ⟨h2,.inl rfl⟩ this
  rw[hx.none ho];unfold hd;rw[if_neg h4]
theorem FP (o:List (List Int)) (ho:∀ j (h:j<n.dc.length),(o.getD j []).length<=(bA (once n k) n.dc[j].frm).length) (t:List Int):(eZ n.dc k o t).length<=(t.flatMap (bA (once n k))).length:=by
 unfold eZ
 induction t with
 | nil=>simp
 | cons e t ih=>
  simp only[List.flatMap_cons,kG]
  have:(match fI n.dc e k with|some j=>o.getD j []|none=>hd e).length<=(bA (once n k) e).length:=by
   cases hf:fI n.dc e k with
   | none=>simp only;rw[ud hG hf];exact kP _
   | some j=>
    obtain⟨hj,e1,_⟩:=Fq hG hf;simp only;rw[<-e1];exact ho j hj
  omega
theorem vO (o:List (List Int)) (hl:o.length=n.dc.length) (ho:∀ i (h:i<o.length),∀ h':i<n.dc.length,o[i].length<=(bA (once n k) n.dc[i].frm).length) (i:Nat) (hi:i<n.dc.length):∀ h':i<n.dc.length,(gP n.dc k o i).length<=(bA (once n k) n.dc[i].frm).length:=λ_=>by
 have ho':∀ j (h:j<n.dc.length),(o.getD j []).length<=(bA (once n k) n.dc[j].frm).length:=λj h=>by
  rw[List.getD_eq_getElem?_getD,List.getElem?_eq_getElem om,Option.getD_some];exact ho j om h
 unfold gP;rw[gDn hi];split
 ·rename_i hq
  have hon:once n k n.dc[i].frm=some n.dc[i].to:=by
   have h0:hk n.dc[i].frm=0:=hG.v.kind _ (kM hi);unfold once;rw[if_neg om,rE hG.v.inj (kM hi)];simp only;rw[if_neg];rintro⟨h1,h2⟩;rcases hq with ht|ht
   ·rw[h2] at ht;cases ht
   ·exact h1 ht
  rw[(lY (xK hG.v k)).some hon];exact FP hG o ho' _
 ·exact ho' i hi
theorem FQ:∀ j (h:j<n.dc.length),k=true∨n.dc[j].tag=[]->(nq n.dc k).getD j []=bA (once n k) n.dc[j].frm:=by
 have hF:rq n.dc:=AM hG.rise;have hx:=lY (xK hG.v k)
 have hfin:=ml (gP n.dc k) (Dp:=DpI n.dc) (Fin:=λi v=>∀ h:i<n.dc.length,k=true∨n.dc[i].tag=[]->v=bA (once n k) n.dc[i].frm) (N:=n.dc.length) (o:=List.replicate n.dc.length []) si (λ_ h=>h) DpI.up
  (λr o ho i hi' hdp hg h hq=>by
   unfold gP;rw[gDn hi',if_pos hq]
   have hon:once n k n.dc[i].frm=some n.dc[i].to:=by
    have h0:hk n.dc[i].frm=0:=hG.v.kind _ (kM h);unfold once;rw[if_neg om,rE hG.v.inj (kM h)];simp only;rw[if_neg];rintro⟨h1,h2⟩;rcases hq with ht|ht
    ·rw[h2] at ht;cases ht
    ·exact h1 ht
   rw[hx.some hon]
   have key:∀ t:List Int,(∀ e∈t,e∈n.dc[i].to)->eZ n.dc k o t=t.flatMap (bA (once n k)):=λt=>by
    induction t with
    | nil=>intro _;rfl
    | cons e t ih=>
     intro hm;have ih':=ih λx hx=>hm x (List.mem_cons_of_mem _ hx)
     unfold eZ at ih' ⊢;rw[List.flatMap_cons,List.flatMap_cons,ih'];congr 1;cases hf:fI n.dc e k with
     | none=>exact(ud hG hf).symm
     | some j=>
      obtain⟨hj,e1,hq⟩:=cv hf;simp only;rw[List.getD_eq_getElem?_getD,List.getElem?_eq_getElem om,Option.getD_some,<-e1];exact hg j om (hdp _ (List.getElem?_eq_getElem hi') e (hm e si) j (hF.more hf)) hj hq
   exact key _ λ_ h=>h) n.dc.length
 intro j h hq;have hl:j<(nq n.dc k).length:=by simpa using h
 rw[List.getD_eq_getElem?_getD,List.getElem?_eq_getElem hl,Option.getD_some];exact hfin j hl (pa hG.v.kind hG.v.inj hG.v.ends j h) h hq
theorem Cu (c:Int):eZ n.dc k (nq n.dc k) [c]=bA (once n k) c:=by
 unfold eZ;rw[List.flatMap_cons,List.flatMap_nil,List.append_nil];cases hf:fI n.dc c k with
 | none=>exact(ud hG hf).symm
 | some j=>
  obtain⟨hj,e1,hq⟩:=cv hf;simp only;rw[FQ hG j hj hq,e1]
end
end
section
open Go Go.Am Classical
set_option linter.unusedVariables false
theorem xUE.rbX {p:Prop}(h:p:=by first|exact rbZs (f:=boo) (a:=false) rfl|exact rbE rfl|exact Rb.cells (Rds.eqs (by first|(rw[List.map_set];done)|fail) (aN (λ_=>rfl) _)) rfl|fail):p:=h
open xUE
def fIv (l:List Mpg) (c:Int) (k:Bool):Int:=match fI l c k with|some i=>(i:Int)|none=>-1
theorem xC {l:List Mpg}{c:Int}{k:Bool}{j:Nat}(hj:j<l.length) (h:l[j].frm=c∧(k=true∨l[j].tag=[])) (h0:∀ i (h:i<l.length),i<j->¬(l[i].frm=c∧(k=true∨l[i].tag=[]))):fI l c k=some j:=
 List.findIdx?_eq_some_iff_getElem.2 ⟨hj,by simpa using h,λi hi=>by have:=h0 i om hi;simpa using this⟩
theorem HY {l:List Mpg}{c:Int}{k:Bool}(h0:∀ i (h:i<l.length),¬(l[i].frm=c∧(k=true∨l[i].tag=[]))):fI l c k=none:=
 List.findIdx?_eq_none_iff.2 λm hm=>by
  obtain⟨i,hi,rfl⟩:=List.getElem_of_mem hm;have:=h0 i hi
  simpa using this
theorem EN {l:List Mpg}{c:Int}{k:Bool}(hl:l.length<=1000):Pu Tryz.prog 357 [ag l,i64 c,boo k] (i64 (fIv l c k)):=by
 refine pv Tryz.func357 ?_;cases k
 ·repeat' ((conv=>whnf);first|exact kQ|(refine bk ?_ ?_<;>intro _<;>try(exfalso;omega))|refine stq ?_)
  refine aH.by aA T0 (λj:Nat=>⟨tmp 33 [(0,ag l),(1,i64 c),(2,boo false),(7,i64 (j:Int))],⟨0,[]⟩⟩) (λj=>j<=l.length∧∀ i (h:i<l.length),i<j->¬(l[i].frm=c∧(false=true∨l[i].tag=[]))) (λj=>l.length-j) 0 ⟨by omega,λ_ _ h=>by omega⟩ ?_ ?_
  ·exact lq0
  intro j ⟨h3,h4⟩;by_cases hj:j<l.length
  ·repeat' ((conv=>whnf);first|exact kQ|(refine bk ?_ ?_<;>intro _<;>try(exfalso;omega))|refine stq ?_)
   all_goals(conv=>whnf)
   all_goals first
    | exact aE.int (by unfold fIv;rw[xC hj ⟨by first|assumption|(symm;assumption)|omega,by first|exact .inl rfl|exact .inr asm⟩ h4])
    | (refine⟨j+1,⟨by omega,ad hj h4 (λh=>by first|exact absurd h.1 asm|exact absurd h.1 om|(rcases h.2 with h|h<;>first|contradiction|cases h))⟩,by omega,?_⟩
       exact lq0)
  ·repeat' ((conv=>whnf);first|exact kQ|(refine bk ?_ ?_<;>intro _<;>try(exfalso;omega))|refine stq ?_)
   all_goals(conv=>whnf)
   exact aE.int (by unfold fIv;rw[HY λi hi=>h4 i hi om])
 ·repeat' ((conv=>whnf);first|exact kQ|(refine bk ?_ ?_<;>intro _<;>try(exfalso;omega))|refine stq ?_)
  refine aH.by aA T0 (λj:Nat=>⟨tmp 33 [(0,ag l),(1,i64 c),(2,boo true),(7,i64 (j:Int))],⟨0,[]⟩⟩) (λj=>j<=l.length∧∀ i (h:i<l.length),i<j->¬(l[i].frm=c∧(true=true∨l[i].tag=[]))) (λj=>l.length-j) 0 ⟨by omega,λ_ _ h=>by omega⟩ ?_ ?_
  ·exact lq0
  intro j ⟨h3,h4⟩;by_cases hj:j<l.length
  ·repeat' ((conv=>whnf);first|exact kQ|(refine bk ?_ ?_<;>intro _<;>try(exfalso;omega))|refine stq ?_)
   all_goals(conv=>whnf)
   all_goals first
    | exact aE.int (by unfold fIv;rw[xC hj ⟨by first|assumption|(symm;assumption)|omega,by first|exact .inl rfl|exact .inr asm⟩ h4])
    | (refine⟨j+1,⟨by omega,ad hj h4 (λh=>by first|exact absurd h.1 asm|exact absurd h.1 om|(rcases h.2 with h|h<;>first|contradiction|cases h))⟩,by omega,?_⟩
       exact lq0)
  ·repeat' ((conv=>whnf);first|exact kQ|(refine bk ?_ ?_<;>intro _<;>try(exfalso;omega))|refine stq ?_)
   all_goals(conv=>whnf)
   exact aE.int (by unfold fIv;rw[HY λi hi=>h4 i hi om])
theorem nM {l:List Mpg}{c:Int}{k:Bool}(hl:l.length<=1000) (h:fI l c k=none):Pu Tryz.prog 357 [ag l,i64 c,boo k] (i64 (-1)):=by
 have:=EN (c:=c) (k:=k) hl
 rwa [show fIv l c k = -1 from by unfold fIv;rw[h]] at this
theorem ep {l:List Mpg}{c:Int}{k:Bool}{j:Nat}(hl:l.length<=1000) (h:fI l c k=some j):Pu Tryz.prog 357 [ag l,i64 c,boo k] (i64 (j:Int)):=by
 have:=EN (c:=c) (k:=k) hl
 rwa [show fIv l c k=(j:Int) from by unfold fIv;rw[h]] at this
abbrev endB (o:List Bool):List (Nat×Box):=[(0,.cells (o.map boo) true)]
theorem rbE {h:aB}{fz:Nat->Bool}{σ:Nat->Option Nat}{o o':List Bool}(e:o=o'):Rb h fz σ (.cells (o.map boo) true) (.cells (o'.map boo) true):=by subst e;exact .cells (.same (aN (λ_=>rfl) _)) rfl
def y9 (l:List Mpg) (o:List Bool) (e:Int):Bool:=match fI l e true with|none=>true|some j=>o.getD j false
theorem GZ {l:List Mpg}{o:List Bool}{i:Nat}(h:i<l.length):r9 l o i=l[i].to.all (y9 l o):=by
 unfold r9;rw[gDn h];rfl
theorem Ev {α:Type}{p:α->Bool}{t:List α}{k:Nat}(h:k<t.length):(t.take (k+1)).all p=((t.take k).all p&&p t[k]):=by
 rw[aS h,List.all_append];simp
theorem rbZs {α:Type}{f:α->D}{a:α}{n:Nat}{h:aB}{fz:Nat->Bool}{σ:Nat->Option Nat}(hf:aL (f a)=true):Rb h fz σ (.cells (cx [f a] ((n:Int)).toNat) true) (.cells ((List.replicate n a).map f) true):=by
 have e:cx [f a] ((n:Int)).toNat=(List.replicate n a).map f:=by rw[Int.toNat_natCast,cY,List.map_replicate]
 have hb:aK ((List.replicate n a).map f)=true:=by
  rw[List.map_replicate]
  induction n with
  | zero=>rfl
  | succ n ih=>rw[List.replicate_succ];simp only[aK,hf,Bool.true_and];exact ih (by rw[Int.toNat_natCast,cY,List.map_replicate])
 exact .cells (.eqs e hb) rfl
theorem ends_c {l:List Mpg}(hl:l.length<=1000) (ht:∀ i (h:i<l.length),l[i].to.length<=1000):Pu Tryz.prog 359 [ag l] (tG (cW l)):=by
 refine pv Tryz.func359 ?_;repeat' ((conv=>whnf);first|exact kQ|(refine bk ?_ ?_<;>intro _<;>try(exfalso;omega))|refine stq ?_)
 refine aH.by2 aA T0 (λ(r:Nat) (o:List Bool)=>⟨tmp 60 [(0,ag l),(3,.sl 0 0 l.length l.length 1 true),(4,i64 (r:Int))],⟨1,endB o⟩⟩) (λr o=>r<=l.length∧o=jk (r9 l) l.length (List.replicate l.length false) r) (λr _=>l.length-r) 0 (List.replicate l.length false) ⟨by omega,rfl⟩ ?_ ?_
 ·exact lq [(0,_)] []
 intro r o ⟨h1,h2⟩;have ho:o.length=l.length:=by rw[h2];simp
 by_cases hr:r<l.length
 ·repeat' ((conv=>whnf);first|exact kQ|(refine bk ?_ ?_<;>intro _<;>try(exfalso;omega))|refine stq ?_)
  refine aH.by2 aA T0 (λ(i:Nat) (o':List Bool)=>⟨tmp 60 [(0,ag l),(3,.sl 0 0 l.length l.length 1 true),(4,i64 (r:Int)),(5,i64 (i:Int))],⟨1,endB o'⟩⟩) (λi o'=>i<=l.length∧o'=rnd (r9 l) o i) (λi _=>l.length-i) 0 o ⟨by omega,rfl⟩ ?_ ?_
  ·exact lq [(0,_)] []
  intro i o' ⟨h3,h4⟩;have ho':o'.length=l.length:=by rw[h4];simp[ho]
  by_cases hi:i<l.length
  ·have hti:=ht i hi;repeat' ((conv=>whnf);first|exact kQ|(refine bk ?_ ?_<;>intro _<;>try(exfalso;omega))|refine stq ?_)
   refine aH.by2 aA T0 (λ(k:Nat) (b:Bool)=>⟨tmp 60 [(0,ag l),(3,.sl 0 0 l.length l.length 1 true),(4,i64 (r:Int)),(5,i64 (i:Int)),(6,boo b),(7,i64 (k:Int))],⟨1,endB o'⟩⟩) (λk b=>k<=l[i].to.length∧b=(l[i].to.take k).all (y9 l o')) (λk _=>l[i].to.length-k) 0 true ⟨by omega,rfl⟩ ?_ ?_
   ·exact lq [(0,_)] []
   intro k b ⟨h5,h6⟩;by_cases hk:k<l[i].to.length
   ·have hs:=Ev (p:=y9 l o') hk;rw[<-h6] at hs;cases hf:fI l l[i].to[k] true with
    | none=>
     have hc:=nM hl hf;rw[show y9 l o' l[i].to[k]=true from by unfold y9;rw[hf],Bool.and_true] at hs;cases b
     ·repeat' ((conv=>whnf);first|exact kQ|(refine bk ?_ ?_<;>intro _<;>try(exfalso;omega))|refine stq ?_|refine cp hc ?_|fail)
      all_goals(conv=>whnf)
      refine⟨k+1,false,⟨by omega,hs.symm⟩,by omega,?_⟩;exact lq [(0,_)] []
     ·repeat' ((conv=>whnf);first|exact kQ|(refine bk ?_ ?_<;>intro _<;>try(exfalso;omega))|refine stq ?_|refine cp hc ?_|fail)
      all_goals(conv=>whnf)
      refine⟨k+1,true,⟨by omega,hs.symm⟩,by omega,?_⟩;exact lq [(0,_)] []
    | some j=>
     obtain⟨hj,_⟩:=cv hf;have hc:=ep hl hf;have hg:o'.getD j false=o'[j]'(by omega):=bR om;rw[show y9 l o' l[i].to[k]=o'[j]'(by omega) from by unfold y9;rw[hf];exact hg] at hs;cases b
     ·repeat' ((conv=>whnf);first|exact kQ|(refine bk ?_ ?_<;>intro _<;>try(exfalso;omega))|refine stq ?_|refine cp hc ?_|fail)
      all_goals(conv=>whnf)
      refine⟨k+1,false,⟨by omega,hs.symm⟩,by omega,?_⟩;exact lq [(0,_)] []
     ·repeat' ((conv=>whnf);first|exact kQ|(refine bk ?_ ?_<;>intro _<;>try(exfalso;omega))|refine stq ?_|refine cp hc ?_|refine cA.at j rfl om ?_|refine Get.map (show j<o'.length by omega) ?_|fail)
      all_goals(conv=>whnf)
      all_goals
       refine⟨k+1,o'[j]'(by omega),⟨by omega,by rw[hs];simp⟩,by omega,?_⟩;exact lq [(0,_)] []
   ·have hb:b=r9 l o' i:=by rw[GZ hi,h6,kE om]
    repeat' ((conv=>whnf);first|exact kQ|(refine bk ?_ ?_<;>intro _<;>try(exfalso;omega))|refine stq ?_|refine cA.at i rfl om ?_|refine Put.one (by simp;omega) ?_|fail)
    all_goals(conv=>whnf)
    refine⟨i+1,o'.set i b,⟨by omega,by rw[hb,h4];rfl⟩,by omega,?_⟩;exact lq [(0,_)] []
  ·have hi':i=l.length:=by omega
   subst hi';repeat' ((conv=>whnf);first|exact kQ|(refine bk ?_ ?_<;>intro _<;>try(exfalso;omega))|refine stq ?_)
   all_goals(conv=>whnf)
   refine⟨r+1,o',⟨by omega,by rw[h4,h2];rfl⟩,by omega,?_⟩;exact lq [(0,_)] []
 ·have hr':r=l.length:=by omega
  subst hr';repeat' ((conv=>whnf);first|exact kQ|(refine bk ?_ ?_<;>intro _<;>try(exfalso;omega))|refine stq ?_)
  all_goals(conv=>whnf)
  exact aE.frz1 (l:=cW l) (f:=boo) rfl (by rw[h2];rfl) (by simp[cW]) (λ_=>rfl) rfl
end
section
open Go Go.Am Classical
set_option linter.unusedVariables false
theorem xUG.rbX {p:Prop}(h:p:=by first|exact rbZs (f:=i64) (a:=0) rfl|exact rbL rfl|exact Rb.cells (Rds.eqs (by first|(rw[List.map_set,List.set_set];done)|fail) (aN (λ_=>rfl) _)) rfl|exact Rb.cells (Rds.eqs (by first|(rw[List.map_set];done)|fail) (aN (λ_=>rfl) _)) rfl|fail):p:=h
open xUG
abbrev sj (o:List Int):List (Nat×Box):=[(0,.cells (o.map i64) true)]
theorem rbL {h:aB}{fz:Nat->Bool}{σ:Nat->Option Nat}{o o':List Int}(e:o=o'):Rb h fz σ (.cells (o.map i64) true) (.cells (o'.map i64) true):=by subst e;exact .cells (.same (aN (λ_=>rfl) _)) rfl
theorem sf {l:List Mpg}{k:Bool}{o:List Int}{t:List Int}{j:Nat}(h:j<t.length):gv l k o (t.take (j+1))=gv l k o (t.take j)+(match fI l t[j] k with|some j=>o.getD j 0|none=>((hd t[j]).length:Int)):=by
 rw[aS h,wj];first|(simp only[gv,Int.add_zero];done)|(simp only[gv,Int.add_zero];rfl)
theorem sc {l:List Mpg}{k:Bool}(hl:l.length<=1000) (ht:∀ i (h:i<l.length),l[i].to.length<=1000):Pu Tryz.prog 360 [ag l,boo k] (aF (fC l k)):=by
 refine pv Tryz.func360 ?_;cases k
 ·repeat' ((conv=>whnf);first|exact kQ|(refine bk ?_ ?_<;>intro _<;>try(exfalso;omega))|refine stq ?_)
  refine aH.by2 aA T0 (λ(r:Nat) (o:List Int)=>⟨tmp 87 [(0,ag l),(1,boo false),(5,.sl 0 0 l.length l.length 1 true),(6,i64 (r:Int))],⟨1,sj o⟩⟩) (λr o=>(r<=l.length∧∀ x∈o,0<=x∧x<=65)∧o=jk (dY l false) l.length (List.replicate l.length 0) r) (λr _=>l.length-r) 0 (List.replicate l.length 0) ⟨⟨by omega,λx hx=>by rw[List.eq_of_mem_replicate hx];omega⟩,rfl⟩ ?_ ?_
  ·exact lq [(0,_)] []
  intro r o ⟨⟨h1,hbd0⟩,h2⟩;have ho:o.length=l.length:=by rw[h2];simp
  by_cases hr:r<l.length
  ·repeat' ((conv=>whnf);first|exact kQ|(refine bk ?_ ?_<;>intro _<;>try(exfalso;omega))|refine stq ?_)
   refine aH.by2 aA T0 (λ(i:Nat) (o':List Int)=>⟨tmp 87 [(0,ag l),(1,boo false),(5,.sl 0 0 l.length l.length 1 true),(6,i64 (r:Int)),(7,i64 (i:Int))],⟨1,sj o'⟩⟩) (λi o'=>(i<=l.length∧∀ x∈o',0<=x∧x<=65)∧o'=rnd (dY l false) o i) (λi _=>l.length-i) 0 o ⟨⟨by omega,hbd0⟩,rfl⟩ ?_ ?_
   ·exact lq [(0,_)] []
   intro i o' ⟨⟨h3,hbd⟩,h4⟩;have ho':o'.length=l.length:=by rw[h4];simp[ho]
   have hbn:∀ x∈o'.set i (dY l false o' i),0<=x∧x<=65:=λx hx=>by
    rcases List.mem_or_eq_of_mem_set hx with hx|rfl
    ·exact hbd x hx
    ·exact AH l false o' i
   by_cases hi:i<l.length
   ·have hti:=ht i hi;have hrn:rnd (dY l false) o (i+1)=o'.set i (dY l false o' i):=by rw[h4];rfl
    repeat' ((conv=>whnf);first|exact kQ|(refine bk ?_ ?_<;>intro _<;>try(exfalso;omega))|refine stq ?_)
    refine aH.by2 aA T0 (λ(j:Nat) (s:Int)=>⟨tmp 87 [(0,ag l),(1,boo false),(5,.sl 0 0 l.length l.length 1 true),(6,i64 (r:Int)),(7,i64 (i:Int)),(8,i64 s),(9,i64 (j:Int))],⟨1,sj o'⟩⟩) (λj s=>(j<=l[i].to.length∧0<=s∧s<=65*j)∧s=gv l false o' (l[i].to.take j)) (λj _=>l[i].to.length-j) 0 0 ⟨⟨by omega,by omega,by omega⟩,rfl⟩ ?_ ?_
    ·exact lq [(0,_)] []
    intro j s ⟨⟨h5,h7,h8⟩,h6⟩;by_cases hj:j<l[i].to.length
    ·have hs:=sf (l:=l) (k:=false) (o:=o') hj;rw[<-h6] at hs;cases hf:fI l l[i].to[j] false with
     | none=>
      have hc:=nM hl hf;have hdl:=mG l[i].to[j];have hd0:=t8 (c:=l[i].to[j]);rw[hf] at hs;simp only at hs;generalize hd l[i].to[j]=dl at *;repeat' ((conv=>whnf);first|exact kQ|(refine bk ?_ ?_<;>intro _<;>try(exfalso;omega))|refine stq ?_|refine cp hc ?_|refine cp hd0 ?_|fail)
      all_goals(conv=>whnf)
      refine⟨j+1,s+(dl.length:Int),⟨⟨by omega,by omega,by omega⟩,hs.symm⟩,by omega,?_⟩;exact lq [(0,_)] []
     | some m=>
      obtain⟨hm,_⟩:=cv hf;have hc:=ep hl hf;have hg:o'.getD m 0=o'[m]'(by omega):=gDe om;have hb:=hbd _ (kM (show m<o'.length by omega));rw[hf] at hs;simp only[hg] at hs;repeat' ((conv=>whnf);first|exact kQ|(refine bk ?_ ?_<;>intro _<;>try(exfalso;omega))|refine stq ?_|refine cp hc ?_|refine cA.at m rfl om ?_|refine Get.map (show m<o'.length by omega) ?_|fail)
      all_goals(conv=>whnf)
      refine⟨j+1,s+o'[m]'(by omega),⟨⟨by omega,by omega,by omega⟩,hs.symm⟩,by omega,?_⟩;exact lq [(0,_)] []
    ·have hsum:s=gv l false o' l[i].to:=by rw[h6,kE om]
     repeat' ((conv=>whnf);first|exact kQ|(refine bk ?_ ?_<;>intro _<;>try(exfalso;omega))|refine stq ?_|refine cA.at i rfl om ?_|refine Put.one (by simp;omega) ?_|fail)
     all_goals(conv=>whnf)
     all_goals first
      | (have hv:dY l false o' i=1:=by unfold dY;rw[gDn hi,if_pos ⟨by assumption,rfl⟩]
         rw[hv] at hrn hbn;refine⟨i+1,o'.set i 1,⟨⟨by omega,hbn⟩,hrn.symm⟩,by omega,?_⟩
         exact lq [(0,_)] [])
      | (have hv:dY l false o' i=1:=by unfold dY;rw[gDn hi,if_neg (by first|exact λh=>h.1 asm|exact λh=>Bool.noConfusion h.2),<-hsum];omega
         rw[hv] at hrn hbn;refine⟨i+1,o'.set i (1),⟨⟨by omega,hbn⟩,hrn.symm⟩,by omega,?_⟩
         exact lq [(0,_)] [])
      | (have hv:dY l false o' i=s:=by unfold dY;rw[gDn hi,if_neg (by first|exact λh=>h.1 asm|exact λh=>Bool.noConfusion h.2),<-hsum];omega
         rw[hv] at hrn hbn;refine⟨i+1,o'.set i (s),⟨⟨by omega,hbn⟩,hrn.symm⟩,by omega,?_⟩
         exact lq [(0,_)] [])
      | (have hv:dY l false o' i=65:=by unfold dY;rw[gDn hi,if_neg (by first|exact λh=>h.1 asm|exact λh=>Bool.noConfusion h.2),<-hsum];omega
         rw[hv] at hrn hbn;refine⟨i+1,o'.set i (65),⟨⟨by omega,hbn⟩,hrn.symm⟩,by omega,?_⟩
         exact lq [(0,_)] [])
      | fail
   ·have hi':i=l.length:=by omega
    subst hi';repeat' ((conv=>whnf);first|exact kQ|(refine bk ?_ ?_<;>intro _<;>try(exfalso;omega))|refine stq ?_)
    all_goals(conv=>whnf)
    refine⟨r+1,o',⟨⟨by omega,hbd⟩,by rw[h4,h2];rfl⟩,by omega,?_⟩;exact lq [(0,_)] []
  ·have hr':r=l.length:=by omega
   subst hr';repeat' ((conv=>whnf);first|exact kQ|(refine bk ?_ ?_<;>intro _<;>try(exfalso;omega))|refine stq ?_)
   all_goals(conv=>whnf)
   exact aE.frz1 (l:=fC l false) (f:=i64) rfl (by rw[h2];rfl) (by simp[fC]) (λ_=>rfl) rfl
 ·repeat' ((conv=>whnf);first|exact kQ|(refine bk ?_ ?_<;>intro _<;>try(exfalso;omega))|refine stq ?_)
  refine aH.by2 aA T0 (λ(r:Nat) (o:List Int)=>⟨tmp 87 [(0,ag l),(1,boo true),(5,.sl 0 0 l.length l.length 1 true),(6,i64 (r:Int))],⟨1,sj o⟩⟩) (λr o=>(r<=l.length∧∀ x∈o,0<=x∧x<=65)∧o=jk (dY l true) l.length (List.replicate l.length 0) r) (λr _=>l.length-r) 0 (List.replicate l.length 0) ⟨⟨by omega,λx hx=>by rw[List.eq_of_mem_replicate hx];omega⟩,rfl⟩ ?_ ?_
  ·exact lq [(0,_)] []
  intro r o ⟨⟨h1,hbd0⟩,h2⟩;have ho:o.length=l.length:=by rw[h2];simp
  by_cases hr:r<l.length
  ·repeat' ((conv=>whnf);first|exact kQ|(refine bk ?_ ?_<;>intro _<;>try(exfalso;omega))|refine stq ?_)
   refine aH.by2 aA T0 (λ(i:Nat) (o':List Int)=>⟨tmp 87 [(0,ag l),(1,boo true),(5,.sl 0 0 l.length l.length 1 true),(6,i64 (r:Int)),(7,i64 (i:Int))],⟨1,sj o'⟩⟩) (λi o'=>(i<=l.length∧∀ x∈o',0<=x∧x<=65)∧o'=rnd (dY l true) o i) (λi _=>l.length-i) 0 o ⟨⟨by omega,hbd0⟩,rfl⟩ ?_ ?_
   ·exact lq [(0,_)] []
   intro i o' ⟨⟨h3,hbd⟩,h4⟩;have ho':o'.length=l.length:=by rw[h4];simp[ho]
   have hbn:∀ x∈o'.set i (dY l true o' i),0<=x∧x<=65:=λx hx=>by
    rcases List.mem_or_eq_of_mem_set hx with hx|rfl
    ·exact hbd x hx
    ·exact AH l true o' i
   by_cases hi:i<l.length
   ·have hti:=ht i hi;have hrn:rnd (dY l true) o (i+1)=o'.set i (dY l true o' i):=by rw[h4];rfl
    repeat' ((conv=>whnf);first|exact kQ|(refine bk ?_ ?_<;>intro _<;>try(exfalso;omega))|refine stq ?_)
    refine aH.by2 aA T0 (λ(j:Nat) (s:Int)=>⟨tmp 87 [(0,ag l),(1,boo true),(5,.sl 0 0 l.length l.length 1 true),(6,i64 (r:Int)),(7,i64 (i:Int)),(8,i64 s),(9,i64 (j:Int))],⟨1,sj o'⟩⟩) (λj s=>(j<=l[i].to.length∧0<=s∧s<=65*j)∧s=gv l true o' (l[i].to.take j)) (λj _=>l[i].to.length-j) 0 0 ⟨⟨by omega,by omega,by omega⟩,rfl⟩ ?_ ?_
    ·exact lq [(0,_)] []
    intro j s ⟨⟨h5,h7,h8⟩,h6⟩;by_cases hj:j<l[i].to.length
    ·have hs:=sf (l:=l) (k:=true) (o:=o') hj;rw[<-h6] at hs;cases hf:fI l l[i].to[j] true with
     | none=>
      have hc:=nM hl hf;have hdl:=mG l[i].to[j];have hd0:=t8 (c:=l[i].to[j]);rw[hf] at hs;simp only at hs;generalize hd l[i].to[j]=dl at *;repeat' ((conv=>whnf);first|exact kQ|(refine bk ?_ ?_<;>intro _<;>try(exfalso;omega))|refine stq ?_|refine cp hc ?_|refine cp hd0 ?_|fail)
      all_goals(conv=>whnf)
      refine⟨j+1,s+(dl.length:Int),⟨⟨by omega,by omega,by omega⟩,hs.symm⟩,by omega,?_⟩;exact lq [(0,_)] []
     | some m=>
      obtain⟨hm,_⟩:=cv hf;have hc:=ep hl hf;have hg:o'.getD m 0=o'[m]'(by omega):=gDe om;have hb:=hbd _ (kM (show m<o'.length by omega));rw[hf] at hs;simp only[hg] at hs;repeat' ((conv=>whnf);first|exact kQ|(refine bk ?_ ?_<;>intro _<;>try(exfalso;omega))|refine stq ?_|refine cp hc ?_|refine cA.at m rfl om ?_|refine Get.map (show m<o'.length by omega) ?_|fail)
      all_goals(conv=>whnf)
      refine⟨j+1,s+o'[m]'(by omega),⟨⟨by omega,by omega,by omega⟩,hs.symm⟩,by omega,?_⟩;exact lq [(0,_)] []
    ·have hsum:s=gv l true o' l[i].to:=by rw[h6,kE om]
     repeat' ((conv=>whnf);first|exact kQ|(refine bk ?_ ?_<;>intro _<;>try(exfalso;omega))|refine stq ?_|refine cA.at i rfl om ?_|refine Put.one (by simp;omega) ?_|fail)
     all_goals(conv=>whnf)
     all_goals first
      | (have hv:dY l true o' i=1:=by unfold dY;rw[gDn hi,if_pos ⟨by assumption,rfl⟩]
         rw[hv] at hrn hbn;refine⟨i+1,o'.set i 1,⟨⟨by omega,hbn⟩,hrn.symm⟩,by omega,?_⟩
         exact lq [(0,_)] [])
      | (have hv:dY l true o' i=1:=by unfold dY;rw[gDn hi,if_neg (by first|exact λh=>h.1 asm|exact λh=>Bool.noConfusion h.2),<-hsum];omega
         rw[hv] at hrn hbn;refine⟨i+1,o'.set i (1),⟨⟨by omega,hbn⟩,hrn.symm⟩,by omega,?_⟩
         exact lq [(0,_)] [])
      | (have hv:dY l true o' i=s:=by unfold dY;rw[gDn hi,if_neg (by first|exact λh=>h.1 asm|exact λh=>Bool.noConfusion h.2),<-hsum];omega
         rw[hv] at hrn hbn;refine⟨i+1,o'.set i (s),⟨⟨by omega,hbn⟩,hrn.symm⟩,by omega,?_⟩
         exact lq [(0,_)] [])
      | (have hv:dY l true o' i=65:=by unfold dY;rw[gDn hi,if_neg (by first|exact λh=>h.1 asm|exact λh=>Bool.noConfusion h.2),<-hsum];omega
         rw[hv] at hrn hbn;refine⟨i+1,o'.set i (65),⟨⟨by omega,hbn⟩,hrn.symm⟩,by omega,?_⟩
         exact lq [(0,_)] [])
      | fail
   ·have hi':i=l.length:=by omega
    subst hi';repeat' ((conv=>whnf);first|exact kQ|(refine bk ?_ ?_<;>intro _<;>try(exfalso;omega))|refine stq ?_)
    all_goals(conv=>whnf)
    refine⟨r+1,o',⟨⟨by omega,hbd⟩,by rw[h4,h2];rfl⟩,by omega,?_⟩;exact lq [(0,_)] []
  ·have hr':r=l.length:=by omega
   subst hr';repeat' ((conv=>whnf);first|exact kQ|(refine bk ?_ ?_<;>intro _<;>try(exfalso;omega))|refine stq ?_)
   all_goals(conv=>whnf)
   exact aE.frz1 (l:=fC l true) (f:=i64) rfl (by rw[h2];rfl) (by simp[fC]) (λ_=>rfl) rfl
end
end Go.Proofs.YtihggclfifimoaaGreatDoor
