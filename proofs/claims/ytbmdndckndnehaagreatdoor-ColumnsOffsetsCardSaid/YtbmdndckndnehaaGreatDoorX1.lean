/-
  What shows that the marks of an automaton are right: checked by the kernel, rule by rule. Plain: no program in sight.
-/
import Derived.Test.YtbmdndckndnehaaGreatDoorX0
import Derived.Test.YtbmdndckndnehaaGreatDoorV0
set_option linter.unusedSectionVars false
namespace Go.Proofs.YtbmdndckndnehaaGreatDoor
section
open Go Go.Am
set_option maxRecDepth 100000
variable [GT]
def ua:List Int->List Int->Bool
 | [],[]=>true
 | a::l,b::m=>ibe a b&&ua l m
 | _,_=>false
theorem yB:∀ {l m:List Int},ua l m=true->l=m
 | [],[],_=>rfl
 | [],_::_,h=>by simp[ua] at h
 | _::_,[],h=>by simp[ua] at h
 | a::l,b::m,h=>by
  simp only[ua,kC] at h;rw[lm.1 h.1,yB h.2]
mutual
def patB:Pat->Pat->Bool
 | .mk k cs ss,.mk k' cs' ss'=>ibe k k' && ua cs cs' && nU ss ss'
def nU:List Pat->List Pat->Bool
 | [],[]=>true
 | p::ps,q::qs=>patB p q&&nU ps qs
 | _,_=>false
end
mutual
theorem Hr:∀ p q:Pat,patB p q=true->p=q
 | .mk k cs ss,.mk k' cs' ss',h=>by
  simp only[patB,kC] at h;rw[lm.1 h.1.1,yB h.1.2,ke ss ss' h.2]
theorem ke:∀ ps qs:List Pat,nU ps qs=true->ps=qs
 | [],[],_=>rfl
 | [],_::_,h=>by simp[nU] at h
 | _::_,[],h=>by simp[nU] at h
 | p::ps,q::qs,h=>by
  simp only[nU,kC] at h;rw[Hr p q h.1,ke ps qs h.2]
end
def atQ (Q:List (List Pat)) (q:Nat) (f:List Pat->Bool):Bool:=match Q[q]? with|some r=>f r|none=>false
theorem q9 {Q:List (List Pat)}{q:Nat}{f:List Pat->Bool}:atQ Q q f=true↔∃ r,Q[q]?=some r∧f r=true:=by
 unfold atQ;cases Q[q]? with
 | none=>simp
 | some r=>simp
def trB (Q:List (List Pat)) (c:Nat) (r0:List Pat) (js:List Nat):Bool:=
 (jk (c:Int) r0).all (λr=>js.any λq'=>atQ Q q' λr'=>nU r' r)&&js.all λq'=>atQ Q q' λr'=>(jk (c:Int) r0).any λr=>nU r r'
theorem trB_ok {Q:List (List Pat)}{c:Nat}{r0:List Pat}{js:List Nat}(h:trB Q c r0 js=true) (r:List Pat):r∈jk (c:Int) r0↔∃ q',q' ∈ js∧Q[q']?=some r:=by
 simp only[trB,kC,kL,List.any_eq_true,q9] at h;constructor
 ·intro hr;obtain⟨q',h1,r',h2,h3⟩:=h.1 r hr;exact⟨q',h1,by rw[h2,ke _ _ h3]⟩
 ·rintro⟨q',h1,h2⟩;obtain⟨r',h3,r1,h4,h5⟩:=h.2 q' h1;rw[h2] at h3;injection h3 with h3;subst h3
  rw[<-ke _ _ h5];exact h4
structure fC where
 Q:List (List Pat)
 tr:List (List (List Nat))
 SS:List (List Nat)
 ts:List (List Nat)
 m0:Nat
 pr:List (List Nat)
def fC.trF (C:fC) (q:Nat) (c:Nat):List Nat:=(C.tr.getD q []).getD c []
def fC.set (C:fC) (m:Nat):List Nat:=C.SS.getD m []
def fC.nx (C:fC) (m c:Nat):Nat:=(C.ts.getD m []).getD c 0
def fC.unB (C:fC) (a S:List Nat) (c:Nat):Bool:=a.all (λq'=>Nat.beq q' 0 || S.any λq=>jy q' (C.trF q c))&&jy 0 a&&S.all λq=>(C.trF q c).all λq'=>jy q' a
theorem fC.un_ok {C:fC}{a S:List Nat}{c:Nat}(h:C.unB a S c=true) (q':Nat):q' ∈ a↔q'=0∨∃ q,q∈S∧q' ∈ C.trF q c:=by
 simp only[fC.unB,kC,kL,kN,Nat.beq_eq,List.any_eq_true,du] at h;constructor
 ·intro hq;exact h.1.1 q' hq
 ·rintro(rfl|⟨q,h1,h2⟩)
  ·exact h.1.2
  ·exact h.2 q h1 q' h2
def fC.b1 (C:fC) (p:Pat) (n:Nat):Bool:=atQ C.Q 0 (λr=>nU r [p])&&(List.range C.Q.length).all λq=>atQ C.Q q λr0=>(List.range (n+2)).all λc=>trB C.Q c r0 (C.trF q c)
def fC.b2 (C:fC) (e n:Nat):Bool:=C.SS.all (λS=>S.all λq=>Nat.blt q C.Q.length)&&(List.range C.SS.length).all (λm=>(List.range n).all λc=>Nat.blt (C.nx m c) C.SS.length&&C.unB (C.set (C.nx m c)) (C.set m) c)&&C.unB (C.set C.m0) [0] e&&Nat.blt C.m0 C.SS.length
def fC.b3 (C:fC) (n i:Nat) (N M:List (List Nat)):Bool:=jy C.m0 (C.pr.getD 0 [])&&(List.range N.length).all λs=>(C.pr.getD s []).all λm=>Nat.blt m C.SS.length&&(List.range n).all (λc=>jy (C.nx m c) (C.pr.getD ((N.getD s []).getD c 0) []))&&(jy i (M.getD s []) == (C.set m).any λq=>atQ C.Q q nuL)
def gC (N:List (List Nat)) (y:List Nat):Nat:=y.foldl (λs c=>(N.getD s []).getD c 0) 0
def rJ (y:List Nat):List Int:=y.map λc:Nat=>(c:Int)
theorem B4 {C:fC}{p:Pat}{e n i:Nat}{N M:List (List Nat)}(he:e<n+2) (h1:C.b1 p n=true) (h2:C.b2 e n=true) (h3:C.b3 n i N M=true) (hN0:0<N.length) (hN:∀ s c,s<N.length->c<n->(N.getD s []).getD c 0<N.length)
  (y:List Nat) (hy:∀ c,c∈y->c<n):i∈M.getD (gC N y) []↔∃ u v,(e:Int)::rJ y=u++v∧Mw p v:=by
 simp only[fC.b1,kC,kL,q9,List.mem_range] at h1;simp only[fC.b2,kC,kL,List.mem_range,Nat.blt_eq] at h2;simp only[fC.b3,kC,kL,List.mem_range,Nat.blt_eq,du,beq_iff_eq] at h3;obtain⟨⟨r00,q0,e0⟩,hq⟩:=h1;rw[ke _ _ e0] at q0;obtain⟨⟨⟨hS,hst⟩,hm0⟩,hm0l⟩:=h2;obtain⟨hp0,hpr⟩:=h3
 have hT:∀ c,c<n+2->TrOk C.Q (λq (z:Int)=>C.trF q z.toNat) (c:Int):=λc hc q r0 hr0 r=>by
  have hlt:q<C.Q.length:=(List.getElem?_eq_some_iff.1 hr0).1;obtain⟨r1,e1,e2⟩:=hq q hlt;rw[hr0] at e1;injection e1 with e1;subst e1
  have:=trB_ok (e2 c hc) r
  simpa using this
 have hB:∀ m,m<C.SS.length->∀ q,q∈C.set m->∃ r,C.Q[q]?=some r:=λm hm q hqm=>by
  have e1:C.set m=C.SS[m]:=by simp[fC.set,List.getD,hm]
  rw[e1] at hqm;have:=hS _ (kM hm) q hqm
  exact⟨C.Q[q],List.getElem?_eq_getElem this⟩
 have r0:Rep C.Q p (C.set C.m0) [(e:Int)]:=by
  have:=Rep.step (x:=[]) (c:=(e:Int)) q0 (Rep.zero q0) (hT e he) (S':=C.set C.m0) (λq'=>by
   have:=fC.un_ok hm0 q'
   simpa using this) (λq hq0=>by simp only[List.mem_singleton] at hq0;subst hq0;exact⟨_,q0⟩)
  simpa using this
 have key:∀ (k:Nat) (y:List Nat),y.length=k->(∀ c,c∈y->c<n)->gC N y<N.length∧∃ m,m∈C.pr.getD (gC N y) []∧m<C.SS.length∧Rep C.Q p (C.set m) ((e:Int)::rJ y):=by
  intro k
  induction k with
  | zero=>
   intro y hk _
   have:y=[]:=List.length_eq_zero_iff.1 hk
   subst this;exact⟨hN0,C.m0,hp0,hm0l,r0⟩
  | succ k ih=>
   intro y hk hy;rcases List.eq_nil_or_concat y with rfl|⟨z,c,rfl⟩
   ·simp at hk
   ·rw[List.concat_eq_append] at hk hy ⊢;have hz:z.length=k:=by simpa using hk
    have hc:c<n:=hy c si;obtain⟨l1,m,m1,m2,m3⟩:=ih z hz (λd hd=>hy d (by simp[hd]));have er:gC N (z++[c])=(N.getD (gC N z) []).getD c 0:=by simp[gC,List.foldl_append]
    rw[er];have hx:=hpr (gC N z) l1 m m1;have hs:=hst m m2 c hc;refine⟨hN _ _ l1 hc,C.nx m c,hx.1.2 c hc,hs.1,?_⟩
    have:=Rep.step (c:=(c:Int)) q0 m3 (hT c om) (S':=C.set (C.nx m c)) (λq'=>by
     have:=fC.un_ok hs.2 q'
     simpa using this) (hB m m2)
    simpa [rJ] using this
 obtain⟨l1,m,m1,m2,m3⟩:=key y.length y rfl hy;rw[m3.ends];have hx:=(hpr (gC N y) l1 m m1).2
 have e1:i∈M.getD (gC N y) []↔((C.set m).any λq=>atQ C.Q q nuL)=true:=by
  rw[<-hx,du]
 rw[e1,List.any_eq_true];constructor
 ·rintro⟨q,h1,h2⟩;obtain⟨r,h3,h4⟩:=q9.1 h2;exact⟨q,r,h1,h3,h4⟩
 ·rintro⟨q,r,h1,h3,h4⟩;exact⟨q,h1,q9.2 ⟨r,h3,h4⟩⟩
end
section
open Go Go.Am Classical
set_option maxRecDepth 100000
theorem xX5.rdX {p:Prop}(h:p:=by first|exact Rd.same (bO _)|exact Rd.same (aI _)|exact Rd.same (fJ _ _ _)|exact nq rfl rfl rfl (by first|(rw[kO];omega;done)|fail)|exact nq rfl rfl (by first|(rw[List.eq_nil_of_length_eq_zero (show(l.take k).length=0 by omega)];rfl;done)|fail) (by first|(rw[kO];omega;done)|fail)|exact nq rfl rfl (by first|(rw[List.eq_nil_of_length_eq_zero (show(l.drop k).length=0 by omega)];rfl;done)|fail) (by first|(rw[kG,List.length_singleton];omega;done)|fail)|exact nq rfl rfl (cut3 _ _) (by first|(rw[kG,List.length_singleton];done)|fail)|exact lu rfl rfl hfin sim|exact lu rfl rfl (hfin _ rfl) (by first|(rw[kO,List.length_replicate];omega;done)|fail)|fail):p:=h
theorem xX5.rbX {p:Prop}(h:p:=by first|exact Rb.cells (Rds.same (xb _ _ _)) rfl|exact Rb.cells (Rds.eqs e2 (bE (λ_=>rfl))) rfl|exact Rb.cells (Rds.same (uK _ _)) rfl|exact Rb.cells (Rds.eqs (bR om (λi _=>by first|(simp;done)|fail)) (bE (λ_=>rfl))) rfl|fail):p:=h
open xX5
variable [GT]
theorem Fc {p:Pat}{l:List Int}:(bD (Mw p) l (List.replicate (l.length+1) true)).getD l.length false=true↔∃ u v,l=u++v∧Mw p v:=by
 rw[bZ];constructor
 ·rintro⟨i,_,h2,h3,h4⟩;refine⟨l.take i,l.drop i,(List.take_append_drop i l).symm,?_⟩;unfold seg at h4
  rwa [kE (by rw[List.length_drop];omega)] at h4
 ·rintro⟨u,v,rfl,h⟩;refine⟨u.length,?_,by simp,by simp,?_⟩
  ·rw[aK (by simp;omega)];simp
  ·unfold seg;rw[List.drop_left,kE si];exact h
theorem Af {p:Pat}{l:List Int}:(∃ j,(bD (Mw p) l (true::List.replicate l.length false)).getD j false=true)↔∃ u v,l=u++v∧Mw p u:=by
 constructor
 ·rintro⟨j,h⟩;obtain⟨i,h1,h2,h3,h4⟩:=bZ.1 h;cases i with
  | zero=>
   refine⟨l.take j,l.drop j,(List.take_append_drop j l).symm,?_⟩;simpa [seg] using h4
  | succ i=>
   have hi:=iH h1;simp only[kO,List.length_replicate] at hi;simp[List.getD,show i<l.length by omega] at h1
 ·rintro⟨u,v,rfl,h⟩;refine⟨u.length,bZ.2 ⟨0,rfl,by omega,by simp,?_⟩⟩;unfold seg;simpa using h
theorem uL (k:Int) (cs:List Int) (ss:List Pat) (l:List Int):aE [.agg [i64 k,aD cs,lstS bG ss],aD l]=true:=by
 have h:aN (.agg [i64 k,aD cs,lstS bG ss])=true:=fJ k cs ss;simp only[aE,h,aI,Bool.and_true]
theorem left_c {p:Pat}(hp:jF p){l:List Int}(hl:l.length<=100000):Pu Tryz.prog 76 [.agg (bG p),aD l] (boo (decide (∃ u v,l=u++v∧Mw p v))):=by
 have hc:=hp l (List.replicate (l.length+1) true) hl si;have hR:=am (P:=Mw p) (l:=l) (a:=List.replicate (l.length+1) true);have hi:=Fc (p:=p) (l:=l);generalize bD (Mw p) l (List.replicate (l.length+1) true)=R at hc hR hi;have hlt:l.length<R.length:=by omega
 have he:R[l.length]=decide (∃ u v,l=u++v∧Mw p v):=by
  rw[aK hlt] at hi;rw[Bool.eq_iff_iff,hi,decide_eq_true_iff]
 generalize decide (∃ u v,l=u++v∧Mw p v)=b at he;cases p with
 | mk k' c' s'=>
 rw[a6] at hc ⊢;refine Pu.of_v aB T0 Tryz.func76 rfl rfl (uL _ _ _ _) ?_;repeat' ((conv=>whnf);first|exact kQ|(refine bk ?_ ?_<;>intro _<;>try(exfalso;omega))|refine stq ?_|fail)
 refine aH.by aB T0 (λk:Nat=>⟨tmp 28 [(1,aD l),(2,.ptr 0 0),(5,.sl 1 0 (l.length+1) (l.length+1) 1 true),(6,i64 (k:Int))],⟨2,[(1,.cells (aZ (l.length+1) λi=>boo (decide (i<k))) true),(0,.cells [i64 k',aD c',lstS bG s'] true)]⟩⟩)
  (λk=>k<=l.length+1) (λk=>l.length+1-k) 0 om ?_ ?_
 ·exact lq [(0,_),(1,_)] []
 intro k h3;by_cases hk:k<l.length+1
 ·repeat' ((conv=>whnf);first|exact kQ|(refine bk ?_ ?_<;>intro _<;>try(exfalso;omega))|refine stq ?_|refine cO.at k rfl om ?_|refine Put.one (by simp;omega) ?_|fail)
  all_goals(conv=>whnf)
  have e2:(aZ (l.length+1) λi=>boo (decide (i<k))).set k (boo true)=aZ (l.length+1) λi=>boo (decide (i<k+1)):=
   bv si (λi _ hi=>by simp only[show(i<k+1)=(i<k) from propext ⟨λh=>by omega,λh=>by omega⟩])
  refine⟨k+1,by omega,by omega,?_⟩;exact lq [(0,_),(1,_)] []
 ·have hfin:(aZ (l.length+1) λi=>boo (decide (i<k)))=(List.replicate (l.length+1) true).map boo:=by
   have:=co (l:=List.replicate (l.length+1) true) (f:=boo) (g:=λi=>boo (decide (i<k))) (λi hi=>by
    simp only[List.length_replicate] at hi
    simp[show i<k by omega])
   rwa [List.length_replicate] at this
  repeat' ((conv=>whnf);first|refine Idx.atE (l:=R) (d:=boo b) l.length rfl hlt (by rw[he]) ?_|exact kQ|(refine bk ?_ ?_<;>intro _<;>try(exfalso;omega))|refine stq ?_|refine Cll.emb (hc ⟨0,[]⟩) [] [1] (a9 R) [] [(0,.cells [i64 k',aD c',lstS bG s'] true)] rfl cE bxA rdA bxA reA ?_|fail)
  all_goals(conv=>whnf)
  exact aC.same rfl rfl
set_option maxHeartbeats 1000000 in
theorem Gk {p:Pat}(hp:jF p){l:List Int}(hl:l.length<=100000):Pu Tryz.prog 77 [.agg (bG p),aD l] (boo (decide (∃ u v,l=u++v∧Mw p u))):=by
 have hc:=hp l (true::List.replicate l.length false) hl si;have hR:=am (P:=Mw p) (l:=l) (a:=true::List.replicate l.length false);have hi:=Af (p:=p) (l:=l);generalize bD (Mw p) l (true::List.replicate l.length false)=R at hc hR hi;generalize(∃ u v,l=u++v∧Mw p u)=b at hi;have hz:∀ m:Int,m=(l.length:Int)+1->cI [boo false] m.toNat=aZ (l.length+1) (λ_=>boo false):=λm hm=>bR om (λ_ _=>rfl)
 have hfin:∀ m:Int,m=(l.length:Int)+1->(cI [boo false] m.toNat).set 0 (boo true)=(true::List.replicate l.length false).map boo:=λm hm=>by
  rw[hz m hm,bv (g:=λi=>boo (decide (i=0))) si (λi _ hi=>by simp[hi])]
  have:=co (l:=true::List.replicate l.length false) (f:=boo) (g:=λi=>boo (decide (i=0))) (λi hi=>by
   cases i with
   | zero=>rfl
   | succ i=>
    simp only[kO,List.length_replicate] at hi
    simp)
  rwa [kO,List.length_replicate] at this
 cases p with
 | mk k' c' s'=>
 rw[a6] at hc ⊢;refine Pu.of_v aB T0 Tryz.func77 rfl rfl (uL _ _ _ _) ?_;repeat' ((conv=>whnf);first|refine Put.one (k:=0) (by show 0<(cI [boo false] ((l.length:Int)+1).toNat).length;rw[hz _ rfl];simp) ?_|refine cO.at 0 rfl om ?_|exact kQ|(refine bk ?_ ?_<;>intro _<;>try(exfalso;omega))|refine stq ?_|refine Cll.emb (hc ⟨0,[]⟩) [] [5] (a9 R) [] [(0,.cells [i64 k',aD c',lstS bG s'] true)] rfl cE bxA rdA bxA reA ?_|fail)
 refine aH.by aB T0 (λk:Nat=>⟨tmp 28 [(6,a9 R),(7,i64 (k:Int))],⟨0,[]⟩⟩)
  (λk=>k<=R.length∧∀ i,i<k->¬R.getD i false=true) (λk=>R.length-k) 0 ⟨by omega,λ_ h=>by omega⟩ ?_ ?_
 ·exact lq0
 intro k ⟨h3,h4⟩;by_cases hk:k<R.length
 ·have eg:R.getD k false=R[k]:=aK hk;by_cases hb:R[k]=true
  ·repeat' ((conv=>whnf);first|refine Idx.atE (d:=boo true) k rfl hk (by rw[hb]) ?_|exact kQ|(refine bk ?_ ?_<;>intro _<;>try(exfalso;omega))|refine stq ?_|fail)
   all_goals(conv=>whnf)
   exact aC.yes (hi.1 ⟨k,by rw[eg,hb]⟩)
  ·have hb0:R[k]=false:=by simpa using hb
   repeat' ((conv=>whnf);first|refine Idx.atE (d:=boo false) k rfl hk (by rw[hb0]) ?_|exact kQ|(refine bk ?_ ?_<;>intro _<;>try(exfalso;omega))|refine stq ?_|fail)
   all_goals(conv=>whnf)
   refine⟨k+1,⟨by omega,λi hi2=>?_⟩,by omega,?_⟩
   ·by_cases e:i=k
    ·subst e;rw[eg];exact hb
    ·exact h4 i om
   exact lq0
 ·repeat' ((conv=>whnf);first|exact kQ|(refine bk ?_ ?_<;>intro _<;>try(exfalso;omega))|refine stq ?_|fail)
  all_goals(conv=>whnf)
  exact aC.no (λh=>by
   obtain⟨j,hj⟩:=hi.2 h
   exact h4 j (by have:=iH hj;omega) hj)
def Hit (n:Nat) (l:List Int) (k:Nat) (r:Rul):Prop:=(∃ u v,(n:Int)::l.take k=u++v∧Mw r.left v)∧∃ u v,l.drop k++[(n:Int)+1]=u++v∧Mw r.right u
def y9 (n:Nat) (rs:List Rul) (l:List Int) (k:Nat):Option Nat->Prop
 | some i=>∃ h:i<rs.length,Hit n l k rs[i]∧∀ j (hj:j<i),¬Hit n l k (rs[j]'(by omega))
 | none=>∀ j (hj:j<rs.length),¬Hit n l k rs[j]
theorem HD {n:Nat}{rs:List Rul}{l:List Int}{k j:Nat}{q:Option Nat}(hq:y9 n rs l k q) (hj:j<rs.length) (h:Hit n l k rs[j]) (hb:∀ i (hi:i<j),¬Hit n l k (rs[i]'(by omega))):q=some j:=by
 cases q with
 | none=>exact absurd h (hq j hj)
 | some i=>
  obtain⟨hi,h1,h2⟩:=hq;rcases Nat.lt_trichotomy i j with h3|h3|h3
  ·exact absurd h1 (hb i h3)
  ·rw[h3]
  ·exact absurd h (h2 j h3)
theorem HC {n:Nat}{rs:List Rul}{l:List Int}{k:Nat}{q:Option Nat}(hq:y9 n rs l k q) (hb:∀ i (hi:i<rs.length),¬Hit n l k rs[i]):q=none:=by
 cases q with
 | none=>rfl
 | some i=>
  obtain⟨hi,h1,_⟩:=hq;exact absurd h1 (hb i hi)
def I7 (rs:List Rul):Option Nat->Int
 | some i=>(match rs[i]? with|some r=>r.act|none=>2)
 | none=>2
def idxR:Option Nat->Int
 | some i=>(i:Int)
 | none=>-1
theorem c9.of {α:Type}{f:α->D}{h:aA}{l:List α}{n:Nat}{cs:List D}{K:Nat->List D->Prop}(en:n=l.length) (ec:cs=l.map f) (go:K l.length (l.map f)):c9 h 1 (.imm n cs) K:=by
 subst en;subst ec;exact c9.lst go
theorem cut1 (l:List Int) (k:Nat):List.take (((k:Int)-0).toNat*1) (List.drop ((0:Int).toNat*1) (l.map i64))=(l.take k).map i64:=by simp
theorem cut2 (l:List Int) (k:Nat):List.take (((l.length:Int)-k).toNat*1) (List.drop ((k:Int).toNat*1) (l.map i64))=(l.drop k).map i64:=by
 rw[Nat.mul_one,Nat.mul_one,Int.toNat_natCast,List.map_drop,kE si]
theorem cut3 (l:List Int) (x:Int):List.take (l.length*1) (List.drop 0 (l.map i64))++[i64 x]=(l++[x]).map i64:=by
 rw[Nat.mul_one,List.drop_zero,kE si,List.map_append];rfl
theorem uG:∀ l:List Int,d9 (l.map i64)=true
 | []=>rfl
 | _::s=>uG s
theorem nq {h:aA}{fz:Nat->Bool}{σ:Nat->Option Nat}{id n cap:Nat}{b:List Int}{cs:List D}{ex bx:Bool}(hf:fz id=true) (hg:h.get id=some (.cells cs bx)) (ec:cs=b.map i64) (e:n=b.length):Rd h fz σ (.sl id 0 n cap 1 ex) (aD b):=by
 subst e;subst ec;refine .frz hf hg si (.eqs ?_ (aS (λ_=>rfl) _));rw[List.drop_zero,kE si]
theorem uK (cl:List Str) (rs:List Rul):aE [strs cl,lstS cF rs]=true:=by simp only[aE,aP,eD,Bool.and_true]
theorem C4 (cl:List Str) (rs:List Rul) (l:List Int) (k:Int):aE [.agg [strs cl,lstS cF rs],aD l,i64 k]=true:=by
 have h:aN (.agg [strs cl,lstS cF rs])=true:=by simp[aN,aE,aP,eD]
 simp only[aE,h,aI,Bool.and_true];rfl
set_option maxHeartbeats 2000000 in
theorem Cn {cl:List Str}{rs:List Rul}{l:List Int}{k:Nat}{q:Option Nat}(hC:Pu Tryz.prog 74 [.agg [strs cl,lstS cF rs]] (i64 0)) (hok:∀ r,r∈rs->jF r.left∧jF r.right) (hcl:cl.length<=1000) (hrs:rs.length<=1000) (hl:l.length<=1000) (hc:CL l cl.length) (hk:k<=l.length) (hq:y9 cl.length rs l k q) :
  Pu Tryz.prog 42 [.agg [strs cl,lstS cF rs],aD l,i64 (k:Int)] (.tup [i64 (I7 rs q),i64 (idxR q)]):=by
 refine Pu.of_v aB T0 Tryz.func42 rfl rfl (C4 _ _ _ _) ?_;have t1:(l.take k).length=k:=by rw[List.length_take];omega
 have t2:(l.drop k).length=l.length-k:=List.length_drop;repeat' ((conv=>whnf);first|refine Chk.mk (by show 0+(1+(List.take k l).length)*1<=1;omega) ?_|refine c9.of (l:=l.drop k) (f:=i64) om (cut2 l k) ?_|refine c9.of (l:=l.take k) (f:=i64) om (cut1 l k) ?_|refine Chk.mk ⟨by omega,by omega,by omega,(by show(List.map i64 l).length=l.length*1;simp)⟩ ?_|exact kQ|(refine bk ?_ ?_<;>intro _<;>try(exfalso;omega))|refine stq ?_|refine cp hC ?_|(refine Cll.dec (rcl_c om) (λ_=>?_) (λ_=>?_)<;>(try contradiction))|refine Chk.mk (uG _) ?_|refine Chk.growX 8 1 rfl rfl om om (by first|exact kP _|(simp;done)) ?_|refine Chk.room 8 rfl om om ?_|fail)
 all_goals
  refine aH.by aB T0 (λj:Nat=>⟨tmp 83 [(3,.ptr 0 0),(9,aD ((cl.length:Int)::l.take k)),(10,aD (l.drop k++[(cl.length:Int)+1])),(11,i64 (j:Int))],⟨1,[(0,.cells [strs cl,lstS cF rs] true)]⟩⟩)
   (λj=>j<=rs.length∧∀ i (hi:i<rs.length),i<j->¬Hit cl.length l k rs[i]) (λj=>rs.length-j) 0 ⟨by omega,λ_ _ h=>by omega⟩ ?_ ?_
  ·exact lq [(0,_)] [27,32,33,39,40,44,45,46,47]
  intro j ⟨h3,h4⟩;by_cases hj:j<rs.length
  ·have hrok:=hok rs[j] (kM hj);have hat:=λh=>HD hq hj h (λi hi=>h4 i om hi)
   cases hrj:rs[j] with
   | mk a lp rp=>
   rw[hrj] at hrok hat;obtain⟨hL,hR⟩:=hrok;dsimp only at hL hR;have h1:=left_c hL (l:=(cl.length:Int)::l.take k) (by rw[kO];omega);have h2:=Gk hR (l:=l.drop k++[(cl.length:Int)+1]) (by rw[kG,List.length_singleton];omega);by_cases hb1:∃ u v,(cl.length:Int)::l.take k=u++v∧Mw lp v
   ·rw[decide_eq_true hb1] at h1;by_cases hb2:∃ u v,l.drop k++[(cl.length:Int)+1]=u++v∧Mw rp u
    ·rw[decide_eq_true hb2] at h2;have hqj:=hat ⟨hb1,hb2⟩;subst hqj
     have ha:I7 rs (some j)=a:=by
      show(match rs[j]? with|some r=>r.act|none=>2)=a;rw[List.getElem?_eq_getElem hj,hrj]
     rw[ha];cases lp with
     | mk k1 c1 s1=>
     cases rp with
     | mk k2 c2 s2=>
     have hrc:cF rs[j]=[i64 a,i64 k1,aD c1,lstS bG s1,i64 k2,aD c2,lstS bG s2]:=by rw[hrj,qj]
     rw[a6] at h1 h2;repeat' ((conv=>whnf);first|refine Idx.atSE kX j rfl hj hrc ?_|exact kQ|(refine bk ?_ ?_<;>intro _<;>try(exfalso;omega))|refine stq ?_|refine cp h1 ?_|refine cp h2 ?_|fail)
     all_goals(conv=>whnf)
     exact aC.same rfl rfl
    ·rw[decide_eq_false hb2] at h2;have hno:¬Hit cl.length l k rs[j]:=by rw[hrj];exact λh=>hb2 h.2
     cases lp with
     | mk k1 c1 s1=>
     cases rp with
     | mk k2 c2 s2=>
     have hrc:cF rs[j]=[i64 a,i64 k1,aD c1,lstS bG s1,i64 k2,aD c2,lstS bG s2]:=by rw[hrj,qj]
     rw[a6] at h1 h2;repeat' ((conv=>whnf);first|refine Idx.atSE kX j rfl hj hrc ?_|exact kQ|(refine bk ?_ ?_<;>intro _<;>try(exfalso;omega))|refine stq ?_|refine cp h1 ?_|refine cp h2 ?_|fail)
     all_goals(conv=>whnf)
     refine⟨j+1,⟨by omega,λi hi hij=>?_⟩,by omega,?_⟩
     ·by_cases e:i=j
      ·subst e;exact hno
      ·exact h4 i hi om
     exact lq [(0,_)] []
   ·rw[decide_eq_false hb1] at h1;have hno:¬Hit cl.length l k rs[j]:=by rw[hrj];exact λh=>hb1 h.1
    cases lp with
    | mk k1 c1 s1=>
    cases rp with
    | mk k2 c2 s2=>
    have hrc:cF rs[j]=[i64 a,i64 k1,aD c1,lstS bG s1,i64 k2,aD c2,lstS bG s2]:=by rw[hrj,qj]
    rw[a6] at h1;repeat' ((conv=>whnf);first|refine Idx.atSE kX j rfl hj hrc ?_|exact kQ|(refine bk ?_ ?_<;>intro _<;>try(exfalso;omega))|refine stq ?_|refine cp h1 ?_|fail)
    all_goals(conv=>whnf)
    refine⟨j+1,⟨by omega,λi hi hij=>?_⟩,by omega,?_⟩
    ·by_cases e:i=j
     ·subst e;exact hno
     ·exact h4 i hi om
    exact lq [(0,_)] []
  ·have hqn:=HC hq (λi hi=>h4 i hi om);subst hqn;repeat' ((conv=>whnf);first|exact kQ|(refine bk ?_ ?_<;>intro _<;>try(exfalso;omega))|refine stq ?_|fail)
   all_goals(conv=>whnf)
   exact aC.same rfl rfl
end
section
open Go Go.Am
set_option maxRecDepth 100000
variable [GT]
abbrev rp (n:Nat) (x:List Nat):List (List Nat):=List.replicate n x
def side (b:Bool) (r:Rul):Pat:=match b with|true=>r.left|false=>rev r.right
def lL (b:Bool) (e n:Nat) (N M:List (List Nat)):Nat->List Rul->List fC->Bool
 | _,[],[]=>true
 | i,r::rs,C::Cs=>C.b1 (side b r) n&&C.b2 e n&&C.b3 n i N M&&lL b e n N M (i+1) rs Cs
 | _,_,_=>false
theorem s5 {b:Bool}{e n:Nat}{N M:List (List Nat)}:∀ {rs:List Rul}{Cs:List fC}{i:Nat},lL b e n N M i rs Cs=true->∀ j (h:j<rs.length),∃ C:fC,C.b1 (side b rs[j]) n=true∧C.b2 e n=true∧C.b3 n (i+j) N M=true
 | [],_,_,_,j,h=>by simp at h
 | _::_,[],_,h,_,_=>by simp[lL] at h
 | r::rs,C::Cs,i,h,j,hj=>by
  simp only[lL,kC] at h;obtain⟨⟨⟨h1,h2⟩,h3⟩,h4⟩:=h;cases j with
  | zero=>exact⟨C,h1,h2,h3⟩
  | succ j=>
   obtain⟨C',k1,k2,k3⟩:=s5 h4 j (by simpa using hj);exact⟨C',by simpa using k1,k2,by rw[show i+(j+1)=i+1+j by omega];exact k3⟩
def nat (l:List Int):List Nat:=l.map Int.toNat
theorem th {l:List Int}(h:∀ x,x∈l->0<=x):rJ (nat l)=l:=by
 unfold rJ nat;rw[List.map_map]
 conv=>rhs;rw[<-List.map_id l]
 exact List.map_congr_left λx hx=>by
  have:=h x hx
  simp only[Function.comp,id];omega
theorem wP {l:List Int}{c:Int}(h:CL l c){x:Int}(hx:x∈l):0<=x∧x<c:=by
 obtain⟨i,hi,rfl⟩:=List.mem_iff_getElem.1 hx;exact h i hi
theorem t4 (N:List (List Nat)) (y:List Nat) (c:Nat):gC N (y++[c])=(N.getD (gC N y) []).getD c 0:=by
 simp[gC,List.foldl_append]
theorem A4 {N:List (List Nat)}{l:List Int}{c:Int}(hc:CL l c):∀ {k:Nat},k<=l.length->stL (cM N) l k=(gC N (nat (l.take k)):Int)
 | 0,_=>rfl
 | k+1,hk=>by
  have h1:=(hc k om).1;rw[stL,A4 hc om,aK (show k<l.length by omega)];have e1:l.take (k+1)=l.take k++[l[k]]:=by rw[List.take_add_one,List.getElem?_eq_getElem om];rfl
  rw[e1,show nat (l.take k++[l[k]])=nat (l.take k)++[l[k].toNat] by simp only[nat,List.map_append,List.map_cons,List.map_nil],t4,<-vt,Int.toNat_of_nonneg h1]
theorem A3 {N:List (List Nat)}{l:List Int}{c:Int}(hc:CL l c):∀ {j:Nat},j<=l.length->stR (cM N) l j=(gC N (nat (l.drop (l.length-j)).reverse):Int)
 | 0,_=>by simp[stR,nat,gC]
 | j+1,hj=>by
  have h1:=(hc (l.length-1-j) om).1;rw[stR,A3 hc om,aK (show l.length-1-j<l.length by omega)]
  have e1:l.drop (l.length-(j+1))=l[l.length-1-j]'(by omega)::l.drop (l.length-j):=by
   rw[kK (show l.length-(j+1)<l.length by omega)];congr 1
   ·congr 1;omega
   ·congr 1;omega
  rw[e1,List.reverse_cons,show ∀ (a:List Int) (x:Int),nat (a++[x])=nat a++[x.toNat] from λa x=>by simp[nat],t4,<-vt,Int.toNat_of_nonneg h1]
theorem wX {r:Nat}:∀ {m:List Nat}{lo:Nat},wY r lo m=true->∀ x,x∈m->lo<=x∧x<r
 | [],_,_,x,h=>by simp at h
 | y::m,lo,h,x,hx=>by
  simp only[wY,kC,Nat.ble_eq,Nat.blt_eq] at h;rcases List.mem_cons.1 hx with rfl|hx
  ·exact⟨h.1.1,h.1.2⟩
  ·have:=wX h.2 x hx
   omega
theorem yN {r:Nat}{b:List Nat}:∀ {a:List Nat}{lo i:Nat},wY r lo a=true->fcN a b=some i->i∈a∧i∈b∧∀ j,j∈a->j<i->j∉b
 | [],_,_,_,h=>by simp[fcN] at h
 | x::a,lo,i,ha,h=>by
  simp only[wY,kC,Nat.ble_eq,Nat.blt_eq] at ha;simp only[fcN] at h;cases hm:jy x b with
  | true=>
   rw[hm,cond_true] at h;injection h with h;subst h
   refine⟨by simp,du.1 hm,λj hj hlt=>?_⟩;rcases List.mem_cons.1 hj with rfl|hj
   ·omega
   ·have:=wX ha.2 j hj;omega
  | false=>
   rw[hm,cond_false] at h;obtain⟨h1,h2,h3⟩:=yN ha.2 h;refine⟨List.mem_cons_of_mem _ h1,h2,λj hj hlt=>?_⟩;rcases List.mem_cons.1 hj with rfl|hj
   ·intro hb;rw[du.2 hb] at hm;cases hm
   ·exact h3 j hj hlt
theorem yO {b:List Nat}:∀ {a:List Nat},fcN a b=none->∀ j,j∈a->j∉b
 | [],_,j,h=>by simp at h
 | x::a,h,j,hj=>by
  simp only[fcN] at h;cases hm:jy x b with
  | true=>rw[hm,cond_true] at h;cases h
  | false=>
   rw[hm,cond_false] at h;rcases List.mem_cons.1 hj with rfl|hj
   ·intro hb;rw[du.2 hb] at hm;cases hm
   ·exact yO h j hj
structure Law (n:Nat) (rs:List Rul) (LN LM RN RM:List (List Nat)):Prop where
 L:∃ Cs,lL true n n LN LM 0 rs Cs=true
 R:∃ Cs,lL false (n+1) n RN RM 0 rs Cs=true
 sL:sdB n rs.length LN LM=true
 sR:sdB n rs.length RN RM=true
theorem zd {n r:Nat}{N M:List (List Nat)}(h:sdB n r N M=true):0<N.length∧(∀ s c,s<N.length->c<n->(N.getD s []).getD c 0<N.length)∧∀ s,wY r 0 (M.getD s [])=true:=by
 simp only[sdB,kC,Nat.ble_eq,Nat.beq_eq,kL,Nat.blt_eq] at h;obtain⟨⟨⟨⟨⟨h0,h1⟩,h2⟩,h3⟩,h4⟩,h5⟩:=h;refine⟨by omega,λs c hs hc=>?_,λs=>?_⟩
 ·have e1:N.getD s []=N[s]:=by simp[List.getD,hs]
  have hr:=h4 N[s] (kM hs);rw[e1];have hc':c<N[s].length:=by rw[hr.1];exact hc
  have e2:N[s].getD c 0=N[s][c]:=by simp[List.getD,hc']
  rw[e2];exact hr.2 _ (kM hc')
 ·by_cases hs:s<M.length
  ·have e1:M.getD s []=M[s]:=by simp[List.getD,hs]
   rw[e1];exact(h5 M[s] (kM hs)).1
  ·have e1:M.getD s []=[]:=by simp[List.getD,hs]
   rw[e1];rfl
theorem rev_ex {p:Pat}{w:List Int}{c:Int}:(∃ u v,w++[c]=u++v∧Mw p u)↔∃ u v,c::w.reverse=u++v∧Mw (rev p) v:=by
 constructor
 ·rintro⟨u,v,e,h⟩;refine⟨v.reverse,u.reverse,?_,h.back⟩;rw[<-List.reverse_append,<-e,List.reverse_append];rfl
 ·rintro⟨u,v,e,h⟩;refine⟨v.reverse,u.reverse,?_,?_⟩
  ·rw[<-List.reverse_append,<-e,List.reverse_cons,List.reverse_reverse]
  ·rw[Mw.back_iff,List.reverse_reverse];exact h
theorem nk {n:Nat}{rs:List Rul}{LN LM RN RM:List (List Nat)}(W:Law n rs LN LM RN RM){l:List Int}(hc:CL l n){k j:Nat}(hj:j<rs.length) :
  Hit n l k rs[j]↔j∈LM.getD (gC LN (nat (l.take k))) []∧j∈RM.getD (gC RN (nat (l.drop k).reverse)) []:=by
 obtain⟨CL',hL⟩:=W.L;obtain⟨CR',hR⟩:=W.R;obtain⟨C1,a1,a2,a3⟩:=s5 hL j hj;obtain⟨C2,b1,b2,b3⟩:=s5 hR j hj;obtain⟨f1,f2,_⟩:=zd W.sL;obtain⟨g1,g2,_⟩:=zd W.sR;rw[Nat.zero_add] at a3 b3;have w1:rJ (nat (l.take k))=l.take k:=th λx hx=>(wP hc (List.mem_of_mem_take hx)).1
 have w2:rJ (nat (l.drop k).reverse)=(l.drop k).reverse:=th λx hx=>(wP hc (List.mem_of_mem_drop (List.mem_reverse.1 hx))).1
 have m1:∀ c,c∈nat (l.take k)->c<n:=λc h=>by
  simp only[nat,List.mem_map] at h;obtain⟨x,hx,rfl⟩:=h;have:=wP hc (List.mem_of_mem_take hx)
  omega
 have m2:∀ c,c∈nat (l.drop k).reverse->c<n:=λc h=>by
  simp only[nat,List.mem_map] at h;obtain⟨x,hx,rfl⟩:=h;have:=wP hc (List.mem_of_mem_drop (List.mem_reverse.1 hx))
  omega
 have r1:=B4 om a1 a2 a3 f1 f2 (nat (l.take k)) m1;have r2:=B4 om b1 b2 b3 g1 g2 (nat (l.drop k).reverse) m2;rw[w1] at r1;rw[w2] at r2;rw[r1,r2];unfold Hit;rw[rev_ex];exact Iff.rfl
theorem F1 {n:Nat}{rs:List Rul}{LN LM RN RM:List (List Nat)}(W:Law n rs LN LM RN RM){l:List Int}(hc:CL l n){k:Nat} :
  y9 n rs l k (fcN (LM.getD (gC LN (nat (l.take k))) []) (RM.getD (gC RN (nat (l.drop k).reverse)) [])):=by
 have ha:=(zd W.sL).2.2 (gC LN (nat (l.take k)));cases hf:fcN (LM.getD (gC LN (nat (l.take k))) []) (RM.getD (gC RN (nat (l.drop k).reverse)) []) with
 | none=>exact λj hj h=>yO hf j ((nk W hc hj).1 h).1 ((nk W hc hj).1 h).2
 | some i=>
  obtain⟨h1,h2,h3⟩:=yN ha hf;have hi:=(wX ha i h1).2;exact⟨hi,(nk W hc hi).2 ⟨h1,h2⟩,λj hj h=>h3 j ((nk W hc om).1 h).1 hj ((nk W hc om).1 h).2⟩
theorem Ij {cl:List Str}{rs:List Rul}{LN LM RN RM:List (List Nat)}(W:Law cl.length rs LN LM RN RM){l:List Int}(hc:CL l cl.length){k:Nat}(hk:k<=l.length) :
  ∃ q,y9 cl.length rs l k q∧Dk (tbl cl (rs.map (·.act)) LN LM RN RM) (sk (tbl cl (rs.map (·.act)) LN LM RN RM) (stL (cM LN) l k) (stR (cM RN) l (l.length-k)))=I7 rs q ∧
   decI (sk (tbl cl (rs.map (·.act)) LN LM RN RM) (stL (cM LN) l k) (stR (cM RN) l (l.length-k)))=idxR q:=by
 have e1:=A4 (N:=LN) hc hk;have e2:=A3 (N:=RN) hc (j:=l.length-k) om;rw[show l.length-(l.length-k)=k by omega] at e2;have hF:=F1 W hc (k:=k);rw[e1,e2];generalize gC LN (nat (l.take k))=x at hF;generalize gC RN (nat (l.drop k).reverse)=y at hF
 have hd:sk (tbl cl (rs.map (·.act)) LN LM RN RM) (x:Int) (y:Int)=(fcN (LM.getD x []) (RM.getD y [])).map λk:Nat=>(k:Int):=by
  unfold sk;show fc ((cM LM).getD (x:Int).toNat []) ((cM RM).getD (y:Int).toNat [])=_;rw[Int.toNat_natCast,Int.toNat_natCast,oS,oS,F2]
 rw[hd];refine⟨_,hF,?_,?_⟩
 ·cases hq:fcN (LM.getD x []) (RM.getD y []) with
  | none=>rfl
  | some i=>
   rw[hq] at hF;obtain⟨hi,_⟩:=hF;show(rs.map (·.act)).getD ((i:Nat):Int).toNat 0=(match rs[i]? with|some r=>r.act|none=>2);rw[Int.toNat_natCast,List.getElem?_eq_getElem hi];simp[List.getD,hi]
 ·cases fcN (LM.getD x []) (RM.getD y []) with
  | none=>rfl
  | some i=>rfl
end
section
open Go Go.Am
abbrev rqL (n x:Nat):List Nat:=List.replicate n x
abbrev pCl (l:List Int):Pat:=.mk 1 l []
abbrev pSt (p:Pat):Pat:=.mk 4 [] [p]
abbrev pSq (l:List Pat):Pat:=.mk 2 [] l
def dgL (l:List Nat):List (List Nat):=l.map λx=>[x]
def szL:Nat->List Nat->List (List Nat)
 | n,k::v::l=>(szL n l).set k [v]
 | n,_=>List.replicate n []
end
end Go.Proofs.YtbmdndckndnehaaGreatDoor
