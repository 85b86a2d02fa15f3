/-
  What shows that the marks of an automaton are right: checked by the kernel, rule by rule. Plain: no program in sight.
-/
import Derived.Test.YtjpgpihbhicinaaGreatDoorX0
import Derived.Test.YtjpgpihbhicinaaGreatDoorV0
set_option linter.unusedSectionVars false
namespace Go.Proofs.YtjpgpihbhicinaaGreatDoor
section
open Go Go.Am
set_option maxRecDepth 100000
variable [GT]
def sH:List Int->List Int->Bool
 | [],[]=>true
 | a::l,b::m=>ibe a b&&sH l m
 | _,_=>false
theorem vo:∀ {l m:List Int},sH l m=true->l=m
 | [],[],_=>rfl
 | [],_::_,h=>by simp[sH] at h
 | _::_,[],h=>by simp[sH] at h
 | a::l,b::m,h=>by
  simp only[sH,kC] at h;rw[lE.1 h.1,vo h.2]
mutual
def patB:Pat->Pat->Bool
 | .mk k cs ss,.mk k' cs' ss'=>ibe k k' && sH cs cs' && mo ss ss'
def mo:List Pat->List Pat->Bool
 | [],[]=>true
 | p::ps,q::qs=>patB p q&&mo ps qs
 | _,_=>false
end
mutual
theorem EN:∀ p q:Pat,patB p q=true->p=q
 | .mk k cs ss,.mk k' cs' ss',h=>by
  simp only[patB,kC] at h;rw[lE.1 h.1.1,vo h.1.2,j7 ss ss' h.2]
theorem j7:∀ ps qs:List Pat,mo ps qs=true->ps=qs
 | [],[],_=>rfl
 | [],_::_,h=>by simp[mo] at h
 | _::_,[],h=>by simp[mo] at h
 | p::ps,q::qs,h=>by
  simp only[mo,kC] at h;rw[EN p q h.1,j7 ps qs h.2]
end
def atQ (Q:List (List Pat)) (q:Nat) (f:List Pat->Bool):Bool:=match Q[q]? with|some r=>f r|none=>false
theorem pO {Q:List (List Pat)}{q:Nat}{f:List Pat->Bool}:atQ Q q f=true↔∃ r,Q[q]?=some r∧f r=true:=by
 unfold atQ;cases Q[q]? with
 | none=>simp
 | some r=>simp
def trB (Q:List (List Pat)) (c:Nat) (r0:List Pat) (js:List Nat):Bool:=
 (ja (c:Int) r0).all (fun r=>js.any fun q'=>atQ Q q' fun r'=>mo r' r)&&js.all fun q'=>atQ Q q' fun r'=>(ja (c:Int) r0).any fun r=>mo r r'
theorem trB_ok {Q:List (List Pat)}{c:Nat}{r0:List Pat}{js:List Nat}(h:trB Q c r0 js=true) (r:List Pat):r∈ja (c:Int) r0↔∃ q',q' ∈ js∧Q[q']?=some r:=by
 simp only[trB,kC,kL,List.any_eq_true,pO] at h;constructor
 ·intro hr;obtain⟨q',h1,r',h2,h3⟩:=h.1 r hr;exact⟨q',h1,by rw[h2,j7 _ _ h3]⟩
 ·rintro⟨q',h1,h2⟩;obtain⟨r',h3,r1,h4,h5⟩:=h.2 q' h1;rw[h2] at h3;injection h3 with h3;subst h3
  rw[<-j7 _ _ h5];exact h4
structure e9 where
 Q:List (List Pat)
 tr:List (List (List Nat))
 SS:List (List Nat)
 ts:List (List Nat)
 m0:Nat
 pr:List (List Nat)
def e9.trF (C:e9) (q:Nat) (c:Nat):List Nat:=(C.tr.getD q []).getD c []
def e9.set (C:e9) (m:Nat):List Nat:=C.SS.getD m []
def e9.nx (C:e9) (m c:Nat):Nat:=(C.ts.getD m []).getD c 0
def e9.unB (C:e9) (a S:List Nat) (c:Nat):Bool:=a.all (fun q'=>Nat.beq q' 0 || S.any fun q=>lR q' (C.trF q c))&&lR 0 a&&S.all fun q=>(C.trF q c).all fun q'=>lR q' a
theorem e9.un_ok {C:e9}{a S:List Nat}{c:Nat}(h:C.unB a S c=true) (q':Nat):q' ∈ a↔q'=0∨∃ q,q∈S∧q' ∈ C.trF q c:=by
 simp only[e9.unB,kC,kL,kN,Nat.beq_eq,List.any_eq_true,ej] at h;constructor
 ·intro hq;exact h.1.1 q' hq
 ·rintro(rfl|⟨q,h1,h2⟩)
  ·exact h.1.2
  ·exact h.2 q h1 q' h2
def e9.b1 (C:e9) (p:Pat) (n:Nat):Bool:=atQ C.Q 0 (fun r=>mo r [p])&&(List.range C.Q.length).all fun q=>atQ C.Q q fun r0=>(List.range (n+2)).all fun c=>trB C.Q c r0 (C.trF q c)
def e9.b2 (C:e9) (e n:Nat):Bool:=C.SS.all (fun S=>S.all fun q=>Nat.blt q C.Q.length)&&(List.range C.SS.length).all (fun m=>(List.range n).all fun c=>Nat.blt (C.nx m c) C.SS.length&&C.unB (C.set (C.nx m c)) (C.set m) c)&&C.unB (C.set C.m0) [0] e&&Nat.blt C.m0 C.SS.length
def e9.b3 (C:e9) (n i:Nat) (N M:List (List Nat)):Bool:=lR C.m0 (C.pr.getD 0 [])&&(List.range N.length).all fun s=>(C.pr.getD s []).all fun m=>Nat.blt m C.SS.length&&(List.range n).all (fun c=>lR (C.nx m c) (C.pr.getD ((N.getD s []).getD c 0) []))&&(lR i (M.getD s []) == (C.set m).any fun q=>atQ C.Q q nuL)
def fe (N:List (List Nat)) (y:List Nat):Nat:=y.foldl (fun s c=>(N.getD s []).getD c 0) 0
def pY (y:List Nat):List Int:=y.map fun c:Nat=>(c:Int)
theorem zK {C:e9}{p:Pat}{e n i:Nat}{N M:List (List Nat)}(he:e<n+2) (h1:C.b1 p n=true) (h2:C.b2 e n=true) (h3:C.b3 n i N M=true) (hN0:0<N.length) (hN:∀ s c,s<N.length->c<n->(N.getD s []).getD c 0<N.length)
  (y:List Nat) (hy:∀ c,c∈y->c<n):i∈M.getD (fe N y) []↔∃ u v,(e:Int)::pY y=u++v∧Mw p v:=by
 simp only[e9.b1,kC,kL,pO,List.mem_range] at h1;simp only[e9.b2,kC,kL,List.mem_range,Nat.blt_eq] at h2;simp only[e9.b3,kC,kL,List.mem_range,Nat.blt_eq,ej,beq_iff_eq] at h3;obtain⟨⟨r00,q0,e0⟩,hq⟩:=h1;rw[j7 _ _ e0] at q0;obtain⟨⟨⟨hS,hst⟩,hm0⟩,hm0l⟩:=h2;obtain⟨hp0,hpr⟩:=h3
 have hT:∀ c,c<n+2->TrOk C.Q (fun q (z:Int)=>C.trF q z.toNat) (c:Int):=fun c hc q r0 hr0 r=>by
  have hlt:q<C.Q.length:=(List.getElem?_eq_some_iff.1 hr0).1;obtain⟨r1,e1,e2⟩:=hq q hlt;rw[hr0] at e1;injection e1 with e1;subst e1
  have:=trB_ok (e2 c hc) r
  simpa using this
 have hB:∀ m,m<C.SS.length->∀ q,q∈C.set m->∃ r,C.Q[q]?=some r:=fun m hm q hqm=>by
  have e1:C.set m=C.SS[m]:=by simp[e9.set,List.getD,hm]
  rw[e1] at hqm;have:=hS _ (kM hm) q hqm
  exact⟨C.Q[q],List.getElem?_eq_getElem this⟩
 have r0:Rep C.Q p (C.set C.m0) [(e:Int)]:=by
  have:=Rep.step (x:=[]) (c:=(e:Int)) q0 (Rep.zero q0) (hT e he) (S':=C.set C.m0) (fun q'=>by
   have:=e9.un_ok hm0 q'
   simpa using this) (fun q hq0=>by simp only[List.mem_singleton] at hq0;subst hq0;exact⟨_,q0⟩)
  simpa using this
 have key:∀ (k:Nat) (y:List Nat),y.length=k->(∀ c,c∈y->c<n)->fe N y<N.length∧∃ m,m∈C.pr.getD (fe N y) []∧m<C.SS.length∧Rep C.Q p (C.set m) ((e:Int)::pY y):=by
  intro k
  induction k with
  | zero=>
   intro y hk _
   have:y=[]:=List.length_eq_zero_iff.1 hk
   subst this;exact⟨hN0,C.m0,hp0,hm0l,r0⟩
  | succ k ih=>
   intro y hk hy;rcases List.eq_nil_or_concat y with rfl|⟨z,c,rfl⟩
   ·simp at hk
   ·rw[List.concat_eq_append] at hk hy ⊢;have hz:z.length=k:=by simpa using hk
    have hc:c<n:=hy c (by simp);obtain⟨l1,m,m1,m2,m3⟩:=ih z hz (fun d hd=>hy d (by simp[hd]));have er:fe N (z++[c])=(N.getD (fe N z) []).getD c 0:=by simp[fe,List.foldl_append]
    rw[er];have hx:=hpr (fe N z) l1 m m1;have hs:=hst m m2 c hc;refine⟨hN _ _ l1 hc,C.nx m c,hx.1.2 c hc,hs.1,?_⟩
    have:=Rep.step (c:=(c:Int)) q0 m3 (hT c (by omega)) (S':=C.set (C.nx m c)) (fun q'=>by
     have:=e9.un_ok hs.2 q'
     simpa using this) (hB m m2)
    simpa [pY] using this
 obtain⟨l1,m,m1,m2,m3⟩:=key y.length y rfl hy;rw[m3.ends];have hx:=(hpr (fe N y) l1 m m1).2
 have e1:i∈M.getD (fe N y) []↔((C.set m).any fun q=>atQ C.Q q nuL)=true:=by
  rw[<-hx,ej]
 rw[e1,List.any_eq_true];constructor
 ·rintro⟨q,h1,h2⟩;obtain⟨r,h3,h4⟩:=pO.1 h2;exact⟨q,r,h1,h3,h4⟩
 ·rintro⟨q,r,h1,h3,h4⟩;exact⟨q,h1,pO.2 ⟨r,h3,h4⟩⟩
end
section
open Go Go.Am Classical
set_option maxRecDepth 100000
variable [GT]
theorem CI {p:Pat}{l:List Int}:(bQ (Mw p) l (List.replicate (l.length+1) true)).getD l.length false=true↔∃ u v,l=u++v∧Mw p v:=by
 rw[bt];constructor
 ·rintro⟨i,_,h2,h3,h4⟩;refine⟨l.take i,l.drop i,(List.take_append_drop i l).symm,?_⟩;unfold seg at h4
  rwa [kE (by rw[List.length_drop];omega)] at h4
 ·rintro⟨u,v,rfl,h⟩;refine⟨u.length,?_,by simp,by simp,?_⟩
  ·rw[aX (by simp;omega)];simp
  ·unfold seg;rw[List.drop_left,kE (by simp)];exact h
theorem xr {p:Pat}{l:List Int}:(∃ j,(bQ (Mw p) l (true::List.replicate l.length false)).getD j false=true)↔∃ u v,l=u++v∧Mw p u:=by
 constructor
 ·rintro⟨j,h⟩;obtain⟨i,h1,h2,h3,h4⟩:=bt.1 h;cases i with
  | zero=>
   refine⟨l.take j,l.drop j,(List.take_append_drop j l).symm,?_⟩;simpa [seg] using h4
  | succ i=>
   have hi:=gz h1;simp only[kO,List.length_replicate] at hi;simp[List.getD,show i<l.length by omega] at h1
 ·rintro⟨u,v,rfl,h⟩;refine⟨u.length,bt.2 ⟨0,rfl,by omega,by simp,?_⟩⟩;unfold seg;simpa using h
theorem r7 (k:Int) (cs:List Int) (ss:List Pat) (l:List Int):aB [.agg [i64 k,aQ cs,lstS bU ss],aQ l]=true:=by
 have h:aJ (.agg [i64 k,aQ cs,lstS bU ss])=true:=aV k cs ss;simp only[aB,h,aF,Bool.and_true]
theorem left_c {p:Pat}(hp:i6 p){l:List Int}(hl:l.length<=100000):Pu Tryz.prog 62 [.agg (bU p),aQ l] (boo (decide (∃ u v,l=u++v∧Mw p v))):=by
 have hc:=hp l (List.replicate (l.length+1) true) hl (by simp);have hR:=bC (P:=Mw p) (l:=l) (a:=List.replicate (l.length+1) true);have hi:=CI (p:=p) (l:=l);generalize bQ (Mw p) l (List.replicate (l.length+1) true)=R at hc hR hi;have hlt:l.length<R.length:=by omega
 have he:R[l.length]=decide (∃ u v,l=u++v∧Mw p v):=by
  rw[aX hlt] at hi;rw[Bool.eq_iff_iff,hi,decide_eq_true_iff]
 generalize decide (∃ u v,l=u++v∧Mw p v)=b at he;cases p with
 | mk k' c' s'=>
 rw[bN] at hc ⊢;refine Pu.of_v aA T0 Tryz.func62 rfl rfl (r7 _ _ _ _) ?_;repeat' ((conv=>whnf)<;>(first|refine sg ?_|exact kQ|(refine Br.mk ?_ ?_<;>intro _<;>try(exfalso;omega))|refine stq ?_|fail))
 refine aU.by aA T0 (fun k:Nat=>⟨tmp 28 [(1,aQ l),(2,.ptr 0 0),(5,.sl 1 0 (l.length+1) (l.length+1) 1 true),(6,i64 (k:Int))],⟨2,[(1,.cells (ao (l.length+1) fun i=>boo (decide (i<k))) true),(0,.cells [i64 k',aQ c',lstS bU s'] true)]⟩⟩)
  (fun k=>k<=l.length+1) (fun k=>l.length+1-k) 0 (by omega) ?_ ?_
 ·exact Lf.of2 [(0,_),(1,_)] [] enA (by repeat(first|exact Bxs.nil|refine Bxs.cons rfl rfl rfl (by first|exact Rb.cells (Rds.same (cY _ _ _)) rfl|exact Rb.cells (Rds.eqs (bE (by omega) (fun i _=>by simp)) (aW (fun _=>rfl))) rfl|exact rbB|exact Rb.cells bK rfl|exact rbC|fail) ?_)) rfl rfl
 intro k h3;by_cases hk:k<l.length+1
 ·repeat' ((conv=>whnf)<;>(first|refine sg ?_|exact kQ|(refine Br.mk ?_ ?_<;>intro _<;>try(exfalso;omega))|refine stq ?_|refine ca.at k rfl (by omega) ?_|refine Put.one (by simp;omega) ?_|fail))
  all_goals(conv=>whnf)
  have e2:(ao (l.length+1) fun i=>boo (decide (i<k))).set k (boo true)=ao (l.length+1) fun i=>boo (decide (i<k+1)):=
   bq (by simp) (fun i _ hi=>by simp only[show(i<k+1)=(i<k) from propext ⟨fun h=>by omega,fun h=>by omega⟩])
  refine⟨k+1,by omega,by omega,?_⟩;exact Lf.of2 [(0,_),(1,_)] [] enA (by repeat(first|exact Bxs.nil|refine Bxs.cons rfl rfl rfl (by first|exact Rb.cells (Rds.same (cY _ _ _)) rfl|exact Rb.cells (Rds.eqs e2 (aW (fun _=>rfl))) rfl|exact rbB|exact Rb.cells bK rfl|exact rbC|fail) ?_)) rfl rfl
 ·have hfin:(ao (l.length+1) fun i=>boo (decide (i<k)))=(List.replicate (l.length+1) true).map boo:=by
   have:=c7 (l:=List.replicate (l.length+1) true) (f:=boo) (g:=fun i=>boo (decide (i<k))) (fun i hi=>by
    simp only[List.length_replicate] at hi
    simp[show i<k by omega])
   rwa [List.length_replicate] at this
  repeat' ((conv=>whnf)<;>(first|refine Idx.atE (l:=R) (d:=boo b) l.length rfl hlt (by rw[he]) ?_|refine sg ?_|exact kQ|(refine Br.mk ?_ ?_<;>intro _<;>try(exfalso;omega))|refine stq ?_|refine Cll.emb (hc ⟨0,[]⟩) [] [1] (bS R) [] [(0,.cells [i64 k',aQ c',lstS bU s'] true)] rfl (by(repeat(first|exact Rds.nil|refine Rds.cons (by first|exact cO rfl rfl hfin (by simp)|exact Rd.same (aV _ _ _)|exact Rd.same (aS _)|exact rdA|fail) ?_|fail));(first|done|fail)) (by(repeat(first|exact Bxs.nil|refine Bxs.cons rfl rfl rfl (by first|exact rbB|exact Rb.cells (by(repeat(first|exact Rds.nil|refine Rds.cons (by first|exact cO rfl rfl hfin (by simp)|exact Rd.same (aV _ _ _)|exact Rd.same (aS _)|exact rdA|fail) ?_|fail));(first|done|fail)) rfl|exact rbC|fail) ?_|fail));(first|done|fail)) (by first|exact cO rfl rfl hfin (by simp)|exact Rd.same (aV _ _ _)|exact Rd.same (aS _)|exact rdA|fail) (by(repeat(first|exact Bxs.nil|refine Bxs.cons rfl rfl rfl (by first|exact rbB|exact Rb.cells (by(repeat(first|exact Rds.nil|refine Rds.cons (by first|exact cO rfl rfl hfin (by simp)|exact Rd.same (aV _ _ _)|exact Rd.same (aS _)|exact rdA|fail) ?_|fail));(first|done|fail)) rfl|exact rbC|fail) ?_|fail));(first|done|fail)) (by(repeat(first|exact aj.nil|refine aj.cons rfl rfl rfl ?_|fail));(first|done|fail)) ?_|fail))
  all_goals(conv=>whnf)
  exact aI.same rfl rfl
set_option maxHeartbeats 1000000 in
theorem DK {p:Pat}(hp:i6 p){l:List Int}(hl:l.length<=100000):Pu Tryz.prog 63 [.agg (bU p),aQ l] (boo (decide (∃ u v,l=u++v∧Mw p u))):=by
 have hc:=hp l (true::List.replicate l.length false) hl (by simp);have hR:=bC (P:=Mw p) (l:=l) (a:=true::List.replicate l.length false);have hi:=xr (p:=p) (l:=l);generalize bQ (Mw p) l (true::List.replicate l.length false)=R at hc hR hi;generalize(∃ u v,l=u++v∧Mw p u)=b at hi;have hz:∀ m:Int,m=(l.length:Int)+1->dA [boo false] m.toNat=ao (l.length+1) (fun _=>boo false):=fun m hm=>bE (by omega) (fun _ _=>rfl)
 have hfin:∀ m:Int,m=(l.length:Int)+1->(dA [boo false] m.toNat).set 0 (boo true)=(true::List.replicate l.length false).map boo:=fun m hm=>by
  rw[hz m hm,bq (g:=fun i=>boo (decide (i=0))) (by simp) (fun i _ hi=>by simp[hi])]
  have:=c7 (l:=true::List.replicate l.length false) (f:=boo) (g:=fun i=>boo (decide (i=0))) (fun i hi=>by
   cases i with
   | zero=>rfl
   | succ i=>
    simp only[kO,List.length_replicate] at hi
    simp)
  rwa [kO,List.length_replicate] at this
 cases p with
 | mk k' c' s'=>
 rw[bN] at hc ⊢;refine Pu.of_v aA T0 Tryz.func63 rfl rfl (r7 _ _ _ _) ?_
 repeat' ((conv=>whnf)<;>(first|refine Put.one (k:=0) (by show 0<(dA [boo false] ((l.length:Int)+1).toNat).length;rw[hz _ rfl];simp) ?_|refine ca.at 0 rfl (by omega) ?_|refine sg ?_|exact kQ|(refine Br.mk ?_ ?_<;>intro _<;>try(exfalso;omega))|refine stq ?_|refine Cll.emb (hc ⟨0,[]⟩) [] [5] (bS R) [] [(0,.cells [i64 k',aQ c',lstS bU s'] true)] rfl (by(repeat(first|exact Rds.nil|refine Rds.cons (by first|exact cO rfl rfl (hfin _ rfl) (by rw[kO,List.length_replicate];omega)|exact Rd.same (aV _ _ _)|exact Rd.same (aS _)|exact rdA|fail) ?_|fail));(first|done|fail)) (by(repeat(first|exact Bxs.nil|refine Bxs.cons rfl rfl rfl (by first|exact rbB|exact Rb.cells (by(repeat(first|exact Rds.nil|refine Rds.cons (by first|exact cO rfl rfl (hfin _ rfl) (by rw[kO,List.length_replicate];omega)|exact Rd.same (aV _ _ _)|exact Rd.same (aS _)|exact rdA|fail) ?_|fail));(first|done|fail)) rfl|exact rbC|fail) ?_|fail));(first|done|fail)) (by first|exact cO rfl rfl (hfin _ rfl) (by rw[kO,List.length_replicate];omega)|exact Rd.same (aV _ _ _)|exact Rd.same (aS _)|exact rdA|fail) (by(repeat(first|exact Bxs.nil|refine Bxs.cons rfl rfl rfl (by first|exact rbB|exact Rb.cells (by(repeat(first|exact Rds.nil|refine Rds.cons (by first|exact cO rfl rfl (hfin _ rfl) (by rw[kO,List.length_replicate];omega)|exact Rd.same (aV _ _ _)|exact Rd.same (aS _)|exact rdA|fail) ?_|fail));(first|done|fail)) rfl|exact rbC|fail) ?_|fail));(first|done|fail)) (by(repeat(first|exact aj.nil|refine aj.cons rfl rfl rfl ?_|fail));(first|done|fail)) ?_|fail))
 refine aU.by aA T0 (fun k:Nat=>⟨tmp 28 [(6,bS R),(7,i64 (k:Int))],⟨0,[]⟩⟩)
  (fun k=>k<=R.length∧∀ i,i<k->¬R.getD i false=true) (fun k=>R.length-k) 0 ⟨by omega,fun _ h=>by omega⟩ ?_ ?_
 ·exact Lf.of2 [] [] (by repeat(first|exact aM.nil|refine aM.cons rfl (by first|exact Rd.same (aS _)|exact rdA|fail) ?_)) (by repeat(first|exact Bxs.nil|refine Bxs.cons rfl rfl rfl (by first|exact rbB|exact Rb.cells (by(repeat(first|exact Rds.nil|refine Rds.cons (by first|exact Rd.same (aS _)|exact rdA|fail) ?_|fail));(first|done|fail)) rfl|exact rbC|fail) ?_)) rfl rfl
 intro k ⟨h3,h4⟩;by_cases hk:k<R.length
 ·have eg:R.getD k false=R[k]:=aX hk;by_cases hb:R[k]=true
  ·repeat' ((conv=>whnf)<;>(first|refine Idx.atE (d:=boo true) k rfl hk (by rw[hb]) ?_|refine sg ?_|exact kQ|(refine Br.mk ?_ ?_<;>intro _<;>try(exfalso;omega))|refine stq ?_|fail))
   all_goals(conv=>whnf)
   exact aI.yes (hi.1 ⟨k,by rw[eg,hb]⟩)
  ·have hb0:R[k]=false:=by simpa using hb
   repeat' ((conv=>whnf)<;>(first|refine Idx.atE (d:=boo false) k rfl hk (by rw[hb0]) ?_|refine sg ?_|exact kQ|(refine Br.mk ?_ ?_<;>intro _<;>try(exfalso;omega))|refine stq ?_|fail))
   all_goals(conv=>whnf)
   refine⟨k+1,⟨by omega,fun i hi2=>?_⟩,by omega,?_⟩
   ·by_cases e:i=k
    ·subst e;rw[eg];exact hb
    ·exact h4 i (by omega)
   exact Lf.of2 [] [] (by repeat(first|exact aM.nil|refine aM.cons rfl (by first|exact Rd.same (aS _)|exact rdA|fail) ?_)) (by repeat(first|exact Bxs.nil|refine Bxs.cons rfl rfl rfl (by first|exact rbB|exact Rb.cells (by(repeat(first|exact Rds.nil|refine Rds.cons (by first|exact Rd.same (aS _)|exact rdA|fail) ?_|fail));(first|done|fail)) rfl|exact rbC|fail) ?_)) rfl rfl
 ·repeat' ((conv=>whnf)<;>(first|refine sg ?_|exact kQ|(refine Br.mk ?_ ?_<;>intro _<;>try(exfalso;omega))|refine stq ?_|fail))
  all_goals(conv=>whnf)
  exact aI.no (fun h=>by
   obtain⟨j,hj⟩:=hi.2 h
   exact h4 j (by have:=gz hj;omega) hj)
def Hit (n:Nat) (l:List Int) (k:Nat) (r:Rul):Prop:=(∃ u v,(n:Int)::l.take k=u++v∧Mw r.left v)∧∃ u v,l.drop k++[(n:Int)+1]=u++v∧Mw r.right u
def wg (n:Nat) (rs:List Rul) (l:List Int) (k:Nat):Option Nat->Prop
 | some i=>∃ h:i<rs.length,Hit n l k rs[i]∧∀ j (hj:j<i),¬Hit n l k (rs[j]'(by omega))
 | none=>∀ j (hj:j<rs.length),¬Hit n l k rs[j]
theorem Di {n:Nat}{rs:List Rul}{l:List Int}{k j:Nat}{q:Option Nat}(hq:wg n rs l k q) (hj:j<rs.length) (h:Hit n l k rs[j]) (hb:∀ i (hi:i<j),¬Hit n l k (rs[i]'(by omega))):q=some j:=by
 cases q with
 | none=>exact absurd h (hq j hj)
 | some i=>
  obtain⟨hi,h1,h2⟩:=hq;rcases Nat.lt_trichotomy i j with h3|h3|h3
  ·exact absurd h1 (hb i h3)
  ·rw[h3]
  ·exact absurd h (h2 j h3)
theorem Dh {n:Nat}{rs:List Rul}{l:List Int}{k:Nat}{q:Option Nat}(hq:wg n rs l k q) (hb:∀ i (hi:i<rs.length),¬Hit n l k rs[i]):q=none:=by
 cases q with
 | none=>rfl
 | some i=>
  obtain⟨hi,h1,_⟩:=hq;exact absurd h1 (hb i hi)
def FG (rs:List Rul):Option Nat->Int
 | some i=>(match rs[i]? with|some r=>r.act|none=>2)
 | none=>2
def idxR:Option Nat->Int
 | some i=>(i:Int)
 | none=>-1
theorem dP.of {α:Type}{f:α->D}{h:aC}{l:List α}{n:Nat}{cs:List D}{K:Nat->List D->Prop}(en:n=l.length) (ec:cs=l.map f) (go:K l.length (l.map f)):dP h 1 (.imm n cs) K:=by
 subst en;subst ec;exact dP.lst go
theorem cut1 (l:List Int) (k:Nat):List.take (((k:Int)-0).toNat*1) (List.drop ((0:Int).toNat*1) (l.map i64))=(l.take k).map i64:=by simp
theorem cut2 (l:List Int) (k:Nat):List.take (((l.length:Int)-k).toNat*1) (List.drop ((k:Int).toNat*1) (l.map i64))=(l.drop k).map i64:=by
 rw[Nat.mul_one,Nat.mul_one,Int.toNat_natCast,List.map_drop,kE (by simp)]
theorem cut3 (l:List Int) (x:Int):List.take (l.length*1) (List.drop 0 (l.map i64))++[i64 x]=(l++[x]).map i64:=by
 rw[Nat.mul_one,List.drop_zero,kE (by simp),List.map_append];rfl
theorem rz:∀ l:List Int,eh (l.map i64)=true
 | []=>rfl
 | _::s=>rz s
theorem fV {h:aC}{fz:Nat->Bool}{σ:Nat->Option Nat}{id n cap:Nat}{b:List Int}{cs:List D}{ex bx:Bool}(hf:fz id=true) (hg:h.get id=some (.cells cs bx)) (ec:cs=b.map i64) (e:n=b.length):Rd h fz σ (.sl id 0 n cap 1 ex) (aQ b):=by
 subst e;subst ec;refine .frz hf hg (by simp) (.eqs ?_ (aZ (fun _=>rfl) _));rw[List.drop_zero,kE (by simp)]
theorem bv (cl:List Str) (rs:List Rul):aB [strs cl,lstS cX rs]=true:=by simp only[aB,aE,bG,Bool.and_true]
theorem z7 (cl:List Str) (rs:List Rul) (l:List Int) (k:Int):aB [.agg [strs cl,lstS cX rs],aQ l,i64 k]=true:=by
 have h:aJ (.agg [strs cl,lstS cX rs])=true:=by simp[aJ,aB,aE,bG]
 simp only[aB,h,aF,Bool.and_true];rfl
set_option maxHeartbeats 2000000 in
theorem zt {cl:List Str}{rs:List Rul}{l:List Int}{k:Nat}{q:Option Nat}(hC:Pu Tryz.prog 60 [.agg [strs cl,lstS cX rs]] (i64 0)) (hok:∀ r,r∈rs->i6 r.left∧i6 r.right) (hcl:cl.length<=1000) (hrs:rs.length<=1000) (hl:l.length<=1000) (hc:CL l cl.length) (hk:k<=l.length) (hq:wg cl.length rs l k q) :
  Pu Tryz.prog 35 [.agg [strs cl,lstS cX rs],aQ l,i64 (k:Int)] (.tup [i64 (FG rs q),i64 (idxR q)]):=by
 refine Pu.of_v aA T0 Tryz.func35 rfl rfl (z7 _ _ _ _) ?_;have t1:(l.take k).length=k:=by rw[List.length_take];omega
 have t2:(l.drop k).length=l.length-k:=List.length_drop;repeat' ((conv=>whnf)<;>(first|refine Chk.mk (by show 0+(1+(List.take k l).length)*1<=1;omega) ?_|refine dP.of (l:=l.drop k) (f:=i64) (by omega) (cut2 l k) ?_|refine dP.of (l:=l.take k) (f:=i64) (by omega) (cut1 l k) ?_|refine Chk.mk ⟨by omega,by omega,by omega,(by show(List.map i64 l).length=l.length*1;simp)⟩ ?_|refine sg ?_|exact kQ|(refine Br.mk ?_ ?_<;>intro _<;>try(exfalso;omega))|refine stq ?_|refine Cll.pu (hC) ?_|refine aO.pu (hC) ?_|(refine Cll.dec (rcl_c (by omega)) (fun _=>?_) (fun _=>?_)<;>(try contradiction))|refine Chk.mk (rz _) ?_|refine Chk.growX 8 1 rfl rfl (by omega) (by omega) (by first|exact kP _|(simp;done)) ?_|refine Chk.room 8 rfl (by omega) (by omega) ?_|fail))
 all_goals
  refine aU.by aA T0 (fun j:Nat=>⟨tmp 83 [(3,.ptr 0 0),(9,aQ ((cl.length:Int)::l.take k)),(10,aQ (l.drop k++[(cl.length:Int)+1])),(11,i64 (j:Int))],⟨1,[(0,.cells [strs cl,lstS cX rs] true)]⟩⟩)
   (fun j=>j<=rs.length∧∀ i (hi:i<rs.length),i<j->¬Hit cl.length l k rs[i]) (fun j=>rs.length-j) 0 ⟨by omega,fun _ _ h=>by omega⟩ ?_ ?_
  ·exact Lf.of2 [(0,_)] [27,32,33,39,40,44,45,46,47] (by repeat(first|exact aM.nil|refine aM.cons rfl (by first|exact fV rfl rfl rfl (by rw[kO];omega)|exact fV rfl rfl (by rw[List.eq_nil_of_length_eq_zero (show(l.take k).length=0 by omega)];rfl) (by rw[kO];omega)|exact fV rfl rfl (by rw[List.eq_nil_of_length_eq_zero (show(l.drop k).length=0 by omega)];rfl) (by rw[kG,List.length_singleton];omega)|exact fV rfl rfl (cut3 _ _) (by rw[kG,List.length_singleton])|exact rdA|fail) ?_)) (by repeat(first|exact Bxs.nil|refine Bxs.cons rfl rfl rfl (by first|exact Rb.cells (Rds.same (bv _ _)) rfl|exact rbB|exact Rb.cells (by(repeat(first|exact Rds.nil|refine Rds.cons (by first|exact fV rfl rfl rfl (by rw[kO];omega)|exact fV rfl rfl (by rw[List.eq_nil_of_length_eq_zero (show(l.take k).length=0 by omega)];rfl) (by rw[kO];omega)|exact fV rfl rfl (by rw[List.eq_nil_of_length_eq_zero (show(l.drop k).length=0 by omega)];rfl) (by rw[kG,List.length_singleton];omega)|exact fV rfl rfl (cut3 _ _) (by rw[kG,List.length_singleton])|exact rdA|fail) ?_|fail));(first|done|fail)) rfl|exact rbC|fail) ?_)) rfl rfl
  intro j ⟨h3,h4⟩;by_cases hj:j<rs.length
  ·have hrok:=hok rs[j] (kM hj);have hat:=fun h=>Di hq hj h (fun i hi=>h4 i (by omega) hi)
   cases hrj:rs[j] with
   | mk a lp rp=>
   rw[hrj] at hrok hat;obtain⟨hL,hR⟩:=hrok;dsimp only at hL hR;have h1:=left_c hL (l:=(cl.length:Int)::l.take k) (by rw[kO];omega);have h2:=DK hR (l:=l.drop k++[(cl.length:Int)+1]) (by rw[kG,List.length_singleton];omega);by_cases hb1:∃ u v,(cl.length:Int)::l.take k=u++v∧Mw lp v
   ·rw[decide_eq_true hb1] at h1;by_cases hb2:∃ u v,l.drop k++[(cl.length:Int)+1]=u++v∧Mw rp u
    ·rw[decide_eq_true hb2] at h2;have hqj:=hat ⟨hb1,hb2⟩;subst hqj
     have ha:FG rs (some j)=a:=by
      show(match rs[j]? with|some r=>r.act|none=>2)=a;rw[List.getElem?_eq_getElem hj,hrj]
     rw[ha];cases lp with
     | mk k1 c1 s1=>
     cases rp with
     | mk k2 c2 s2=>
     have hrc:cX rs[j]=[i64 a,i64 k1,aQ c1,lstS bU s1,i64 k2,aQ c2,lstS bU s2]:=by rw[hrj,o8]
     rw[bN] at h1 h2;repeat' ((conv=>whnf)<;>(first|refine Idx.atSE j0 j rfl hj hrc ?_|refine sg ?_|exact kQ|(refine Br.mk ?_ ?_<;>intro _<;>try(exfalso;omega))|refine stq ?_|refine Cll.pu (h1) ?_|refine aO.pu (h1) ?_|refine Cll.pu (h2) ?_|refine aO.pu (h2) ?_|fail))
     all_goals(conv=>whnf)
     exact aI.same rfl rfl
    ·rw[decide_eq_false hb2] at h2;have hno:¬Hit cl.length l k rs[j]:=by rw[hrj];exact fun h=>hb2 h.2
     cases lp with
     | mk k1 c1 s1=>
     cases rp with
     | mk k2 c2 s2=>
     have hrc:cX rs[j]=[i64 a,i64 k1,aQ c1,lstS bU s1,i64 k2,aQ c2,lstS bU s2]:=by rw[hrj,o8]
     rw[bN] at h1 h2;repeat' ((conv=>whnf)<;>(first|refine Idx.atSE j0 j rfl hj hrc ?_|refine sg ?_|exact kQ|(refine Br.mk ?_ ?_<;>intro _<;>try(exfalso;omega))|refine stq ?_|refine Cll.pu (h1) ?_|refine aO.pu (h1) ?_|refine Cll.pu (h2) ?_|refine aO.pu (h2) ?_|fail))
     all_goals(conv=>whnf)
     refine⟨j+1,⟨by omega,fun i hi hij=>?_⟩,by omega,?_⟩
     ·by_cases e:i=j
      ·subst e;exact hno
      ·exact h4 i hi (by omega)
     exact Lf.of2 [(0,_)] [] (by repeat(first|exact aM.nil|refine aM.cons rfl (by first|exact Rd.same (aF _)|exact rdA|fail) ?_)) (by repeat(first|exact Bxs.nil|refine Bxs.cons rfl rfl rfl (by first|exact Rb.cells (Rds.same (bv _ _)) rfl|exact rbB|exact Rb.cells (by(repeat(first|exact Rds.nil|refine Rds.cons (by first|exact Rd.same (aF _)|exact rdA|fail) ?_|fail));(first|done|fail)) rfl|exact rbC|fail) ?_)) rfl rfl
   ·rw[decide_eq_false hb1] at h1;have hno:¬Hit cl.length l k rs[j]:=by rw[hrj];exact fun h=>hb1 h.1
    cases lp with
    | mk k1 c1 s1=>
    cases rp with
    | mk k2 c2 s2=>
    have hrc:cX rs[j]=[i64 a,i64 k1,aQ c1,lstS bU s1,i64 k2,aQ c2,lstS bU s2]:=by rw[hrj,o8]
    rw[bN] at h1;repeat' ((conv=>whnf)<;>(first|refine Idx.atSE j0 j rfl hj hrc ?_|refine sg ?_|exact kQ|(refine Br.mk ?_ ?_<;>intro _<;>try(exfalso;omega))|refine stq ?_|refine Cll.pu (h1) ?_|refine aO.pu (h1) ?_|fail))
    all_goals(conv=>whnf)
    refine⟨j+1,⟨by omega,fun i hi hij=>?_⟩,by omega,?_⟩
    ·by_cases e:i=j
     ·subst e;exact hno
     ·exact h4 i hi (by omega)
    exact Lf.of2 [(0,_)] [] (by repeat(first|exact aM.nil|refine aM.cons rfl (by first|exact Rd.same (aF _)|exact rdA|fail) ?_)) (by repeat(first|exact Bxs.nil|refine Bxs.cons rfl rfl rfl (by first|exact Rb.cells (Rds.same (bv _ _)) rfl|exact rbB|exact Rb.cells (by(repeat(first|exact Rds.nil|refine Rds.cons (by first|exact Rd.same (aF _)|exact rdA|fail) ?_|fail));(first|done|fail)) rfl|exact rbC|fail) ?_)) rfl rfl
  ·have hqn:=Dh hq (fun i hi=>h4 i hi (by omega));subst hqn;repeat' ((conv=>whnf)<;>(first|refine sg ?_|exact kQ|(refine Br.mk ?_ ?_<;>intro _<;>try(exfalso;omega))|refine stq ?_|fail))
   all_goals(conv=>whnf)
   exact aI.same rfl rfl
end
section
open Go Go.Am
set_option maxRecDepth 100000
variable [GT]
abbrev rp (n:Nat) (x:List Nat):List (List Nat):=List.replicate n x
def side (b:Bool) (r:Rul):Pat:=match b with|true=>r.left|false=>rev r.right
def kj (b:Bool) (e n:Nat) (N M:List (List Nat)):Nat->List Rul->List e9->Bool
 | _,[],[]=>true
 | i,r::rs,C::Cs=>C.b1 (side b r) n&&C.b2 e n&&C.b3 n i N M&&kj b e n N M (i+1) rs Cs
 | _,_,_=>false
theorem qn {b:Bool}{e n:Nat}{N M:List (List Nat)}:∀ {rs:List Rul}{Cs:List e9}{i:Nat},kj b e n N M i rs Cs=true->∀ j (h:j<rs.length),∃ C:e9,C.b1 (side b rs[j]) n=true∧C.b2 e n=true∧C.b3 n (i+j) N M=true
 | [],_,_,_,j,h=>by simp at h
 | _::_,[],_,h,_,_=>by simp[kj] at h
 | r::rs,C::Cs,i,h,j,hj=>by
  simp only[kj,kC] at h;obtain⟨⟨⟨h1,h2⟩,h3⟩,h4⟩:=h;cases j with
  | zero=>exact⟨C,h1,h2,h3⟩
  | succ j=>
   obtain⟨C',k1,k2,k3⟩:=qn h4 j (by simpa using hj);exact⟨C',by simpa using k1,k2,by rw[show i+(j+1)=i+1+j by omega];exact k3⟩
def nat (l:List Int):List Nat:=l.map Int.toNat
theorem rZ {l:List Int}(h:∀ x,x∈l->0<=x):pY (nat l)=l:=by
 unfold pY nat;rw[List.map_map]
 conv=>rhs;rw[<-List.map_id l]
 exact List.map_congr_left fun x hx=>by
  have:=h x hx
  simp only[Function.comp,id];omega
theorem uA {l:List Int}{c:Int}(h:CL l c){x:Int}(hx:x∈l):0<=x∧x<c:=by
 obtain⟨i,hi,rfl⟩:=List.mem_iff_getElem.1 hx;exact h i hi
theorem rk (N:List (List Nat)) (y:List Nat) (c:Nat):fe N (y++[c])=(N.getD (fe N y) []).getD c 0:=by
 simp[fe,List.foldl_append]
theorem yK {N:List (List Nat)}{l:List Int}{c:Int}(hc:CL l c):∀ {k:Nat},k<=l.length->stL (cd N) l k=(fe N (nat (l.take k)):Int)
 | 0,_=>rfl
 | k+1,hk=>by
  have h1:=(hc k (by omega)).1;rw[stL,yK hc (by omega),aX (show k<l.length by omega)];have e1:l.take (k+1)=l.take k++[l[k]]:=by rw[List.take_add_one,List.getElem?_eq_getElem (by omega)];rfl
  rw[e1,show nat (l.take k++[l[k]])=nat (l.take k)++[l[k].toNat] by simp only[nat,List.map_append,List.map_cons,List.map_nil],rk,<-ye,Int.toNat_of_nonneg h1]
theorem yJ {N:List (List Nat)}{l:List Int}{c:Int}(hc:CL l c):∀ {j:Nat},j<=l.length->stR (cd N) l j=(fe N (nat (l.drop (l.length-j)).reverse):Int)
 | 0,_=>by simp[stR,nat,fe]
 | j+1,hj=>by
  have h1:=(hc (l.length-1-j) (by omega)).1;rw[stR,yJ hc (by omega),aX (show l.length-1-j<l.length by omega)]
  have e1:l.drop (l.length-(j+1))=l[l.length-1-j]'(by omega)::l.drop (l.length-j):=by
   rw[kK (show l.length-(j+1)<l.length by omega)];congr 1
   ·congr 1;omega
   ·congr 1;omega
  rw[e1,List.reverse_cons,show ∀ (a:List Int) (x:Int),nat (a++[x])=nat a++[x.toNat] from fun a x=>by simp[nat],rk,<-ye,Int.toNat_of_nonneg h1]
theorem uJ {r:Nat}:∀ {m:List Nat}{lo:Nat},uK r lo m=true->∀ x,x∈m->lo<=x∧x<r
 | [],_,_,x,h=>by simp at h
 | y::m,lo,h,x,hx=>by
  simp only[uK,kC,Nat.ble_eq,Nat.blt_eq] at h;rcases List.mem_cons.1 hx with rfl|hx
  ·exact⟨h.1.1,h.1.2⟩
  ·have:=uJ h.2 x hx
   omega
theorem v4 {r:Nat}{b:List Nat}:∀ {a:List Nat}{lo i:Nat},uK r lo a=true->fcN a b=some i->i∈a∧i∈b∧∀ j,j∈a->j<i->j∉b
 | [],_,_,_,h=>by simp[fcN] at h
 | x::a,lo,i,ha,h=>by
  simp only[uK,kC,Nat.ble_eq,Nat.blt_eq] at ha;simp only[fcN] at h;cases hm:lR x b with
  | true=>
   rw[hm,cond_true] at h;injection h with h;subst h
   refine⟨by simp,ej.1 hm,fun j hj hlt=>?_⟩;rcases List.mem_cons.1 hj with rfl|hj
   ·omega
   ·have:=uJ ha.2 j hj;omega
  | false=>
   rw[hm,cond_false] at h;obtain⟨h1,h2,h3⟩:=v4 ha.2 h;refine⟨List.mem_cons_of_mem _ h1,h2,fun j hj hlt=>?_⟩;rcases List.mem_cons.1 hj with rfl|hj
   ·intro hb;rw[ej.2 hb] at hm;cases hm
   ·exact h3 j hj hlt
theorem v5 {b:List Nat}:∀ {a:List Nat},fcN a b=none->∀ j,j∈a->j∉b
 | [],_,j,h=>by simp at h
 | x::a,h,j,hj=>by
  simp only[fcN] at h;cases hm:lR x b with
  | true=>rw[hm,cond_true] at h;cases h
  | false=>
   rw[hm,cond_false] at h;rcases List.mem_cons.1 hj with rfl|hj
   ·intro hb;rw[ej.2 hb] at hm;cases hm
   ·exact v5 h j hj
structure Law (n:Nat) (rs:List Rul) (LN LM RN RM:List (List Nat)):Prop where
 L:∃ Cs,kj true n n LN LM 0 rs Cs=true
 R:∃ Cs,kj false (n+1) n RN RM 0 rs Cs=true
 sL:sdB n rs.length LN LM=true
 sR:sdB n rs.length RN RM=true
theorem wy {n r:Nat}{N M:List (List Nat)}(h:sdB n r N M=true):0<N.length∧(∀ s c,s<N.length->c<n->(N.getD s []).getD c 0<N.length)∧∀ s,uK r 0 (M.getD s [])=true:=by
 simp only[sdB,kC,Nat.ble_eq,Nat.beq_eq,kL,Nat.blt_eq] at h;obtain⟨⟨⟨⟨⟨h0,h1⟩,h2⟩,h3⟩,h4⟩,h5⟩:=h;refine⟨by omega,fun s c hs hc=>?_,fun s=>?_⟩
 ·have e1:N.getD s []=N[s]:=by simp[List.getD,hs]
  have hr:=h4 N[s] (kM hs);rw[e1];have hc':c<N[s].length:=by rw[hr.1];exact hc
  have e2:N[s].getD c 0=N[s][c]:=by simp[List.getD,hc']
  rw[e2];exact hr.2 _ (kM hc')
 ·by_cases hs:s<M.length
  ·have e1:M.getD s []=M[s]:=by simp[List.getD,hs]
   rw[e1];exact(h5 M[s] (kM hs)).1
  ·have e1:M.getD s []=[]:=by simp[List.getD,hs]
   rw[e1];rfl
theorem rev_ex {p:Pat}{w:List Int}{c:Int}:(∃ u v,w++[c]=u++v∧Mw p u)↔∃ u v,c::w.reverse=u++v∧Mw (rev p) v:=by
 constructor
 ·rintro⟨u,v,e,h⟩;refine⟨v.reverse,u.reverse,?_,h.back⟩;rw[<-List.reverse_append,<-e,List.reverse_append];rfl
 ·rintro⟨u,v,e,h⟩;refine⟨v.reverse,u.reverse,?_,?_⟩
  ·rw[<-List.reverse_append,<-e,List.reverse_cons,List.reverse_reverse]
  ·rw[Mw.back_iff,List.reverse_reverse];exact h
theorem nB {n:Nat}{rs:List Rul}{LN LM RN RM:List (List Nat)}(W:Law n rs LN LM RN RM){l:List Int}(hc:CL l n){k j:Nat}(hj:j<rs.length) :
  Hit n l k rs[j]↔j∈LM.getD (fe LN (nat (l.take k))) []∧j∈RM.getD (fe RN (nat (l.drop k).reverse)) []:=by
 obtain⟨CL',hL⟩:=W.L;obtain⟨CR',hR⟩:=W.R;obtain⟨C1,a1,a2,a3⟩:=qn hL j hj;obtain⟨C2,b1,b2,b3⟩:=qn hR j hj;obtain⟨f1,f2,_⟩:=wy W.sL;obtain⟨g1,g2,_⟩:=wy W.sR;rw[Nat.zero_add] at a3 b3;have w1:pY (nat (l.take k))=l.take k:=rZ fun x hx=>(uA hc (List.mem_of_mem_take hx)).1
 have w2:pY (nat (l.drop k).reverse)=(l.drop k).reverse:=rZ fun x hx=>(uA hc (List.mem_of_mem_drop (List.mem_reverse.1 hx))).1
 have m1:∀ c,c∈nat (l.take k)->c<n:=fun c h=>by
  simp only[nat,List.mem_map] at h;obtain⟨x,hx,rfl⟩:=h;have:=uA hc (List.mem_of_mem_take hx)
  omega
 have m2:∀ c,c∈nat (l.drop k).reverse->c<n:=fun c h=>by
  simp only[nat,List.mem_map] at h;obtain⟨x,hx,rfl⟩:=h;have:=uA hc (List.mem_of_mem_drop (List.mem_reverse.1 hx))
  omega
 have r1:=zK (by omega) a1 a2 a3 f1 f2 (nat (l.take k)) m1;have r2:=zK (by omega) b1 b2 b3 g1 g2 (nat (l.drop k).reverse) m2;rw[w1] at r1;rw[w2] at r2;rw[r1,r2];unfold Hit;rw[rev_ex];exact Iff.rfl
theorem Ce {n:Nat}{rs:List Rul}{LN LM RN RM:List (List Nat)}(W:Law n rs LN LM RN RM){l:List Int}(hc:CL l n){k:Nat} :
  wg n rs l k (fcN (LM.getD (fe LN (nat (l.take k))) []) (RM.getD (fe RN (nat (l.drop k).reverse)) [])):=by
 have ha:=(wy W.sL).2.2 (fe LN (nat (l.take k)));cases hf:fcN (LM.getD (fe LN (nat (l.take k))) []) (RM.getD (fe RN (nat (l.drop k).reverse)) []) with
 | none=>exact fun j hj h=>v5 hf j ((nB W hc hj).1 h).1 ((nB W hc hj).1 h).2
 | some i=>
  obtain⟨h1,h2,h3⟩:=v4 ha hf;have hi:=(uJ ha i h1).2;exact⟨hi,(nB W hc hi).2 ⟨h1,h2⟩,fun j hj h=>h3 j ((nB W hc (by omega)).1 h).1 hj ((nB W hc (by omega)).1 h).2⟩
theorem Ez {cl:List Str}{rs:List Rul}{LN LM RN RM:List (List Nat)}(W:Law cl.length rs LN LM RN RM){l:List Int}(hc:CL l cl.length){k:Nat}(hk:k<=l.length) :
  ∃ q,wg cl.length rs l k q∧Cv (tbl cl (rs.map (·.act)) LN LM RN RM) (rR (tbl cl (rs.map (·.act)) LN LM RN RM) (stL (cd LN) l k) (stR (cd RN) l (l.length-k)))=FG rs q ∧
   decI (rR (tbl cl (rs.map (·.act)) LN LM RN RM) (stL (cd LN) l k) (stR (cd RN) l (l.length-k)))=idxR q:=by
 have e1:=yK (N:=LN) hc hk;have e2:=yJ (N:=RN) hc (j:=l.length-k) (by omega);rw[show l.length-(l.length-k)=k by omega] at e2;have hF:=Ce W hc (k:=k);rw[e1,e2];generalize fe LN (nat (l.take k))=x at hF;generalize fe RN (nat (l.drop k).reverse)=y at hF
 have hd:rR (tbl cl (rs.map (·.act)) LN LM RN RM) (x:Int) (y:Int)=(fcN (LM.getD x []) (RM.getD y [])).map fun k:Nat=>(k:Int):=by
  unfold rR;show fc ((cd LM).getD (x:Int).toNat []) ((cd RM).getD (y:Int).toNat [])=_;rw[Int.toNat_natCast,Int.toNat_natCast,nT,nT,Cg]
 rw[hd];refine⟨_,hF,?_,?_⟩
 ·cases hq:fcN (LM.getD x []) (RM.getD y []) with
  | none=>rfl
  | some i=>
   rw[hq] at hF;obtain⟨hi,_⟩:=hF;show(rs.map (·.act)).getD ((i:Nat):Int).toNat 0=(match rs[i]? with|some r=>r.act|none=>2);rw[Int.toNat_natCast,List.getElem?_eq_getElem hi];simp[List.getD,hi]
 ·cases fcN (LM.getD x []) (RM.getD y []) with
  | none=>rfl
  | some i=>rfl
end
end Go.Proofs.YtjpgpihbhicinaaGreatDoor
