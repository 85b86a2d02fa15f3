/-
  Contracts over data: decompose.measure.
-/
import Derived.Test.YtihggclfifimoaaGreatDoorNM
set_option linter.unusedSectionVars false
namespace Go.Proofs.YtihggclfifimoaaGreatDoor
open Go Go.Am Classical
set_option maxHeartbeats 8000000
set_option maxRecDepth 100000
section
theorem xNO.rdX {p:Prop}(h:p:=by first|exact Rd.fn .nil (Rds.cons (Rd.frzp rfl rfl (Rds.same (ce n))) (Rds.cons (Rd.ptr rfl) (Rds.cons (Rd.ptr rfl) (Rds.cons (Rd.ptr rfl) (Rds.cons (Rd.ptr rfl) Rds.nil)))))|exact Rd.same (bH _)|exact HI|exact Rd.same (nbN n)|fail):p:=h
theorem xNO.rbX {p:Prop}(h:p:=by first|exact Rb.map (Res.same (nbZ _))|fail):p:=h
open xNO
def msF (on:Int->Option (List Int)) (f:Nat) (l:List Mpg):SzS:=l.foldl (λst m=>(szF on f m.frm st).2) ([],false,false)
theorem Dn {on:Int->Option (List Int)}{f:Nat}{l:List Mpg}{k:Nat}(h:k<l.length):msF on f (l.take (k+1))=(szF on f l[k].frm (msF on f (l.take k))).2:=by
 unfold msF;rw[aS h,List.foldl_append];rfl
theorem uS (l:List Mpg) (zs:List (Int×Int)):left l zs<=l.length:=List.length_filter_le _ _
theorem Bc {n:Nm}(hn:n.dc.length<=1000) (hr:i9 n.dc) (hkd:∀ m∈n.dc,hk m.frm=0) (hto:∀ c to,once n true c=some to->to.length<=1000) :
  Pu Tryz.prog 184 [nmD n] (.tup [boo (msF (once n true) (n.dc.length+1) n.dc).2.1,boo (msF (once n true) (n.dc.length+1) n.dc).2.2]):=by
 refine pv Tryz.func184 ?_;repeat' ((conv=>whnf);first|exact kQ|(refine bk ?_ ?_<;>intro _<;>try(exfalso;omega))|refine stq ?_)
 refine aH.by2 aA T0 (λ(k:Nat) (st:SzS)=>⟨tmp 24 [(2,.ptr 0 0),(3,.ptr 1 0),(5,.ptr 4 0),(11,ag n.dc),(12,i64 n.dc.length),(13,i64 (k:Int))],⟨5,szH n st.1 st.2.1 st.2.2⟩⟩)
  (λk st=>(k<=n.dc.length∧SzB st.1)∧st=msF (once n true) (n.dc.length+1) (n.dc.take k)) (λk _=>n.dc.length-k) 0 ([],false,false) ⟨⟨by omega,λp hp=>by simp at hp⟩,rfl⟩ ?_ ?_
 ·exact lq [(0,1),(1,2),(2,3),(3,4),(4,6)] [0]
 intro k ⟨zs,cy,lg⟩ ⟨⟨h3,h5⟩,h4⟩;by_cases hkl:k<n.dc.length
 ·have hb:=size_c hn hr hkd hto (n.dc.length+1) n.dc[k].frm zs cy lg (.inr (by have:=uS n.dc zs;omega)) h5;have hbd:=jE (once n true) (n.dc.length+1) n.dc[k].frm (zs,cy,lg) h5;generalize hS:szF (once n true) (n.dc.length+1) n.dc[k].frm (zs,cy,lg)=S at hb hbd;have h6:S.2=msF (once n true) (n.dc.length+1) (n.dc.take (k+1)):=by rw[Dn hkl,<-h4,<-hS]
  repeat' ((conv=>whnf);first|exact kQ|(refine bk ?_ ?_<;>intro _<;>try(exfalso;omega))|refine stq ?_|refine Cll.emb hb [(0,0),(1,1),(2,2),(3,3),(4,4)] [] (i64 S.1) [(0,.cells [boo S.2.2.1] true),(1,.cells [boo S.2.2.2] true),(2,.map (zsM S.2.1)),(3,.cells [.map 2] true),(4,.cells [yI n] true)] [] rfl cZ bxA rdA bxA reA ?_|fail)
  all_goals(conv=>whnf)
  all_goals first
   | (refine⟨k+1,S.2,⟨⟨by omega,hbd.2⟩,h6⟩,by omega,?_⟩
      exact lq [(0,0),(1,1),(2,2),(3,3),(4,4)] [])
 ·rw[kE om] at h4;rw[<-h4];repeat' ((conv=>whnf);first|exact kQ|(refine bk ?_ ?_<;>intro _<;>try(exfalso;omega))|refine stq ?_|refine aX.by (id:=9) aA T0 [0,0,1,7] (by kernel_rfl) ?_|refine Chk.mk ⟨_,rfl⟩ ?_|fail)
  all_goals(conv=>whnf)
  all_goals first
   | exact aE.same rfl rfl
end
section
set_option linter.unusedVariables false
mutual
inductive SzR (on:Int->Option (List Int)):Int->Int->Prop
 | leaf {c:Int}:on c=none->SzR on c 1
 | nil {c:Int}:on c=some []->SzR on c 1
 | node {c s:Int} {to:List Int}:on c=some to->to≠[]->mS on to s->SzR on c s
inductive mS (on:Int->Option (List Int)):List Int->Int->Prop
 | nil:mS on [] 0
 | cons {e a b:Int} {l:List Int}:SzR on e a->mS on l b->mS on (e::l) (a+b)
end
def Dep (on:Int->Option (List Int)):Nat->Int->Prop
 | 0,c=>on c=none
 | d+1,c=>∀ to,on c=some to->∀ e∈to,Dep on d e
theorem Dep.up {on:Int->Option (List Int)}:∀ {d:Nat}{c:Int},Dep on d c->Dep on (d+1) c
 | 0,c,h=>λto ht=>by rw[show on c=none from h] at ht;cases ht
 | d+1,c,h=>λto ht e he=>Dep.up (h to ht e he)
theorem Dep.le {on:Int->Option (List Int)}{d k:Nat}{c:Int}(h:Dep on d c):Dep on (d+k) c:=by
 induction k with
 | zero=>exact h
 | succ k ih=>exact ih.up
theorem SzR.dep {on:Int->Option (List Int)}{c s:Int}(h:SzR on c s):∃ d,Dep on d c:=
 SzR.rec (motive_1:=λc _ _=>∃ d,Dep on d c) (motive_2:=λl _ _=>∃ d,∀ e∈l,Dep on d e)
  (λh=>⟨0,h⟩) (λ{c} h=>⟨1,λto ht e he=>by rw[h] at ht;injection ht with ht;subst ht;simp at he⟩)
  (λ{c s to} h1 h2 _ ih=>by
   obtain⟨d,hd⟩:=ih
   exact⟨d+1,λto' ht e he=>by rw[h1] at ht;injection ht with ht;subst ht;exact hd e he⟩)
  ⟨0,λe he=>by simp at he⟩
  (λ{e a b l} _ _ ih1 ih2=>by
   obtain⟨d1,h1⟩:=ih1;obtain⟨d2,h2⟩:=ih2;refine⟨d1+d2,λx hx=>?_⟩;rcases List.mem_cons.1 hx with rfl|hx
   ·exact h1.le
   ·rw[Nat.add_comm];exact(h2 x hx).le) h
theorem AR {on:Int->Option (List Int)}(h:∀ c,∃ d,Dep on d c):nf on:=by
 have hx:∀ c,∃ d,Dep on d c∧∀ k,k<d->¬Dep on k c:=λc=>by
  obtain⟨d,hd⟩:=h c
  induction d using Nat.strongRecOn with
  | _ d ih=>
   by_cases hm:∃ k,k<d∧Dep on k c
   ·obtain⟨k,h1,h2⟩:=hm;exact ih k h1 h2
   ·exact⟨d,hd,λk hk hd=>hm ⟨k,hk,hd⟩⟩
 refine⟨λc=>Classical.choose (hx c),λc to ht e he=>?_⟩;show Classical.choose (hx e)<Classical.choose (hx c);have h1:=Classical.choose_spec (hx c);have h2:=Classical.choose_spec (hx e);generalize hd:Classical.choose (hx c)=d at h1;generalize Classical.choose (hx e)=d' at h2;cases d with
 | zero=>rw[show on c=none from h1.1] at ht;cases ht
 | succ d=>
  have h3:=h1.1 to ht e he;rcases Nat.lt_or_ge d d' with hlt|hge
  ·exact absurd h3 (h2.2 d hlt)
  ·omega
theorem SzR.len {on:Int->Option (List Int)}{ex:Int->List Int}(hx:oX on ex){c s:Int}(h:SzR on c s):((ex c).length:Int)<=s∧1<=s:=
 SzR.rec (motive_1:=λc s _=>((ex c).length:Int)<=s∧1<=s) (motive_2:=λl s _=>((l.flatMap ex).length:Int)<=s∧(l.length:Int)<=s)
  (λh=>by rw[hx.none h];simp) (λh=>by rw[hx.some h];simp)
  (λ{c s to} h1 h2 _ ih=>by
   rw[hx.some h1];refine⟨ih.1,?_⟩
   have:to.length≠0:=λh=>h2 (List.eq_nil_of_length_eq_zero h)
   omega)
  si
  (λ{e a b l} _ _ ih1 ih2=>by
   simp only[List.flatMap_cons,kG,kO]
   omega) h
def SzP (on:Int->Option (List Int)) (st:SzS):Prop:=st.2.1=false->∀ p∈st.1,p.2≠-1->∃ s,SzR on p.1 s∧p.2=min s 65
theorem tf (on:Int->Option (List Int)):∀ (f:Nat) (c:Int) (st:SzS),(szF on f c st).2.2.1=false->st.2.1=false
 | 0,c,st,h=>h
 | f+1,c,st,h=>by
  have hL:∀ (l:List Int) (r:Int×SzS),(szL (szF on f) l r).2.2.1=false->r.2.2.1=false:=λl=>by
   induction l with
   | nil=>intro r h;exact h
   | cons e l ih=>intro r h;exact tf on f e r.2 (ih (min (r.1+(szF on f e r.2).1) 65,(szF on f e r.2).2) h)
  simp only[szF] at h;split at h
  ·exact h
  ·split at h
   ·exact h
   ·split at h
    ·simp only[Bool.or_eq_false_iff] at h;exact h.1
    ·exact hL _ _ h
theorem te (on:Int->Option (List Int)) (f:Nat):∀ (l:List Int) (r:Int×SzS),(szL (szF on f) l r).2.2.1=false->r.2.2.1=false
 | [],r,h=>h
 | e::l,r,h=>tf on f e r.2 (te on f l (min (r.1+(szF on f e r.2).1) 65,(szF on f e r.2).2) h)
theorem SzP.set {on:Int->Option (List Int)}{c v:Int}{zs:List (Int×Int)}{cy lg lg':Bool}(h:SzP on (zs,cy,lg)) (hv:cy=false->∃ s,SzR on c s∧v=min s 65):SzP on (mf c v zs,cy,lg'):=by
 intro hc p hp hne;simp only at hc hp;unfold mf at hp;split at hp
 ·rcases List.mem_or_eq_of_mem_set hp with hp|rfl
  ·exact h hc p hp hne
  ·exact hv hc
 ·exact h hc p hp hne
theorem SzR.pos {on:Int->Option (List Int)}{c s:Int}(h:SzR on c s):1<=s:=
 SzR.rec (motive_1:=λc s _=>1<=s) (motive_2:=λl s _=>(l.length:Int)<=s)
  (λh=>by simp) (λh=>by simp)
  (λ{c s to} h1 h2 _ ih=>by
   have:to.length≠0:=λh=>h2 (List.eq_nil_of_length_eq_zero h)
   omega)
  si (λ{e a b l} _ _ ih1 ih2=>by simp only[kO];omega) h
theorem mS.pos {on:Int->Option (List Int)}:∀ {l:List Int}{s:Int},mS on l s->0<=s
 | _,_,.nil=>Int.le_refl _
 | _,_,.cons h1 h2=>by have:=h1.pos;have:=h2.pos;omega
theorem qJ {n:Nm}(hkd:∀ m∈n.dc,hk m.frm=0):∀ (f:Nat) (c:Int) (st:SzS),(once n true c=none∨left n.dc st.1+1<=f)->SzP (once n true) st->SzB st.1 ->
  ((szF (once n true) f c st).2.2.1=false->∃ s,SzR (once n true) c s∧(szF (once n true) f c st).1=min s 65)∧SzP (once n true) (szF (once n true) f c st).2
 | 0,c,st,hf,h,_=>⟨λ_=>⟨1,.leaf (by rcases hf with hf|hf;exact hf;omega),rfl⟩,h⟩
 | f+1,c,st,hf,h,hb=>by
  simp only[szF];split
  ·rename_i ho;exact⟨λ_=>⟨1,.leaf ho,rfl⟩,h⟩
  ·rename_i to ho;split
   ·rename_i he;subst he;exact⟨λ_=>⟨1,.nil ho,rfl⟩,h⟩
   ·rename_i he;split
    ·rename_i i v hl;obtain⟨h1,_,h3⟩:=mF hl;refine⟨λhc=>?_,λhc=>?_⟩
     ·simp only[Bool.or_eq_false_iff,beq_eq_false_iff_ne] at hc;obtain⟨s,h4,h5⟩:=h hc.1 (c,v) (h3▸kM h1) hc.2;have:=h4.pos
      exact⟨s,h4,by simp only at h5 ⊢;omega⟩
     ·simp only[Bool.or_eq_false_iff] at hc;exact h hc.1
    ·rename_i hz
     have hL:∀ (l:List Int) (r:Int×SzS),(∀ e∈l,e∈to)->(∃ ks,r.2.1.map (·.1)=st.1.map (·.1)++c::ks)->(0<=r.1∧r.1<=65)->SzP (once n true) r.2->SzB r.2.1 ->
       ((szL (szF (once n true) f) l r).2.2.1=false->∃ b,mS (once n true) l b∧(szL (szF (once n true) f) l r).1=min (r.1+b) 65)∧SzP (once n true) (szL (szF (once n true) f) l r).2:=λl=>by
      induction l with
      | nil=>intro r _ _ hr hp _;exact⟨λ_=>⟨0,.nil,by simp only[szL];omega⟩,hp⟩
      | cons e l ih=>
       intro r hm ⟨ks,hks⟩ hr hp hbr
       have hcall:once n true e=none∨left n.dc r.2.1+1<=f:=by
        by_cases h5:4<=hk c
        ·left
         have:to=hd c:=by have ho:=ho;unfold once at ho;rw[if_pos h5] at ho;injection ho with ho;exact ho.symm
         exact dr hkd h5 (by rw[<-this];exact hm e si)
        ·right;obtain⟨m,hm1,hm2,_⟩:=gB ho h5;have:=uR (zs:=st.1) (zs2:=r.2.1) (ks:=ks) hm1 (by rw[hm2];exact hz) (by rw[hks,hm2])
         rcases hf with hf|hf
         ·rw[ho] at hf;cases hf
         ·omega
       obtain⟨q1,q2⟩:=qJ hkd f e r.2 hcall hp hbr;obtain⟨b1,b2⟩:=jE (once n true) f e r.2 hbr;obtain⟨k1,hk1⟩:=mc (once n true) f e r.2;obtain⟨i1,i2⟩:=ih (min (r.1+(szF (once n true) f e r.2).1) 65,(szF (once n true) f e r.2).2) (λx hx=>hm x (List.mem_cons_of_mem _ hx)) ⟨ks++k1,by simp only;rw[hk1,hks];simp⟩ (by constructor<;>simp only<;>omega) q2 b2;refine⟨λhc=>?_,i2⟩;have hc':(szL (szF (once n true) f) l (min (r.1+(szF (once n true) f e r.2).1) 65,(szF (once n true) f e r.2).2)).2.2.1=false:=hc;obtain⟨b,g1,g2⟩:=i1 hc';obtain⟨a,g3,g4⟩:=q1 (te (once n true) f l (min (r.1+(szF (once n true) f e r.2).1) 65,(szF (once n true) f e r.2).2) hc');have p1:=g3.pos;have p2:=g1.pos;refine⟨a+b,.cons g3 g1,?_⟩;show(szL (szF (once n true) f) l (min (r.1+(szF (once n true) f e r.2).1) 65,(szF (once n true) f e r.2).2)).1=_;rw[g2];simp only[g4];omega
     obtain⟨r1,r2⟩:=hL to (0,(st.1++[(c,-1)],st.2.1,st.2.2)) (λ_ h=>h) ⟨[],by simp⟩ si (λhc p hp hne=>by
      rcases List.mem_append.1 hp with hp|hp
      ·exact h hc p hp hne
      ·rw[List.mem_singleton.1 hp] at hne;exact absurd rfl hne) (λp hp=>by
      rcases List.mem_append.1 hp with hp|hp
      ·exact hb p hp
      ·rw[List.mem_singleton.1 hp];simp)
     have res:(szL (szF (once n true) f) to (0,(st.1++[(c,-1)],st.2.1,st.2.2))).2.2.1=false->∃ s,SzR (once n true) c s∧(szL (szF (once n true) f) to (0,(st.1++[(c,-1)],st.2.1,st.2.2))).1=min s 65:=λhc=>by
      obtain⟨b,g1,g2⟩:=r1 hc;exact⟨b,.node ho he g1,by rw[g2];simp only[Int.zero_add]⟩
     exact⟨res,SzP.set r2 res⟩
theorem qL (on:Int->Option (List Int)):∀ (f:Nat) (c:Int) (st:SzS),(∀ p∈st.1,p.2<=64∨st.2.2=true)->((szF on f c st).1<=64∨(szF on f c st).2.2.2=true)∧(∀ p∈(szF on f c st).2.1,p.2<=64∨(szF on f c st).2.2.2=true)∧(st.2.2=true->(szF on f c st).2.2.2=true)
 | 0,c,st,h=>⟨.inl (by simp[szF]),h,λh=>h⟩
 | f+1,c,st,h=>by
  have hL:∀ (l:List Int) (r:Int×SzS),(∀ p∈r.2.1,p.2<=64∨r.2.2.2=true)->(∀ p∈(szL (szF on f) l r).2.1,p.2<=64∨(szL (szF on f) l r).2.2.2=true)∧(r.2.2.2=true->(szL (szF on f) l r).2.2.2=true):=λl=>by
   induction l with
   | nil=>intro r h;exact⟨h,λh=>h⟩
   | cons e l ih=>
    intro r h;obtain⟨_,h2,h3⟩:=qL on f e r.2 h;obtain⟨h4,h5⟩:=ih (min (r.1+(szF on f e r.2).1) 65,(szF on f e r.2).2) h2;exact⟨h4,λx=>h5 (h3 x)⟩
  simp only[szF];split
  ·exact⟨.inl si,h,λh=>h⟩
  ·split
   ·exact⟨.inl si,h,λh=>h⟩
   ·split
    ·rename_i i v hl;obtain⟨h1,_,h3⟩:=mF hl;have:=h _ (h3▸kM h1)
     refine⟨?_,h,λh=>h⟩;rcases this with h4|h4
     ·left;simp only at h4 ⊢;omega
     ·exact .inr h4
    ·obtain⟨h1,h2⟩:=hL _ (0,(st.1++[(c,-1)],st.2.1,st.2.2)) (λp hp=>by
      rcases List.mem_append.1 hp with hp|hp
      ·exact h p hp
      ·rw[List.mem_singleton.1 hp];simp)
     rename_i to _ _ _;refine⟨?_,λp hp=>?_,λhl=>by simp only[kN];exact .inl (h2 hl)⟩
     ·simp only[kN,decide_eq_true_eq];omega
     ·simp only[kN,decide_eq_true_eq];unfold mf at hp;split at hp
      ·rcases List.mem_or_eq_of_mem_set hp with hp|rfl
       ·rcases h1 p hp with h4|h4
        ·exact .inl h4
        ·exact .inr (.inl h4)
       ·simp only;omega
      ·rcases h1 p hp with h4|h4
       ·exact .inl h4
       ·exact .inr (.inl h4)
theorem Do {n:Nm}(hkd:∀ m∈n.dc,hk m.frm=0){f:Nat}(hf:n.dc.length+1<=f):∀ (l:List Mpg) (st:SzS),SzP (once n true) st->SzB st.1->(∀ p∈st.1,p.2<=64∨st.2.2=true) ->
  (l.foldl (λst m=>(szF (once n true) f m.frm st).2) st).2.1=false->(st.2.1=false)∧∀ m∈l,∃ s,SzR (once n true) m.frm s∧((l.foldl (λst m=>(szF (once n true) f m.frm st).2) st).2.2=false->s<=64)
 | [],st,_,_,_,hc=>⟨hc,λ_ h=>by simp at h⟩
 | m::l,st,hp,hb,hl,hc=>by
  simp only[List.foldl_cons] at hc ⊢;have hlf:once n true m.frm=none∨left n.dc st.1+1<=f:=.inr (by have:=uS n.dc st.1;omega);obtain⟨h1,h2⟩:=qJ hkd f m.frm st hlf hp hb;obtain⟨b1,b2⟩:=jE (once n true) f m.frm st hb;obtain⟨l1,l2,l3⟩:=qL (once n true) f m.frm st hl;obtain⟨h3,h4⟩:=Do hkd hf l (szF (once n true) f m.frm st).2 h2 b2 l2 hc;refine⟨tf _ _ _ _ h3,λx hx=>?_⟩;rcases List.mem_cons.1 hx with rfl|hx
  ·obtain⟨s,h5,h6⟩:=h1 h3;refine⟨s,h5,λhlong=>?_⟩
   have hmono:∀ (l:List Mpg) (st:SzS),(∀ p∈st.1,p.2<=64∨st.2.2=true)->st.2.2=true->(l.foldl (λst m=>(szF (once n true) f m.frm st).2) st).2.2=true:=λl=>by
    induction l with
    | nil=>intro st _ h;exact h
    | cons y l ih=>
     intro st hq h;obtain⟨_,q2,q3⟩:=qL (once n true) f y.frm st hq;exact ih _ q2 (q3 h)
   rcases l1 with l1|l1
   ·omega
   ·rw[hmono l _ l2 l1] at hlong;cases hlong
  ·exact h4 x hx
end
section
theorem xNQ.rdX {p:Prop}(h:p:=by first|exact Rd.same (bH _)|exact Rd.sl' rfl sim sim|fail):p:=h
theorem xNQ.rbX {p:Prop}(h:p:=by first|exact rbN|exact Rb.cells (Rds.eqs (ae (c:=ek) (sz:=1) (by intro _;rfl) (x::xs) n.dc[k].frm) (aG (by intro _;rfl) _)) rfl|fail):p:=h
open xNQ
structure Nm.ok (n:Nm):Prop where
 cl:n.cl.length<=1000
 dc:n.dc.length<=1000
 xc:n.xc.length<=12
 to:∀ i (h:i<n.dc.length),n.dc[i].to.length<=1000
 tag:∀ i (h:i<n.dc.length),n.dc[i].tag.length<=1000
theorem Nm.ok.ms {n:Nm}(h:n.ok):E6 n.dc:=⟨by have:=h.dc;omega,λi hi=>by have:=h.to i hi;omega,λi hi=>by have:=h.tag i hi;omega⟩
def nmX (n:Nm):List (Nat×Box):=[(0,.cells (nmC n) true)]
theorem rbN {h:aB}{fz:Nat->Bool}{σ:Nat->Option Nat}{n:Nm}:Rb h fz σ (.cells (nmC n) true) (.cells (nmC n) true):=.cells (.same (ce n)) rfl
def Ga (l:List Mpg):Prop:=∀ i (h:i+1<l.length),l[i+1].frm≠l[i].frm
def lu (m:Mpg):Prop:=m.tag=[]->m.to.length=1∨m.to.length=2
def iJ (l:List Mpg):List Int:=(l.filter λm=>decide (m.tag≠[])).map (·.frm)
theorem dh {l:List Mpg}{k:Nat}(h:k<l.length) (ht:¬l[k].tag=[]):iJ (l.take (k+1))=iJ (l.take k)++[l[k].frm]:=by
 unfold iJ;rw[aS h,List.filter_append,List.map_append];simp[ht]
theorem fS {l:List Mpg}{k:Nat}(h:k<l.length) (ht:l[k].tag=[]):iJ (l.take (k+1))=iJ (l.take k):=by
 unfold iJ;rw[aS h,List.filter_append,List.map_append];simp[ht]
theorem iU (l:List Mpg):(iJ l).length<=l.length:=by
 unfold iJ;rw[List.length_map];exact List.length_filter_le _ _
abbrev ek (x:Int):List D:=[i64 x]
structure Ch3 (n:Nm):Prop where
 cl:OrV n.cl
 dc:MOk n.dc
 xc:i7 n.xc
 dup:Ga n.dc
 two:∀ i (h:i<n.dc.length),lu n.dc[i]
 kind:∀ i (h:i<n.dc.length),hk n.dc[i].frm=0
theorem chk1_c {n:Nm}(hn:n.ok) (hne:¬Ch3 n):∃ e:Int,Pu Tryz.prog 94 [nmD n] (i64 e)∧(e=0->False):=by
 obtain⟨eo,o1,o2⟩:=l8 hn.cl;obtain⟨em,m1,m2⟩:=wY hn.ms;have v1:=qR hn.xc;have hlen:=hn.dc;by_cases hO:eo=0
 ·by_cases hM:em=0
  ·by_cases hV:i7 n.xc
   ·rw[decide_eq_true hV] at v1;by_cases hD:Ga n.dc
    ·by_cases hT:∀ i (h:i<n.dc.length),lu n.dc[i]
     ·by_cases hK:∀ i (h:i<n.dc.length),hk n.dc[i].frm=0
      ·exact absurd ⟨o2.1 hO,m2.1 hM,hV,hD,hT,hK⟩ hne
      ·refine⟨11,?_,λh=>by omega⟩;refine pv Tryz.func94 ?_;repeat' ((conv=>whnf);first|exact kQ|(refine bk ?_ ?_<;>intro _<;>try(exfalso;omega))|refine stq ?_|refine cp o1 ?_|refine cp m1 ?_|refine cp v1 ?_|fail)
       refine aH.by aA T0 (λk:Nat=>⟨tmp 108 [(1,.ptr 0 0),(5,i64 ((k+1:Nat):Int))],⟨1,nmX n⟩⟩) (λk=>k<=n.dc.length) (λk=>n.dc.length-k) 0 om ?_ ?_
       ·exact lq [(0,0)] []
       intro k h3;by_cases hk1:k+1<n.dc.length
       ·have h5:=hD k hk1;repeat' ((conv=>whnf);first|exact kQ|(refine bk ?_ ?_<;>intro _<;>try(exfalso;omega))|refine stq ?_|refine Idx.atS (by intro _;rfl) (k+1) om om ?_|refine Idx.atS (by intro _;rfl) k om om ?_|fail)
        all_goals(conv=>whnf)
        all_goals first
         | (refine⟨k+1,by omega,by omega,?_⟩
            exact lq [(0,0)] [])
       repeat' ((conv=>whnf);first|exact kQ|(refine bk ?_ ?_<;>intro _<;>try(exfalso;omega))|refine stq ?_)
       refine aH.by aA T0 (λk:Nat=>⟨tmp 108 [(1,.ptr 0 0),(51,ag n.dc),(52,i64 n.dc.length),(53,i64 (k:Int))],⟨1,nmX n⟩⟩) (λk=>k<=n.dc.length) (λk=>n.dc.length-k) 0 om ?_ ?_
       ·exact lq [(0,0)] []
       intro k h3;by_cases hk2:k<n.dc.length
       ·have h5:=hT k hk2;unfold lu at h5;have h6:=hn.to k hk2;repeat' ((conv=>whnf);first|exact kQ|(refine bk ?_ ?_<;>intro _<;>try(exfalso;omega))|refine stq ?_)
        all_goals(conv=>whnf)
        all_goals first
         | (exfalso;rcases h5 asm with h|h<;>omega)
         | (refine⟨k+1,by omega,by omega,?_⟩
            exact lq [(0,0)] [])
       repeat' ((conv=>whnf);first|exact kQ|(refine bk ?_ ?_<;>intro _<;>try(exfalso;omega))|refine stq ?_)
       refine aH.by2 aA T0 (λ(k:Nat) (o:List Int)=>⟨tmp 108 [(1,.ptr 0 0),(8,fB 1 1 o),(74,ag n.dc),(75,i64 n.dc.length),(76,i64 (k:Int))],⟨2,gA 1 ek o++nmX n⟩⟩) (λk o=>k<=n.dc.length∧(∀ i (h:i<n.dc.length),i<k->hk n.dc[i].frm=0)∧o=iJ (n.dc.take k)) (λk _=>n.dc.length-k) 0 [] ⟨by omega,λ_ _ h=>by omega,rfl⟩ ?_ ?_
       ·exact lq [(0,0)] []
       intro k o ⟨h3,h7,h4⟩;by_cases hk3:k<n.dc.length
       ·have hk4:=hk3;cases o with
        | nil=>
         repeat' ((conv=>whnf);first|exact kQ|(refine bk ?_ ?_<;>intro _<;>try(exfalso;omega))|refine stq ?_|refine cp cu ?_|fail)
         all_goals(conv=>whnf)
         all_goals first
          | exact aE.int rfl
          | (refine⟨k+1,[n.dc[k].frm],⟨by omega,(ad hk3 h7 asm),by rw[dh hk3 asm,<-h4];rfl⟩,by omega,?_⟩
             exact lq [(0,_),(1,_)] [])
          | (refine⟨k+1,[],⟨by omega,(ad hk3 h7 asm),by rw[fS hk3 asm,<-h4]⟩,by omega,?_⟩
             exact lq [(0,_)] [])
        | cons x xs=>
         have hlo:(x::xs).length<=1000:=by rw[h4];exact Nat.le_trans (iU _) (by simp;omega)
         repeat' ((conv=>whnf);first|exact kQ|(refine bk ?_ ?_<;>intro _<;>try(exfalso;omega))|refine stq ?_|refine cp cu ?_|fail)
         all_goals(conv=>whnf)
         all_goals first
          | exact aE.int rfl
          | (refine⟨k+1,(x::xs)++[n.dc[k].frm],⟨by omega,(ad hk3 h7 asm),by rw[dh hk3 asm,<-h4]⟩,by omega,?_⟩
             exact lq [(0,_),(1,_)] [])
          | (refine⟨k+1,x::xs,⟨by omega,(ad hk3 h7 asm),by rw[fS hk3 asm,<-h4]⟩,by omega,?_⟩
             exact lq [(0,_),(1,_)] [])
       ·exact absurd (λi hi=>h7 i hi om) hK
     ·refine⟨8,?_,λh=>by omega⟩;refine pv Tryz.func94 ?_;repeat' ((conv=>whnf);first|exact kQ|(refine bk ?_ ?_<;>intro _<;>try(exfalso;omega))|refine stq ?_|refine cp o1 ?_|refine cp m1 ?_|refine cp v1 ?_|fail)
      refine aH.by aA T0 (λk:Nat=>⟨tmp 108 [(1,.ptr 0 0),(5,i64 ((k+1:Nat):Int))],⟨1,nmX n⟩⟩) (λk=>k<=n.dc.length) (λk=>n.dc.length-k) 0 om ?_ ?_
      ·exact lq [(0,0)] []
      intro k h3;by_cases hk1:k+1<n.dc.length
      ·have h5:=hD k hk1;repeat' ((conv=>whnf);first|exact kQ|(refine bk ?_ ?_<;>intro _<;>try(exfalso;omega))|refine stq ?_|refine Idx.atS (by intro _;rfl) (k+1) om om ?_|refine Idx.atS (by intro _;rfl) k om om ?_|fail)
       all_goals(conv=>whnf)
       all_goals first
        | (refine⟨k+1,by omega,by omega,?_⟩
           exact lq [(0,0)] [])
      repeat' ((conv=>whnf);first|exact kQ|(refine bk ?_ ?_<;>intro _<;>try(exfalso;omega))|refine stq ?_)
      refine aH.by aA T0 (λk:Nat=>⟨tmp 108 [(1,.ptr 0 0),(51,ag n.dc),(52,i64 n.dc.length),(53,i64 (k:Int))],⟨1,nmX n⟩⟩) (λk=>k<=n.dc.length∧∀ i (h:i<n.dc.length),i<k->lu n.dc[i]) (λk=>n.dc.length-k) 0 ⟨by omega,λ_ _ h=>by omega⟩ ?_ ?_
      ·exact lq [(0,0)] []
      intro k ⟨h3,h4⟩;by_cases hk2:k<n.dc.length
      ·have h6:=hn.to k hk2;repeat' ((conv=>whnf);first|exact kQ|(refine bk ?_ ?_<;>intro _<;>try(exfalso;omega))|refine stq ?_)
       all_goals(conv=>whnf)
       all_goals first
        | exact aE.int rfl
        | (refine⟨k+1,⟨by omega,ad hk2 h4 (λht=>by first|(left;omega)|(right;omega)|exact absurd ht asm)⟩,by omega,?_⟩
           exact lq [(0,0)] [])
      ·exact absurd (λi hi=>h4 i hi om) hT
    ·refine⟨5,?_,λh=>by omega⟩;refine pv Tryz.func94 ?_;repeat' ((conv=>whnf);first|exact kQ|(refine bk ?_ ?_<;>intro _<;>try(exfalso;omega))|refine stq ?_|refine cp o1 ?_|refine cp m1 ?_|refine cp v1 ?_|fail)
     refine aH.by aA T0 (λk:Nat=>⟨tmp 108 [(1,.ptr 0 0),(5,i64 ((k+1:Nat):Int))],⟨1,nmX n⟩⟩) (λk=>k<=n.dc.length∧∀ i (h:i+1<n.dc.length),i<k->n.dc[i+1].frm≠n.dc[i].frm) (λk=>n.dc.length-k) 0 ⟨by omega,λ_ _ h=>by omega⟩ ?_ ?_
     ·exact lq [(0,0)] []
     intro k ⟨h3,h4⟩;by_cases hk1:k+1<n.dc.length
     ·repeat' ((conv=>whnf);first|exact kQ|(refine bk ?_ ?_<;>intro _<;>try(exfalso;omega))|refine stq ?_|refine Idx.atS (by intro _;rfl) (k+1) om om ?_|refine Idx.atS (by intro _;rfl) k om om ?_|fail)
      all_goals(conv=>whnf)
      all_goals first
       | exact aE.int rfl
       | (refine⟨k+1,⟨by omega,λi hi hlt=>by rcases(by omega:i<k∨i=k) with h|h;exact h4 i hi h;subst h;assumption⟩,by omega,?_⟩
          exact lq [(0,0)] [])
     ·exact absurd (λi hi=>h4 i hi om) hD
   ·rw[decide_eq_false hV] at v1;refine⟨11,?_,λh=>by omega⟩;refine pv Tryz.func94 ?_;repeat' ((conv=>whnf);first|exact kQ|(refine bk ?_ ?_<;>intro _<;>try(exfalso;omega))|refine stq ?_|refine cp o1 ?_|refine cp m1 ?_|refine cp v1 ?_|fail)
    all_goals(conv=>whnf)
    exact aE.int rfl
  ·refine⟨em,?_,λh=>absurd h hM⟩;refine pv Tryz.func94 ?_;repeat' ((conv=>whnf);first|exact kQ|(refine bk ?_ ?_<;>intro _<;>try(exfalso;omega))|refine stq ?_|refine cp o1 ?_|refine cp m1 ?_|fail)
   all_goals(conv=>whnf)
   exact aE.int rfl
 ·refine⟨eo,?_,λh=>absurd h hO⟩;refine pv Tryz.func94 ?_;repeat' ((conv=>whnf);first|exact kQ|(refine bk ?_ ?_<;>intro _<;>try(exfalso;omega))|refine stq ?_|refine cp o1 ?_|fail)
  all_goals(conv=>whnf)
  exact aE.int rfl
end
section
set_option maxHeartbeats 6400000
theorem xNV.rdX {p:Prop}(h:p:=by first|exact Rd.same (bH _)|exact Rd.nil|exact Rd.same (aY _)|exact Rd.same (aV _)|exact Rd.frzI rfl rfl rfl rfl rfl|exact Rd.sl' rfl sim sim|fail):p:=h
theorem xNV.rbX {p:Prop}(h:p:=by first|exact rbN|exact Rb.cells (Rds.eqs (ae (c:=ek) (sz:=1) (by intro _;rfl) (x::xs) n.dc[k].frm) (aG (by intro _;rfl) _)) rfl|fail):p:=h
open xNV
theorem chk2_c {n:Nm}(hn:n.ok) (hc:Ch3 n){R:List Rng}(hrun:Pu Tryz.prog 183 [bC n.cl,aF (iJ n.dc)] (bD R)){cy lg:Bool}(hm:Pu Tryz.prog 184 [nmD n] (.tup [boo cy,boo lg])) :
  ∃ e:Int,Pu Tryz.prog 94 [nmD n] (i64 e)∧(e=0↔R=[]∧cy=false∧lg=false):=by
 obtain⟨eo,o1,o2⟩:=l8 hn.cl;obtain⟨em,m1,m2⟩:=wY hn.ms;have v1:=qR hn.xc;have hlen:=hn.dc;have hD:=hc.dup;have hT:=hc.two;have hK:=hc.kind;rw[decide_eq_true hc.xc] at v1;obtain rfl:=o2.2 hc.cl;obtain rfl:=m2.2 hc.dc;by_cases hR:R.length=0
 ·have hR0:R=[]:=List.eq_nil_of_length_eq_zero hR;cases cy with
  | true=>
   refine⟨12,?_,⟨λh=>by omega,λh=>by cases h.2.1⟩⟩;refine pv Tryz.func94 ?_;repeat' ((conv=>whnf);first|exact kQ|(refine bk ?_ ?_<;>intro _<;>try(exfalso;omega))|refine stq ?_|refine cp o1 ?_|refine cp m1 ?_|refine cp v1 ?_|fail)
   refine aH.by aA T0 (λk:Nat=>⟨tmp 108 [(1,.ptr 0 0),(5,i64 ((k+1:Nat):Int))],⟨1,nmX n⟩⟩) (λk=>k<=n.dc.length) (λk=>n.dc.length-k) 0 om ?_ ?_
   ·exact lq [(0,0)] []
   intro k h3;by_cases hk1:k+1<n.dc.length
   ·have h5:=hD k hk1;repeat' ((conv=>whnf);first|exact kQ|(refine bk ?_ ?_<;>intro _<;>try(exfalso;omega))|refine stq ?_|refine Idx.atS (by intro _;rfl) (k+1) om om ?_|refine Idx.atS (by intro _;rfl) k om om ?_|fail)
    all_goals(conv=>whnf)
    all_goals first
     | (refine⟨k+1,by omega,by omega,?_⟩
        exact lq [(0,0)] [])
   repeat' ((conv=>whnf);first|exact kQ|(refine bk ?_ ?_<;>intro _<;>try(exfalso;omega))|refine stq ?_)
   refine aH.by aA T0 (λk:Nat=>⟨tmp 108 [(1,.ptr 0 0),(51,ag n.dc),(52,i64 n.dc.length),(53,i64 (k:Int))],⟨1,nmX n⟩⟩) (λk=>k<=n.dc.length) (λk=>n.dc.length-k) 0 om ?_ ?_
   ·exact lq [(0,0)] []
   intro k h3;by_cases hk2:k<n.dc.length
   ·have h5:=hT k hk2;unfold lu at h5;have h6:=hn.to k hk2;repeat' ((conv=>whnf);first|exact kQ|(refine bk ?_ ?_<;>intro _<;>try(exfalso;omega))|refine stq ?_)
    all_goals(conv=>whnf)
    all_goals first
     | (exfalso;rcases h5 asm with h|h<;>omega)
     | (refine⟨k+1,by omega,by omega,?_⟩
        exact lq [(0,0)] [])
   repeat' ((conv=>whnf);first|exact kQ|(refine bk ?_ ?_<;>intro _<;>try(exfalso;omega))|refine stq ?_)
   refine aH.by2 aA T0 (λ(k:Nat) (o:List Int)=>⟨tmp 108 [(1,.ptr 0 0),(8,fB 1 1 o),(74,ag n.dc),(75,i64 n.dc.length),(76,i64 (k:Int))],⟨2,gA 1 ek o++nmX n⟩⟩) (λk o=>k<=n.dc.length∧True∧o=iJ (n.dc.take k)) (λk _=>n.dc.length-k) 0 [] ⟨by omega,trivial,rfl⟩ ?_ ?_
   ·exact lq [(0,0)] []
   intro k o ⟨h3,h7,h4⟩;by_cases hk3:k<n.dc.length
   ·have h8:=hK k hk3;cases o with
    | nil=>
     repeat' ((conv=>whnf);first|exact kQ|(refine bk ?_ ?_<;>intro _<;>try(exfalso;omega))|refine stq ?_|refine cp cu ?_|fail)
     all_goals(conv=>whnf)
     all_goals first
      | exact aE.int rfl
      | (refine⟨k+1,[n.dc[k].frm],⟨by omega,trivial,by rw[dh hk3 asm,<-h4];rfl⟩,by omega,?_⟩
         exact lq [(0,_),(1,_)] [])
      | (refine⟨k+1,[],⟨by omega,trivial,by rw[fS hk3 asm,<-h4]⟩,by omega,?_⟩
         exact lq [(0,_)] [])
    | cons x xs=>
     have hlo:(x::xs).length<=1000:=by rw[h4];exact Nat.le_trans (iU _) (by simp;omega)
     repeat' ((conv=>whnf);first|exact kQ|(refine bk ?_ ?_<;>intro _<;>try(exfalso;omega))|refine stq ?_|refine cp cu ?_|fail)
     all_goals(conv=>whnf)
     all_goals first
      | exact aE.int rfl
      | (refine⟨k+1,(x::xs)++[n.dc[k].frm],⟨by omega,trivial,by rw[dh hk3 asm,<-h4]⟩,by omega,?_⟩
         exact lq [(0,_),(1,_)] [])
      | (refine⟨k+1,x::xs,⟨by omega,trivial,by rw[fS hk3 asm,<-h4]⟩,by omega,?_⟩
         exact lq [(0,_),(1,_)] [])
   ·rw[kE om] at h4;rw[<-h4] at hrun;cases o with
    | nil=>
     repeat' ((conv=>whnf);first|exact kQ|(refine bk ?_ ?_<;>intro _<;>try(exfalso;omega))|refine stq ?_|refine Cll.emb (hrun ⟨0,[]⟩) [] [] (bD R) [] [(0,.cells (nmC n) true)] rfl cZ bxA rdA bxA reA ?_|refine cp hm ?_|fail)
     all_goals(conv=>whnf)
     all_goals first
      | exact aE.int rfl
    | cons x xs=>
     repeat' ((conv=>whnf);first|exact kQ|(refine bk ?_ ?_<;>intro _<;>try(exfalso;omega))|refine stq ?_|refine Cll.emb (hrun ⟨0,[]⟩) [] [1] (bD R) [] [(0,.cells (nmC n) true)] rfl cZ bxA rdA bxA reA ?_|refine cp hm ?_|fail)
     all_goals(conv=>whnf)
     all_goals first
      | exact aE.int rfl
  | false=>
   cases lg with
   | true=>
    refine⟨13,?_,⟨λh=>by omega,λh=>by cases h.2.2⟩⟩;refine pv Tryz.func94 ?_;repeat' ((conv=>whnf);first|exact kQ|(refine bk ?_ ?_<;>intro _<;>try(exfalso;omega))|refine stq ?_|refine cp o1 ?_|refine cp m1 ?_|refine cp v1 ?_|fail)
    refine aH.by aA T0 (λk:Nat=>⟨tmp 108 [(1,.ptr 0 0),(5,i64 ((k+1:Nat):Int))],⟨1,nmX n⟩⟩) (λk=>k<=n.dc.length) (λk=>n.dc.length-k) 0 om ?_ ?_
    ·exact lq [(0,0)] []
    intro k h3;by_cases hk1:k+1<n.dc.length
    ·have h5:=hD k hk1;repeat' ((conv=>whnf);first|exact kQ|(refine bk ?_ ?_<;>intro _<;>try(exfalso;omega))|refine stq ?_|refine Idx.atS (by intro _;rfl) (k+1) om om ?_|refine Idx.atS (by intro _;rfl) k om om ?_|fail)
     all_goals(conv=>whnf)
     all_goals first
      | (refine⟨k+1,by omega,by omega,?_⟩
         exact lq [(0,0)] [])
    repeat' ((conv=>whnf);first|exact kQ|(refine bk ?_ ?_<;>intro _<;>try(exfalso;omega))|refine stq ?_)
    refine aH.by aA T0 (λk:Nat=>⟨tmp 108 [(1,.ptr 0 0),(51,ag n.dc),(52,i64 n.dc.length),(53,i64 (k:Int))],⟨1,nmX n⟩⟩) (λk=>k<=n.dc.length) (λk=>n.dc.length-k) 0 om ?_ ?_
    ·exact lq [(0,0)] []
    intro k h3;by_cases hk2:k<n.dc.length
    ·have h5:=hT k hk2;unfold lu at h5;have h6:=hn.to k hk2;repeat' ((conv=>whnf);first|exact kQ|(refine bk ?_ ?_<;>intro _<;>try(exfalso;omega))|refine stq ?_)
     all_goals(conv=>whnf)
     all_goals first
      | (exfalso;rcases h5 asm with h|h<;>omega)
      | (refine⟨k+1,by omega,by omega,?_⟩
         exact lq [(0,0)] [])
    repeat' ((conv=>whnf);first|exact kQ|(refine bk ?_ ?_<;>intro _<;>try(exfalso;omega))|refine stq ?_)
    refine aH.by2 aA T0 (λ(k:Nat) (o:List Int)=>⟨tmp 108 [(1,.ptr 0 0),(8,fB 1 1 o),(74,ag n.dc),(75,i64 n.dc.length),(76,i64 (k:Int))],⟨2,gA 1 ek o++nmX n⟩⟩) (λk o=>k<=n.dc.length∧True∧o=iJ (n.dc.take k)) (λk _=>n.dc.length-k) 0 [] ⟨by omega,trivial,rfl⟩ ?_ ?_
    ·exact lq [(0,0)] []
    intro k o ⟨h3,h7,h4⟩;by_cases hk3:k<n.dc.length
    ·have h8:=hK k hk3;cases o with
     | nil=>
      repeat' ((conv=>whnf);first|exact kQ|(refine bk ?_ ?_<;>intro _<;>try(exfalso;omega))|refine stq ?_|refine cp cu ?_|fail)
      all_goals(conv=>whnf)
      all_goals first
       | exact aE.int rfl
       | (refine⟨k+1,[n.dc[k].frm],⟨by omega,trivial,by rw[dh hk3 asm,<-h4];rfl⟩,by omega,?_⟩
          exact lq [(0,_),(1,_)] [])
       | (refine⟨k+1,[],⟨by omega,trivial,by rw[fS hk3 asm,<-h4]⟩,by omega,?_⟩
          exact lq [(0,_)] [])
     | cons x xs=>
      have hlo:(x::xs).length<=1000:=by rw[h4];exact Nat.le_trans (iU _) (by simp;omega)
      repeat' ((conv=>whnf);first|exact kQ|(refine bk ?_ ?_<;>intro _<;>try(exfalso;omega))|refine stq ?_|refine cp cu ?_|fail)
      all_goals(conv=>whnf)
      all_goals first
       | exact aE.int rfl
       | (refine⟨k+1,(x::xs)++[n.dc[k].frm],⟨by omega,trivial,by rw[dh hk3 asm,<-h4]⟩,by omega,?_⟩
          exact lq [(0,_),(1,_)] [])
       | (refine⟨k+1,x::xs,⟨by omega,trivial,by rw[fS hk3 asm,<-h4]⟩,by omega,?_⟩
          exact lq [(0,_),(1,_)] [])
    ·rw[kE om] at h4;rw[<-h4] at hrun;cases o with
     | nil=>
      repeat' ((conv=>whnf);first|exact kQ|(refine bk ?_ ?_<;>intro _<;>try(exfalso;omega))|refine stq ?_|refine Cll.emb (hrun ⟨0,[]⟩) [] [] (bD R) [] [(0,.cells (nmC n) true)] rfl cZ bxA rdA bxA reA ?_|refine cp hm ?_|fail)
      all_goals(conv=>whnf)
      all_goals first
       | exact aE.int rfl
     | cons x xs=>
      repeat' ((conv=>whnf);first|exact kQ|(refine bk ?_ ?_<;>intro _<;>try(exfalso;omega))|refine stq ?_|refine Cll.emb (hrun ⟨0,[]⟩) [] [1] (bD R) [] [(0,.cells (nmC n) true)] rfl cZ bxA rdA bxA reA ?_|refine cp hm ?_|fail)
      all_goals(conv=>whnf)
      all_goals first
       | exact aE.int rfl
   | false=>
    refine⟨0,?_,⟨λ_=>⟨hR0,rfl,rfl⟩,λ_=>rfl⟩⟩;refine pv Tryz.func94 ?_;repeat' ((conv=>whnf);first|exact kQ|(refine bk ?_ ?_<;>intro _<;>try(exfalso;omega))|refine stq ?_|refine cp o1 ?_|refine cp m1 ?_|refine cp v1 ?_|fail)
    refine aH.by aA T0 (λk:Nat=>⟨tmp 108 [(1,.ptr 0 0),(5,i64 ((k+1:Nat):Int))],⟨1,nmX n⟩⟩) (λk=>k<=n.dc.length) (λk=>n.dc.length-k) 0 om ?_ ?_
    ·exact lq [(0,0)] []
    intro k h3;by_cases hk1:k+1<n.dc.length
    ·have h5:=hD k hk1;repeat' ((conv=>whnf);first|exact kQ|(refine bk ?_ ?_<;>intro _<;>try(exfalso;omega))|refine stq ?_|refine Idx.atS (by intro _;rfl) (k+1) om om ?_|refine Idx.atS (by intro _;rfl) k om om ?_|fail)
     all_goals(conv=>whnf)
     all_goals first
      | (refine⟨k+1,by omega,by omega,?_⟩
         exact lq [(0,0)] [])
    repeat' ((conv=>whnf);first|exact kQ|(refine bk ?_ ?_<;>intro _<;>try(exfalso;omega))|refine stq ?_)
    refine aH.by aA T0 (λk:Nat=>⟨tmp 108 [(1,.ptr 0 0),(51,ag n.dc),(52,i64 n.dc.length),(53,i64 (k:Int))],⟨1,nmX n⟩⟩) (λk=>k<=n.dc.length) (λk=>n.dc.length-k) 0 om ?_ ?_
    ·exact lq [(0,0)] []
    intro k h3;by_cases hk2:k<n.dc.length
    ·have h5:=hT k hk2;unfold lu at h5;have h6:=hn.to k hk2;repeat' ((conv=>whnf);first|exact kQ|(refine bk ?_ ?_<;>intro _<;>try(exfalso;omega))|refine stq ?_)
     all_goals(conv=>whnf)
     all_goals first
      | (exfalso;rcases h5 asm with h|h<;>omega)
      | (refine⟨k+1,by omega,by omega,?_⟩
         exact lq [(0,0)] [])
    repeat' ((conv=>whnf);first|exact kQ|(refine bk ?_ ?_<;>intro _<;>try(exfalso;omega))|refine stq ?_)
    refine aH.by2 aA T0 (λ(k:Nat) (o:List Int)=>⟨tmp 108 [(1,.ptr 0 0),(8,fB 1 1 o),(74,ag n.dc),(75,i64 n.dc.length),(76,i64 (k:Int))],⟨2,gA 1 ek o++nmX n⟩⟩) (λk o=>k<=n.dc.length∧True∧o=iJ (n.dc.take k)) (λk _=>n.dc.length-k) 0 [] ⟨by omega,trivial,rfl⟩ ?_ ?_
    ·exact lq [(0,0)] []
    intro k o ⟨h3,h7,h4⟩;by_cases hk3:k<n.dc.length
    ·have h8:=hK k hk3;cases o with
     | nil=>
      repeat' ((conv=>whnf);first|exact kQ|(refine bk ?_ ?_<;>intro _<;>try(exfalso;omega))|refine stq ?_|refine cp cu ?_|fail)
      all_goals(conv=>whnf)
      all_goals first
       | exact aE.int rfl
       | (refine⟨k+1,[n.dc[k].frm],⟨by omega,trivial,by rw[dh hk3 asm,<-h4];rfl⟩,by omega,?_⟩
          exact lq [(0,_),(1,_)] [])
       | (refine⟨k+1,[],⟨by omega,trivial,by rw[fS hk3 asm,<-h4]⟩,by omega,?_⟩
          exact lq [(0,_)] [])
     | cons x xs=>
      have hlo:(x::xs).length<=1000:=by rw[h4];exact Nat.le_trans (iU _) (by simp;omega)
      repeat' ((conv=>whnf);first|exact kQ|(refine bk ?_ ?_<;>intro _<;>try(exfalso;omega))|refine stq ?_|refine cp cu ?_|fail)
      all_goals(conv=>whnf)
      all_goals first
       | exact aE.int rfl
       | (refine⟨k+1,(x::xs)++[n.dc[k].frm],⟨by omega,trivial,by rw[dh hk3 asm,<-h4]⟩,by omega,?_⟩
          exact lq [(0,_),(1,_)] [])
       | (refine⟨k+1,x::xs,⟨by omega,trivial,by rw[fS hk3 asm,<-h4]⟩,by omega,?_⟩
          exact lq [(0,_),(1,_)] [])
    ·rw[kE om] at h4;rw[<-h4] at hrun;cases o with
     | nil=>
      repeat' ((conv=>whnf);first|exact kQ|(refine bk ?_ ?_<;>intro _<;>try(exfalso;omega))|refine stq ?_|refine Cll.emb (hrun ⟨0,[]⟩) [] [] (bD R) [] [(0,.cells (nmC n) true)] rfl cZ bxA rdA bxA reA ?_|refine cp hm ?_|fail)
      all_goals(conv=>whnf)
      all_goals first
       | exact aE.int rfl
     | cons x xs=>
      repeat' ((conv=>whnf);first|exact kQ|(refine bk ?_ ?_<;>intro _<;>try(exfalso;omega))|refine stq ?_|refine Cll.emb (hrun ⟨0,[]⟩) [] [1] (bD R) [] [(0,.cells (nmC n) true)] rfl cZ bxA rdA bxA reA ?_|refine cp hm ?_|fail)
      all_goals(conv=>whnf)
      all_goals first
       | exact aE.int rfl
 ·refine⟨11,?_,⟨λh=>by omega,λh=>absurd (by rw[h.1];rfl) hR⟩⟩;refine pv Tryz.func94 ?_;repeat' ((conv=>whnf);first|exact kQ|(refine bk ?_ ?_<;>intro _<;>try(exfalso;omega))|refine stq ?_|refine cp o1 ?_|refine cp m1 ?_|refine cp v1 ?_|fail)
  refine aH.by aA T0 (λk:Nat=>⟨tmp 108 [(1,.ptr 0 0),(5,i64 ((k+1:Nat):Int))],⟨1,nmX n⟩⟩) (λk=>k<=n.dc.length) (λk=>n.dc.length-k) 0 om ?_ ?_
  ·exact lq [(0,0)] []
  intro k h3;by_cases hk1:k+1<n.dc.length
  ·have h5:=hD k hk1;repeat' ((conv=>whnf);first|exact kQ|(refine bk ?_ ?_<;>intro _<;>try(exfalso;omega))|refine stq ?_|refine Idx.atS (by intro _;rfl) (k+1) om om ?_|refine Idx.atS (by intro _;rfl) k om om ?_|fail)
   all_goals(conv=>whnf)
   all_goals first
    | (refine⟨k+1,by omega,by omega,?_⟩
       exact lq [(0,0)] [])
  repeat' ((conv=>whnf);first|exact kQ|(refine bk ?_ ?_<;>intro _<;>try(exfalso;omega))|refine stq ?_)
  refine aH.by aA T0 (λk:Nat=>⟨tmp 108 [(1,.ptr 0 0),(51,ag n.dc),(52,i64 n.dc.length),(53,i64 (k:Int))],⟨1,nmX n⟩⟩) (λk=>k<=n.dc.length) (λk=>n.dc.length-k) 0 om ?_ ?_
  ·exact lq [(0,0)] []
  intro k h3;by_cases hk2:k<n.dc.length
  ·have h5:=hT k hk2;unfold lu at h5;have h6:=hn.to k hk2;repeat' ((conv=>whnf);first|exact kQ|(refine bk ?_ ?_<;>intro _<;>try(exfalso;omega))|refine stq ?_)
   all_goals(conv=>whnf)
   all_goals first
    | (exfalso;rcases h5 asm with h|h<;>omega)
    | (refine⟨k+1,by omega,by omega,?_⟩
       exact lq [(0,0)] [])
  repeat' ((conv=>whnf);first|exact kQ|(refine bk ?_ ?_<;>intro _<;>try(exfalso;omega))|refine stq ?_)
  refine aH.by2 aA T0 (λ(k:Nat) (o:List Int)=>⟨tmp 108 [(1,.ptr 0 0),(8,fB 1 1 o),(74,ag n.dc),(75,i64 n.dc.length),(76,i64 (k:Int))],⟨2,gA 1 ek o++nmX n⟩⟩) (λk o=>k<=n.dc.length∧True∧o=iJ (n.dc.take k)) (λk _=>n.dc.length-k) 0 [] ⟨by omega,trivial,rfl⟩ ?_ ?_
  ·exact lq [(0,0)] []
  intro k o ⟨h3,h7,h4⟩;by_cases hk3:k<n.dc.length
  ·have h8:=hK k hk3;cases o with
   | nil=>
    repeat' ((conv=>whnf);first|exact kQ|(refine bk ?_ ?_<;>intro _<;>try(exfalso;omega))|refine stq ?_|refine cp cu ?_|fail)
    all_goals(conv=>whnf)
    all_goals first
     | exact aE.int rfl
     | (refine⟨k+1,[n.dc[k].frm],⟨by omega,trivial,by rw[dh hk3 asm,<-h4];rfl⟩,by omega,?_⟩
        exact lq [(0,_),(1,_)] [])
     | (refine⟨k+1,[],⟨by omega,trivial,by rw[fS hk3 asm,<-h4]⟩,by omega,?_⟩
        exact lq [(0,_)] [])
   | cons x xs=>
    have hlo:(x::xs).length<=1000:=by rw[h4];exact Nat.le_trans (iU _) (by simp;omega)
    repeat' ((conv=>whnf);first|exact kQ|(refine bk ?_ ?_<;>intro _<;>try(exfalso;omega))|refine stq ?_|refine cp cu ?_|fail)
    all_goals(conv=>whnf)
    all_goals first
     | exact aE.int rfl
     | (refine⟨k+1,(x::xs)++[n.dc[k].frm],⟨by omega,trivial,by rw[dh hk3 asm,<-h4]⟩,by omega,?_⟩
        exact lq [(0,_),(1,_)] [])
     | (refine⟨k+1,x::xs,⟨by omega,trivial,by rw[fS hk3 asm,<-h4]⟩,by omega,?_⟩
        exact lq [(0,_),(1,_)] [])
  ·rw[kE om] at h4;rw[<-h4] at hrun;cases o with
   | nil=>
    repeat' ((conv=>whnf);first|exact kQ|(refine bk ?_ ?_<;>intro _<;>try(exfalso;omega))|refine stq ?_|refine Cll.emb (hrun ⟨0,[]⟩) [] [] (bD R) [] [(0,.cells (nmC n) true)] rfl cZ bxA rdA bxA reA ?_|refine cp hm ?_|fail)
    all_goals(conv=>whnf)
    all_goals first
     | exact aE.int rfl
   | cons x xs=>
    repeat' ((conv=>whnf);first|exact kQ|(refine bk ?_ ?_<;>intro _<;>try(exfalso;omega))|refine stq ?_|refine Cll.emb (hrun ⟨0,[]⟩) [] [1] (bD R) [] [(0,.cells (nmC n) true)] rfl cZ bxA rdA bxA reA ?_|refine cp hm ?_|fail)
    all_goals(conv=>whnf)
    all_goals first
     | exact aE.int rfl
end
end Go.Proofs.YtihggclfifimoaaGreatDoor
