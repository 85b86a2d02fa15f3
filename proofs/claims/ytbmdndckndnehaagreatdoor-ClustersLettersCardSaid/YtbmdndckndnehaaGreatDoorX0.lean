/-
  Patterns and words: what is left of a pattern behind a class; words backward. Plain: no program in sight.
-/
import Derived.Test.YtbmdndckndnehaaGreatDoorC8
set_option linter.unusedSectionVars false
namespace Go.Proofs.YtbmdndckndnehaaGreatDoor
section
open Go Go.Am
set_option maxRecDepth 100000
mutual
inductive Mw:Pat->List Int->Prop
 | cls {cs:List Int} {ss:List Pat} {c:Int} (h:c∈cs):Mw (.mk 1 cs ss) [c]
 | cat {cs:List Int} {ss:List Pat} {w:List Int} (h:MwL ss w):Mw (.mk 2 cs ss) w
 | alt {cs:List Int} {ss:List Pat} {s:Pat} {w:List Int} (hm:s∈ss) (h:Mw s w):Mw (.mk 3 cs ss) w
 | nil {cs:List Int} {ss:List Pat}:Mw (.mk 4 cs ss) []
 | more {cs:List Int} {s:Pat} {ss:List Pat} {u v:List Int} (h:Mw s u) (h2:Mw (.mk 4 cs (s::ss)) v):Mw (.mk 4 cs (s::ss)) (u++v)
inductive MwL:List Pat->List Int->Prop
 | nil:MwL [] []
 | cons {p:Pat} {ps:List Pat} {u v:List Int} (h:Mw p u) (h2:MwL ps v):MwL (p::ps) (u++v)
end
theorem MwL.app:∀ {ps qs:List Pat}{u v:List Int},MwL ps u->MwL qs v->MwL (ps++qs) (u++v)
 | [],qs,_,v,.nil,h=>h
 | p::ps,qs,_,v,.cons (u:=a) (v:=b) h h2,h3=>by
  rw[List.append_assoc];exact .cons h (MwL.app h2 h3)
theorem MwL.split:∀ {ps qs:List Pat}{w:List Int},MwL (ps++qs) w->∃ u v,w=u++v∧MwL ps u∧MwL qs v
 | [],qs,w,h=>⟨[],w,rfl,.nil,h⟩
 | p::ps,qs,_,.cons (u:=a) (v:=b) h h2=>by
  obtain⟨u,v,rfl,h3,h4⟩:=MwL.split h2;exact⟨a++u,v,by rw[List.append_assoc],.cons h h3,h4⟩
theorem MwL.one {p:Pat}{w:List Int}:MwL [p] w↔Mw p w:=by
 constructor
 ·intro h;cases h with
  | cons h h2=>cases h2;simpa using h
 ·intro h;simpa using MwL.cons h .nil
mutual
def nu:Pat->Bool
 | .mk k _ ss=>if k=2 then nuL ss else if k=3 then nuA ss else if k=4 then true else false
def nuL:List Pat->Bool
 | []=>true
 | p::ps=>nu p&&nuL ps
def nuA:List Pat->Bool
 | []=>false
 | p::ps=>nu p || nuA ps
end
mutual
def aft (c:Int):Pat->List (List Pat)
 | .mk k cs ss=>if k=1 then(if cs.contains c then [[]] else []) else if k=2 then jV c ss else if k=3 then zG c ss else if k=4 then aftH c (.mk 4 cs ss) ss else []
def jV (c:Int):List Pat->List (List Pat)
 | []=>[]
 | p::ps=>(aft c p).map (·++ps)++(if nu p then jV c ps else [])
def aftH (c:Int) (t:Pat):List Pat->List (List Pat)
 | []=>[]
 | s::_=>(aft c s).map (·++[t])
def zG (c:Int):List Pat->List (List Pat)
 | []=>[]
 | p::ps=>aft c p++zG c ps
end
mutual
theorem AB:∀ (p:Pat),Mw p []->nu p=true
 | .mk k cs ss,h=>by
  generalize hw:([]:List Int)=w at h;cases h with
  | cls h=>cases hw
  | cat h=>subst hw;simp only[nu,if_true];exact ya ss h
  | alt hm h=>subst hw;simp only[nu,if_true];exact Dn ss _ hm h
  | nil=>simp[nu]
  | more h h2=>simp[nu]
theorem ya:∀ (ps:List Pat),MwL ps []->nuL ps=true
 | [],_=>rfl
 | p::ps,h=>by
  generalize hw:([]:List Int)=w at h;cases h with
  | cons h h2=>
   have:=List.append_eq_nil_iff.1 hw.symm
   obtain⟨rfl,rfl⟩:=this;simp only[nuL,AB p h,ya ps h2,Bool.and_self]
theorem Dn:∀ (ps:List Pat) (s:Pat),s∈ps->Mw s []->nuA ps=true
 | [],s,hm,_=>by simp at hm
 | p::ps,s,hm,h=>by
  rcases List.mem_cons.1 hm with e|hm
  ·rw[e] at h;simp only[nuA,AB p h,Bool.true_or]
  ·simp only[nuA,Dn ps s hm h,Bool.or_true]
end
mutual
theorem Dk:∀ (p:Pat),nu p=true->Mw p []
 | .mk k cs ss,h=>by
  simp only[nu] at h;split at h
  ·rename_i e;subst e;exact .cat (yX ss h)
  split at h
  ·rename_i e;subst e;obtain⟨s,hm,hs⟩:=Dj ss h;exact .alt hm hs
  split at h
  ·rename_i e;subst e;exact .nil
  ·cases h
theorem yX:∀ (ps:List Pat),nuL ps=true->MwL ps []
 | [],_=>.nil
 | p::ps,h=>by
  simp only[nuL,kC] at h;exact MwL.cons (u:=[]) (v:=[]) (Dk p h.1) (yX ps h.2)
theorem Dj:∀ (ps:List Pat),nuA ps=true->∃ s,s∈ps∧Mw s []
 | [],h=>by simp[nuA] at h
 | p::ps,h=>by
  simp only[nuA,kN] at h;rcases h with h|h
  ·exact⟨p,by simp,Dk p h⟩
  ·obtain⟨s,hm,hs⟩:=Dj ps h;exact⟨s,List.mem_cons_of_mem _ hm,hs⟩
end
theorem wP {c:Int}{s:Pat}{r:List Pat}:∀ {ss:List Pat},s∈ss->r∈aft c s->r∈zG c ss
 | p::ps,hm,hr=>by
  simp only[zG,List.mem_append];rcases List.mem_cons.1 hm with rfl|hm
  ·exact .inl hr
  ·exact .inr (wP hm hr)
theorem aft_of {p:Pat}{x:List Int}(h:Mw p x):∀ c w,x=c::w->∃ r,r∈aft c p∧MwL r w:=
 Mw.rec (motive_1:=λp x _=>∀ c w,x=c::w->∃ r,r∈aft c p∧MwL r w) (motive_2:=λps x _=>∀ c w,x=c::w->∃ r,r∈jV c ps∧MwL r w)
  (λ{cs ss c0} hm c w e=>by
   injection e with e1 e2;subst e1;subst e2
   exact⟨[],by simp[aft,hm],.nil⟩)
  (λ{cs ss w0} h ih c w e=>by
   obtain⟨r,h1,h2⟩:=ih c w e
   exact⟨r,by simpa [aft] using h1,h2⟩)
  (λ{cs ss s w0} hm h ih c w e=>by
   obtain⟨r,h1,h2⟩:=ih c w e
   exact⟨r,by simpa [aft] using wP hm h1,h2⟩)
  (λ{cs ss} c w e=>by cases e)
  (λ{cs s ss u v} h h2 ih1 ih2 c w e=>by
   cases u with
   | nil=>exact ih2 c w (by simpa using e)
   | cons a u=>
    rw[List.cons_append] at e;injection e with e1 e2;subst e1;subst e2
    obtain⟨r,q1,q2⟩:=ih1 a u rfl;refine⟨r++[.mk 4 cs (s::ss)],?_,q2.app (MwL.one.2 h2)⟩
    simp[aft,aftH,q1])
  (λc w e=>by cases e)
  (λ{p ps u v} h h2 ih1 ih2 c w e=>by
   cases u with
   | nil=>
    obtain⟨r,q1,q2⟩:=ih2 c w (by simpa using e);refine⟨r,?_,q2⟩;simp only[jV,AB p h,if_true,List.mem_append];exact .inr q1
   | cons a u=>
    rw[List.cons_append] at e;injection e with e1 e2;subst e1;subst e2
    obtain⟨r,q1,q2⟩:=ih1 a u rfl;refine⟨r++ps,?_,q2.app h2⟩;simp only[jV,List.mem_append,List.mem_map]
    exact .inl ⟨r,q1,rfl⟩)
  h
theorem Ar:∀ {ps:List Pat}{c:Int}{w:List Int},MwL ps (c::w)->∃ r,r∈jV c ps∧MwL r w
 | [],c,w,h=>by cases h
 | p::ps,c,w,h=>by
  generalize hx:c::w=x at h;cases h with
  | cons h h2=>
   rename_i u v;cases u with
   | nil=>
    rw[List.nil_append] at hx;subst hx;obtain⟨r,q1,q2⟩:=Ar h2;refine⟨r,?_,q2⟩;simp only[jV,AB p h,if_true,List.mem_append];exact .inr q1
   | cons a u=>
    rw[List.cons_append] at hx;injection hx with e1 e2;subst e1;subst e2
    obtain⟨r,q1,q2⟩:=aft_of h _ _ rfl;refine⟨r++ps,?_,q2.app h2⟩;simp only[jV,List.mem_append,List.mem_map];exact .inl ⟨r,q1,rfl⟩
mutual
theorem yY {c:Int}{w:List Int}:∀ (p:Pat) (r:List Pat),r∈aft c p->MwL r w->Mw p (c::w)
 | .mk k cs ss,r,hr,h=>by
  simp only[aft] at hr;split at hr
  ·rename_i e;subst e;split at hr
   ·rename_i hm;simp only[List.mem_singleton] at hr;subst hr;cases h;exact .cls (by simpa using hm)
   ·cases hr
  split at hr
  ·rename_i e;subst e;exact .cat (uc ss r hr h)
  split at hr
  ·rename_i e;subst e;obtain⟨s,hm,hs⟩:=z5 ss r hr h;exact .alt hm hs
  split at hr
  ·rename_i e;subst e
   match ss,hr with
   | s::ss,hr=>
    simp only[aftH,List.mem_map] at hr;obtain⟨r0,q1,rfl⟩:=hr;obtain⟨u,v,rfl,h1,h2⟩:=h.split;exact Mw.more (u:=c::u) (yY s r0 q1 h1) (MwL.one.1 h2)
  ·cases hr
theorem uc {c:Int}{w:List Int}:∀ (ps:List Pat) (r:List Pat),r∈jV c ps->MwL r w->MwL ps (c::w)
 | [],r,hr,h=>by simp[jV] at hr
 | p::ps,r,hr,h=>by
  simp only[jV,List.mem_append,List.mem_map] at hr;rcases hr with⟨r0,q1,rfl⟩|hr
  ·obtain⟨u,v,rfl,h1,h2⟩:=h.split;exact MwL.cons (u:=c::u) (yY p r0 q1 h1) h2
  ·split at hr
   ·rename_i hn;exact MwL.cons (u:=[]) (Dk p hn) (uc ps r hr h)
   ·cases hr
theorem z5 {c:Int}{w:List Int}:∀ (ss:List Pat) (r:List Pat),r∈zG c ss->MwL r w->∃ s,s∈ss∧Mw s (c::w)
 | [],r,hr,h=>by simp[zG] at hr
 | p::ps,r,hr,h=>by
  simp only[zG,List.mem_append] at hr;rcases hr with hr|hr
  ·exact⟨p,by simp,yY p r hr h⟩
  ·obtain⟨s,hm,hs⟩:=z5 ps r hr h;exact⟨s,List.mem_cons_of_mem _ hm,hs⟩
end
theorem MwL.step {ps:List Pat}{c:Int}{w:List Int}:MwL ps (c::w)↔∃ r,r∈jV c ps∧MwL r w:=
 ⟨Ar,λ⟨r,h1,h2⟩=>uc ps r h1 h2⟩
theorem MwL.empty {ps:List Pat}:MwL ps []↔nuL ps=true:=⟨ya ps,yX ps⟩
def AW:List Int->List Pat->List Pat->Prop
 | [],r0,r=>r=r0
 | c::v,r0,r=>∃ r',r' ∈ jV c r0∧AW v r' r
theorem MwL.read:∀ {v:List Int}{r0:List Pat},MwL r0 v↔∃ r,AW v r0 r∧nuL r=true
 | [],r0=>by
  rw[MwL.empty];exact⟨λh=>⟨r0,rfl,h⟩,λ⟨r,e,h⟩=>by rw[AW] at e;rw[<-e];exact h⟩
 | c::v,r0=>by
  rw[MwL.step];constructor
  ·rintro⟨r',h1,h2⟩;obtain⟨r,h3,h4⟩:=MwL.read.1 h2;exact⟨r,⟨r',h1,h3⟩,h4⟩
  ·rintro⟨r,⟨r',h1,h3⟩,h4⟩;exact⟨r',h1,MwL.read.2 ⟨r,h3,h4⟩⟩
theorem AW.snoc {c:Int}{r:List Pat}:∀ {v:List Int}{r0:List Pat},AW (v++[c]) r0 r↔∃ r',AW v r0 r'∧r∈jV c r'
 | [],r0=>by
  constructor
  ·rintro⟨r',h1,h2⟩;rw[AW] at h2;subst h2;exact⟨r0,rfl,h1⟩
  ·rintro⟨r',h1,h2⟩;rw[AW] at h1;subst h1;exact⟨r,h2,rfl⟩
 | a::v,r0=>by
  constructor
  ·rintro⟨r1,h1,h2⟩;obtain⟨r',h3,h4⟩:=AW.snoc.1 h2;exact⟨r',⟨r1,h1,h3⟩,h4⟩
  ·rintro⟨r',⟨r1,h1,h3⟩,h4⟩;exact⟨r1,h1,AW.snoc.2 ⟨r',h3,h4⟩⟩
def Sf (p:Pat) (x:List Int) (r:List Pat):Prop:=∃ u v,x=u++v∧AW v [p] r
theorem Sf.nil {p:Pat}{r:List Pat}:Sf p [] r↔r=[p]:=by
 constructor
 ·rintro⟨u,v,e,h⟩;have:=List.append_eq_nil_iff.1 e.symm
  obtain⟨rfl,rfl⟩:=this;exact h
 ·rintro rfl;exact⟨[],[],rfl,rfl⟩
theorem Sf.snoc {p:Pat}{x:List Int}{c:Int}{r:List Pat}:Sf p (x++[c]) r↔r=[p]∨∃ r',Sf p x r'∧r∈jV c r':=by
 constructor
 ·rintro⟨u,v,e,h⟩;rcases List.eq_nil_or_concat v with rfl|⟨v',d,rfl⟩
  ·exact .inl h
  ·rw[List.concat_eq_append] at e h;rw[<-List.append_assoc] at e;obtain⟨e1,e2⟩:=List.append_inj' e rfl;injection e2 with e2 _;subst e2
   obtain⟨r',h1,h2⟩:=AW.snoc.1 h;exact .inr ⟨r',⟨u,v',e1,h1⟩,h2⟩
 ·rintro(rfl|⟨r',⟨u,v,e,h1⟩,h2⟩)
  ·exact⟨x++[c],[],by simp,rfl⟩
  ·exact⟨u,v++[c],by rw[e,List.append_assoc],AW.snoc.2 ⟨r',h1,h2⟩⟩
theorem Sf.ends {p:Pat}{x:List Int}:(∃ u v,x=u++v∧Mw p v)↔∃ r,Sf p x r∧nuL r=true:=by
 constructor
 ·rintro⟨u,v,e,h⟩;obtain⟨r,h1,h2⟩:=MwL.read.1 (MwL.one.2 h);exact⟨r,⟨u,v,e,h1⟩,h2⟩
 ·rintro⟨r,⟨u,v,e,h1⟩,h2⟩;exact⟨u,v,e,MwL.one.1 (MwL.read.2 ⟨r,h1,h2⟩)⟩
def Rep (Q:List (List Pat)) (p:Pat) (S:List Nat) (x:List Int):Prop:=∀ r,Sf p x r↔∃ q,q∈S∧Q[q]?=some r
def TrOk (Q:List (List Pat)) (tr:Nat->Int->List Nat) (c:Int):Prop:=∀ q r0,Q[q]?=some r0->∀ r,r∈jV c r0↔∃ q',q' ∈ tr q c∧Q[q']?=some r
theorem Rep.zero {Q:List (List Pat)}{p:Pat}(h:Q[0]?=some [p]):Rep Q p [0] []:=λr=>by
 rw[Sf.nil];constructor
 ·rintro rfl;exact⟨0,by simp,h⟩
 ·rintro⟨q,hq,e⟩;simp only[List.mem_singleton] at hq;subst hq;rw[h] at e;injection e with e;exact e.symm
theorem Rep.step {Q:List (List Pat)}{p:Pat}{S S':List Nat}{x:List Int}{c:Int}{tr:Nat->Int->List Nat}(h0:Q[0]?=some [p]) (hr:Rep Q p S x) (ht:TrOk Q tr c) (hs:∀ q',q' ∈ S'↔q'=0∨∃ q,q∈S∧q' ∈ tr q c) (hb:∀ q,q∈S->∃ r,Q[q]?=some r):Rep Q p S' (x++[c]):=λr=>by
 rw[Sf.snoc];constructor
 ·rintro(rfl|⟨r',h1,h2⟩)
  ·exact⟨0,(hs 0).2 (.inl rfl),h0⟩
  ·obtain⟨q,hq,e⟩:=(hr r').1 h1;obtain⟨q',h3,h4⟩:=(ht q r' e r).1 h2;exact⟨q',(hs q').2 (.inr ⟨q,hq,h3⟩),h4⟩
 ·rintro⟨q',hq',e⟩;rcases(hs q').1 hq' with rfl|⟨q,hq,h3⟩
  ·rw[h0] at e;injection e with e;exact .inl e.symm
  ·obtain⟨r',er⟩:=hb q hq;exact .inr ⟨r',(hr r').2 ⟨q,hq,er⟩,(ht q r' er r).2 ⟨q',h3,e⟩⟩
theorem Rep.ends {Q:List (List Pat)}{p:Pat}{S:List Nat}{x:List Int}(hr:Rep Q p S x):(∃ u v,x=u++v∧Mw p v)↔∃ q r,q∈S∧Q[q]?=some r∧nuL r=true:=by
 rw[Sf.ends];constructor
 ·rintro⟨r,h1,h2⟩;obtain⟨q,hq,e⟩:=(hr r).1 h1;exact⟨q,r,hq,e,h2⟩
 ·rintro⟨q,r,hq,e,h2⟩;exact⟨r,(hr r).2 ⟨q,hq,e⟩,h2⟩
mutual
def rev:Pat->Pat
 | .mk k cs ss=>.mk k cs (if k=2 then(jg ss).reverse else jg ss)
def jg:List Pat->List Pat
 | []=>[]
 | p::ps=>rev p::jg ps
end
theorem MwL.snoc {ps:List Pat}{p:Pat}{u v:List Int}(h:MwL ps u) (h2:Mw p v):MwL (ps++[p]) (u++v):=h.app (MwL.one.2 h2)
theorem sZ {cs:List Int}{s:Pat}{ss:List Pat}{x:List Int}{v:List Int}(h2:Mw s v):Mw (.mk 4 cs (s::ss)) x->Mw (.mk 4 cs (s::ss)) (x++v):=λh=>by
 generalize hp:Pat.mk 4 cs (s::ss)=p at h;revert hp
 exact Mw.rec (motive_1:=λp x _=>Pat.mk 4 cs (s::ss)=p->Mw p (x++v)) (motive_2:=λ_ _ _=>True)
  (λ_ e=>by injection e with e;cases e) (λ_ _ e=>by injection e with e;cases e) (λ_ _ _ e=>by injection e with e;cases e)
  (λ{cs' ss'} e=>by
   injection e with _ e1 e2;subst e1;subst e2
   simpa using Mw.more h2 (Mw.nil (cs:=cs) (ss:=s::ss)))
  (λ{cs' s' ss' u w} h _ _ ih e=>by
   have ih':=ih e;rw[List.append_assoc]
   exact Mw.more h ih')
  trivial (λ_ _ _ _=>trivial) h
theorem wO {s:Pat}:∀ {ss:List Pat},s∈ss->rev s∈jg ss
 | p::ps,h=>by
  simp only[jg,kH];rcases List.mem_cons.1 h with rfl|h
  ·exact .inl rfl
  ·exact .inr (wO h)
theorem Mw.back {p:Pat}{x:List Int}(h:Mw p x):Mw (rev p) x.reverse:=
 Mw.rec (motive_1:=λp x _=>Mw (rev p) x.reverse) (motive_2:=λps x _=>MwL (jg ps).reverse x.reverse)
  (λ{cs ss c} hm=>by simpa [rev] using Mw.cls hm)
  (λ{cs ss w} _ ih=>by simpa [rev] using Mw.cat ih)
  (λ{cs ss s w} hm _ ih=>by simpa [rev] using Mw.alt (wO hm) ih)
  (λ{cs ss}=>by simpa [rev] using Mw.nil)
  (λ{cs s ss u v} _ _ ih1 ih2=>by
   rw[List.reverse_append];simp only[rev,jg] at ih2 ⊢
   exact sZ ih1 (by simpa using ih2))
  .nil
  (λ{p ps u v} _ _ ih1 ih2=>by
   simp only[jg,List.reverse_cons,List.reverse_append]
   exact ih2.snoc ih1)
  h
theorem vv:∀ (a b:List Pat),jg (a++b)=jg a++jg b
 | [],b=>rfl
 | p::a,b=>by simp only[List.cons_append,jg,vv a b]
theorem vu:∀ ss:List Pat,jg ss.reverse=(jg ss).reverse
 | []=>rfl
 | p::ps=>by simp only[List.reverse_cons,vv,vu ps,jg]
mutual
theorem zo:∀ p:Pat,rev (rev p)=p
 | .mk k cs ss=>by
  simp only[rev];split
  ·rw[vu,List.reverse_reverse,ng ss]
  ·rw[ng ss]
theorem ng:∀ ss:List Pat,jg (jg ss)=ss
 | []=>rfl
 | p::ps=>by simp only[jg,zo p,ng ps]
end
theorem Mw.back_iff {p:Pat}{x:List Int}:Mw p x↔Mw (rev p) x.reverse:=⟨Mw.back,λh=>by
 have:=h.back
 rwa [zo,List.reverse_reverse] at this⟩
end
section
open Go Go.Am Classical
set_option maxRecDepth 100000
def seg (l:List Int) (i j:Nat):List Int:=(l.drop i).take (j-i)
theorem md {l:List Int}{i j:Nat}(h:i<=j) (hj:j<=l.length):(seg l i j).length=j-i:=by
 simp[seg];omega
theorem vp {l:List Int}{i:Nat}:seg l i i=[]:=by simp[seg]
theorem uL {l:List Int}{i m j:Nat}(h1:i<=m) (h2:m<=j):seg l i m++seg l m j=seg l i j:=by
 unfold seg;have e:j-i=(m-i)+(j-m):=by omega
 rw[e,List.take_add,List.drop_drop];rw[show i+(m-i)=m by omega]
theorem sc {l:List Int}{i j:Nat}{u v:List Int}(h:i<=j) (hj:j<=l.length) (e:seg l i j=u++v):∃ m,i<=m∧m<=j∧u=seg l i m∧v=seg l m j:=by
 have hl:(seg l i j).length=j-i:=md h hj;rw[e,kG] at hl;refine⟨i+u.length,by omega,by omega,?_⟩;have e2:seg l i (i+u.length)++seg l (i+u.length) j=u++v:=by rw[uL om om,e]
 have e3:(seg l i (i+u.length)).length=u.length:=by rw[md om om];omega
 obtain⟨a,b⟩:=List.append_inj e2 e3;exact⟨a.symm,b.symm⟩
theorem zj {l:List Int}{i:Nat}(h:i<l.length):seg l i (i+1)=[l[i]]:=by
 unfold seg;rw[show i+1-i=1 by omega,kK h];rfl
def Ld (P:List Int->Prop) (l:List Int) (i j:Nat):Prop:=i<=j∧j<=l.length∧P (seg l i j)
noncomputable def bB (P:List Int->Prop) (l:List Int) (a:List Bool):List Bool:=(List.range (l.length+1)).map λj=>decide (∃ i,a.getD i false=true∧Ld P l i j)
theorem ai {P:List Int->Prop}{l:List Int}{a:List Bool}:(bB P l a).length=l.length+1:=by simp[bB]
theorem bX {P:List Int->Prop}{l:List Int}{a:List Bool}{j:Nat}:(bB P l a).getD j false=true↔∃ i,a.getD i false=true∧Ld P l i j:=by
 by_cases hj:j<l.length+1
 ·simp[bB,List.getD,hj]
 ·constructor
  ·intro h
   have:(bB P l a)[j]?=none:=List.getElem?_eq_none (by rw[ai];omega)
   simp[List.getD,this] at h
  ·rintro⟨i,_,_,h2,_⟩;omega
theorem fw {x y:List Bool}(hl:x.length=y.length) (h:∀ j,x.getD j false=true↔y.getD j false=true):x=y:=by
 refine List.ext_getElem hl λj h1 h2=>?_
 have:=h j
 simp only[List.getD,List.getElem?_eq_getElem h1,List.getElem?_eq_getElem h2,Option.getD_some] at this;cases hx:x[j]<;>cases hy:y[j]<;>simp_all
theorem gz {x:List Bool}{j:Nat}(h:x.getD j false=true):j<x.length:=by
 by_cases hj:j<x.length
 ·exact hj
 ·have:x[j]?=none:=List.getElem?_eq_none om
  simp[List.getD,this] at h
theorem oc {P Q:List Int->Prop}{l:List Int}{a:List Bool}(h:∀ w,P w↔Q w):bB P l a=bB Q l a:=by
 have:P=Q:=funext λw=>propext (h w)
 rw[this]
theorem Av {w:List Int}:MwL [] w↔w=[]:=⟨λh=>by cases h;rfl,λh=>by subst h;exact .nil⟩
theorem BF {l:List Int}{a:List Bool}(ha:a.length=l.length+1):bB (MwL []) l a=a:=by
 refine fw (by rw[ai,ha]) λj=>?_
 rw[bX];constructor
 ·rintro⟨i,h1,h2,h3,h4⟩;have:=congrArg List.length (Av.1 h4)
  rw[md h2 h3] at this
  have:i=j:=by simp at this;omega
  rwa [<-this]
 ·intro h;have:=gz h
  exact⟨j,h,kP _,by omega,Av.2 vp⟩
theorem yN {l:List Int}{a:List Bool}{ps:List Pat}{p:Pat}:bB (Mw p) l (bB (MwL ps) l a)=bB (MwL (ps++[p])) l a:=by
 refine fw (by rw[ai,ai]) λj=>?_
 rw[bX,bX];constructor
 ·rintro⟨m,h1,h2,h3,h4⟩;obtain⟨i,k1,k2,k3,k4⟩:=bX.1 h1;exact⟨i,k1,by omega,h3,by rw[<-uL k2 h2];exact k4.snoc h4⟩
 ·rintro⟨i,h1,h2,h3,h4⟩;obtain⟨u,v,e,h5,h6⟩:=MwL.split h4;obtain⟨m,m1,m2,rfl,rfl⟩:=sc h2 h3 e;exact⟨m,bX.2 ⟨i,h1,m1,by omega,h5⟩,m2,h3,MwL.one.1 h6⟩
theorem Mw_cat {cs:List Int}{ss:List Pat}{w:List Int}:Mw (.mk 2 cs ss) w↔MwL ss w:=⟨λh=>by cases h;assumption,.cat⟩
theorem Mw_alt {cs:List Int}{ss:List Pat}{w:List Int}:Mw (.mk 3 cs ss) w↔∃ s,s∈ss∧Mw s w:=⟨λh=>by cases h with|alt hm h=>exact⟨_,hm,h⟩,λ⟨_,h1,h2⟩=>.alt h1 h2⟩
theorem FT {cs:List Int}{ss:List Pat}{w:List Int}:Mw (.mk 1 cs ss) w↔∃ c,c∈cs∧w=[c]:=⟨λh=>by cases h with|cls h=>exact⟨_,h,rfl⟩,λ⟨_,h1,h2⟩=>by subst h2;exact .cls h1⟩
def orL (a b:List Bool):List Bool:=(List.range a.length).map λi=>a.getD i false || b.getD i false
def cg (a b:List Bool):List Bool:=(List.range a.length).map λi=>a.getD i false&&!b.getD i false
theorem pZ {a b:List Bool}:(orL a b).length=a.length:=by simp[orL]
theorem gT {a b:List Bool}:(cg a b).length=a.length:=by simp[cg]
theorem eQ {a b:List Bool}(h:a.length=b.length){j:Nat}:(orL a b).getD j false=true↔a.getD j false=true∨b.getD j false=true:=by
 by_cases hj:j<a.length
 ·simp[orL,List.getD,hj]
 ·have h1:a[j]?=none:=List.getElem?_eq_none om;have h2:b[j]?=none:=List.getElem?_eq_none om;have h3:(orL a b)[j]?=none:=List.getElem?_eq_none (by rw[pZ];omega);simp[List.getD,h1,h2,h3]
theorem mH {a b:List Bool}{j:Nat}:(cg a b).getD j false=true↔a.getD j false=true∧¬b.getD j false=true:=by
 by_cases hj:j<a.length
 ·simp[cg,List.getD,hj]
 ·have h1:a[j]?=none:=List.getElem?_eq_none om;have h3:(cg a b)[j]?=none:=List.getElem?_eq_none (by rw[gT];omega);simp[List.getD,h1,h3]
def Mw1 (ss:List Pat) (k:Nat) (w:List Int):Prop:=∃ s,s∈ss.take k∧Mw s w
theorem BI {l:List Int}{a:List Bool}{ss:List Pat}{k:Nat}(hk:k<ss.length):orL (bB (Mw1 ss k) l a) (bB (Mw ss[k]) l a)=bB (Mw1 ss (k+1)) l a:=by
 refine fw (by rw[pZ,ai,ai]) λj=>?_
 rw[eQ (by rw[ai,ai]),bX,bX,bX];have ht:ss.take (k+1)=ss.take k++[ss[k]]:=by rw[List.take_add_one,List.getElem?_eq_getElem hk];rfl
 constructor
 ·rintro(⟨i,h1,h2,h3,s,h4,h5⟩|⟨i,h1,h2,h3,h4⟩)
  ·exact⟨i,h1,h2,h3,s,by rw[ht];exact List.mem_append_left _ h4,h5⟩
  ·exact⟨i,h1,h2,h3,_,by rw[ht];exact List.mem_append_right _ List.mem_cons_self,h4⟩
 ·rintro⟨i,h1,h2,h3,s,h4,h5⟩;rw[ht,List.mem_append,List.mem_singleton] at h4;rcases h4 with h4|rfl
  ·exact .inl ⟨i,h1,h2,h3,s,h4,h5⟩
  ·exact .inr ⟨i,h1,h2,h3,h5⟩
theorem yO {l:List Int}{a:List Bool}{ss:List Pat}{j:Nat}:(bB (Mw1 ss 0) l a).getD j false=false:=by
 cases h:(bB (Mw1 ss 0) l a).getD j false with
 | false=>rfl
 | true=>
  obtain⟨i,_,_,_,s,h4,_⟩:=bX.1 h;simp at h4
theorem r6 {l:List Int}{a:List Bool}{cs:List Int}{ss:List Pat}:bB (Mw1 ss ss.length) l a=bB (Mw (.mk 3 cs ss)) l a:=
 oc λw=>by rw[Mw_alt,Mw1,List.take_length]
def cB (cs l:List Int) (a:List Bool):Nat->Bool
 | 0=>false
 | i+1=>decide (i<l.length)&&(a.getD i false&&cs.contains (l.getD i 0))
theorem BG {l:List Int}{a:List Bool}{cs:List Int}{ss:List Pat}:bB (Mw (.mk 1 cs ss)) l a=(List.range (l.length+1)).map (cB cs l a):=by
 refine fw (by simp[ai]) λj=>?_
 rw[bX];by_cases hj:j<l.length+1
 ·have e:((List.range (l.length+1)).map (cB cs l a)).getD j false=cB cs l a j:=by simp[List.getD,hj]
  rw[e];constructor
  ·rintro⟨i,h1,h2,h3,h4⟩;obtain⟨c,h5,h6⟩:=FT.1 h4;have h7:=congrArg List.length h6;rw[md h2 h3] at h7
   have:j=i+1:=by simp at h7;omega
   subst this;rw[zj om] at h6;injection h6 with h6 _
   have h8:l.getD i 0=l[i]:=by simp[List.getD,show i<l.length by omega]
   simp only[cB,kC,decide_eq_true_eq,List.contains_iff_mem];exact⟨by omega,h1,by rw[h8,h6];exact h5⟩
  ·intro h;cases j with
   | zero=>simp[cB] at h
   | succ i=>
    simp only[cB,kC,decide_eq_true_eq,List.contains_iff_mem] at h;obtain⟨h0,h1,h2⟩:=h;have h8:l.getD i 0=l[i]:=by simp[List.getD,h0]
    rw[h8] at h2;exact⟨i,h1,by omega,by omega,FT.2 ⟨l[i],h2,zj h0⟩⟩
 ·constructor
  ·rintro⟨i,_,_,h3,_⟩;omega
  ·intro h;have:=gz h
   simp at this;omega
structure rm (p:Pat) (l:List Int) (a out next:List Bool):Prop where
 lo:out.length=l.length+1
 ln:next.length=l.length+1
 a_out:∀ j,a.getD j false=true->out.getD j false=true
 n_out:∀ j,next.getD j false=true->out.getD j false=true
 sound:∀ j,out.getD j false=true->∃ i,a.getD i false=true∧Ld (Mw (.mk 4 [] [p])) l i j
 step:∀ i j,out.getD i false=true->¬next.getD i false=true->Ld (Mw p) l i j->out.getD j false=true
theorem vT {cs:List Int}{p:Pat}{ss:List Pat}{u v:List Int}(h:Mw (.mk 4 cs (p::ss)) u) (h2:Mw p v):Mw (.mk 4 cs (p::ss)) (u++v):=sZ h2 h
theorem rm.zero {p:Pat}{l:List Int}{a:List Bool}(ha:a.length=l.length+1):rm p l a a a:=
 ⟨ha,ha,λ_ h=>h,λ_ h=>h,λj h=>⟨j,h,kP _,by have:=gz h;omega,by rw[vp];exact .nil⟩,λi j h hn _=>absurd h hn⟩
theorem rm.next {p:Pat}{l:List Int}{a out next:List Bool}(S:rm p l a out next):rm p l a (orL out (cg (bB (Mw p) l next) out)) (cg (bB (Mw p) l next) out):=by
 have hl:out.length=(cg (bB (Mw p) l next) out).length:=by rw[gT,ai,S.lo]
 refine⟨by rw[pZ,S.lo],by rw[gT,ai],λj h=>(eQ hl).2 (.inl (S.a_out j h)),λj h=>(eQ hl).2 (.inr h),λj h=>?_,λi j h hn hd=>?_⟩
 ·rcases(eQ hl).1 h with h|h
  ·exact S.sound j h
  ·obtain⟨m,h1,h2,h3,h4⟩:=bX.1 (mH.1 h).1;obtain⟨i,k1,k2,k3,k4⟩:=S.sound m (S.n_out m h1);exact⟨i,k1,by omega,h3,by rw[<-uL k2 h2];exact vT k4 h4⟩
 ·rcases(eQ hl).1 h with h|h
  ·by_cases hx:next.getD i false=true
   ·by_cases hj:out.getD j false=true
    ·exact(eQ hl).2 (.inl hj)
    ·exact(eQ hl).2 (.inr (mH.2 ⟨bX.2 ⟨i,hx,hd⟩,hj⟩))
   ·exact(eQ hl).2 (.inl (S.step i j h hx hd))
  ·exact absurd h hn
theorem C6 {P:List Int->Prop}{p:Pat}{cs:List Int}{x:List Int}(h0:P []) (hs:∀ u v,Mw p u->P v->P (u++v)) (h:Mw (.mk 4 cs [p]) x):P x:=by
 generalize hq:Pat.mk 4 cs [p]=q at h;revert hq
 exact Mw.rec (motive_1:=λq x _=>Pat.mk 4 cs [p]=q->P x) (motive_2:=λ_ _ _=>True)
  (λ_ e=>by injection e with e;cases e) (λ_ _ e=>by injection e with e;cases e) (λ_ _ _ e=>by injection e with e;cases e)
  (λ_=>h0)
  (λ{cs' s' ss' u w} h _ _ ih e=>by
   injection e with _ e1 e2
   injection e2 with e2 e3;subst e1;subst e2;subst e3
   exact hs _ _ h (ih rfl))
  trivial (λ_ _ _ _=>trivial) h
theorem rm.done {p:Pat}{l:List Int}{a out next:List Bool}(S:rm p l a out next) (hn:∀ j,¬next.getD j false=true):out=bB (Mw (.mk 4 [] [p])) l a:=by
 refine fw (by rw[S.lo,ai]) λj=>?_
 rw[bX];refine⟨S.sound j,λ⟨i,h1,h2,h3,h4⟩=>?_⟩
 have key:∀ x,Mw (.mk 4 [] [p]) x->∀ i,out.getD i false=true->∀ j,i<=j->j<=l.length->seg l i j=x->out.getD j false=true:=λx hx=>
  C6 (P:=λx=>∀ i,out.getD i false=true->∀ j,i<=j->j<=l.length->seg l i j=x->out.getD j false=true)
   (λi hi j hij hj e=>by
    have:=congrArg List.length e
    rw[md hij hj] at this
    have:i=j:=by simp at this;omega
    rwa [<-this])
   (λu v hu ih i hi j hij hj e=>by
    obtain⟨m,m1,m2,rfl,rfl⟩:=sc hij hj e
    exact ih m (S.step i m hi (hn i) ⟨m1,by omega,hu⟩) j m2 hj rfl) hx
 exact key _ h4 i (S.a_out i h1) j h2 h3 rfl
def wr (a:List Bool):Nat:=a.countP λb=>!b
def jZ (a:List Bool):Bool:=a.any id
theorem ku {a:List Bool}:jZ a=true↔∃ j,a.getD j false=true:=by
 simp only[jZ,List.any_eq_true,id];constructor
 ·rintro⟨x,hx,rfl⟩;obtain⟨j,hj,e⟩:=List.mem_iff_getElem.1 hx;exact⟨j,by simp[List.getD,hj,e]⟩
 ·rintro⟨j,h⟩;have hj:=gz h;refine⟨true,?_,rfl⟩
  have:a[j]=true:=by simpa [List.getD,hj] using h
  rw[<-this];exact kM hj
theorem AP:∀ {a b:List Bool},a.length=b.length->(∀ j,a.getD j false=true->b.getD j false=true)->wr b<=wr a∧((∃ j,b.getD j false=true∧¬a.getD j false=true)->wr b<wr a)
 | [],[],_,_=>⟨kP _,λ⟨j,h,_⟩=>by simp at h⟩
 | [],_::_,h,_=>by simp at h
 | _::_,[],h,_=>by simp at h
 | x::a,y::b,hl,h=>by
  have ih:=AP (a:=a) (b:=b) (by simpa using hl) (λj hj=>by simpa using h (j+1) (by simpa using hj));have h0:x=true->y=true:=λe=>by simpa using h 0 (by simpa using e)
  unfold wr at ih ⊢;rw[List.countP_cons,List.countP_cons];refine⟨?_,λ⟨j,j1,j2⟩=>?_⟩
  ·cases x<;>cases y<;>simp at h0 ⊢<;>omega
  ·cases j with
   | zero=>
    have e1:y=true:=by simpa using j1
    have e2:x=false:=by simpa using j2
    subst e1;subst e2;simp;omega
   | succ j=>
    have:=ih.2 ⟨j,by simpa using j1,by simpa using j2⟩
    cases x<;>cases y<;>simp at h0 ⊢<;>omega
theorem rm.less {p:Pat}{l:List Int}{a out next:List Bool}(S:rm p l a out next) (hs:jZ next=true) :
  2*wr (orL out (cg (bB (Mw p) l next) out))+(if jZ (cg (bB (Mw p) l next) out)=true then 1 else 0)<2*wr out+(if jZ next=true then 1 else 0):=by
 have hl:out.length=(cg (bB (Mw p) l next) out).length:=by rw[gT,ai,S.lo]
 have g:=AP (a:=out) (b:=orL out (cg (bB (Mw p) l next) out)) (by rw[pZ]) (λj h=>(eQ hl).2 (.inl h));rw[if_pos hs];by_cases hf:jZ (cg (bB (Mw p) l next) out)=true
 ·obtain⟨j,hj⟩:=ku.1 hf;have:=g.2 ⟨j,(eQ hl).2 (.inr hj),(mH.1 hj).2⟩
  rw[if_pos hf];omega
 ·rw[if_neg hf];omega
end
section
open Go Go.Am Classical
set_option maxRecDepth 100000
theorem xX3.rbX {p:Prop}(h:p:=by first|exact Rb.cells (Rds.eqs e2 (bC (λ_=>rfl))) rfl|exact Rb.cells (Rds.eqs (bO om (λi _=>by first|(simp;done)|fail)) (bC (λ_=>rfl))) rfl|fail):p:=h
open xX3
variable [GT]
theorem some_c {a:List Bool}(ha:a.length<=1000000):Pu Tryz.prog 144 [a8 a] (boo (jZ a)):=by
 refine pv Tryz.func144 ?_;repeat' ((conv=>whnf);first|exact kQ|(refine bk ?_ ?_<;>intro _<;>try(exfalso;omega))|refine stq ?_)
 refine aH.by aB T0 (λk:Nat=>⟨tmp 14 [(0,a8 a),(3,i64 (k:Int))],⟨0,[]⟩⟩)
  (λk=>k<=a.length∧∀ i,i<k->¬a.getD i false=true) (λk=>a.length-k) 0 ⟨by omega,λ_ h=>by omega⟩ ?_ ?_
 ·exact lq0
 intro k ⟨h3,h4⟩;by_cases hk:k<a.length
 ·have eg:a.getD k false=a[k]:=aJ hk;cases hb:a[k] with
  | true=>
   repeat' ((conv=>whnf);first|refine Idx.atE (d:=boo true) k rfl hk (by rw[hb]) ?_|exact kQ|(refine bk ?_ ?_<;>intro _<;>try(exfalso;omega))|refine stq ?_|fail)
   all_goals(conv=>whnf)
   rw[ku.2 ⟨k,by rw[eg,hb]⟩];exact aC.same rfl rfl
  | false=>
   repeat' ((conv=>whnf);first|refine Idx.atE (d:=boo false) k rfl hk (by rw[hb]) ?_|exact kQ|(refine bk ?_ ?_<;>intro _<;>try(exfalso;omega))|refine stq ?_|fail)
   all_goals(conv=>whnf)
   refine⟨k+1,⟨by omega,λi hi=>?_⟩,by omega,?_⟩
   ·by_cases e:i=k
    ·subst e;rw[eg,hb];exact Bool.false_ne_true
    ·exact h4 i om
   exact lq0
 ·repeat' ((conv=>whnf);first|exact kQ|(refine bk ?_ ?_<;>intro _<;>try(exfalso;omega))|refine stq ?_|fail)
  all_goals(conv=>whnf)
  have:jZ a=false:=by
   cases hs:jZ a with
   | false=>rfl
   | true=>
    obtain⟨j,hj⟩:=ku.1 hs;exact absurd hj (h4 j (by have:=gz hj;omega))
  rw[this];exact aC.same rfl rfl
theorem rT {a b:List Bool}(ha:a.length<=1000000) (hb:a.length<=b.length):Pu Tryz.prog 143 [a8 a,a8 b] (a8 (orL a b)):=by
 refine pv Tryz.func143 ?_;repeat' ((conv=>whnf);first|exact kQ|(refine bk ?_ ?_<;>intro _<;>try(exfalso;omega))|refine stq ?_)
 refine aH.by aB T0 (λk:Nat=>⟨tmp 30 [(0,a8 a),(1,a8 b),(5,.sl 0 0 a.length a.length 1 true),(6,i64 (k:Int))],⟨1,[(0,.cells (aY a.length λi=>boo (decide (i<k)&&(a.getD i false || b.getD i false))) true)]⟩⟩)
  (λk=>k<=a.length) (λk=>a.length-k) 0 om ?_ ?_
 ·exact lq [(0,_)] []
 intro k h3;by_cases hk:k<a.length
 ·have ea:a.getD k false=a[k]:=aJ hk;have eb:b.getD k false=b[k]:=aJ om
  have e2:(aY a.length λi=>boo (decide (i<k)&&(a.getD i false || b.getD i false))).set k (boo (a[k] || b[k]))=aY a.length λi=>boo (decide (i<k+1)&&(a.getD i false || b.getD i false)):=
   bo (by rw[ea,eb];simp) (λi _ hi=>by simp only[show(i<k+1)=(i<k) from propext ⟨λh=>by omega,λh=>by omega⟩])
  cases hx:a[k] with
  | true=>
   rw[hx,Bool.true_or] at e2;repeat' ((conv=>whnf);first|refine Idx.atE (d:=boo true) k rfl hk (by rw[hx]) ?_|exact kQ|(refine bk ?_ ?_<;>intro _<;>try(exfalso;omega))|refine stq ?_|refine Put.one (by simp;omega) ?_|fail)
   all_goals(conv=>whnf)
   refine⟨k+1,by omega,by omega,?_⟩;exact lq [(0,_)] []
  | false=>
   rw[hx,Bool.false_or] at e2;repeat' ((conv=>whnf);first|refine Idx.atE (l:=b) (d:=boo b[k]) k rfl om rfl ?_|refine Idx.atE (l:=a) (d:=boo false) k rfl hk (by rw[hx]) ?_|exact kQ|(refine bk ?_ ?_<;>intro _<;>try(exfalso;omega))|refine stq ?_|refine Put.one (by simp;omega) ?_|fail)
   all_goals(conv=>whnf)
   refine⟨k+1,by omega,by omega,?_⟩;exact lq [(0,_)] []
 ·repeat' ((conv=>whnf);first|exact kQ|(refine bk ?_ ?_<;>intro _<;>try(exfalso;omega))|refine stq ?_|fail)
  all_goals(conv=>whnf)
  refine aC.frz1 (l:=orL a b) (f:=boo) rfl ?_ (by simp[orL]) (λ_=>rfl) rfl;simp only[orL,aY,List.map_map];exact List.map_congr_left λi hi=>by simp at hi;simp[show i<k by omega]
theorem Gx {a b:List Bool}(ha:a.length<=1000000) (hb:a.length<=b.length):Pu Tryz.prog 145 [a8 a,a8 b] (a8 (cg a b)):=by
 refine pv Tryz.func145 ?_;repeat' ((conv=>whnf);first|exact kQ|(refine bk ?_ ?_<;>intro _<;>try(exfalso;omega))|refine stq ?_)
 refine aH.by aB T0 (λk:Nat=>⟨tmp 31 [(0,a8 a),(1,a8 b),(5,.sl 0 0 a.length a.length 1 true),(6,i64 (k:Int))],⟨1,[(0,.cells (aY a.length λi=>boo (decide (i<k)&&(a.getD i false&&!b.getD i false))) true)]⟩⟩)
  (λk=>k<=a.length) (λk=>a.length-k) 0 om ?_ ?_
 ·exact lq [(0,_)] []
 intro k h3;by_cases hk:k<a.length
 ·have ea:a.getD k false=a[k]:=aJ hk;have eb:b.getD k false=b[k]:=aJ om
  have e2:(aY a.length λi=>boo (decide (i<k)&&(a.getD i false&&!b.getD i false))).set k (boo (a[k]&&!b[k]))=aY a.length λi=>boo (decide (i<k+1)&&(a.getD i false&&!b.getD i false)):=
   bo (by rw[ea,eb];simp) (λi _ hi=>by simp only[show(i<k+1)=(i<k) from propext ⟨λh=>by omega,λh=>by omega⟩])
  cases hx:a[k] with
  | false=>
   rw[hx,Bool.false_and] at e2;repeat' ((conv=>whnf);first|refine Idx.atE (d:=boo false) k rfl hk (by rw[hx]) ?_|exact kQ|(refine bk ?_ ?_<;>intro _<;>try(exfalso;omega))|refine stq ?_|refine Put.one (by simp;omega) ?_|fail)
   all_goals(conv=>whnf)
   refine⟨k+1,by omega,by omega,?_⟩;exact lq [(0,_)] []
  | true=>
   rw[hx,Bool.true_and] at e2;repeat' ((conv=>whnf);first|refine Idx.atE (l:=b) (d:=boo b[k]) k rfl om rfl ?_|refine Idx.atE (l:=a) (d:=boo true) k rfl hk (by rw[hx]) ?_|exact kQ|(refine bk ?_ ?_<;>intro _<;>try(exfalso;omega))|refine stq ?_|refine Put.one (by simp;omega) ?_|fail)
   all_goals(conv=>whnf)
   refine⟨k+1,by omega,by omega,?_⟩;exact lq [(0,_)] []
 ·repeat' ((conv=>whnf);first|exact kQ|(refine bk ?_ ?_<;>intro _<;>try(exfalso;omega))|refine stq ?_|fail)
  all_goals(conv=>whnf)
  refine aC.frz1 (l:=cg a b) (f:=boo) rfl ?_ (by simp[cg]) (λ_=>rfl) rfl;simp only[cg,aY,List.map_map];exact List.map_congr_left λi hi=>by simp at hi;simp[show i<k by omega]
end
section
open Go Go.Am Classical
set_option maxRecDepth 100000
theorem xX4.rdX {p:Prop}(h:p:=by first|exact Rd.same (bM _)|exact Rd.eqd (by first|(rw[List.take_zero,BF ha];done)|fail) (bM _)|exact lK rfl rfl (hz _ rfl) (by first|(rw[ai];omega;done)|fail)|exact lK rfl rfl (hz _ rfl) sim|fail):p:=h
theorem xX4.rbX {p:Prop}(h:p:=by first|exact Rb.cells (Rds.same (wJ _ _ _)) rfl|exact Rb.cells (Rds.eqs (jS (λi _=>start i)) (bC (λ_=>rfl))) rfl|exact Rb.cells (Rds.eqs e2 (bC (λ_=>rfl))) rfl|exact Rb.cells (Rds.eqs e3 (bC (λ_=>rfl))) rfl|exact Rb.cells (Rds.eqs (bO om (λi _=>by first|(cases i<;>simp[cB];done)|fail)) (bC (λ_=>rfl))) rfl|fail):p:=h
open xX4
variable [GT]
def iq (p:Pat):Prop:=∀ (l:List Int) (a:List Bool),l.length<=100000->a.length=l.length+1->Pu Tryz.prog 109 [.agg (bF p),aF l,a8 a] (a8 (bB (Mw p) l a))
theorem wJ (k:Int) (cs:List Int) (ss:List Pat):aD [i64 k,aF cs,lstS bF ss]=true:=by rw[<-az];exact de _
theorem mv (k:Int) (cs:List Int) (ss:List Pat) (l:List Int) (a:List Bool):aD [.agg [i64 k,aF cs,lstS bF ss],aF l,a8 a]=true:=by
 have h:aK (.agg [i64 k,aF cs,lstS bF ss])=true:=e7 k cs ss;simp only[aD,h,aM,bM,Bool.and_true]
theorem lK {h:aA}{fz:Nat->Bool}{σ:Nat->Option Nat}{id n cap:Nat}{b:List Bool}{cs:List D}{ex bx:Bool}(hf:fz id=true) (hg:h.get id=some (.cells cs bx)) (ec:cs=b.map boo) (e:n=b.length):Rd h fz σ (.sl id 0 n cap 1 ex) (a8 b):=by
 subst e;subst ec;refine .frz hf hg si (.eqs ?_ (aT (λ_=>rfl) _));rw[List.drop_zero,kE si]
theorem sH {l:List Int}{y x:Int}:(l++[y]).contains x=(l.contains x || decide (x=y)):=by
 rw[Bool.eq_iff_iff];simp
set_option maxHeartbeats 2000000 in
theorem Eg {cs:List Int}{ss:List Pat}(hcs:cs.length<=100000):iq (.mk 1 cs ss):=by
 intro l a hl ha;rw[BG,az];refine Pu.of_v aB T0 Tryz.func109 rfl rfl (mv _ _ _ _ _) ?_;repeat' ((conv=>whnf);first|exact kQ|(refine bk ?_ ?_<;>intro _<;>try(exfalso;omega))|refine stq ?_|fail)
 refine aH.by aB T0 (λk:Nat=>⟨tmp 119 [(1,aF l),(2,a8 a),(3,.ptr 0 0),(7,.sl 1 0 (l.length+1) (l.length+1) 1 true),(8,i64 (k:Int))],⟨2,[(1,.cells (aY (l.length+1) λj=>boo (decide (j<=k)&&cB cs l a j)) true),(0,.cells [i64 1,aF cs,lstS bF ss] true)]⟩⟩)
  (λk=>k<=l.length) (λk=>l.length-k) 0 om ?_ ?_
 ·exact lq [(0,_),(1,_)] []
 intro k h3;by_cases hk:k<l.length
 ·have hka:k<a.length:=by omega
  have ea:a.getD k false=a[k]:=aJ hka;have el:l.getD k 0=l[k]:=aJ hk
  have start:∀ i,boo (decide (i<=k)&&cB cs l a i)=boo (if i=k+1 then a[k]&&(cs.take 0).contains l[k] else decide (i<=k)&&cB cs l a i):=λi=>by
   by_cases hi:i=k+1
   ·subst hi;rw[if_pos rfl,show decide (k+1<=k)=false from decide_eq_false om,List.take_zero,Bool.false_and,show([]:List Int).contains l[k]=false from rfl,Bool.and_false]
   ·rw[if_neg hi]
  have fin:∀ m,(a[k]&&(cs.take m).contains l[k])=(a[k]&&cs.contains l[k])->(aY (l.length+1) λj=>boo (if j=k+1 then a[k]&&(cs.take m).contains l[k] else decide (j<=k)&&cB cs l a j))=aY (l.length+1) λj=>boo (decide (j<=k+1)&&cB cs l a j):=λm hm=>jS λi _=>by
   by_cases hi:i=k+1
   ·subst hi;simp only[if_true,hm,kP,decide_true,Bool.true_and,cB,ea,el,hk]
   ·simp only[hi,if_false,show(i<=k+1)=(i<=k) from propext ⟨λh=>by omega,λh=>by omega⟩]
  repeat' ((conv=>whnf);first|exact kQ|(refine bk ?_ ?_<;>intro _<;>try(exfalso;omega))|refine stq ?_|fail)
  refine aH.by aB T0 (λm:Nat=>⟨tmp 119 [(1,aF l),(2,a8 a),(3,.ptr 0 0),(7,.sl 1 0 (l.length+1) (l.length+1) 1 true),(8,i64 (k:Int)),(9,i64 (m:Int))],⟨2,[(1,.cells (aY (l.length+1) λj=>boo (if j=k+1 then a[k]&&(cs.take m).contains l[k] else decide (j<=k)&&cB cs l a j)) true),(0,.cells [i64 1,aF cs,lstS bF ss] true)]⟩⟩)
   (λm=>m<=cs.length) (λm=>cs.length-m) 0 om ?_ ?_
  ·exact lq [(0,_),(1,_)] []
  intro m h4;by_cases hb:a[k]=true
  ·by_cases hm:m<cs.length
   ·have hXs:(cs.take (m+1)).contains l[k]=((cs.take m).contains l[k] || decide (l[k]=cs[m])):=by
     rw[show cs.take (m+1)=cs.take m++[cs[m]] by rw[List.take_add_one,List.getElem?_eq_getElem hm];rfl,sH]
    by_cases hX:(cs.take m).contains l[k]=true
    ·have e2:((aY (l.length+1) λj=>boo (if j=k+1 then a[k]&&(cs.take m).contains l[k] else decide (j<=k)&&cB cs l a j)).set (k+1) (boo true))=aY (l.length+1) λj=>boo (if j=k+1 then a[k]&&(cs.take (m+1)).contains l[k] else decide (j<=k)&&cB cs l a j):=
      bo (by simp only[if_true,hXs,hb,hX,Bool.true_and,Bool.true_or]) (λi _ hi=>by simp only[hi,if_false])
     repeat' ((conv=>whnf);first|refine Idx.atE (l:=a) (d:=boo true) k rfl om (by rw[hb]) ?_|exact kQ|(refine bk ?_ ?_<;>intro _<;>try(exfalso;omega))|refine stq ?_|refine aj.by (id:=10) aB T0 [0,0,2,0,0,16,56,120,248,504,1016,504,4088,8184,504,504,49656,115192,262136,524280,1048575,2097151] (by kernel_rfl) ?_|refine cG.at (k+1) om om ?_|refine Get.F (k:=k+1) (d:=boo true) om (by simp only[if_true,hb,hX,Bool.true_and]) ?_|refine Put.one (by simp;omega) ?_|fail)
     all_goals(conv=>whnf)
     refine⟨m+1,by omega,by omega,?_⟩;exact lq [(0,_),(1,_)] []
    ·have hX0:(cs.take m).contains l[k]=false:=by simpa using hX
     by_cases hq:cs[m]=l[k]
     ·have e2:((aY (l.length+1) λj=>boo (if j=k+1 then a[k]&&(cs.take m).contains l[k] else decide (j<=k)&&cB cs l a j)).set (k+1) (boo true))=aY (l.length+1) λj=>boo (if j=k+1 then a[k]&&(cs.take (m+1)).contains l[k] else decide (j<=k)&&cB cs l a j):=
       bo (by simp only[if_true,hXs,hb,hX,hq,decide_true,Bool.true_and,Bool.or_true]) (λi _ hi=>by simp only[hi,if_false])
      repeat' ((conv=>whnf);first|refine Idx.atE (l:=a) (d:=boo true) k rfl om (by rw[hb]) ?_|exact kQ|(refine bk ?_ ?_<;>intro _<;>try(exfalso;omega))|refine stq ?_|refine aj.by (id:=10) aB T0 [0,0,2,0,0,16,56,120,248,504,1016,504,4088,8184,504,504,49656,115192,262136,524280,1048575,2097151] (by kernel_rfl) ?_|refine cG.at (k+1) om om ?_|refine Get.F (k:=k+1) (d:=boo false) om (by simp only[if_true,hb,hX0,Bool.true_and]) ?_|refine Idx.at m rfl hm ?_|refine Idx.at k rfl hk ?_|refine Put.one (by simp;omega) ?_|fail)
      all_goals(conv=>whnf)
      refine⟨m+1,by omega,by omega,?_⟩;exact lq [(0,_),(1,_)] []
     ·have e2:((aY (l.length+1) λj=>boo (if j=k+1 then a[k]&&(cs.take m).contains l[k] else decide (j<=k)&&cB cs l a j)).set (k+1) (boo false))=aY (l.length+1) λj=>boo (if j=k+1 then a[k]&&(cs.take (m+1)).contains l[k] else decide (j<=k)&&cB cs l a j):=
       bo (by
        have:decide (l[k]=cs[m])=false:=decide_eq_false λe=>hq e.symm
        simp only[if_true,hXs,hb,hX0,this,Bool.true_and,Bool.or_false]) (λi _ hi=>by simp only[hi,if_false])
      repeat' ((conv=>whnf);first|refine Idx.atE (l:=a) (d:=boo true) k rfl om (by rw[hb]) ?_|exact kQ|(refine bk ?_ ?_<;>intro _<;>try(exfalso;omega))|refine stq ?_|refine aj.by (id:=10) aB T0 [0,0,2,0,0,16,56,120,248,504,1016,504,4088,8184,504,504,49656,115192,262136,524280,1048575,2097151] (by kernel_rfl) ?_|refine cG.at (k+1) om om ?_|refine Get.F (k:=k+1) (d:=boo false) om (by simp only[if_true,hb,hX0,Bool.true_and]) ?_|refine Idx.at m rfl hm ?_|refine Idx.at k rfl hk ?_|refine Put.one (by simp;omega) ?_|fail)
      all_goals(conv=>whnf)
      refine⟨m+1,by omega,by omega,?_⟩;exact lq [(0,_),(1,_)] []
   ·have e3:=fin m (by rw[kE om]);repeat' ((conv=>whnf);first|refine Idx.atE (l:=a) (d:=boo true) k rfl om (by rw[hb]) ?_|exact kQ|(refine bk ?_ ?_<;>intro _<;>try(exfalso;omega))|refine stq ?_|fail)
    all_goals(conv=>whnf)
    refine⟨k+1,by omega,by omega,?_⟩;exact lq [(0,_),(1,_)] []
  ·have hb0:a[k]=false:=by simpa using hb
   have e3:=fin m (by rw[hb0,Bool.false_and,Bool.false_and]);repeat' ((conv=>whnf);first|refine Idx.atE (l:=a) (d:=boo false) k rfl om (by rw[hb0]) ?_|exact kQ|(refine bk ?_ ?_<;>intro _<;>try(exfalso;omega))|refine stq ?_|fail)
   all_goals(conv=>whnf)
   refine⟨k+1,by omega,by omega,?_⟩;exact lq [(0,_),(1,_)] []
 ·repeat' ((conv=>whnf);first|exact kQ|(refine bk ?_ ?_<;>intro _<;>try(exfalso;omega))|refine stq ?_|fail)
  all_goals(conv=>whnf)
  refine aC.frz1 (l:=(List.range (l.length+1)).map (cB cs l a)) (f:=boo) rfl ?_ si (λ_=>rfl) rfl;simp only[aY,List.map_map];exact List.map_congr_left λi hi=>by simp at hi;simp[show i<=k by omega]
theorem Eh {cs:List Int}{ss:List Pat}(hs:∀ k (h:k<ss.length),iq ss[k]) (hss:ss.length<=100000):iq (.mk 2 cs ss):=by
 intro l a hl ha;rw[show bB (Mw (.mk 2 cs ss)) l a=bB (MwL ss) l a from oc λw=>Mw_cat,az];refine Pu.of_v aB T0 Tryz.func109 rfl rfl (mv _ _ _ _ _) ?_;repeat' ((conv=>whnf);first|exact kQ|(refine bk ?_ ?_<;>intro _<;>try(exfalso;omega))|refine stq ?_|fail)
 refine aH.by aB T0 (λk:Nat=>⟨tmp 119 [(1,aF l),(3,.ptr 0 0),(7,a8 (bB (MwL (ss.take k)) l a)),(10,i64 (k:Int))],⟨1,[(0,.cells [i64 2,aF cs,lstS bF ss] true)]⟩⟩)
  (λk=>k<=ss.length) (λk=>ss.length-k) 0 om ?_ ?_
 ·exact lq [(0,_)] []
 intro k h3;by_cases hk:k<ss.length
 ·have hc:=hs k hk l _ hl (ai (P:=MwL (ss.take k)) (l:=l) (a:=a));rw[yN,show ss.take k++[ss[k]]=ss.take (k+1) by rw[List.take_add_one,List.getElem?_eq_getElem hk];rfl] at hc;cases hq:ss[k] with
  | mk k' c' s'=>
  rw[hq,az] at hc;have hpc:bF ss[k]=[i64 k',aF c',lstS bF s']:=by rw[hq,az]
  repeat' ((conv=>whnf);first|refine Idx.atSE c7 k rfl hk hpc ?_|exact kQ|(refine bk ?_ ?_<;>intro _<;>try(exfalso;omega))|refine stq ?_|refine cp hc ?_|fail)
  all_goals(conv=>whnf)
  refine⟨k+1,by omega,by omega,?_⟩;exact lq [(0,_)] []
 ·repeat' ((conv=>whnf);first|exact kQ|(refine bk ?_ ?_<;>intro _<;>try(exfalso;omega))|refine stq ?_|fail)
  all_goals(conv=>whnf)
  exact aC.same (bM _) (congrArg (λq=>a8 (bB (MwL q) l a)) (kE om))
theorem Ei {cs:List Int}{ss:List Pat}(hs:∀ k (h:k<ss.length),iq ss[k]) (hss:ss.length<=100000):iq (.mk 3 cs ss):=by
 intro l a hl ha;rw[<-r6,az];refine Pu.of_v aB T0 Tryz.func109 rfl rfl (mv _ _ _ _ _) ?_
 have hz:∀ m:Int,m=(l.length:Int)+1->cU [boo false] m.toNat=(bB (Mw1 ss 0) l a).map boo:=λm hm=>by
  have e1:cU [boo false] m.toNat=aY (l.length+1) (λ_=>boo false):=bO om (λ_ _=>rfl)
  have e2:=cZ (l:=bB (Mw1 ss 0) l a) (f:=boo) (g:=λ_=>boo false) (λi hi=>by
   have:=yO (l:=l) (a:=a) (ss:=ss) (j:=i)
   rw[aJ hi] at this
   rw[this])
  rw[ai] at e2;rw[e1,e2]
 repeat' ((conv=>whnf);first|exact kQ|(refine bk ?_ ?_<;>intro _<;>try(exfalso;omega))|refine stq ?_|fail)
 refine aH.by aB T0 (λk:Nat=>⟨tmp 119 [(1,aF l),(2,a8 a),(3,.ptr 0 0),(7,a8 (bB (Mw1 ss k) l a)),(11,i64 (k:Int))],⟨1,[(0,.cells [i64 3,aF cs,lstS bF ss] true)]⟩⟩)
  (λk=>k<=ss.length) (λk=>ss.length-k) 0 om ?_ ?_
 ·exact lq [(0,_)] [5]
 intro k h3;by_cases hk:k<ss.length
 ·have hc:=hs k hk l a hl ha;have he:=rT (a:=bB (Mw1 ss k) l a) (b:=bB (Mw ss[k]) l a) (by rw[ai];omega) (by rw[ai,ai];omega);rw[BI hk] at he;generalize bB (Mw ss[k]) l a=r1 at hc he;cases hq:ss[k] with
  | mk k' c' s'=>
  rw[hq,az] at hc;have hpc:bF ss[k]=[i64 k',aF c',lstS bF s']:=by rw[hq,az]
  repeat' ((conv=>whnf);first|refine Idx.atSE c7 k rfl hk hpc ?_|exact kQ|(refine bk ?_ ?_<;>intro _<;>try(exfalso;omega))|refine stq ?_|refine cp hc ?_|refine cp he ?_|fail)
  all_goals(conv=>whnf)
  refine⟨k+1,by omega,by omega,?_⟩;exact lq [(0,_)] []
 ·have hkk:k=ss.length:=by omega
  subst hkk;repeat' ((conv=>whnf);first|exact kQ|(refine bk ?_ ?_<;>intro _<;>try(exfalso;omega))|refine stq ?_|fail)
  all_goals(conv=>whnf)
  exact aC.same (bM _) rfl
theorem Di {a:List Bool}:orL (List.replicate a.length false) a=a:=by
 refine fw (by simp[orL]) λj=>?_
 rw[eQ si];constructor
 ·rintro(h|h)
  ·have:=gz h
   simp[List.getD,List.getElem?_replicate] at h;split at h<;>simp at h
  ·exact h
 ·exact .inr
theorem B3 {p:Pat}(hp:iq p):iq (.mk 4 [] [p]):=by
 intro l a hl ha;generalize hr:bB (Mw (.mk 4 [] [p])) l a=r;rw[az];refine Pu.of_v aB T0 Tryz.func109 rfl rfl (mv _ _ _ _ _) ?_
 have hz:∀ m:Int,m=(l.length:Int)+1->cU [boo false] m.toNat=(List.replicate a.length false).map boo:=λm hm=>by
  have e1:cU [boo false] m.toNat=aY (l.length+1) (λ_=>boo false):=bO om (λ_ _=>rfl);have e2:=cZ (l:=List.replicate a.length false) (f:=boo) (g:=λ_=>boo false) (λi hi=>by simp);rw[List.length_replicate] at e2;rw[e1,<-ha,e2]
 have he:=rT (a:=List.replicate a.length false) (b:=a) (by simp;omega) si;rw[Di] at he;repeat' ((conv=>whnf);first|exact kQ|(refine bk ?_ ?_<;>intro _<;>try(exfalso;omega))|refine stq ?_|refine Cll.emb (he ⟨0,[]⟩) [] [5] (a8 a) [] [(0,.cells [i64 4,aF [],lstS bF [p]] true)] rfl cI bxA rdA bxA reA ?_|fail)
 refine aH.by2 aB T0 (λ(out next:List Bool)=>⟨tmp 119 [(1,aF l),(3,.ptr 0 0),(7,a8 out),(12,a8 next)],⟨1,[(0,.cells [i64 4,aF [],lstS bF [p]] true)]⟩⟩)
  (λout next=>rm p l a out next) (λout next=>2*wr out+(if jZ next=true then 1 else 0)) a a (rm.zero ha) ?_ ?_
 ·exact lq [(0,_)] []
 intro out next S
 have h1:=some_c (a:=next) (by rw[S.ln];omega);by_cases hsm:jZ next=true
 ·rw[hsm] at h1;have hless:=S.less hsm;have S2:=S.next;have h2:=hp l next hl S.ln
  have h3:=Gx (a:=bB (Mw p) l next) (b:=out) (by rw[ai];omega) (by rw[ai,S.lo];omega);have h4:=rT (a:=out) (b:=cg (bB (Mw p) l next) out) (by rw[S.lo];omega) (by rw[S.lo,gT,ai];omega);generalize bB (Mw p) l next=r1 at h2 h3 h4 S2 hless
  generalize cg r1 out=r2 at h3 h4 S2 hless;generalize orL out r2=r3 at h4 S2 hless;cases hq:p with
  | mk k' c' s'=>
  rw[hq,az] at h2;repeat' ((conv=>whnf);first|refine Idx.atSE (l:=[Pat.mk k' c' s']) c7 0 rfl si (az k' c' s') ?_|exact kQ|(refine bk ?_ ?_<;>intro _<;>try(exfalso;omega))|refine stq ?_|refine cp h1 ?_|refine cp h2 ?_|refine cp h3 ?_|refine cp h4 ?_|fail)
  all_goals(conv=>whnf)
  refine⟨r3,r2,by rw[<-hq];exact S2,hless,?_⟩;exact lq [(0,_)] []
 ·have h1':jZ next=false:=by simpa using hsm
  rw[h1'] at h1;have hd:=S.done (λj hj=>hsm (ku.2 ⟨j,hj⟩));rw[hr] at hd;subst hd;repeat' ((conv=>whnf);first|exact kQ|(refine bk ?_ ?_<;>intro _<;>try(exfalso;omega))|refine stq ?_|refine cp h1 ?_|fail)
  all_goals(conv=>whnf)
  exact aC.same (bM _) rfl
mutual
def okP:Pat->Bool
 | .mk k cs ss=>if k=1 then Nat.ble cs.length 100000 else if k=2 then Nat.ble ss.length 100000&&yW ss else if k=3 then Nat.ble ss.length 100000&&yW ss else if k=4 then cs.isEmpty&&Nat.beq ss.length 1&&yW ss else false
def yW:List Pat->Bool
 | []=>true
 | p::ps=>okP p&&yW ps
end
mutual
theorem jJ:∀ p,okP p=true->iq p
 | .mk k cs ss,h=>by
  simp only[okP] at h;by_cases h1:k=1
  ·subst h1;exact Eg (by simpa [Nat.ble_eq] using h)
  rw[if_neg h1] at h;by_cases h2:k=2
  ·subst h2;simp only[if_true,kC,Nat.ble_eq] at h;exact Eh (pw ss h.2) h.1
  rw[if_neg h2] at h;by_cases h3:k=3
  ·subst h3;simp only[if_true,kC,Nat.ble_eq] at h;exact Ei (pw ss h.2) h.1
  rw[if_neg h3] at h;by_cases h4:k=4
  ·subst h4;simp only[if_true,kC,Nat.beq_eq] at h;obtain⟨⟨hc,hl⟩,ho⟩:=h;have hcs:cs=[]:=by simpa using hc
   subst hcs
   match ss,hl,pw ss ho with
   | [p],_,hx=>exact B3 (hx 0 si)
  ·rw[if_neg h4] at h;cases h
theorem pw:∀ ss,yW ss=true->∀ k (h:k<ss.length),iq ss[k]
 | [],_,k,h=>by simp at h
 | p::ps,h,0,_=>by
  simp only[yW,kC] at h;exact jJ p h.1
 | p::ps,h,k+1,hk=>by
  simp only[yW,kC] at h;exact pw ps h.2 k (by simpa using hk)
end
end
end Go.Proofs.YtbmdndckndnehaaGreatDoor
