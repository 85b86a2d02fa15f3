/-
  Patterns and words: what is left of a pattern behind a class; words backward. Plain: no program in sight.
-/
import Derived.Test.YtbmdndckndnehaaGreatDoorC8
set_option linter.unusedSectionVars false
namespace Go.Proofs.YtbmdndckndnehaaGreatDoor
section
open Go Go.Am
set_option maxRecDepth 100000
mutual
inductive Mw:Pat->List Int->Prop
 | cls {cs:List Int} {ss:List Pat} {c:Int} (h:c∈cs):Mw (.mk 1 cs ss) [c]
 | cat {cs:List Int} {ss:List Pat} {w:List Int} (h:MwL ss w):Mw (.mk 2 cs ss) w
 | alt {cs:List Int} {ss:List Pat} {s:Pat} {w:List Int} (hm:s∈ss) (h:Mw s w):Mw (.mk 3 cs ss) w
 | nil {cs:List Int} {ss:List Pat}:Mw (.mk 4 cs ss) []
 | more {cs:List Int} {s:Pat} {ss:List Pat} {u v:List Int} (h:Mw s u) (h2:Mw (.mk 4 cs (s::ss)) v):Mw (.mk 4 cs (s::ss)) (u++v)
inductive MwL:List Pat->List Int->Prop
 | nil:MwL [] []
 | cons {p:Pat} {ps:List Pat} {u v:List Int} (h:Mw p u) (h2:MwL ps v):MwL (p::ps) (u++v)
end
theorem MwL.app:∀ {ps qs:List Pat}{u v:List Int},MwL ps u->MwL qs v->MwL (ps++qs) (u++v)
 | [],qs,_,v,.nil,h=>h
 | p::ps,qs,_,v,.cons (u:=a) (v:=b) h h2,h3=>by
  rw[List.append_assoc];exact .cons h (MwL.app h2 h3)
theorem MwL.split:∀ {ps qs:List Pat}{w:List Int},MwL (ps++qs) w->∃ u v,w=u++v∧MwL ps u∧MwL qs v
 | [],qs,w,h=>⟨[],w,rfl,.nil,h⟩
 | p::ps,qs,_,.cons (u:=a) (v:=b) h h2=>by
  obtain⟨u,v,rfl,h3,h4⟩:=MwL.split h2;exact⟨a++u,v,by rw[List.append_assoc],.cons h h3,h4⟩
theorem MwL.one {p:Pat}{w:List Int}:MwL [p] w↔Mw p w:=by
 constructor
 ·intro h;cases h with
  | cons h h2=>cases h2;simpa using h
 ·intro h;simpa using MwL.cons h .nil
mutual
def nu:Pat->Bool
 | .mk k _ ss=>if k=2 then nuL ss else if k=3 then nuA ss else if k=4 then true else false
def nuL:List Pat->Bool
 | []=>true
 | p::ps=>nu p&&nuL ps
def nuA:List Pat->Bool
 | []=>false
 | p::ps=>nu p || nuA ps
end
mutual
def aft (c:Int):Pat->List (List Pat)
 | .mk k cs ss=>if k=1 then(if cs.contains c then [[]] else []) else if k=2 then jk c ss else if k=3 then Al c ss else if k=4 then aftH c (.mk 4 cs ss) ss else []
def jk (c:Int):List Pat->List (List Pat)
 | []=>[]
 | p::ps=>(aft c p).map (·++ps)++(if nu p then jk c ps else [])
def aftH (c:Int) (t:Pat):List Pat->List (List Pat)
 | []=>[]
 | s::_=>(aft c s).map (·++[t])
def Al (c:Int):List Pat->List (List Pat)
 | []=>[]
 | p::ps=>aft c p++Al c ps
end
mutual
theorem BT:∀ (p:Pat),Mw p []->nu p=true
 | .mk k cs ss,h=>by
  generalize hw:([]:List Int)=w at h;cases h with
  | cls h=>cases hw
  | cat h=>subst hw;simp only[nu,if_true];exact zy ss h
  | alt hm h=>subst hw;simp only[nu,if_true];exact FG ss _ hm h
  | nil=>simp[nu]
  | more h h2=>simp[nu]
theorem zy:∀ (ps:List Pat),MwL ps []->nuL ps=true
 | [],_=>rfl
 | p::ps,h=>by
  generalize hw:([]:List Int)=w at h;cases h with
  | cons h h2=>
   have:=List.append_eq_nil_iff.1 hw.symm
   obtain⟨rfl,rfl⟩:=this;simp only[nuL,BT p h,zy ps h2,Bool.and_self]
theorem FG:∀ (ps:List Pat) (s:Pat),s∈ps->Mw s []->nuA ps=true
 | [],s,hm,_=>by simp at hm
 | p::ps,s,hm,h=>by
  rcases List.mem_cons.1 hm with e|hm
  ·rw[e] at h;simp only[nuA,BT p h,Bool.true_or]
  ·simp only[nuA,FG ps s hm h,Bool.or_true]
end
mutual
theorem FE:∀ (p:Pat),nu p=true->Mw p []
 | .mk k cs ss,h=>by
  simp only[nu] at h;split at h
  ·rename_i e;subst e;exact .cat (zv ss h)
  split at h
  ·rename_i e;subst e;obtain⟨s,hm,hs⟩:=FD ss h;exact .alt hm hs
  split at h
  ·rename_i e;subst e;exact .nil
  ·cases h
theorem zv:∀ (ps:List Pat),nuL ps=true->MwL ps []
 | [],_=>.nil
 | p::ps,h=>by
  simp only[nuL,kC] at h;exact MwL.cons (u:=[]) (v:=[]) (FE p h.1) (zv ps h.2)
theorem FD:∀ (ps:List Pat),nuA ps=true->∃ s,s∈ps∧Mw s []
 | [],h=>by simp[nuA] at h
 | p::ps,h=>by
  simp only[nuA,kN] at h;rcases h with h|h
  ·exact⟨p,by simp,FE p h⟩
  ·obtain⟨s,hm,hs⟩:=FD ps h;exact⟨s,List.mem_cons_of_mem _ hm,hs⟩
end
theorem xm {c:Int}{s:Pat}{r:List Pat}:∀ {ss:List Pat},s∈ss->r∈aft c s->r∈Al c ss
 | p::ps,hm,hr=>by
  simp only[Al,List.mem_append];rcases List.mem_cons.1 hm with rfl|hm
  ·exact .inl hr
  ·exact .inr (xm hm hr)
theorem aft_of {p:Pat}{x:List Int}(h:Mw p x):∀ c w,x=c::w->∃ r,r∈aft c p∧MwL r w:=
 Mw.rec (motive_1:=λp x _=>∀ c w,x=c::w->∃ r,r∈aft c p∧MwL r w) (motive_2:=λps x _=>∀ c w,x=c::w->∃ r,r∈jk c ps∧MwL r w)
  (λ{cs ss c0} hm c w e=>by
   injection e with e1 e2;subst e1;subst e2
   exact⟨[],by simp[aft,hm],.nil⟩)
  (λ{cs ss w0} h ih c w e=>by
   obtain⟨r,h1,h2⟩:=ih c w e
   exact⟨r,by simpa [aft] using h1,h2⟩)
  (λ{cs ss s w0} hm h ih c w e=>by
   obtain⟨r,h1,h2⟩:=ih c w e
   exact⟨r,by simpa [aft] using xm hm h1,h2⟩)
  (λ{cs ss} c w e=>by cases e)
  (λ{cs s ss u v} h h2 ih1 ih2 c w e=>by
   cases u with
   | nil=>exact ih2 c w (by simpa using e)
   | cons a u=>
    rw[List.cons_append] at e;injection e with e1 e2;subst e1;subst e2
    obtain⟨r,q1,q2⟩:=ih1 a u rfl;refine⟨r++[.mk 4 cs (s::ss)],?_,q2.app (MwL.one.2 h2)⟩
    simp[aft,aftH,q1])
  (λc w e=>by cases e)
  (λ{p ps u v} h h2 ih1 ih2 c w e=>by
   cases u with
   | nil=>
    obtain⟨r,q1,q2⟩:=ih2 c w (by simpa using e);refine⟨r,?_,q2⟩;simp only[jk,BT p h,if_true,List.mem_append];exact .inr q1
   | cons a u=>
    rw[List.cons_append] at e;injection e with e1 e2;subst e1;subst e2
    obtain⟨r,q1,q2⟩:=ih1 a u rfl;refine⟨r++ps,?_,q2.app h2⟩;simp only[jk,List.mem_append,List.mem_map]
    exact .inl ⟨r,q1,rfl⟩)
  h
theorem CF:∀ {ps:List Pat}{c:Int}{w:List Int},MwL ps (c::w)->∃ r,r∈jk c ps∧MwL r w
 | [],c,w,h=>by cases h
 | p::ps,c,w,h=>by
  generalize hx:c::w=x at h;cases h with
  | cons h h2=>
   rename_i u v;cases u with
   | nil=>
    rw[List.nil_append] at hx;subst hx;obtain⟨r,q1,q2⟩:=CF h2;refine⟨r,?_,q2⟩;simp only[jk,BT p h,if_true,List.mem_append];exact .inr q1
   | cons a u=>
    rw[List.cons_append] at hx;injection hx with e1 e2;subst e1;subst e2
    obtain⟨r,q1,q2⟩:=aft_of h _ _ rfl;refine⟨r++ps,?_,q2.app h2⟩;simp only[jk,List.mem_append,List.mem_map];exact .inl ⟨r,q1,rfl⟩
mutual
theorem zw {c:Int}{w:List Int}:∀ (p:Pat) (r:List Pat),r∈aft c p->MwL r w->Mw p (c::w)
 | .mk k cs ss,r,hr,h=>by
  simp only[aft] at hr;split at hr
  ·rename_i e;subst e;split at hr
   ·rename_i hm;simp only[List.mem_singleton] at hr;subst hr;cases h;exact .cls (by simpa using hm)
   ·cases hr
  split at hr
  ·rename_i e;subst e;exact .cat (vr ss r hr h)
  split at hr
  ·rename_i e;subst e;obtain⟨s,hm,hs⟩:=BO ss r hr h;exact .alt hm hs
  split at hr
  ·rename_i e;subst e
   match ss,hr with
   | s::ss,hr=>
    simp only[aftH,List.mem_map] at hr;obtain⟨r0,q1,rfl⟩:=hr;obtain⟨u,v,rfl,h1,h2⟩:=h.split;exact Mw.more (u:=c::u) (zw s r0 q1 h1) (MwL.one.1 h2)
  ·cases hr
theorem vr {c:Int}{w:List Int}:∀ (ps:List Pat) (r:List Pat),r∈jk c ps->MwL r w->MwL ps (c::w)
 | [],r,hr,h=>by simp[jk] at hr
 | p::ps,r,hr,h=>by
  simp only[jk,List.mem_append,List.mem_map] at hr;rcases hr with⟨r0,q1,rfl⟩|hr
  ·obtain⟨u,v,rfl,h1,h2⟩:=h.split;exact MwL.cons (u:=c::u) (zw p r0 q1 h1) h2
  ·split at hr
   ·rename_i hn;exact MwL.cons (u:=[]) (FE p hn) (vr ps r hr h)
   ·cases hr
theorem BO {c:Int}{w:List Int}:∀ (ss:List Pat) (r:List Pat),r∈Al c ss->MwL r w->∃ s,s∈ss∧Mw s (c::w)
 | [],r,hr,h=>by simp[Al] at hr
 | p::ps,r,hr,h=>by
  simp only[Al,List.mem_append] at hr;rcases hr with hr|hr
  ·exact⟨p,by simp,zw p r hr h⟩
  ·obtain⟨s,hm,hs⟩:=BO ps r hr h;exact⟨s,List.mem_cons_of_mem _ hm,hs⟩
end
theorem MwL.step {ps:List Pat}{c:Int}{w:List Int}:MwL ps (c::w)↔∃ r,r∈jk c ps∧MwL r w:=
 ⟨CF,λ⟨r,h1,h2⟩=>vr ps r h1 h2⟩
theorem MwL.empty {ps:List Pat}:MwL ps []↔nuL ps=true:=⟨zy ps,zv ps⟩
def AW:List Int->List Pat->List Pat->Prop
 | [],r0,r=>r=r0
 | c::v,r0,r=>∃ r',r' ∈ jk c r0∧AW v r' r
theorem MwL.read:∀ {v:List Int}{r0:List Pat},MwL r0 v↔∃ r,AW v r0 r∧nuL r=true
 | [],r0=>by
  rw[MwL.empty];exact⟨λh=>⟨r0,rfl,h⟩,λ⟨r,e,h⟩=>by rw[AW] at e;rw[<-e];exact h⟩
 | c::v,r0=>by
  rw[MwL.step];constructor
  ·rintro⟨r',h1,h2⟩;obtain⟨r,h3,h4⟩:=MwL.read.1 h2;exact⟨r,⟨r',h1,h3⟩,h4⟩
  ·rintro⟨r,⟨r',h1,h3⟩,h4⟩;exact⟨r',h1,MwL.read.2 ⟨r,h3,h4⟩⟩
theorem AW.snoc {c:Int}{r:List Pat}:∀ {v:List Int}{r0:List Pat},AW (v++[c]) r0 r↔∃ r',AW v r0 r'∧r∈jk c r'
 | [],r0=>by
  constructor
  ·rintro⟨r',h1,h2⟩;rw[AW] at h2;subst h2;exact⟨r0,rfl,h1⟩
  ·rintro⟨r',h1,h2⟩;rw[AW] at h1;subst h1;exact⟨r,h2,rfl⟩
 | a::v,r0=>by
  constructor
  ·rintro⟨r1,h1,h2⟩;obtain⟨r',h3,h4⟩:=AW.snoc.1 h2;exact⟨r',⟨r1,h1,h3⟩,h4⟩
  ·rintro⟨r',⟨r1,h1,h3⟩,h4⟩;exact⟨r1,h1,AW.snoc.2 ⟨r',h3,h4⟩⟩
def Sf (p:Pat) (x:List Int) (r:List Pat):Prop:=∃ u v,x=u++v∧AW v [p] r
theorem Sf.nil {p:Pat}{r:List Pat}:Sf p [] r↔r=[p]:=by
 constructor
 ·rintro⟨u,v,e,h⟩;have:=List.append_eq_nil_iff.1 e.symm
  obtain⟨rfl,rfl⟩:=this;exact h
 ·rintro rfl;exact⟨[],[],rfl,rfl⟩
theorem Sf.snoc {p:Pat}{x:List Int}{c:Int}{r:List Pat}:Sf p (x++[c]) r↔r=[p]∨∃ r',Sf p x r'∧r∈jk c r':=by
 constructor
 ·rintro⟨u,v,e,h⟩;rcases List.eq_nil_or_concat v with rfl|⟨v',d,rfl⟩
  ·exact .inl h
  ·rw[List.concat_eq_append] at e h;rw[<-List.append_assoc] at e;obtain⟨e1,e2⟩:=List.append_inj' e rfl;injection e2 with e2 _;subst e2
   obtain⟨r',h1,h2⟩:=AW.snoc.1 h;exact .inr ⟨r',⟨u,v',e1,h1⟩,h2⟩
 ·rintro(rfl|⟨r',⟨u,v,e,h1⟩,h2⟩)
  ·exact⟨x++[c],[],by simp,rfl⟩
  ·exact⟨u,v++[c],by rw[e,List.append_assoc],AW.snoc.2 ⟨r',h1,h2⟩⟩
theorem Sf.ends {p:Pat}{x:List Int}:(∃ u v,x=u++v∧Mw p v)↔∃ r,Sf p x r∧nuL r=true:=by
 constructor
 ·rintro⟨u,v,e,h⟩;obtain⟨r,h1,h2⟩:=MwL.read.1 (MwL.one.2 h);exact⟨r,⟨u,v,e,h1⟩,h2⟩
 ·rintro⟨r,⟨u,v,e,h1⟩,h2⟩;exact⟨u,v,e,MwL.one.1 (MwL.read.2 ⟨r,h1,h2⟩)⟩
def Rep (Q:List (List Pat)) (p:Pat) (S:List Nat) (x:List Int):Prop:=∀ r,Sf p x r↔∃ q,q∈S∧Q[q]?=some r
def TrOk (Q:List (List Pat)) (tr:Nat->Int->List Nat) (c:Int):Prop:=∀ q r0,Q[q]?=some r0->∀ r,r∈jk c r0↔∃ q',q' ∈ tr q c∧Q[q']?=some r
theorem Rep.zero {Q:List (List Pat)}{p:Pat}(h:Q[0]?=some [p]):Rep Q p [0] []:=λr=>by
 rw[Sf.nil];constructor
 ·rintro rfl;exact⟨0,by simp,h⟩
 ·rintro⟨q,hq,e⟩;simp only[List.mem_singleton] at hq;subst hq;rw[h] at e;injection e with e;exact e.symm
theorem Rep.step {Q:List (List Pat)}{p:Pat}{S S':List Nat}{x:List Int}{c:Int}{tr:Nat->Int->List Nat}(h0:Q[0]?=some [p]) (hr:Rep Q p S x) (ht:TrOk Q tr c) (hs:∀ q',q' ∈ S'↔q'=0∨∃ q,q∈S∧q' ∈ tr q c) (hb:∀ q,q∈S->∃ r,Q[q]?=some r):Rep Q p S' (x++[c]):=λr=>by
 rw[Sf.snoc];constructor
 ·rintro(rfl|⟨r',h1,h2⟩)
  ·exact⟨0,(hs 0).2 (.inl rfl),h0⟩
  ·obtain⟨q,hq,e⟩:=(hr r').1 h1;obtain⟨q',h3,h4⟩:=(ht q r' e r).1 h2;exact⟨q',(hs q').2 (.inr ⟨q,hq,h3⟩),h4⟩
 ·rintro⟨q',hq',e⟩;rcases(hs q').1 hq' with rfl|⟨q,hq,h3⟩
  ·rw[h0] at e;injection e with e;exact .inl e.symm
  ·obtain⟨r',er⟩:=hb q hq;exact .inr ⟨r',(hr r').2 ⟨q,hq,er⟩,(ht q r' er r).2 ⟨q',h3,e⟩⟩
theorem Rep.ends {Q:List (List Pat)}{p:Pat}{S:List Nat}{x:List Int}(hr:Rep Q p S x):(∃ u v,x=u++v∧Mw p v)↔∃ q r,q∈S∧Q[q]?=some r∧nuL r=true:=by
 rw[Sf.ends];constructor
 ·rintro⟨r,h1,h2⟩;obtain⟨q,hq,e⟩:=(hr r).1 h1;exact⟨q,r,hq,e,h2⟩
 ·rintro⟨q,r,hq,e,h2⟩;exact⟨r,(hr r).2 ⟨q,hq,e⟩,h2⟩
mutual
def rev:Pat->Pat
 | .mk k cs ss=>.mk k cs (if k=2 then(jx ss).reverse else jx ss)
def jx:List Pat->List Pat
 | []=>[]
 | p::ps=>rev p::jx ps
end
theorem MwL.snoc {ps:List Pat}{p:Pat}{u v:List Int}(h:MwL ps u) (h2:Mw p v):MwL (ps++[p]) (u++v):=h.app (MwL.one.2 h2)
theorem tq {cs:List Int}{s:Pat}{ss:List Pat}{x:List Int}{v:List Int}(h2:Mw s v):Mw (.mk 4 cs (s::ss)) x->Mw (.mk 4 cs (s::ss)) (x++v):=λh=>by
 generalize hp:Pat.mk 4 cs (s::ss)=p at h;revert hp
 exact Mw.rec (motive_1:=λp x _=>Pat.mk 4 cs (s::ss)=p->Mw p (x++v)) (motive_2:=λ_ _ _=>True)
  (λ_ e=>by injection e with e;cases e) (λ_ _ e=>by injection e with e;cases e) (λ_ _ _ e=>by injection e with e;cases e)
  (λ{cs' ss'} e=>by
   injection e with _ e1 e2;subst e1;subst e2
   simpa using Mw.more h2 (Mw.nil (cs:=cs) (ss:=s::ss)))
  (λ{cs' s' ss' u w} h _ _ ih e=>by
   have ih':=ih e;rw[List.append_assoc]
   exact Mw.more h ih')
  trivial (λ_ _ _ _=>trivial) h
theorem xl {s:Pat}:∀ {ss:List Pat},s∈ss->rev s∈jx ss
 | p::ps,h=>by
  simp only[jx,kH];rcases List.mem_cons.1 h with rfl|h
  ·exact .inl rfl
  ·exact .inr (xl h)
theorem Mw.back {p:Pat}{x:List Int}(h:Mw p x):Mw (rev p) x.reverse:=
 Mw.rec (motive_1:=λp x _=>Mw (rev p) x.reverse) (motive_2:=λps x _=>MwL (jx ps).reverse x.reverse)
  (λ{cs ss c} hm=>by simpa [rev] using Mw.cls hm)
  (λ{cs ss w} _ ih=>by simpa [rev] using Mw.cat ih)
  (λ{cs ss s w} hm _ ih=>by simpa [rev] using Mw.alt (xl hm) ih)
  (λ{cs ss}=>by simpa [rev] using Mw.nil)
  (λ{cs s ss u v} _ _ ih1 ih2=>by
   rw[List.reverse_append];simp only[rev,jx] at ih2 ⊢
   exact tq ih1 (by simpa using ih2))
  .nil
  (λ{p ps u v} _ _ ih1 ih2=>by
   simp only[jx,List.reverse_cons,List.reverse_append]
   exact ih2.snoc ih1)
  h
theorem xI:∀ (a b:List Pat),jx (a++b)=jx a++jx b
 | [],b=>rfl
 | p::a,b=>by simp only[List.cons_append,jx,xI a b]
theorem xH:∀ ss:List Pat,jx ss.reverse=(jx ss).reverse
 | []=>rfl
 | p::ps=>by simp only[List.reverse_cons,xI,xH ps,jx]
mutual
theorem BF:∀ p:Pat,rev (rev p)=p
 | .mk k cs ss=>by
  simp only[rev];split
  ·rw[xH,List.reverse_reverse,oW ss]
  ·rw[oW ss]
theorem oW:∀ ss:List Pat,jx (jx ss)=ss
 | []=>rfl
 | p::ps=>by simp only[jx,BF p,oW ps]
end
theorem Mw.back_iff {p:Pat}{x:List Int}:Mw p x↔Mw (rev p) x.reverse:=⟨Mw.back,λh=>by
 have:=h.back
 rwa [BF,List.reverse_reverse] at this⟩
end
section
open Go Go.Am Classical
set_option maxRecDepth 100000
def seg (l:List Int) (i j:Nat):List Int:=(l.drop i).take (j-i)
theorem nM {l:List Int}{i j:Nat}(h:i<=j) (hj:j<=l.length):(seg l i j).length=j-i:=by
 simp[seg];omega
theorem xB {l:List Int}{i:Nat}:seg l i i=[]:=by simp[seg]
theorem vT {l:List Int}{i m j:Nat}(h1:i<=m) (h2:m<=j):seg l i m++seg l m j=seg l i j:=by
 unfold seg;have e:j-i=(m-i)+(j-m):=by omega
 rw[e,List.take_add,List.drop_drop];rw[show i+(m-i)=m by omega]
theorem tz {l:List Int}{i j:Nat}{u v:List Int}(h:i<=j) (hj:j<=l.length) (e:seg l i j=u++v):∃ m,i<=m∧m<=j∧u=seg l i m∧v=seg l m j:=by
 have hl:(seg l i j).length=j-i:=nM h hj;rw[e,kG] at hl;refine⟨i+u.length,by omega,by omega,?_⟩;have e2:seg l i (i+u.length)++seg l (i+u.length) j=u++v:=by rw[vT om om,e]
 have e3:(seg l i (i+u.length)).length=u.length:=by rw[nM om om];omega
 obtain⟨a,b⟩:=List.append_inj e2 e3;exact⟨a.symm,b.symm⟩
theorem BA {l:List Int}{i:Nat}(h:i<l.length):seg l i (i+1)=[l[i]]:=by
 unfold seg;rw[show i+1-i=1 by omega,kK h];rfl
def Ld (P:List Int->Prop) (l:List Int) (i j:Nat):Prop:=i<=j∧j<=l.length∧P (seg l i j)
noncomputable def bD (P:List Int->Prop) (l:List Int) (a:List Bool):List Bool:=(List.range (l.length+1)).map λj=>decide (∃ i,a.getD i false=true∧Ld P l i j)
theorem am {P:List Int->Prop}{l:List Int}{a:List Bool}:(bD P l a).length=l.length+1:=by simp[bD]
theorem bZ {P:List Int->Prop}{l:List Int}{a:List Bool}{j:Nat}:(bD P l a).getD j false=true↔∃ i,a.getD i false=true∧Ld P l i j:=by
 by_cases hj:j<l.length+1
 ·simp[bD,List.getD,hj]
 ·constructor
  ·intro h
   have:(bD P l a)[j]?=none:=List.getElem?_eq_none (by rw[am];omega)
   simp[List.getD,this] at h
  ·rintro⟨i,_,_,h2,_⟩;omega
theorem gO {x y:List Bool}(hl:x.length=y.length) (h:∀ j,x.getD j false=true↔y.getD j false=true):x=y:=by
 refine List.ext_getElem hl λj h1 h2=>?_
 have:=h j
 simp only[List.getD,List.getElem?_eq_getElem h1,List.getElem?_eq_getElem h2,Option.getD_some] at this;cases hx:x[j]<;>cases hy:y[j]<;>simp_all
theorem iH {x:List Bool}{j:Nat}(h:x.getD j false=true):j<x.length:=by
 by_cases hj:j<x.length
 ·exact hj
 ·have:x[j]?=none:=List.getElem?_eq_none om
  simp[List.getD,this] at h
theorem pq {P Q:List Int->Prop}{l:List Int}{a:List Bool}(h:∀ w,P w↔Q w):bD P l a=bD Q l a:=by
 have:P=Q:=funext λw=>propext (h w)
 rw[this]
theorem CJ {w:List Int}:MwL [] w↔w=[]:=⟨λh=>by cases h;rfl,λh=>by subst h;exact .nil⟩
theorem Cg {l:List Int}{a:List Bool}(ha:a.length=l.length+1):bD (MwL []) l a=a:=by
 refine gO (by rw[am,ha]) λj=>?_
 rw[bZ];constructor
 ·rintro⟨i,h1,h2,h3,h4⟩;have:=congrArg List.length (CJ.1 h4)
  rw[nM h2 h3] at this
  have:i=j:=by simp at this;omega
  rwa [<-this]
 ·intro h;have:=iH h
  exact⟨j,h,kP _,by omega,CJ.2 xB⟩
theorem zm {l:List Int}{a:List Bool}{ps:List Pat}{p:Pat}:bD (Mw p) l (bD (MwL ps) l a)=bD (MwL (ps++[p])) l a:=by
 refine gO (by rw[am,am]) λj=>?_
 rw[bZ,bZ];constructor
 ·rintro⟨m,h1,h2,h3,h4⟩;obtain⟨i,k1,k2,k3,k4⟩:=bZ.1 h1;exact⟨i,k1,by omega,h3,by rw[<-vT k2 h2];exact k4.snoc h4⟩
 ·rintro⟨i,h1,h2,h3,h4⟩;obtain⟨u,v,e,h5,h6⟩:=MwL.split h4;obtain⟨m,m1,m2,rfl,rfl⟩:=tz h2 h3 e;exact⟨m,bZ.2 ⟨i,h1,m1,by omega,h5⟩,m2,h3,MwL.one.1 h6⟩
theorem Mw_cat {cs:List Int}{ss:List Pat}{w:List Int}:Mw (.mk 2 cs ss) w↔MwL ss w:=⟨λh=>by cases h;assumption,.cat⟩
theorem Mw_alt {cs:List Int}{ss:List Pat}{w:List Int}:Mw (.mk 3 cs ss) w↔∃ s,s∈ss∧Mw s w:=⟨λh=>by cases h with|alt hm h=>exact⟨_,hm,h⟩,λ⟨_,h1,h2⟩=>.alt h1 h2⟩
theorem Gz {cs:List Int}{ss:List Pat}{w:List Int}:Mw (.mk 1 cs ss) w↔∃ c,c∈cs∧w=[c]:=⟨λh=>by cases h with|cls h=>exact⟨_,h,rfl⟩,λ⟨_,h1,h2⟩=>by subst h2;exact .cls h1⟩
def orL (a b:List Bool):List Bool:=(List.range a.length).map λi=>a.getD i false || b.getD i false
def cw (a b:List Bool):List Bool:=(List.range a.length).map λi=>a.getD i false&&!b.getD i false
theorem qm {a b:List Bool}:(orL a b).length=a.length:=by simp[orL]
theorem gv {a b:List Bool}:(cw a b).length=a.length:=by simp[cw]
theorem et {a b:List Bool}(h:a.length=b.length){j:Nat}:(orL a b).getD j false=true↔a.getD j false=true∨b.getD j false=true:=by
 by_cases hj:j<a.length
 ·simp[orL,List.getD,hj]
 ·have h1:a[j]?=none:=List.getElem?_eq_none om;have h2:b[j]?=none:=List.getElem?_eq_none om;have h3:(orL a b)[j]?=none:=List.getElem?_eq_none (by rw[qm];omega);simp[List.getD,h1,h2,h3]
theorem mw {a b:List Bool}{j:Nat}:(cw a b).getD j false=true↔a.getD j false=true∧¬b.getD j false=true:=by
 by_cases hj:j<a.length
 ·simp[cw,List.getD,hj]
 ·have h1:a[j]?=none:=List.getElem?_eq_none om;have h3:(cw a b)[j]?=none:=List.getElem?_eq_none (by rw[gv];omega);simp[List.getD,h1,h3]
def Mw1 (ss:List Pat) (k:Nat) (w:List Int):Prop:=∃ s,s∈ss.take k∧Mw s w
theorem Ci {l:List Int}{a:List Bool}{ss:List Pat}{k:Nat}(hk:k<ss.length):orL (bD (Mw1 ss k) l a) (bD (Mw ss[k]) l a)=bD (Mw1 ss (k+1)) l a:=by
 refine gO (by rw[qm,am,am]) λj=>?_
 rw[et (by rw[am,am]),bZ,bZ,bZ];have ht:ss.take (k+1)=ss.take k++[ss[k]]:=by rw[List.take_add_one,List.getElem?_eq_getElem hk];rfl
 constructor
 ·rintro(⟨i,h1,h2,h3,s,h4,h5⟩|⟨i,h1,h2,h3,h4⟩)
  ·exact⟨i,h1,h2,h3,s,by rw[ht];exact List.mem_append_left _ h4,h5⟩
  ·exact⟨i,h1,h2,h3,_,by rw[ht];exact List.mem_append_right _ List.mem_cons_self,h4⟩
 ·rintro⟨i,h1,h2,h3,s,h4,h5⟩;rw[ht,List.mem_append,List.mem_singleton] at h4;rcases h4 with h4|rfl
  ·exact .inl ⟨i,h1,h2,h3,s,h4,h5⟩
  ·exact .inr ⟨i,h1,h2,h3,h5⟩
theorem zn {l:List Int}{a:List Bool}{ss:List Pat}{j:Nat}:(bD (Mw1 ss 0) l a).getD j false=false:=by
 cases h:(bD (Mw1 ss 0) l a).getD j false with
 | false=>rfl
 | true=>
  obtain⟨i,_,_,_,s,h4,_⟩:=bZ.1 h;simp at h4
theorem tP {l:List Int}{a:List Bool}{cs:List Int}{ss:List Pat}:bD (Mw1 ss ss.length) l a=bD (Mw (.mk 3 cs ss)) l a:=
 pq λw=>by rw[Mw_alt,Mw1,List.take_length]
def cB (cs l:List Int) (a:List Bool):Nat->Bool
 | 0=>false
 | i+1=>decide (i<l.length)&&(a.getD i false&&cs.contains (l.getD i 0))
theorem Ch {l:List Int}{a:List Bool}{cs:List Int}{ss:List Pat}:bD (Mw (.mk 1 cs ss)) l a=(List.range (l.length+1)).map (cB cs l a):=by
 refine gO (by simp[am]) λj=>?_
 rw[bZ];by_cases hj:j<l.length+1
 ·have e:((List.range (l.length+1)).map (cB cs l a)).getD j false=cB cs l a j:=by simp[List.getD,hj]
  rw[e];constructor
  ·rintro⟨i,h1,h2,h3,h4⟩;obtain⟨c,h5,h6⟩:=Gz.1 h4;have h7:=congrArg List.length h6;rw[nM h2 h3] at h7
   have:j=i+1:=by simp at h7;omega
   subst this;rw[BA om] at h6;injection h6 with h6 _
   have h8:l.getD i 0=l[i]:=by simp[List.getD,show i<l.length by omega]
   simp only[cB,kC,decide_eq_true_eq,List.contains_iff_mem];exact⟨by omega,h1,by rw[h8,h6];exact h5⟩
  ·intro h;cases j with
   | zero=>simp[cB] at h
   | succ i=>
    simp only[cB,kC,decide_eq_true_eq,List.contains_iff_mem] at h;obtain⟨h0,h1,h2⟩:=h;have h8:l.getD i 0=l[i]:=by simp[List.getD,h0]
    rw[h8] at h2;exact⟨i,h1,by omega,by omega,Gz.2 ⟨l[i],h2,BA h0⟩⟩
 ·constructor
  ·rintro⟨i,_,_,h3,_⟩;omega
  ·intro h;have:=iH h
   simp at this;omega
structure tG (p:Pat) (l:List Int) (a out next:List Bool):Prop where
 lo:out.length=l.length+1
 ln:next.length=l.length+1
 a_out:∀ j,a.getD j false=true->out.getD j false=true
 n_out:∀ j,next.getD j false=true->out.getD j false=true
 sound:∀ j,out.getD j false=true->∃ i,a.getD i false=true∧Ld (Mw (.mk 4 [] [p])) l i j
 step:∀ i j,out.getD i false=true->¬next.getD i false=true->Ld (Mw p) l i j->out.getD j false=true
theorem wn {cs:List Int}{p:Pat}{ss:List Pat}{u v:List Int}(h:Mw (.mk 4 cs (p::ss)) u) (h2:Mw p v):Mw (.mk 4 cs (p::ss)) (u++v):=tq h2 h
theorem tG.zero {p:Pat}{l:List Int}{a:List Bool}(ha:a.length=l.length+1):tG p l a a a:=
 ⟨ha,ha,λ_ h=>h,λ_ h=>h,λj h=>⟨j,h,kP _,by have:=iH h;omega,by rw[xB];exact .nil⟩,λi j h hn _=>absurd h hn⟩
theorem tG.next {p:Pat}{l:List Int}{a out next:List Bool}(S:tG p l a out next):tG p l a (orL out (cw (bD (Mw p) l next) out)) (cw (bD (Mw p) l next) out):=by
 have hl:out.length=(cw (bD (Mw p) l next) out).length:=by rw[gv,am,S.lo]
 refine⟨by rw[qm,S.lo],by rw[gv,am],λj h=>(et hl).2 (.inl (S.a_out j h)),λj h=>(et hl).2 (.inr h),λj h=>?_,λi j h hn hd=>?_⟩
 ·rcases(et hl).1 h with h|h
  ·exact S.sound j h
  ·obtain⟨m,h1,h2,h3,h4⟩:=bZ.1 (mw.1 h).1;obtain⟨i,k1,k2,k3,k4⟩:=S.sound m (S.n_out m h1);exact⟨i,k1,by omega,h3,by rw[<-vT k2 h2];exact wn k4 h4⟩
 ·rcases(et hl).1 h with h|h
  ·by_cases hx:next.getD i false=true
   ·by_cases hj:out.getD j false=true
    ·exact(et hl).2 (.inl hj)
    ·exact(et hl).2 (.inr (mw.2 ⟨bZ.2 ⟨i,hx,hd⟩,hj⟩))
   ·exact(et hl).2 (.inl (S.step i j h hx hd))
  ·exact absurd h hn
theorem EX {P:List Int->Prop}{p:Pat}{cs:List Int}{x:List Int}(h0:P []) (hs:∀ u v,Mw p u->P v->P (u++v)) (h:Mw (.mk 4 cs [p]) x):P x:=by
 generalize hq:Pat.mk 4 cs [p]=q at h;revert hq
 exact Mw.rec (motive_1:=λq x _=>Pat.mk 4 cs [p]=q->P x) (motive_2:=λ_ _ _=>True)
  (λ_ e=>by injection e with e;cases e) (λ_ _ e=>by injection e with e;cases e) (λ_ _ _ e=>by injection e with e;cases e)
  (λ_=>h0)
  (λ{cs' s' ss' u w} h _ _ ih e=>by
   injection e with _ e1 e2
   injection e2 with e2 e3;subst e1;subst e2;subst e3
   exact hs _ _ h (ih rfl))
  trivial (λ_ _ _ _=>trivial) h
theorem tG.done {p:Pat}{l:List Int}{a out next:List Bool}(S:tG p l a out next) (hn:∀ j,¬next.getD j false=true):out=bD (Mw (.mk 4 [] [p])) l a:=by
 refine gO (by rw[S.lo,am]) λj=>?_
 rw[bZ];refine⟨S.sound j,λ⟨i,h1,h2,h3,h4⟩=>?_⟩
 have key:∀ x,Mw (.mk 4 [] [p]) x->∀ i,out.getD i false=true->∀ j,i<=j->j<=l.length->seg l i j=x->out.getD j false=true:=λx hx=>
  EX (P:=λx=>∀ i,out.getD i false=true->∀ j,i<=j->j<=l.length->seg l i j=x->out.getD j false=true)
   (λi hi j hij hj e=>by
    have:=congrArg List.length e
    rw[nM hij hj] at this
    have:i=j:=by simp at this;omega
    rwa [<-this])
   (λu v hu ih i hi j hij hj e=>by
    obtain⟨m,m1,m2,rfl,rfl⟩:=tz hij hj e
    exact ih m (S.step i m hi (hn i) ⟨m1,by omega,hu⟩) j m2 hj rfl) hx
 exact key _ h4 i (S.a_out i h1) j h2 h3 rfl
def yJ (a:List Bool):Nat:=a.countP λb=>!b
def jo (a:List Bool):Bool:=a.any id
theorem lV {a:List Bool}:jo a=true↔∃ j,a.getD j false=true:=by
 simp only[jo,List.any_eq_true,id];constructor
 ·rintro⟨x,hx,rfl⟩;obtain⟨j,hj,e⟩:=List.mem_iff_getElem.1 hx;exact⟨j,by simp[List.getD,hj,e]⟩
 ·rintro⟨j,h⟩;have hj:=iH h;refine⟨true,?_,rfl⟩
  have:a[j]=true:=by simpa [List.getD,hj] using h
  rw[<-this];exact kM hj
theorem Bk:∀ {a b:List Bool},a.length=b.length->(∀ j,a.getD j false=true->b.getD j false=true)->yJ b<=yJ a∧((∃ j,b.getD j false=true∧¬a.getD j false=true)->yJ b<yJ a)
 | [],[],_,_=>⟨kP _,λ⟨j,h,_⟩=>by simp at h⟩
 | [],_::_,h,_=>by simp at h
 | _::_,[],h,_=>by simp at h
 | x::a,y::b,hl,h=>by
  have ih:=Bk (a:=a) (b:=b) (by simpa using hl) (λj hj=>by simpa using h (j+1) (by simpa using hj));have h0:x=true->y=true:=λe=>by simpa using h 0 (by simpa using e)
  unfold yJ at ih ⊢;rw[List.countP_cons,List.countP_cons];refine⟨?_,λ⟨j,j1,j2⟩=>?_⟩
  ·cases x<;>cases y<;>simp at h0 ⊢<;>omega
  ·cases j with
   | zero=>
    have e1:y=true:=by simpa using j1
    have e2:x=false:=by simpa using j2
    subst e1;subst e2;simp;omega
   | succ j=>
    have:=ih.2 ⟨j,by simpa using j1,by simpa using j2⟩
    cases x<;>cases y<;>simp at h0 ⊢<;>omega
theorem tG.less {p:Pat}{l:List Int}{a out next:List Bool}(S:tG p l a out next) (hs:jo next=true) :
  2*yJ (orL out (cw (bD (Mw p) l next) out))+(if jo (cw (bD (Mw p) l next) out)=true then 1 else 0)<2*yJ out+(if jo next=true then 1 else 0):=by
 have hl:out.length=(cw (bD (Mw p) l next) out).length:=by rw[gv,am,S.lo]
 have g:=Bk (a:=out) (b:=orL out (cw (bD (Mw p) l next) out)) (by rw[qm]) (λj h=>(et hl).2 (.inl h));rw[if_pos hs];by_cases hf:jo (cw (bD (Mw p) l next) out)=true
 ·obtain⟨j,hj⟩:=lV.1 hf;have:=g.2 ⟨j,(et hl).2 (.inr hj),(mw.1 hj).2⟩
  rw[if_pos hf];omega
 ·rw[if_neg hf];omega
end
section
open Go Go.Am Classical
set_option maxRecDepth 100000
theorem xX3.rbX {p:Prop}(h:p:=by first|exact Rb.cells (Rds.eqs e2 (bE (λ_=>rfl))) rfl|exact Rb.cells (Rds.eqs (bR om (λi _=>by first|(simp;done)|fail)) (bE (λ_=>rfl))) rfl|fail):p:=h
open xX3
variable [GT]
theorem some_c {a:List Bool}(ha:a.length<=1000000):Pu Tryz.prog 144 [a9 a] (boo (jo a)):=by
 refine pv Tryz.func144 ?_;repeat' ((conv=>whnf);first|exact kQ|(refine bk ?_ ?_<;>intro _<;>try(exfalso;omega))|refine stq ?_)
 refine aH.by aB T0 (λk:Nat=>⟨tmp 14 [(0,a9 a),(3,i64 (k:Int))],⟨0,[]⟩⟩)
  (λk=>k<=a.length∧∀ i,i<k->¬a.getD i false=true) (λk=>a.length-k) 0 ⟨by omega,λ_ h=>by omega⟩ ?_ ?_
 ·exact lq0
 intro k ⟨h3,h4⟩;by_cases hk:k<a.length
 ·have eg:a.getD k false=a[k]:=aK hk;cases hb:a[k] with
  | true=>
   repeat' ((conv=>whnf);first|refine Idx.atE (d:=boo true) k rfl hk (by rw[hb]) ?_|exact kQ|(refine bk ?_ ?_<;>intro _<;>try(exfalso;omega))|refine stq ?_|fail)
   all_goals(conv=>whnf)
   rw[lV.2 ⟨k,by rw[eg,hb]⟩];exact aC.same rfl rfl
  | false=>
   repeat' ((conv=>whnf);first|refine Idx.atE (d:=boo false) k rfl hk (by rw[hb]) ?_|exact kQ|(refine bk ?_ ?_<;>intro _<;>try(exfalso;omega))|refine stq ?_|fail)
   all_goals(conv=>whnf)
   refine⟨k+1,⟨by omega,λi hi=>?_⟩,by omega,?_⟩
   ·by_cases e:i=k
    ·subst e;rw[eg,hb];exact Bool.false_ne_true
    ·exact h4 i om
   exact lq0
 ·repeat' ((conv=>whnf);first|exact kQ|(refine bk ?_ ?_<;>intro _<;>try(exfalso;omega))|refine stq ?_|fail)
  all_goals(conv=>whnf)
  have:jo a=false:=by
   cases hs:jo a with
   | false=>rfl
   | true=>
    obtain⟨j,hj⟩:=lV.1 hs;exact absurd hj (h4 j (by have:=iH hj;omega))
  rw[this];exact aC.same rfl rfl
theorem se {a b:List Bool}(ha:a.length<=1000000) (hb:a.length<=b.length):Pu Tryz.prog 143 [a9 a,a9 b] (a9 (orL a b)):=by
 refine pv Tryz.func143 ?_;repeat' ((conv=>whnf);first|exact kQ|(refine bk ?_ ?_<;>intro _<;>try(exfalso;omega))|refine stq ?_)
 refine aH.by aB T0 (λk:Nat=>⟨tmp 30 [(0,a9 a),(1,a9 b),(5,.sl 0 0 a.length a.length 1 true),(6,i64 (k:Int))],⟨1,[(0,.cells (aZ a.length λi=>boo (decide (i<k)&&(a.getD i false || b.getD i false))) true)]⟩⟩)
  (λk=>k<=a.length) (λk=>a.length-k) 0 om ?_ ?_
 ·exact lq [(0,_)] []
 intro k h3;by_cases hk:k<a.length
 ·have ea:a.getD k false=a[k]:=aK hk;have eb:b.getD k false=b[k]:=aK om
  have e2:(aZ a.length λi=>boo (decide (i<k)&&(a.getD i false || b.getD i false))).set k (boo (a[k] || b[k]))=aZ a.length λi=>boo (decide (i<k+1)&&(a.getD i false || b.getD i false)):=
   bv (by rw[ea,eb];simp) (λi _ hi=>by simp only[show(i<k+1)=(i<k) from propext ⟨λh=>by omega,λh=>by omega⟩])
  cases hx:a[k] with
  | true=>
   rw[hx,Bool.true_or] at e2;repeat' ((conv=>whnf);first|refine Idx.atE (d:=boo true) k rfl hk (by rw[hx]) ?_|exact kQ|(refine bk ?_ ?_<;>intro _<;>try(exfalso;omega))|refine stq ?_|refine Put.one (by simp;omega) ?_|fail)
   all_goals(conv=>whnf)
   refine⟨k+1,by omega,by omega,?_⟩;exact lq [(0,_)] []
  | false=>
   rw[hx,Bool.false_or] at e2;repeat' ((conv=>whnf);first|refine Idx.atE (l:=b) (d:=boo b[k]) k rfl om rfl ?_|refine Idx.atE (l:=a) (d:=boo false) k rfl hk (by rw[hx]) ?_|exact kQ|(refine bk ?_ ?_<;>intro _<;>try(exfalso;omega))|refine stq ?_|refine Put.one (by simp;omega) ?_|fail)
   all_goals(conv=>whnf)
   refine⟨k+1,by omega,by omega,?_⟩;exact lq [(0,_)] []
 ·repeat' ((conv=>whnf);first|exact kQ|(refine bk ?_ ?_<;>intro _<;>try(exfalso;omega))|refine stq ?_|fail)
  all_goals(conv=>whnf)
  refine aC.frz1 (l:=orL a b) (f:=boo) rfl ?_ (by simp[orL]) (λ_=>rfl) rfl;simp only[orL,aZ,List.map_map];exact List.map_congr_left λi hi=>by simp at hi;simp[show i<k by omega]
theorem IZ {a b:List Bool}(ha:a.length<=1000000) (hb:a.length<=b.length):Pu Tryz.prog 145 [a9 a,a9 b] (a9 (cw a b)):=by
 refine pv Tryz.func145 ?_;repeat' ((conv=>whnf);first|exact kQ|(refine bk ?_ ?_<;>intro _<;>try(exfalso;omega))|refine stq ?_)
 refine aH.by aB T0 (λk:Nat=>⟨tmp 31 [(0,a9 a),(1,a9 b),(5,.sl 0 0 a.length a.length 1 true),(6,i64 (k:Int))],⟨1,[(0,.cells (aZ a.length λi=>boo (decide (i<k)&&(a.getD i false&&!b.getD i false))) true)]⟩⟩)
  (λk=>k<=a.length) (λk=>a.length-k) 0 om ?_ ?_
 ·exact lq [(0,_)] []
 intro k h3;by_cases hk:k<a.length
 ·have ea:a.getD k false=a[k]:=aK hk;have eb:b.getD k false=b[k]:=aK om
  have e2:(aZ a.length λi=>boo (decide (i<k)&&(a.getD i false&&!b.getD i false))).set k (boo (a[k]&&!b[k]))=aZ a.length λi=>boo (decide (i<k+1)&&(a.getD i false&&!b.getD i false)):=
   bv (by rw[ea,eb];simp) (λi _ hi=>by simp only[show(i<k+1)=(i<k) from propext ⟨λh=>by omega,λh=>by omega⟩])
  cases hx:a[k] with
  | false=>
   rw[hx,Bool.false_and] at e2;repeat' ((conv=>whnf);first|refine Idx.atE (d:=boo false) k rfl hk (by rw[hx]) ?_|exact kQ|(refine bk ?_ ?_<;>intro _<;>try(exfalso;omega))|refine stq ?_|refine Put.one (by simp;omega) ?_|fail)
   all_goals(conv=>whnf)
   refine⟨k+1,by omega,by omega,?_⟩;exact lq [(0,_)] []
  | true=>
   rw[hx,Bool.true_and] at e2;repeat' ((conv=>whnf);first|refine Idx.atE (l:=b) (d:=boo b[k]) k rfl om rfl ?_|refine Idx.atE (l:=a) (d:=boo true) k rfl hk (by rw[hx]) ?_|exact kQ|(refine bk ?_ ?_<;>intro _<;>try(exfalso;omega))|refine stq ?_|refine Put.one (by simp;omega) ?_|fail)
   all_goals(conv=>whnf)
   refine⟨k+1,by omega,by omega,?_⟩;exact lq [(0,_)] []
 ·repeat' ((conv=>whnf);first|exact kQ|(refine bk ?_ ?_<;>intro _<;>try(exfalso;omega))|refine stq ?_|fail)
  all_goals(conv=>whnf)
  refine aC.frz1 (l:=cw a b) (f:=boo) rfl ?_ (by simp[cw]) (λ_=>rfl) rfl;simp only[cw,aZ,List.map_map];exact List.map_congr_left λi hi=>by simp at hi;simp[show i<k by omega]
end
section
open Go Go.Am Classical
set_option maxRecDepth 100000
theorem xX4.rdX {p:Prop}(h:p:=by first|exact Rd.same (bO _)|exact Rd.eqd (by first|(rw[List.take_zero,Cg ha];done)|fail) (bO _)|exact lu rfl rfl (hz _ rfl) (by first|(rw[am];omega;done)|fail)|exact lu rfl rfl (hz _ rfl) sim|fail):p:=h
theorem xX4.rbX {p:Prop}(h:p:=by first|exact Rb.cells (Rds.same (xb _ _ _)) rfl|exact Rb.cells (Rds.eqs (jh (λi _=>start i)) (bE (λ_=>rfl))) rfl|exact Rb.cells (Rds.eqs e2 (bE (λ_=>rfl))) rfl|exact Rb.cells (Rds.eqs e3 (bE (λ_=>rfl))) rfl|exact Rb.cells (Rds.eqs (bR om (λi _=>by first|(cases i<;>simp[cB];done)|fail)) (bE (λ_=>rfl))) rfl|fail):p:=h
open xX4
variable [GT]
def jF (p:Pat):Prop:=∀ (l:List Int) (a:List Bool),l.length<=100000->a.length=l.length+1->Pu Tryz.prog 109 [.agg (bG p),aD l,a9 a] (a9 (bD (Mw p) l a))
theorem xb (k:Int) (cs:List Int) (ss:List Pat):aE [i64 k,aD cs,lstS bG ss]=true:=by rw[<-a6];exact eC _
theorem nW (k:Int) (cs:List Int) (ss:List Pat) (l:List Int) (a:List Bool):aE [.agg [i64 k,aD cs,lstS bG ss],aD l,a9 a]=true:=by
 have h:aN (.agg [i64 k,aD cs,lstS bG ss])=true:=fJ k cs ss;simp only[aE,h,aI,bO,Bool.and_true]
theorem lu {h:aA}{fz:Nat->Bool}{σ:Nat->Option Nat}{id n cap:Nat}{b:List Bool}{cs:List D}{ex bx:Bool}(hf:fz id=true) (hg:h.get id=some (.cells cs bx)) (ec:cs=b.map boo) (e:n=b.length):Rd h fz σ (.sl id 0 n cap 1 ex) (a9 b):=by
 subst e;subst ec;refine .frz hf hg si (.eqs ?_ (aS (λ_=>rfl) _));rw[List.drop_zero,kE si]
theorem tX {l:List Int}{y x:Int}:(l++[y]).contains x=(l.contains x || decide (x=y)):=by
 rw[Bool.eq_iff_iff];simp
set_option maxHeartbeats 2000000 in
theorem GB {cs:List Int}{ss:List Pat}(hcs:cs.length<=100000):jF (.mk 1 cs ss):=by
 intro l a hl ha;rw[Ch,a6];refine Pu.of_v aB T0 Tryz.func109 rfl rfl (nW _ _ _ _ _) ?_;repeat' ((conv=>whnf);first|exact kQ|(refine bk ?_ ?_<;>intro _<;>try(exfalso;omega))|refine stq ?_|fail)
 refine aH.by aB T0 (λk:Nat=>⟨tmp 119 [(1,aD l),(2,a9 a),(3,.ptr 0 0),(7,.sl 1 0 (l.length+1) (l.length+1) 1 true),(8,i64 (k:Int))],⟨2,[(1,.cells (aZ (l.length+1) λj=>boo (decide (j<=k)&&cB cs l a j)) true),(0,.cells [i64 1,aD cs,lstS bG ss] true)]⟩⟩)
  (λk=>k<=l.length) (λk=>l.length-k) 0 om ?_ ?_
 ·exact lq [(0,_),(1,_)] []
 intro k h3;by_cases hk:k<l.length
 ·have hka:k<a.length:=by omega
  have ea:a.getD k false=a[k]:=aK hka;have el:l.getD k 0=l[k]:=aK hk
  have start:∀ i,boo (decide (i<=k)&&cB cs l a i)=boo (if i=k+1 then a[k]&&(cs.take 0).contains l[k] else decide (i<=k)&&cB cs l a i):=λi=>by
   by_cases hi:i=k+1
   ·subst hi;rw[if_pos rfl,show decide (k+1<=k)=false from decide_eq_false om,List.take_zero,Bool.false_and,show([]:List Int).contains l[k]=false from rfl,Bool.and_false]
   ·rw[if_neg hi]
  have fin:∀ m,(a[k]&&(cs.take m).contains l[k])=(a[k]&&cs.contains l[k])->(aZ (l.length+1) λj=>boo (if j=k+1 then a[k]&&(cs.take m).contains l[k] else decide (j<=k)&&cB cs l a j))=aZ (l.length+1) λj=>boo (decide (j<=k+1)&&cB cs l a j):=λm hm=>jh λi _=>by
   by_cases hi:i=k+1
   ·subst hi;simp only[if_true,hm,kP,decide_true,Bool.true_and,cB,ea,el,hk]
   ·simp only[hi,if_false,show(i<=k+1)=(i<=k) from propext ⟨λh=>by omega,λh=>by omega⟩]
  repeat' ((conv=>whnf);first|exact kQ|(refine bk ?_ ?_<;>intro _<;>try(exfalso;omega))|refine stq ?_|fail)
  refine aH.by aB T0 (λm:Nat=>⟨tmp 119 [(1,aD l),(2,a9 a),(3,.ptr 0 0),(7,.sl 1 0 (l.length+1) (l.length+1) 1 true),(8,i64 (k:Int)),(9,i64 (m:Int))],⟨2,[(1,.cells (aZ (l.length+1) λj=>boo (if j=k+1 then a[k]&&(cs.take m).contains l[k] else decide (j<=k)&&cB cs l a j)) true),(0,.cells [i64 1,aD cs,lstS bG ss] true)]⟩⟩)
   (λm=>m<=cs.length) (λm=>cs.length-m) 0 om ?_ ?_
  ·exact lq [(0,_),(1,_)] []
  intro m h4;by_cases hb:a[k]=true
  ·by_cases hm:m<cs.length
   ·have hXs:(cs.take (m+1)).contains l[k]=((cs.take m).contains l[k] || decide (l[k]=cs[m])):=by
     rw[show cs.take (m+1)=cs.take m++[cs[m]] by rw[List.take_add_one,List.getElem?_eq_getElem hm];rfl,tX]
    by_cases hX:(cs.take m).contains l[k]=true
    ·have e2:((aZ (l.length+1) λj=>boo (if j=k+1 then a[k]&&(cs.take m).contains l[k] else decide (j<=k)&&cB cs l a j)).set (k+1) (boo true))=aZ (l.length+1) λj=>boo (if j=k+1 then a[k]&&(cs.take (m+1)).contains l[k] else decide (j<=k)&&cB cs l a j):=
      bv (by simp only[if_true,hXs,hb,hX,Bool.true_and,Bool.true_or]) (λi _ hi=>by simp only[hi,if_false])
     repeat' ((conv=>whnf);first|refine Idx.atE (l:=a) (d:=boo true) k rfl om (by rw[hb]) ?_|exact kQ|(refine bk ?_ ?_<;>intro _<;>try(exfalso;omega))|refine stq ?_|refine ap.by (id:=10) aB T0 [0,0,2,0,0,16,56,120,248,504,1016,504,4088,8184,504,504,49656,115192,262136,524280,1048575,2097151] (by kernel_rfl) ?_|refine cO.at (k+1) om om ?_|refine Get.F (k:=k+1) (d:=boo true) om (by simp only[if_true,hb,hX,Bool.true_and]) ?_|refine Put.one (by simp;omega) ?_|fail)
     all_goals(conv=>whnf)
     refine⟨m+1,by omega,by omega,?_⟩;exact lq [(0,_),(1,_)] []
    ·have hX0:(cs.take m).contains l[k]=false:=by simpa using hX
     by_cases hq:cs[m]=l[k]
     ·have e2:((aZ (l.length+1) λj=>boo (if j=k+1 then a[k]&&(cs.take m).contains l[k] else decide (j<=k)&&cB cs l a j)).set (k+1) (boo true))=aZ (l.length+1) λj=>boo (if j=k+1 then a[k]&&(cs.take (m+1)).contains l[k] else decide (j<=k)&&cB cs l a j):=
       bv (by simp only[if_true,hXs,hb,hX,hq,decide_true,Bool.true_and,Bool.or_true]) (λi _ hi=>by simp only[hi,if_false])
      repeat' ((conv=>whnf);first|refine Idx.atE (l:=a) (d:=boo true) k rfl om (by rw[hb]) ?_|exact kQ|(refine bk ?_ ?_<;>intro _<;>try(exfalso;omega))|refine stq ?_|refine ap.by (id:=10) aB T0 [0,0,2,0,0,16,56,120,248,504,1016,504,4088,8184,504,504,49656,115192,262136,524280,1048575,2097151] (by kernel_rfl) ?_|refine cO.at (k+1) om om ?_|refine Get.F (k:=k+1) (d:=boo false) om (by simp only[if_true,hb,hX0,Bool.true_and]) ?_|refine Idx.at m rfl hm ?_|refine Idx.at k rfl hk ?_|refine Put.one (by simp;omega) ?_|fail)
      all_goals(conv=>whnf)
      refine⟨m+1,by omega,by omega,?_⟩;exact lq [(0,_),(1,_)] []
     ·have e2:((aZ (l.length+1) λj=>boo (if j=k+1 then a[k]&&(cs.take m).contains l[k] else decide (j<=k)&&cB cs l a j)).set (k+1) (boo false))=aZ (l.length+1) λj=>boo (if j=k+1 then a[k]&&(cs.take (m+1)).contains l[k] else decide (j<=k)&&cB cs l a j):=
       bv (by
        have:decide (l[k]=cs[m])=false:=decide_eq_false λe=>hq e.symm
        simp only[if_true,hXs,hb,hX0,this,Bool.true_and,Bool.or_false]) (λi _ hi=>by simp only[hi,if_false])
      repeat' ((conv=>whnf);first|refine Idx.atE (l:=a) (d:=boo true) k rfl om (by rw[hb]) ?_|exact kQ|(refine bk ?_ ?_<;>intro _<;>try(exfalso;omega))|refine stq ?_|refine ap.by (id:=10) aB T0 [0,0,2,0,0,16,56,120,248,504,1016,504,4088,8184,504,504,49656,115192,262136,524280,1048575,2097151] (by kernel_rfl) ?_|refine cO.at (k+1) om om ?_|refine Get.F (k:=k+1) (d:=boo false) om (by simp only[if_true,hb,hX0,Bool.true_and]) ?_|refine Idx.at m rfl hm ?_|refine Idx.at k rfl hk ?_|refine Put.one (by simp;omega) ?_|fail)
      all_goals(conv=>whnf)
      refine⟨m+1,by omega,by omega,?_⟩;exact lq [(0,_),(1,_)] []
   ·have e3:=fin m (by rw[kE om]);repeat' ((conv=>whnf);first|refine Idx.atE (l:=a) (d:=boo true) k rfl om (by rw[hb]) ?_|exact kQ|(refine bk ?_ ?_<;>intro _<;>try(exfalso;omega))|refine stq ?_|fail)
    all_goals(conv=>whnf)
    refine⟨k+1,by omega,by omega,?_⟩;exact lq [(0,_),(1,_)] []
  ·have hb0:a[k]=false:=by simpa using hb
   have e3:=fin m (by rw[hb0,Bool.false_and,Bool.false_and]);repeat' ((conv=>whnf);first|refine Idx.atE (l:=a) (d:=boo false) k rfl om (by rw[hb0]) ?_|exact kQ|(refine bk ?_ ?_<;>intro _<;>try(exfalso;omega))|refine stq ?_|fail)
   all_goals(conv=>whnf)
   refine⟨k+1,by omega,by omega,?_⟩;exact lq [(0,_),(1,_)] []
 ·repeat' ((conv=>whnf);first|exact kQ|(refine bk ?_ ?_<;>intro _<;>try(exfalso;omega))|refine stq ?_|fail)
  all_goals(conv=>whnf)
  refine aC.frz1 (l:=(List.range (l.length+1)).map (cB cs l a)) (f:=boo) rfl ?_ si (λ_=>rfl) rfl;simp only[aZ,List.map_map];exact List.map_congr_left λi hi=>by simp at hi;simp[show i<=k by omega]
theorem GC {cs:List Int}{ss:List Pat}(hs:∀ k (h:k<ss.length),jF ss[k]) (hss:ss.length<=100000):jF (.mk 2 cs ss):=by
 intro l a hl ha;rw[show bD (Mw (.mk 2 cs ss)) l a=bD (MwL ss) l a from pq λw=>Mw_cat,a6];refine Pu.of_v aB T0 Tryz.func109 rfl rfl (nW _ _ _ _ _) ?_;repeat' ((conv=>whnf);first|exact kQ|(refine bk ?_ ?_<;>intro _<;>try(exfalso;omega))|refine stq ?_|fail)
 refine aH.by aB T0 (λk:Nat=>⟨tmp 119 [(1,aD l),(3,.ptr 0 0),(7,a9 (bD (MwL (ss.take k)) l a)),(10,i64 (k:Int))],⟨1,[(0,.cells [i64 2,aD cs,lstS bG ss] true)]⟩⟩)
  (λk=>k<=ss.length) (λk=>ss.length-k) 0 om ?_ ?_
 ·exact lq [(0,_)] []
 intro k h3;by_cases hk:k<ss.length
 ·have hc:=hs k hk l _ hl (am (P:=MwL (ss.take k)) (l:=l) (a:=a));rw[zm,show ss.take k++[ss[k]]=ss.take (k+1) by rw[List.take_add_one,List.getElem?_eq_getElem hk];rfl] at hc;cases hq:ss[k] with
  | mk k' c' s'=>
  rw[hq,a6] at hc;have hpc:bG ss[k]=[i64 k',aD c',lstS bG s']:=by rw[hq,a6]
  repeat' ((conv=>whnf);first|refine Idx.atSE dM k rfl hk hpc ?_|exact kQ|(refine bk ?_ ?_<;>intro _<;>try(exfalso;omega))|refine stq ?_|refine cp hc ?_|fail)
  all_goals(conv=>whnf)
  refine⟨k+1,by omega,by omega,?_⟩;exact lq [(0,_)] []
 ·repeat' ((conv=>whnf);first|exact kQ|(refine bk ?_ ?_<;>intro _<;>try(exfalso;omega))|refine stq ?_|fail)
  all_goals(conv=>whnf)
  exact aC.same (bO _) (congrArg (λq=>a9 (bD (MwL q) l a)) (kE om))
theorem GD {cs:List Int}{ss:List Pat}(hs:∀ k (h:k<ss.length),jF ss[k]) (hss:ss.length<=100000):jF (.mk 3 cs ss):=by
 intro l a hl ha;rw[<-tP,a6];refine Pu.of_v aB T0 Tryz.func109 rfl rfl (nW _ _ _ _ _) ?_
 have hz:∀ m:Int,m=(l.length:Int)+1->cI [boo false] m.toNat=(bD (Mw1 ss 0) l a).map boo:=λm hm=>by
  have e1:cI [boo false] m.toNat=aZ (l.length+1) (λ_=>boo false):=bR om (λ_ _=>rfl)
  have e2:=co (l:=bD (Mw1 ss 0) l a) (f:=boo) (g:=λ_=>boo false) (λi hi=>by
   have:=zn (l:=l) (a:=a) (ss:=ss) (j:=i)
   rw[aK hi] at this
   rw[this])
  rw[am] at e2;rw[e1,e2]
 repeat' ((conv=>whnf);first|exact kQ|(refine bk ?_ ?_<;>intro _<;>try(exfalso;omega))|refine stq ?_|fail)
 refine aH.by aB T0 (λk:Nat=>⟨tmp 119 [(1,aD l),(2,a9 a),(3,.ptr 0 0),(7,a9 (bD (Mw1 ss k) l a)),(11,i64 (k:Int))],⟨1,[(0,.cells [i64 3,aD cs,lstS bG ss] true)]⟩⟩)
  (λk=>k<=ss.length) (λk=>ss.length-k) 0 om ?_ ?_
 ·exact lq [(0,_)] [5]
 intro k h3;by_cases hk:k<ss.length
 ·have hc:=hs k hk l a hl ha;have he:=se (a:=bD (Mw1 ss k) l a) (b:=bD (Mw ss[k]) l a) (by rw[am];omega) (by rw[am,am];omega);rw[Ci hk] at he;generalize bD (Mw ss[k]) l a=r1 at hc he;cases hq:ss[k] with
  | mk k' c' s'=>
  rw[hq,a6] at hc;have hpc:bG ss[k]=[i64 k',aD c',lstS bG s']:=by rw[hq,a6]
  repeat' ((conv=>whnf);first|refine Idx.atSE dM k rfl hk hpc ?_|exact kQ|(refine bk ?_ ?_<;>intro _<;>try(exfalso;omega))|refine stq ?_|refine cp hc ?_|refine cp he ?_|fail)
  all_goals(conv=>whnf)
  refine⟨k+1,by omega,by omega,?_⟩;exact lq [(0,_)] []
 ·have hkk:k=ss.length:=by omega
  subst hkk;repeat' ((conv=>whnf);first|exact kQ|(refine bk ?_ ?_<;>intro _<;>try(exfalso;omega))|refine stq ?_|fail)
  all_goals(conv=>whnf)
  exact aC.same (bO _) rfl
theorem FC {a:List Bool}:orL (List.replicate a.length false) a=a:=by
 refine gO (by simp[orL]) λj=>?_
 rw[et si];constructor
 ·rintro(h|h)
  ·have:=iH h
   simp[List.getD,List.getElem?_replicate] at h;split at h<;>simp at h
  ·exact h
 ·exact .inr
theorem De {p:Pat}(hp:jF p):jF (.mk 4 [] [p]):=by
 intro l a hl ha;generalize hr:bD (Mw (.mk 4 [] [p])) l a=r;rw[a6];refine Pu.of_v aB T0 Tryz.func109 rfl rfl (nW _ _ _ _ _) ?_
 have hz:∀ m:Int,m=(l.length:Int)+1->cI [boo false] m.toNat=(List.replicate a.length false).map boo:=λm hm=>by
  have e1:cI [boo false] m.toNat=aZ (l.length+1) (λ_=>boo false):=bR om (λ_ _=>rfl);have e2:=co (l:=List.replicate a.length false) (f:=boo) (g:=λ_=>boo false) (λi hi=>by simp);rw[List.length_replicate] at e2;rw[e1,<-ha,e2]
 have he:=se (a:=List.replicate a.length false) (b:=a) (by simp;omega) si;rw[FC] at he;repeat' ((conv=>whnf);first|exact kQ|(refine bk ?_ ?_<;>intro _<;>try(exfalso;omega))|refine stq ?_|refine Cll.emb (he ⟨0,[]⟩) [] [5] (a9 a) [] [(0,.cells [i64 4,aD [],lstS bG [p]] true)] rfl cE bxA rdA bxA reA ?_|fail)
 refine aH.by2 aB T0 (λ(out next:List Bool)=>⟨tmp 119 [(1,aD l),(3,.ptr 0 0),(7,a9 out),(12,a9 next)],⟨1,[(0,.cells [i64 4,aD [],lstS bG [p]] true)]⟩⟩)
  (λout next=>tG p l a out next) (λout next=>2*yJ out+(if jo next=true then 1 else 0)) a a (tG.zero ha) ?_ ?_
 ·exact lq [(0,_)] []
 intro out next S
 have h1:=some_c (a:=next) (by rw[S.ln];omega);by_cases hsm:jo next=true
 ·rw[hsm] at h1;have hless:=S.less hsm;have S2:=S.next;have h2:=hp l next hl S.ln
  have h3:=IZ (a:=bD (Mw p) l next) (b:=out) (by rw[am];omega) (by rw[am,S.lo];omega);have h4:=se (a:=out) (b:=cw (bD (Mw p) l next) out) (by rw[S.lo];omega) (by rw[S.lo,gv,am];omega);generalize bD (Mw p) l next=r1 at h2 h3 h4 S2 hless
  generalize cw r1 out=r2 at h3 h4 S2 hless;generalize orL out r2=r3 at h4 S2 hless;cases hq:p with
  | mk k' c' s'=>
  rw[hq,a6] at h2;repeat' ((conv=>whnf);first|refine Idx.atSE (l:=[Pat.mk k' c' s']) dM 0 rfl si (a6 k' c' s') ?_|exact kQ|(refine bk ?_ ?_<;>intro _<;>try(exfalso;omega))|refine stq ?_|refine cp h1 ?_|refine cp h2 ?_|refine cp h3 ?_|refine cp h4 ?_|fail)
  all_goals(conv=>whnf)
  refine⟨r3,r2,by rw[<-hq];exact S2,hless,?_⟩;exact lq [(0,_)] []
 ·have h1':jo next=false:=by simpa using hsm
  rw[h1'] at h1;have hd:=S.done (λj hj=>hsm (lV.2 ⟨j,hj⟩));rw[hr] at hd;subst hd;repeat' ((conv=>whnf);first|exact kQ|(refine bk ?_ ?_<;>intro _<;>try(exfalso;omega))|refine stq ?_|refine cp h1 ?_|fail)
  all_goals(conv=>whnf)
  exact aC.same (bO _) rfl
mutual
def okP:Pat->Bool
 | .mk k cs ss=>if k=1 then Nat.ble cs.length 100000 else if k=2 then Nat.ble ss.length 100000&&zu ss else if k=3 then Nat.ble ss.length 100000&&zu ss else if k=4 then cs.isEmpty&&Nat.beq ss.length 1&&zu ss else false
def zu:List Pat->Bool
 | []=>true
 | p::ps=>okP p&&zu ps
end
mutual
theorem AN:∀ p,okP p=true->jF p
 | .mk k cs ss,h=>by
  simp only[okP] at h;by_cases h1:k=1
  ·subst h1;exact GB (by simpa [Nat.ble_eq] using h)
  rw[if_neg h1] at h;by_cases h2:k=2
  ·subst h2;simp only[if_true,kC,Nat.ble_eq] at h;exact GC (qw ss h.2) h.1
  rw[if_neg h2] at h;by_cases h3:k=3
  ·subst h3;simp only[if_true,kC,Nat.ble_eq] at h;exact GD (qw ss h.2) h.1
  rw[if_neg h3] at h;by_cases h4:k=4
  ·subst h4;simp only[if_true,kC,Nat.beq_eq] at h;obtain⟨⟨hc,hl⟩,ho⟩:=h;have hcs:cs=[]:=by simpa using hc
   subst hcs
   match ss,hl,qw ss ho with
   | [p],_,hx=>exact De (hx 0 si)
  ·rw[if_neg h4] at h;cases h
theorem qw:∀ ss,zu ss=true->∀ k (h:k<ss.length),jF ss[k]
 | [],_,k,h=>by simp at h
 | p::ps,h,0,_=>by
  simp only[zu,kC] at h;exact AN p h.1
 | p::ps,h,k+1,hk=>by
  simp only[zu,kC] at h;exact qw ps h.2 k (by simpa using hk)
end
end
end Go.Proofs.YtbmdndckndnehaaGreatDoor
