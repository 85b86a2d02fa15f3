/-
  Patterns and words: what is left of a pattern behind a class; words backward. Plain: no program in sight.
-/
import Derived.Test.YtlimkdlhldlolaaGreatDoorV0
set_option linter.unusedSectionVars false
namespace Go.Proofs.YtlimkdlhldlolaaGreatDoor
open Go Go.Am
set_option maxHeartbeats 2000000
set_option maxRecDepth 100000
section
mutual
inductive Mw:Pat->List Int->Prop
 | cls {cs:List Int} {ss:List Pat} {c:Int} (h:c∈cs):Mw (.mk 1 cs ss) [c]
 | cat {cs:List Int} {ss:List Pat} {w:List Int} (h:MwL ss w):Mw (.mk 2 cs ss) w
 | alt {cs:List Int} {ss:List Pat} {s:Pat} {w:List Int} (hm:s∈ss) (h:Mw s w):Mw (.mk 3 cs ss) w
 | nil {cs:List Int} {ss:List Pat}:Mw (.mk 4 cs ss) []
 | more {cs:List Int} {s:Pat} {ss:List Pat} {u v:List Int} (h:Mw s u) (h2:Mw (.mk 4 cs (s::ss)) v):Mw (.mk 4 cs (s::ss)) (u++v)
inductive MwL:List Pat->List Int->Prop
 | nil:MwL [] []
 | cons {p:Pat} {ps:List Pat} {u v:List Int} (h:Mw p u) (h2:MwL ps v):MwL (p::ps) (u++v)
end
theorem MwL.app:∀ {ps qs:List Pat}{u v:List Int},MwL ps u->MwL qs v->MwL (ps++qs) (u++v)
 | [],qs,_,v,.nil,h=>h
 | p::ps,qs,_,v,.cons (u:=a) (v:=b) h h2,h3=>by
  rw[List.append_assoc];exact .cons h (MwL.app h2 h3)
theorem MwL.split:∀ {ps qs:List Pat}{w:List Int},MwL (ps++qs) w->∃ u v,w=u++v/\MwL ps u/\MwL qs v
 | [],qs,w,h=>⟨[],w,rfl,.nil,h⟩
 | p::ps,qs,_,.cons (u:=a) (v:=b) h h2=>by
  obtain⟨u,v,rfl,h3,h4⟩:=MwL.split h2;exact⟨a++u,v,by rw[List.append_assoc],.cons h h3,h4⟩
theorem MwL.one {p:Pat}{w:List Int}:MwL [p] w↔Mw p w:=by
 constructor
 .intro h;cases h with
  | cons h h2=>cases h2;simpa using h
 .intro h;simpa using MwL.cons h .nil
mutual
def nu:Pat->Bool
 | .mk k _ ss=>if k=2 then nuL ss else if k=3 then nuA ss else if k=4 then true else false
def nuL:List Pat->Bool
 | []=>true
 | p::ps=>nu p&&nuL ps
def nuA:List Pat->Bool
 | []=>false
 | p::ps=>nu p || nuA ps
end
mutual
def aft (c:Int):Pat->List (List Pat)
 | .mk k cs ss=>if k=1 then(if cs.contains c then [[]] else []) else if k=2 then jf c ss else if k=3 then AY c ss else if k=4 then aftH c (.mk 4 cs ss) ss else []
def jf (c:Int):List Pat->List (List Pat)
 | []=>[]
 | p::ps=>(aft c p).map (·++ps)++(if nu p then jf c ps else [])
def aftH (c:Int) (t:Pat):List Pat->List (List Pat)
 | []=>[]
 | s::_=>(aft c s).map (·++[t])
def AY (c:Int):List Pat->List (List Pat)
 | []=>[]
 | p::ps=>aft c p++AY c ps
end
mutual
theorem BC:∀ (p:Pat),Mw p []->nu p=true
 | .mk k cs ss,h=>by
  generalize hw:([]:List Int)=w at h;cases h with
  | cls h=>cases hw
  | cat h=>subst hw;simp only[nu,if_true];exact zn ss h
  | alt hm h=>subst hw;simp only[nu,if_true];exact E6 ss _ hm h
  | nil=>simp[nu]
  | more h h2=>simp[nu]
theorem zn:∀ (ps:List Pat),MwL ps []->nuL ps=true
 | [],_=>rfl
 | p::ps,h=>by
  generalize hw:([]:List Int)=w at h;cases h with
  | cons h h2=>
   have:=List.append_eq_nil_iff.1 hw.symm
   obtain⟨rfl,rfl⟩:=this;simp only[nuL,BC p h,zn ps h2,Bool.and_self]
theorem E6:∀ (ps:List Pat) (s:Pat),s∈ps->Mw s []->nuA ps=true
 | [],s,hm,_=>by simp at hm
 | p::ps,s,hm,h=>by
  rcases List.mem_cons.1 hm with e|hm
  .rw[e] at h;simp only[nuA,BC p h,Bool.true_or]
  .simp only[nuA,E6 ps s hm h,Bool.or_true]
end
mutual
theorem E3:∀ (p:Pat),nu p=true->Mw p []
 | .mk k cs ss,h=>by
  simp only[nu] at h;split at h
  .rename_i e;subst e;exact .cat (zk ss h)
  split at h
  .rename_i e;subst e;obtain⟨s,hm,hs⟩:=E2 ss h;exact .alt hm hs
  split at h
  .rename_i e;subst e;exact .nil
  .cases h
theorem zk:∀ (ps:List Pat),nuL ps=true->MwL ps []
 | [],_=>.nil
 | p::ps,h=>by
  simp only[nuL,kC] at h;exact MwL.cons (u:=[]) (v:=[]) (E3 p h.1) (zk ps h.2)
theorem E2:∀ (ps:List Pat),nuA ps=true->∃ s,s∈ps/\Mw s []
 | [],h=>by simp[nuA] at h
 | p::ps,h=>by
  simp only[nuA,kN] at h;rcases h with h|h
  .exact⟨p,si,E3 p h⟩
  .obtain⟨s,hm,hs⟩:=E2 ps h;exact⟨s,List.mem_cons_of_mem _ hm,hs⟩
end
theorem xS {c:Int}{s:Pat}{r:List Pat}:∀ {ss:List Pat},s∈ss->r∈aft c s->r∈AY c ss
 | p::ps,hm,hr=>by
  simp only[AY,List.mem_append];rcases List.mem_cons.1 hm with rfl|hm
  .exact .inl hr
  .exact .inr (xS hm hr)
theorem aft_of {p:Pat}{x:List Int}(h:Mw p x):∀ c w,x=c::w->∃ r,r∈aft c p/\MwL r w:=
 Mw.rec (motive_1:=λp x _=>∀ c w,x=c::w->∃ r,r∈aft c p/\MwL r w) (motive_2:=λps x _=>∀ c w,x=c::w->∃ r,r∈jf c ps/\MwL r w)
  (λ{cs ss c0} hm c w e=>by
   injection e with e1 e2;subst e1;subst e2
   exact⟨[],by simp[aft,hm],.nil⟩)
  (λ{cs ss w0} h ih c w e=>by
   obtain⟨r,h1,h2⟩:=ih c w e
   exact⟨r,by simpa [aft] using h1,h2⟩)
  (λ{cs ss s w0} hm h ih c w e=>by
   obtain⟨r,h1,h2⟩:=ih c w e
   exact⟨r,by simpa [aft] using xS hm h1,h2⟩)
  (λ{cs ss} c w e=>by cases e)
  (λ{cs s ss u v} h h2 ih1 ih2 c w e=>by
   cases u with
   | nil=>exact ih2 c w (by simpa using e)
   | cons a u=>
    rw[List.cons_append] at e;injection e with e1 e2;subst e1;subst e2
    obtain⟨r,q1,q2⟩:=ih1 a u rfl;refine⟨r++[.mk 4 cs (s::ss)],?_,q2.app (MwL.one.2 h2)⟩
    simp[aft,aftH,q1])
  (λc w e=>by cases e)
  (λ{p ps u v} h h2 ih1 ih2 c w e=>by
   cases u with
   | nil=>
    obtain⟨r,q1,q2⟩:=ih2 c w (by simpa using e);refine⟨r,?_,q2⟩;simp only[jf,BC p h,if_true,List.mem_append];exact .inr q1
   | cons a u=>
    rw[List.cons_append] at e;injection e with e1 e2;subst e1;subst e2
    obtain⟨r,q1,q2⟩:=ih1 a u rfl;refine⟨r++ps,?_,q2.app h2⟩;simp only[jf,List.mem_append,List.mem_map]
    exact .inl ⟨r,q1,rfl⟩)
  h
theorem Bu:∀ {ps:List Pat}{c:Int}{w:List Int},MwL ps (c::w)->∃ r,r∈jf c ps/\MwL r w
 | [],c,w,h=>by cases h
 | p::ps,c,w,h=>by
  generalize hx:c::w=x at h;cases h with
  | cons h h2=>
   rename_i u v;cases u with
   | nil=>
    rw[List.nil_append] at hx;subst hx;obtain⟨r,q1,q2⟩:=Bu h2;refine⟨r,?_,q2⟩;simp only[jf,BC p h,if_true,List.mem_append];exact .inr q1
   | cons a u=>
    rw[List.cons_append] at hx;injection hx with e1 e2;subst e1;subst e2
    obtain⟨r,q1,q2⟩:=aft_of h _ _ rfl;refine⟨r++ps,?_,q2.app h2⟩;simp only[jf,List.mem_append,List.mem_map];exact .inl ⟨r,q1,rfl⟩
mutual
theorem zl {c:Int}{w:List Int}:∀ (p:Pat) (r:List Pat),r∈aft c p->MwL r w->Mw p (c::w)
 | .mk k cs ss,r,hr,h=>by
  simp only[aft] at hr;split at hr
  .rename_i e;subst e;split at hr
   .rename_i hm;simp only[List.mem_singleton] at hr;subst hr;cases h;exact .cls (by simpa using hm)
   .cases hr
  split at hr
  .rename_i e;subst e;exact .cat (vA ss r hr h)
  split at hr
  .rename_i e;subst e;obtain⟨s,hm,hs⟩:=A8 ss r hr h;exact .alt hm hs
  split at hr
  .rename_i e;subst e
   match ss,hr with
   | s::ss,hr=>
    simp only[aftH,List.mem_map] at hr;obtain⟨r0,q1,rfl⟩:=hr;obtain⟨u,v,rfl,h1,h2⟩:=h.split;exact Mw.more (u:=c::u) (zl s r0 q1 h1) (MwL.one.1 h2)
  .cases hr
theorem vA {c:Int}{w:List Int}:∀ (ps:List Pat) (r:List Pat),r∈jf c ps->MwL r w->MwL ps (c::w)
 | [],r,hr,h=>by simp[jf] at hr
 | p::ps,r,hr,h=>by
  simp only[jf,List.mem_append,List.mem_map] at hr;rcases hr with⟨r0,q1,rfl⟩|hr
  .obtain⟨u,v,rfl,h1,h2⟩:=h.split;exact MwL.cons (u:=c::u) (zl p r0 q1 h1) h2
  .split at hr
   .rename_i hn;exact MwL.cons (u:=[]) (E3 p hn) (vA ps r hr h)
   .cases hr
theorem A8 {c:Int}{w:List Int}:∀ (ss:List Pat) (r:List Pat),r∈AY c ss->MwL r w->∃ s,s∈ss/\Mw s (c::w)
 | [],r,hr,h=>by simp[AY] at hr
 | p::ps,r,hr,h=>by
  simp only[AY,List.mem_append] at hr;rcases hr with hr|hr
  .exact⟨p,si,zl p r hr h⟩
  .obtain⟨s,hm,hs⟩:=A8 ps r hr h;exact⟨s,List.mem_cons_of_mem _ hm,hs⟩
end
theorem MwL.step {ps:List Pat}{c:Int}{w:List Int}:MwL ps (c::w)↔∃ r,r∈jf c ps/\MwL r w:=
 ⟨Bu,λ⟨r,h1,h2⟩=>vA ps r h1 h2⟩
theorem MwL.empty {ps:List Pat}:MwL ps []↔nuL ps=true:=⟨zn ps,zk ps⟩
def AW:List Int->List Pat->List Pat->Prop
 | [],r0,r=>r=r0
 | c::v,r0,r=>∃ r',r' ∈ jf c r0/\AW v r' r
theorem MwL.read:∀ {v:List Int}{r0:List Pat},MwL r0 v↔∃ r,AW v r0 r/\nuL r=true
 | [],r0=>by
  rw[MwL.empty];exact⟨λh=>⟨r0,rfl,h⟩,λ⟨r,e,h⟩=>by rw[AW] at e;rw[<-e];exact h⟩
 | c::v,r0=>by
  rw[MwL.step];constructor
  .rintro⟨r',h1,h2⟩;obtain⟨r,h3,h4⟩:=MwL.read.1 h2;exact⟨r,⟨r',h1,h3⟩,h4⟩
  .rintro⟨r,⟨r',h1,h3⟩,h4⟩;exact⟨r',h1,MwL.read.2 ⟨r,h3,h4⟩⟩
theorem AW.snoc {c:Int}{r:List Pat}:∀ {v:List Int}{r0:List Pat},AW (v++[c]) r0 r↔∃ r',AW v r0 r'/\r∈jf c r'
 | [],r0=>by
  constructor
  .rintro⟨r',h1,h2⟩;rw[AW] at h2;subst h2;exact⟨r0,rfl,h1⟩
  .rintro⟨r',h1,h2⟩;rw[AW] at h1;subst h1;exact⟨r,h2,rfl⟩
 | a::v,r0=>by
  constructor
  .rintro⟨r1,h1,h2⟩;obtain⟨r',h3,h4⟩:=AW.snoc.1 h2;exact⟨r',⟨r1,h1,h3⟩,h4⟩
  .rintro⟨r',⟨r1,h1,h3⟩,h4⟩;exact⟨r1,h1,AW.snoc.2 ⟨r',h3,h4⟩⟩
def Sf (p:Pat) (x:List Int) (r:List Pat):Prop:=∃ u v,x=u++v/\AW v [p] r
theorem Sf.nil {p:Pat}{r:List Pat}:Sf p [] r↔r=[p]:=by
 constructor
 .rintro⟨u,v,e,h⟩;have:=List.append_eq_nil_iff.1 e.symm
  obtain⟨rfl,rfl⟩:=this;exact h
 .rintro rfl;exact⟨[],[],rfl,rfl⟩
theorem Sf.snoc {p:Pat}{x:List Int}{c:Int}{r:List Pat}:Sf p (x++[c]) r↔r=[p]\/∃ r',Sf p x r'/\r∈jf c r':=by
 constructor
 .rintro⟨u,v,e,h⟩;rcases List.eq_nil_or_concat v with rfl|⟨v',d,rfl⟩
  .exact .inl h
  .rw[List.concat_eq_append] at e h;rw[<-List.append_assoc] at e;obtain⟨e1,e2⟩:=List.append_inj' e rfl;injection e2 with e2 _;subst e2
   obtain⟨r',h1,h2⟩:=AW.snoc.1 h;exact .inr ⟨r',⟨u,v',e1,h1⟩,h2⟩
 .rintro(rfl|⟨r',⟨u,v,e,h1⟩,h2⟩)
  .exact⟨x++[c],[],si,rfl⟩
  .exact⟨u,v++[c],by rw[e,List.append_assoc],AW.snoc.2 ⟨r',h1,h2⟩⟩
theorem Sf.ends {p:Pat}{x:List Int}:(∃ u v,x=u++v/\Mw p v)↔∃ r,Sf p x r/\nuL r=true:=by
 constructor
 .rintro⟨u,v,e,h⟩;obtain⟨r,h1,h2⟩:=MwL.read.1 (MwL.one.2 h);exact⟨r,⟨u,v,e,h1⟩,h2⟩
 .rintro⟨r,⟨u,v,e,h1⟩,h2⟩;exact⟨u,v,e,MwL.one.1 (MwL.read.2 ⟨r,h1,h2⟩)⟩
def Rep (Q:List (List Pat)) (p:Pat) (S:List Nat) (x:List Int):Prop:=∀ r,Sf p x r↔∃ q,q∈S/\Q[q]?=some r
def TrOk (Q:List (List Pat)) (tr:Nat->Int->List Nat) (c:Int):Prop:=∀ q r0,Q[q]?=some r0->∀ r,r∈jf c r0↔∃ q',q' ∈ tr q c/\Q[q']?=some r
theorem Rep.zero {Q:List (List Pat)}{p:Pat}(h:Q[0]?=some [p]):Rep Q p [0] []:=λr=>by
 rw[Sf.nil];constructor
 .rintro rfl;exact⟨0,si,h⟩
 .rintro⟨q,hq,e⟩;simp only[List.mem_singleton] at hq;subst hq;rw[h] at e;injection e with e;exact e.symm
theorem Rep.step {Q:List (List Pat)}{p:Pat}{S S':List Nat}{x:List Int}{c:Int}{tr:Nat->Int->List Nat}(h0:Q[0]?=some [p]) (hr:Rep Q p S x) (ht:TrOk Q tr c) (hs:∀ q',q' ∈ S'↔q'=0\/∃ q,q∈S/\q' ∈ tr q c) (hb:∀ q,q∈S->∃ r,Q[q]?=some r):Rep Q p S' (x++[c]):=λr=>by
 rw[Sf.snoc];constructor
 .rintro(rfl|⟨r',h1,h2⟩)
  .exact⟨0,(hs 0).2 (.inl rfl),h0⟩
  .obtain⟨q,hq,e⟩:=(hr r').1 h1;obtain⟨q',h3,h4⟩:=(ht q r' e r).1 h2;exact⟨q',(hs q').2 (.inr ⟨q,hq,h3⟩),h4⟩
 .rintro⟨q',hq',e⟩;rcases(hs q').1 hq' with rfl|⟨q,hq,h3⟩
  .rw[h0] at e;injection e with e;exact .inl e.symm
  .obtain⟨r',er⟩:=hb q hq;exact .inr ⟨r',(hr r').2 ⟨q,hq,er⟩,(ht q r' er r).2 ⟨q',h3,e⟩⟩
theorem Rep.ends {Q:List (List Pat)}{p:Pat}{S:List Nat}{x:List Int}(hr:Rep Q p S x):(∃ u v,x=u++v/\Mw p v)↔∃ q r,q∈S/\Q[q]?=some r/\nuL r=true:=by
 rw[Sf.ends];constructor
 .rintro⟨r,h1,h2⟩;obtain⟨q,hq,e⟩:=(hr r).1 h1;exact⟨q,r,hq,e,h2⟩
 .rintro⟨q,r,hq,e,h2⟩;exact⟨r,(hr r).2 ⟨q,hq,e⟩,h2⟩
mutual
def rev:Pat->Pat
 | .mk k cs ss=>.mk k cs (if k=2 then(jr ss).reverse else jr ss)
def jr:List Pat->List Pat
 | []=>[]
 | p::ps=>rev p::jr ps
end
theorem MwL.snoc {ps:List Pat}{p:Pat}{u v:List Int}(h:MwL ps u) (h2:Mw p v):MwL (ps++[p]) (u++v):=h.app (MwL.one.2 h2)
theorem s9 {cs:List Int}{s:Pat}{ss:List Pat}{x:List Int}{v:List Int}(h2:Mw s v):Mw (.mk 4 cs (s::ss)) x->Mw (.mk 4 cs (s::ss)) (x++v):=λh=>by
 generalize hp:Pat.mk 4 cs (s::ss)=p at h;revert hp
 exact Mw.rec (motive_1:=λp x _=>Pat.mk 4 cs (s::ss)=p->Mw p (x++v)) (motive_2:=λ_ _ _=>True)
  (λ_ e=>by injection e with e;cases e) (λ_ _ e=>by injection e with e;cases e) (λ_ _ _ e=>by injection e with e;cases e)
  (λ{cs' ss'} e=>by
   injection e with _ e1 e2;subst e1;subst e2
   simpa using Mw.more h2 (Mw.nil (cs:=cs) (ss:=s::ss)))
  (λ{cs' s' ss' u w} h _ _ ih e=>by
   have ih':=ih e;rw[List.append_assoc]
   exact Mw.more h ih')
  trivial (λ_ _ _ _=>trivial) h
theorem xQ {s:Pat}:∀ {ss:List Pat},s∈ss->rev s∈jr ss
 | p::ps,h=>by
  simp only[jr,kH];rcases List.mem_cons.1 h with rfl|h
  .exact .inl rfl
  .exact .inr (xQ h)
theorem Mw.back {p:Pat}{x:List Int}(h:Mw p x):Mw (rev p) x.reverse:=
 Mw.rec (motive_1:=λp x _=>Mw (rev p) x.reverse) (motive_2:=λps x _=>MwL (jr ps).reverse x.reverse)
  (λ{cs ss c} hm=>by simpa [rev] using Mw.cls hm)
  (λ{cs ss w} _ ih=>by simpa [rev] using Mw.cat ih)
  (λ{cs ss s w} hm _ ih=>by simpa [rev] using Mw.alt (xQ hm) ih)
  (λ{cs ss}=>by simpa [rev] using Mw.nil)
  (λ{cs s ss u v} _ _ ih1 ih2=>by
   rw[List.reverse_append];simp only[rev,jr] at ih2 ⊢
   exact s9 ih1 (by simpa using ih2))
  .nil
  (λ{p ps u v} _ _ ih1 ih2=>by
   simp only[jr,List.reverse_cons,List.reverse_append]
   exact ih2.snoc ih1)
  h
theorem wo:∀ (a b:List Pat),jr (a++b)=jr a++jr b
 | [],b=>rfl
 | p::a,b=>by simp only[List.cons_append,jr,wo a b]
theorem wn:∀ ss:List Pat,jr ss.reverse=(jr ss).reverse
 | []=>rfl
 | p::ps=>by simp only[List.reverse_cons,wo,wn ps,jr]
mutual
theorem Ax:∀ p:Pat,rev (rev p)=p
 | .mk k cs ss=>by
  simp only[rev];split
  .rw[wn,List.reverse_reverse,nz ss]
  .rw[nz ss]
theorem nz:∀ ss:List Pat,jr (jr ss)=ss
 | []=>rfl
 | p::ps=>by simp only[jr,Ax p,nz ps]
end
theorem Mw.back_iff {p:Pat}{x:List Int}:Mw p x↔Mw (rev p) x.reverse:=⟨Mw.back,λh=>by
 have:=h.back
 rwa [Ax,List.reverse_reverse] at this⟩
end
section
open Classical
def seg (l:List Int) (i j:Nat):List Int:=(l.drop i).take (j-i)
theorem mt {l:List Int}{i j:Nat}(h:i<=j) (hj:j<=l.length):(seg l i j).length=j-i:=by
 simp[seg];omega
theorem we {l:List Int}{i:Nat}:seg l i i=[]:=by simp[seg]
theorem uk {l:List Int}{i m j:Nat}(h1:i<=m) (h2:m<=j):seg l i m++seg l m j=seg l i j:=by
 unfold seg;have e:j-i=(m-i)+(j-m):=by omega
 rw[e,List.take_add,List.drop_drop];rw[show i+(m-i)=m by omega]
theorem tD {l:List Int}{i j:Nat}{u v:List Int}(h:i<=j) (hj:j<=l.length) (e:seg l i j=u++v):∃ m,i<=m/\m<=j/\u=seg l i m/\v=seg l m j:=by
 have hl:(seg l i j).length=j-i:=mt h hj;rw[e,kG] at hl;refine⟨i+u.length,om,om,?_⟩;have e2:seg l i (i+u.length)++seg l (i+u.length) j=u++v:=by rw[uk om om,e]
 have e3:(seg l i (i+u.length)).length=u.length:=by rw[mt om om];omega
 obtain⟨a,b⟩:=List.append_inj e2 e3;exact⟨a.symm,b.symm⟩
theorem At {l:List Int}{i:Nat}(h:i<l.length):seg l i (i+1)=[l[i]]:=by
 unfold seg;rw[show i+1-i=1 by omega,kK h];rfl
def Ld (P:List Int->Prop) (l:List Int) (i j:Nat):Prop:=i<=j/\j<=l.length/\P (seg l i j)
noncomputable def bF (P:List Int->Prop) (l:List Int) (a:List Bool):List Bool:=(List.range (l.length+1)).map λj=>decide (∃ i,a.getD i false=true/\Ld P l i j)
theorem av {P:List Int->Prop}{l:List Int}{a:List Bool}:(bF P l a).length=l.length+1:=by simp[bF]
theorem bp {P:List Int->Prop}{l:List Int}{a:List Bool}{j:Nat}:(bF P l a).getD j false=true↔∃ i,a.getD i false=true/\Ld P l i j:=by
 by_cases hj:j<l.length+1
 .simp[bF,List.getD,hj]
 .constructor
  .intro h
   have:(bF P l a)[j]?=none:=List.getElem?_eq_none (by rw[av];omega)
   simp[List.getD,this] at h
  .rintro⟨i,_,_,h2,_⟩;omega
theorem gL {x y:List Bool}(hl:x.length=y.length) (h:∀ j,x.getD j false=true↔y.getD j false=true):x=y:=by
 refine List.ext_getElem hl λj h1 h2=>?_
 have:=h j
 simp only[List.getD,List.getElem?_eq_getElem h1,List.getElem?_eq_getElem h2,Option.getD_some] at this;cases hx:x[j]<;>cases hy:y[j]<;>simp_all
theorem iI {x:List Bool}{j:Nat}(h:x.getD j false=true):j<x.length:=by
 by_cases hj:j<x.length
 .exact hj
 .have:x[j]?=none:=List.getElem?_eq_none om
  simp[List.getD,this] at h
theorem og {P Q:List Int->Prop}{l:List Int}{a:List Bool}(h:∀ w,P w↔Q w):bF P l a=bF Q l a:=by
 have:P=Q:=funext λw=>propext (h w)
 rw[this]
theorem B2 {w:List Int}:MwL [] w↔w=[]:=⟨λh=>by cases h;rfl,λh=>by subst h;exact .nil⟩
theorem CN {l:List Int}{a:List Bool}(ha:a.length=l.length+1):bF (MwL []) l a=a:=by
 refine gL (by rw[av,ha]) λj=>?_
 rw[bp];constructor
 .rintro⟨i,h1,h2,h3,h4⟩;have:=congrArg List.length (B2.1 h4)
  rw[mt h2 h3] at this
  have:i=j:=by simp at this;omega
  rwa [<-this]
 .intro h;have:=iI h
  exact⟨j,h,kP _,om,B2.2 we⟩
theorem zX {l:List Int}{a:List Bool}{ps:List Pat}{p:Pat}:bF (Mw p) l (bF (MwL ps) l a)=bF (MwL (ps++[p])) l a:=by
 refine gL (by rw[av,av]) λj=>?_
 rw[bp,bp];constructor
 .rintro⟨m,h1,h2,h3,h4⟩;obtain⟨i,k1,k2,k3,k4⟩:=bp.1 h1;exact⟨i,k1,om,h3,by rw[<-uk k2 h2];exact k4.snoc h4⟩
 .rintro⟨i,h1,h2,h3,h4⟩;obtain⟨u,v,e,h5,h6⟩:=MwL.split h4;obtain⟨m,m1,m2,rfl,rfl⟩:=tD h2 h3 e;exact⟨m,bp.2 ⟨i,h1,m1,om,h5⟩,m2,h3,MwL.one.1 h6⟩
theorem Mw_cat {cs:List Int}{ss:List Pat}{w:List Int}:Mw (.mk 2 cs ss) w↔MwL ss w:=⟨λh=>by cases h;assumption,.cat⟩
theorem Mw_alt {cs:List Int}{ss:List Pat}{w:List Int}:Mw (.mk 3 cs ss) w↔∃ s,s∈ss/\Mw s w:=⟨λh=>by cases h with|alt hm h=>exact⟨_,hm,h⟩,λ⟨_,h1,h2⟩=>.alt h1 h2⟩
theorem Gj {cs:List Int}{ss:List Pat}{w:List Int}:Mw (.mk 1 cs ss) w↔∃ c,c∈cs/\w=[c]:=⟨λh=>by cases h with|cls h=>exact⟨_,h,rfl⟩,λ⟨_,h1,h2⟩=>by subst h2;exact .cls h1⟩
def orL (a b:List Bool):List Bool:=(List.range a.length).map λi=>a.getD i false || b.getD i false
def cy (a b:List Bool):List Bool:=(List.range a.length).map λi=>a.getD i false&&!b.getD i false
theorem pV {a b:List Bool}:(orL a b).length=a.length:=by simp[orL]
theorem gt {a b:List Bool}:(cy a b).length=a.length:=by simp[cy]
theorem eo {a b:List Bool}(h:a.length=b.length){j:Nat}:(orL a b).getD j false=true↔a.getD j false=true\/b.getD j false=true:=by
 by_cases hj:j<a.length
 .simp[orL,List.getD,hj]
 .have h1:a[j]?=none:=List.getElem?_eq_none om;have h2:b[j]?=none:=List.getElem?_eq_none om;have h3:(orL a b)[j]?=none:=List.getElem?_eq_none (by rw[pV];omega);simp[List.getD,h1,h2,h3]
theorem mS {a b:List Bool}{j:Nat}:(cy a b).getD j false=true↔a.getD j false=true/\¬b.getD j false=true:=by
 by_cases hj:j<a.length
 .simp[cy,List.getD,hj]
 .have h1:a[j]?=none:=List.getElem?_eq_none om;have h3:(cy a b)[j]?=none:=List.getElem?_eq_none (by rw[gt];omega);simp[List.getD,h1,h3]
def Mw1 (ss:List Pat) (k:Nat) (w:List Int):Prop:=∃ s,s∈ss.take k/\Mw s w
theorem CP {l:List Int}{a:List Bool}{ss:List Pat}{k:Nat}(hk:k<ss.length):orL (bF (Mw1 ss k) l a) (bF (Mw ss[k]) l a)=bF (Mw1 ss (k+1)) l a:=by
 refine gL (by rw[pV,av,av]) λj=>?_
 rw[eo (by rw[av,av]),bp,bp,bp];have ht:ss.take (k+1)=ss.take k++[ss[k]]:=by rw[List.take_add_one,List.getElem?_eq_getElem hk];rfl
 constructor
 .rintro(⟨i,h1,h2,h3,s,h4,h5⟩|⟨i,h1,h2,h3,h4⟩)
  .exact⟨i,h1,h2,h3,s,by rw[ht];exact List.mem_append_left _ h4,h5⟩
  .exact⟨i,h1,h2,h3,_,by rw[ht];exact List.mem_append_right _ List.mem_cons_self,h4⟩
 .rintro⟨i,h1,h2,h3,s,h4,h5⟩;rw[ht,List.mem_append,List.mem_singleton] at h4;rcases h4 with h4|rfl
  .exact .inl ⟨i,h1,h2,h3,s,h4,h5⟩
  .exact .inr ⟨i,h1,h2,h3,h5⟩
theorem zY {l:List Int}{a:List Bool}{ss:List Pat}{j:Nat}:(bF (Mw1 ss 0) l a).getD j false=false:=by
 cases h:(bF (Mw1 ss 0) l a).getD j false with
 | false=>rfl
 | true=>
  obtain⟨i,_,_,_,s,h4,_⟩:=bp.1 h;simp at h4
theorem sN {l:List Int}{a:List Bool}{cs:List Int}{ss:List Pat}:bF (Mw1 ss ss.length) l a=bF (Mw (.mk 3 cs ss)) l a:=
 og λw=>by rw[Mw_alt,Mw1,List.take_length]
def cB (cs l:List Int) (a:List Bool):Nat->Bool
 | 0=>false
 | i+1=>decide (i<l.length)&&(a.getD i false&&cs.contains (l.getD i 0))
theorem CO {l:List Int}{a:List Bool}{cs:List Int}{ss:List Pat}:bF (Mw (.mk 1 cs ss)) l a=(List.range (l.length+1)).map (cB cs l a):=by
 refine gL (by simp[av]) λj=>?_
 rw[bp];by_cases hj:j<l.length+1
 .have e:((List.range (l.length+1)).map (cB cs l a)).getD j false=cB cs l a j:=by simp[List.getD,hj]
  rw[e];constructor
  .rintro⟨i,h1,h2,h3,h4⟩;obtain⟨c,h5,h6⟩:=Gj.1 h4;have h7:=congrArg List.length h6;rw[mt h2 h3] at h7
   have:j=i+1:=by simp at h7;omega
   subst this;rw[At om] at h6;injection h6 with h6 _
   have h8:l.getD i 0=l[i]:=by simp[List.getD,show i<l.length by omega]
   simp only[cB,kC,decide_eq_true_eq,List.contains_iff_mem];exact⟨om,h1,by rw[h8,h6];exact h5⟩
  .intro h;cases j with
   | zero=>simp[cB] at h
   | succ i=>
    simp only[cB,kC,decide_eq_true_eq,List.contains_iff_mem] at h;obtain⟨h0,h1,h2⟩:=h;have h8:l.getD i 0=l[i]:=by simp[List.getD,h0]
    rw[h8] at h2;exact⟨i,h1,om,om,Gj.2 ⟨l[i],h2,At h0⟩⟩
 .constructor
  .rintro⟨i,_,_,h3,_⟩;omega
  .intro h;have:=iI h
   simp at this;omega
structure r9 (p:Pat) (l:List Int) (a out next:List Bool):Prop where
 lo:out.length=l.length+1
 ln:next.length=l.length+1
 a_out:∀ j,a.getD j false=true->out.getD j false=true
 n_out:∀ j,next.getD j false=true->out.getD j false=true
 sound:∀ j,out.getD j false=true->∃ i,a.getD i false=true/\Ld (Mw (.mk 4 [] [p])) l i j
 step:∀ i j,out.getD i false=true->¬next.getD i false=true->Ld (Mw p) l i j->out.getD j false=true
theorem wF {cs:List Int}{p:Pat}{ss:List Pat}{u v:List Int}(h:Mw (.mk 4 cs (p::ss)) u) (h2:Mw p v):Mw (.mk 4 cs (p::ss)) (u++v):=s9 h2 h
theorem r9.zero {p:Pat}{l:List Int}{a:List Bool}(ha:a.length=l.length+1):r9 p l a a a:=
 ⟨ha,ha,λ_ h=>h,λ_ h=>h,λj h=>⟨j,h,kP _,by have:=iI h;omega,by rw[we];exact .nil⟩,λi j h hn _=>absurd h hn⟩
theorem r9.next {p:Pat}{l:List Int}{a out next:List Bool}(S:r9 p l a out next):r9 p l a (orL out (cy (bF (Mw p) l next) out)) (cy (bF (Mw p) l next) out):=by
 have hl:out.length=(cy (bF (Mw p) l next) out).length:=by rw[gt,av,S.lo]
 refine⟨by rw[pV,S.lo],by rw[gt,av],λj h=>(eo hl).2 (.inl (S.a_out j h)),λj h=>(eo hl).2 (.inr h),λj h=>?_,λi j h hn hd=>?_⟩
 .rcases(eo hl).1 h with h|h
  .exact S.sound j h
  .obtain⟨m,h1,h2,h3,h4⟩:=bp.1 (mS.1 h).1;obtain⟨i,k1,k2,k3,k4⟩:=S.sound m (S.n_out m h1);exact⟨i,k1,om,h3,by rw[<-uk k2 h2];exact wF k4 h4⟩
 .rcases(eo hl).1 h with h|h
  .by_cases hx:next.getD i false=true
   .by_cases hj:out.getD j false=true
    .exact(eo hl).2 (.inl hj)
    .exact(eo hl).2 (.inr (mS.2 ⟨bp.2 ⟨i,hx,hd⟩,hj⟩))
   .exact(eo hl).2 (.inl (S.step i j h hx hd))
  .exact absurd h hn
theorem EI {P:List Int->Prop}{p:Pat}{cs:List Int}{x:List Int}(h0:P []) (hs:∀ u v,Mw p u->P v->P (u++v)) (h:Mw (.mk 4 cs [p]) x):P x:=by
 generalize hq:Pat.mk 4 cs [p]=q at h;revert hq
 exact Mw.rec (motive_1:=λq x _=>Pat.mk 4 cs [p]=q->P x) (motive_2:=λ_ _ _=>True)
  (λ_ e=>by injection e with e;cases e) (λ_ _ e=>by injection e with e;cases e) (λ_ _ _ e=>by injection e with e;cases e)
  (λ_=>h0)
  (λ{cs' s' ss' u w} h _ _ ih e=>by
   injection e with _ e1 e2
   injection e2 with e2 e3;subst e1;subst e2;subst e3
   exact hs _ _ h (ih rfl))
  trivial (λ_ _ _ _=>trivial) h
theorem r9.done {p:Pat}{l:List Int}{a out next:List Bool}(S:r9 p l a out next) (hn:∀ j,¬next.getD j false=true):out=bF (Mw (.mk 4 [] [p])) l a:=by
 refine gL (by rw[S.lo,av]) λj=>?_
 rw[bp];refine⟨S.sound j,λ⟨i,h1,h2,h3,h4⟩=>?_⟩
 have key:∀ x,Mw (.mk 4 [] [p]) x->∀ i,out.getD i false=true->∀ j,i<=j->j<=l.length->seg l i j=x->out.getD j false=true:=λx hx=>
  EI (P:=λx=>∀ i,out.getD i false=true->∀ j,i<=j->j<=l.length->seg l i j=x->out.getD j false=true)
   (λi hi j hij hj e=>by
    have:=congrArg List.length e
    rw[mt hij hj] at this
    have:i=j:=by simp at this;omega
    rwa [<-this])
   (λu v hu ih i hi j hij hj e=>by
    obtain⟨m,m1,m2,rfl,rfl⟩:=tD hij hj e
    exact ih m (S.step i m hi (hn i) ⟨m1,om,hu⟩) j m2 hj rfl) hx
 exact key _ h4 i (S.a_out i h1) j h2 h3 rfl
def yC (a:List Bool):Nat:=a.countP λb=>!b
def jk (a:List Bool):Bool:=a.any id
theorem lC {a:List Bool}:jk a=true↔∃ j,a.getD j false=true:=by
 simp only[jk,List.any_eq_true,id];constructor
 .rintro⟨x,hx,rfl⟩;obtain⟨j,hj,e⟩:=List.mem_iff_getElem.1 hx;exact⟨j,by simp[List.getD,hj,e]⟩
 .rintro⟨j,h⟩;have hj:=iI h;refine⟨true,?_,rfl⟩
  have:a[j]=true:=by simpa [List.getD,hj] using h
  rw[<-this];exact kM hj
theorem BS:∀ {a b:List Bool},a.length=b.length->(∀ j,a.getD j false=true->b.getD j false=true)->yC b<=yC a/\((∃ j,b.getD j false=true/\¬a.getD j false=true)->yC b<yC a)
 | [],[],_,_=>⟨kP _,λ⟨j,h,_⟩=>by simp at h⟩
 | [],_::_,h,_=>by simp at h
 | _::_,[],h,_=>by simp at h
 | x::a,y::b,hl,h=>by
  have ih:=BS (a:=a) (b:=b) (by simpa using hl) (λj hj=>by simpa using h (j+1) (by simpa using hj));have h0:x=true->y=true:=λe=>by simpa using h 0 (by simpa using e)
  unfold yC at ih ⊢;rw[List.countP_cons,List.countP_cons];refine⟨?_,λ⟨j,j1,j2⟩=>?_⟩
  .cases x<;>cases y<;>simp at h0 ⊢<;>omega
  .cases j with
   | zero=>
    have e1:y=true:=by simpa using j1
    have e2:x=false:=by simpa using j2
    subst e1;subst e2;simp;omega
   | succ j=>
    have:=ih.2 ⟨j,by simpa using j1,by simpa using j2⟩
    cases x<;>cases y<;>simp at h0 ⊢<;>omega
theorem r9.less {p:Pat}{l:List Int}{a out next:List Bool}(S:r9 p l a out next) (hs:jk next=true) :
  2*yC (orL out (cy (bF (Mw p) l next) out))+(if jk (cy (bF (Mw p) l next) out)=true then 1 else 0)<2*yC out+(if jk next=true then 1 else 0):=by
 have hl:out.length=(cy (bF (Mw p) l next) out).length:=by rw[gt,av,S.lo]
 have g:=BS (a:=out) (b:=orL out (cy (bF (Mw p) l next) out)) (by rw[pV]) (λj h=>(eo hl).2 (.inl h));rw[if_pos hs];by_cases hf:jk (cy (bF (Mw p) l next) out)=true
 .obtain⟨j,hj⟩:=lC.1 hf;have:=g.2 ⟨j,(eo hl).2 (.inr hj),(mS.1 hj).2⟩
  rw[if_pos hf];omega
 .rw[if_neg hf];omega
end
section
open Classical
theorem xX3.rbX {p:Prop}(h:p:=by first|exact Rb.cells (Rds.eqs e2 (ab (λ_=>rfl))) rfl|exact Rb.cells (Rds.eqs (a8 om (λi _=>by first|(simp;done)|fail)) (ab (λ_=>rfl))) rfl|fail):p:=h
open xX3
variable [GT]
theorem some_c {a:List Bool}(ha:a.length<=1000000):Pu Tryz.prog 138 [ap a] (boo (jk a)):=by
 refine pv Tryz.func138 ?_;repeat' ((conv=>whnf);first|exact kQ|(refine bk ?_ ?_<;>intro _<;>try exact exo)|refine stq ?_)
 refine aG.by aB T0 (λk:Nat=>⟨tmp 14 [(0,ap a),(3,i64 (k:Int))],⟨0,[]⟩⟩)
  (λk=>k<=a.length/\∀ i,i<k->¬a.getD i false=true) (λk=>a.length-k) 0 ⟨om,λ_ h=>om⟩ ?_ ?_
 .exact lq0
 intro k ⟨h3,h4⟩;by_cases hk:k<a.length
 .have eg:a.getD k false=a[k]:=aH hk;cases hb:a[k] with
  | true=>
   repeat' ((conv=>whnf);first|refine Idx.atE (d:=boo true) k rfl hk (by rw[hb]) ?_|exact kQ|(refine bk ?_ ?_<;>intro _<;>try exact exo)|refine stq ?_|fail)
   (conv=>whnf)
   rw[lC.2 ⟨k,by rw[eg,hb]⟩];exact aD.same rfl rfl
  | false=>
   repeat' ((conv=>whnf);first|refine Idx.atE (d:=boo false) k rfl hk (by rw[hb]) ?_|exact kQ|(refine bk ?_ ?_<;>intro _<;>try exact exo)|refine stq ?_|fail)
   (conv=>whnf)
   refine⟨k+1,⟨om,λi hi=>?_⟩,om,?_⟩
   .by_cases e:i=k
    .subst e;rw[eg,hb];exact Bool.false_ne_true
    .exact h4 i om
   exact lq0
 .repeat' ((conv=>whnf);first|exact kQ|(refine bk ?_ ?_<;>intro _<;>try exact exo)|refine stq ?_|fail)
  (conv=>whnf)
  have:jk a=false:=by
   cases hs:jk a with
   | false=>rfl
   | true=>
    obtain⟨j,hj⟩:=lC.1 hs;exact absurd hj (h4 j (by have:=iI hj;omega))
  rw[this];exact aD.same rfl rfl
theorem rf {a b:List Bool}(ha:a.length<=1000000) (hb:a.length<=b.length):Pu Tryz.prog 137 [ap a,ap b] (ap (orL a b)):=by
 refine pv Tryz.func137 ?_;repeat' ((conv=>whnf);first|exact kQ|(refine bk ?_ ?_<;>intro _<;>try exact exo)|refine stq ?_)
 refine aG.by aB T0 (λk:Nat=>⟨tmp 30 [(0,ap a),(1,ap b),(5,.sl 0 0 a.length a.length 1 true),(6,i64 (k:Int))],⟨1,[(0,.cells (aT a.length λi=>boo (decide (i<k)&&(a.getD i false || b.getD i false))) true)]⟩⟩)
  (λk=>k<=a.length) (λk=>a.length-k) 0 om ?_ ?_
 .exact lq [(0,_)] []
 intro k h3;by_cases hk:k<a.length
 .have ea:a.getD k false=a[k]:=aH hk;have eb:b.getD k false=b[k]:=aH om
  have e2:(aT a.length λi=>boo (decide (i<k)&&(a.getD i false || b.getD i false))).set k (boo (a[k] || b[k]))=aT a.length λi=>boo (decide (i<k+1)&&(a.getD i false || b.getD i false)):=
   bG (by rw[ea,eb];simp) (λi _ hi=>by simp only[show(i<k+1)=(i<k) from propext ⟨λh=>om,λh=>om⟩])
  cases hx:a[k] with
  | true=>
   rw[hx,Bool.true_or] at e2;repeat' ((conv=>whnf);first|refine Idx.atE (d:=boo true) k rfl hk (by rw[hx]) ?_|exact kQ|(refine bk ?_ ?_<;>intro _<;>try exact exo)|refine stq ?_|refine Put.one (by simp;omega) ?_|fail)
   (conv=>whnf)
   refine⟨k+1,om,om,?_⟩;exact lq [(0,_)] []
  | false=>
   rw[hx,Bool.false_or] at e2;repeat' ((conv=>whnf);first|refine Idx.atE (l:=b) (d:=boo b[k]) k rfl om rfl ?_|refine Idx.atE (l:=a) (d:=boo false) k rfl hk (by rw[hx]) ?_|exact kQ|(refine bk ?_ ?_<;>intro _<;>try exact exo)|refine stq ?_|refine Put.one (by simp;omega) ?_|fail)
   (conv=>whnf)
   refine⟨k+1,om,om,?_⟩;exact lq [(0,_)] []
 .repeat' ((conv=>whnf);first|exact kQ|(refine bk ?_ ?_<;>intro _<;>try exact exo)|refine stq ?_|fail)
  (conv=>whnf)
  refine aD.frz1 (l:=orL a b) (f:=boo) rfl ?_ (by simp[orL]) (λ_=>rfl) rfl;simp only[orL,aT,List.map_map];exact List.map_congr_left λi hi=>by simp at hi;simp[show i<k by omega]
theorem Ic {a b:List Bool}(ha:a.length<=1000000) (hb:a.length<=b.length):Pu Tryz.prog 139 [ap a,ap b] (ap (cy a b)):=by
 refine pv Tryz.func139 ?_;repeat' ((conv=>whnf);first|exact kQ|(refine bk ?_ ?_<;>intro _<;>try exact exo)|refine stq ?_)
 refine aG.by aB T0 (λk:Nat=>⟨tmp 31 [(0,ap a),(1,ap b),(5,.sl 0 0 a.length a.length 1 true),(6,i64 (k:Int))],⟨1,[(0,.cells (aT a.length λi=>boo (decide (i<k)&&(a.getD i false&&!b.getD i false))) true)]⟩⟩)
  (λk=>k<=a.length) (λk=>a.length-k) 0 om ?_ ?_
 .exact lq [(0,_)] []
 intro k h3;by_cases hk:k<a.length
 .have ea:a.getD k false=a[k]:=aH hk;have eb:b.getD k false=b[k]:=aH om
  have e2:(aT a.length λi=>boo (decide (i<k)&&(a.getD i false&&!b.getD i false))).set k (boo (a[k]&&!b[k]))=aT a.length λi=>boo (decide (i<k+1)&&(a.getD i false&&!b.getD i false)):=
   bG (by rw[ea,eb];simp) (λi _ hi=>by simp only[show(i<k+1)=(i<k) from propext ⟨λh=>om,λh=>om⟩])
  cases hx:a[k] with
  | false=>
   rw[hx,Bool.false_and] at e2;repeat' ((conv=>whnf);first|refine Idx.atE (d:=boo false) k rfl hk (by rw[hx]) ?_|exact kQ|(refine bk ?_ ?_<;>intro _<;>try exact exo)|refine stq ?_|refine Put.one (by simp;omega) ?_|fail)
   (conv=>whnf)
   refine⟨k+1,om,om,?_⟩;exact lq [(0,_)] []
  | true=>
   rw[hx,Bool.true_and] at e2;repeat' ((conv=>whnf);first|refine Idx.atE (l:=b) (d:=boo b[k]) k rfl om rfl ?_|refine Idx.atE (l:=a) (d:=boo true) k rfl hk (by rw[hx]) ?_|exact kQ|(refine bk ?_ ?_<;>intro _<;>try exact exo)|refine stq ?_|refine Put.one (by simp;omega) ?_|fail)
   (conv=>whnf)
   refine⟨k+1,om,om,?_⟩;exact lq [(0,_)] []
 .repeat' ((conv=>whnf);first|exact kQ|(refine bk ?_ ?_<;>intro _<;>try exact exo)|refine stq ?_|fail)
  (conv=>whnf)
  refine aD.frz1 (l:=cy a b) (f:=boo) rfl ?_ (by simp[cy]) (λ_=>rfl) rfl;simp only[cy,aT,List.map_map];exact List.map_congr_left λi hi=>by simp at hi;simp[show i<k by omega]
end
section
open Classical
theorem xX4.rdX {p:Prop}(h:p:=by first|exact Rd.same (aw _)|exact Rd.eqd (by first|(rw[List.take_zero,CN ha];done)|fail) (aw _)|exact lP rfl rfl (hz _ rfl) (by first|(rw[av];omega;done)|fail)|exact lP rfl rfl (hz _ rfl) sim|fail):p:=h
theorem xX4.rbX {p:Prop}(h:p:=by first|exact Rb.cells (Rds.same (xH _ _ _)) rfl|exact Rb.cells (Rds.eqs (bo (λi _=>start i)) (ab (λ_=>rfl))) rfl|exact Rb.cells (Rds.eqs e2 (ab (λ_=>rfl))) rfl|exact Rb.cells (Rds.eqs e3 (ab (λ_=>rfl))) rfl|exact Rb.cells (Rds.eqs (a8 om (λi _=>by first|(cases i<;>simp[cB];done)|fail)) (ab (λ_=>rfl))) rfl|fail):p:=h
open xX4
variable [GT]
def jC (p:Pat):Prop:=∀ (l:List Int) (a:List Bool),l.length<=100000->a.length=l.length+1->Pu Tryz.prog 100 [.agg (bJ p),aC l,ap a] (ap (bF (Mw p) l a))
theorem xH (k:Int) (cs:List Int) (ss:List Pat):aF [i64 k,aC cs,lstS bJ ss]=true:=by rw[<-bB];exact eF _
theorem nE (k:Int) (cs:List Int) (ss:List Pat) (l:List Int) (a:List Bool):aF [.agg [i64 k,aC cs,lstS bJ ss],aC l,ap a]=true:=by
 have h:aK (.agg [i64 k,aC cs,lstS bJ ss])=true:=fQ k cs ss;simp only[aF,h,aM,aw,Bool.and_true]
theorem lP {h:aA}{fz:Nat->Bool}{σ:Nat->Option Nat}{id n cap:Nat}{b:List Bool}{cs:List D}{ex bx:Bool}(hf:fz id=true) (hg:h.get id=some (.cells cs bx)) (ec:cs=b.map boo) (e:n=b.length):Rd h fz σ (.sl id 0 n cap 1 ex) (ap b):=by
 subst e;subst ec;refine .frz hf hg si (.eqs ?_ (aU (λ_=>rfl) _));rw[List.drop_zero,kE si]
theorem sZ {l:List Int}{y x:Int}:(l++[y]).contains x=(l.contains x || decide (x=y)):=by
 rw[Bool.eq_iff_iff];simp
theorem F0 {cs:List Int}{ss:List Pat}(hcs:cs.length<=100000):jC (.mk 1 cs ss):=by
 intro l a hl ha;rw[CO,bB];refine Pu.of_v aB T0 Tryz.func100 rfl rfl (nE _ _ _ _ _) ?_;repeat' ((conv=>whnf);first|exact kQ|(refine bk ?_ ?_<;>intro _<;>try exact exo)|refine stq ?_|fail)
 refine aG.by aB T0 (λk:Nat=>⟨tmp 119 [(1,aC l),(2,ap a),(3,.ptr 0 0),(7,.sl 1 0 (l.length+1) (l.length+1) 1 true),(8,i64 (k:Int))],⟨2,[(1,.cells (aT (l.length+1) λj=>boo (decide (j<=k)&&cB cs l a j)) true),(0,.cells [i64 1,aC cs,lstS bJ ss] true)]⟩⟩)
  (λk=>k<=l.length) (λk=>l.length-k) 0 om ?_ ?_
 .exact lq [(0,_),(1,_)] []
 intro k h3;by_cases hk:k<l.length
 .have hka:k<a.length:=om;have ea:a.getD k false=a[k]:=aH hka;have el:l.getD k 0=l[k]:=aH hk
  have start:∀ i,boo (decide (i<=k)&&cB cs l a i)=boo (if i=k+1 then a[k]&&(cs.take 0).contains l[k] else decide (i<=k)&&cB cs l a i):=λi=>by
   by_cases hi:i=k+1
   .subst hi;rw[if_pos rfl,show decide (k+1<=k)=false from decide_eq_false om,List.take_zero,Bool.false_and,show([]:List Int).contains l[k]=false from rfl,Bool.and_false]
   .rw[if_neg hi]
  have fin:∀ m,(a[k]&&(cs.take m).contains l[k])=(a[k]&&cs.contains l[k])->(aT (l.length+1) λj=>boo (if j=k+1 then a[k]&&(cs.take m).contains l[k] else decide (j<=k)&&cB cs l a j))=aT (l.length+1) λj=>boo (decide (j<=k+1)&&cB cs l a j):=λm hm=>bo λi _=>by
   by_cases hi:i=k+1
   .subst hi;simp only[if_true,hm,kP,decide_true,Bool.true_and,cB,ea,el,hk]
   .simp only[hi,if_false,show(i<=k+1)=(i<=k) from propext ⟨λh=>om,λh=>om⟩]
  repeat' ((conv=>whnf);first|exact kQ|(refine bk ?_ ?_<;>intro _<;>try exact exo)|refine stq ?_|fail)
  refine aG.by aB T0 (λm:Nat=>⟨tmp 119 [(1,aC l),(2,ap a),(3,.ptr 0 0),(7,.sl 1 0 (l.length+1) (l.length+1) 1 true),(8,i64 (k:Int)),(9,i64 (m:Int))],⟨2,[(1,.cells (aT (l.length+1) λj=>boo (if j=k+1 then a[k]&&(cs.take m).contains l[k] else decide (j<=k)&&cB cs l a j)) true),(0,.cells [i64 1,aC cs,lstS bJ ss] true)]⟩⟩)
   (λm=>m<=cs.length) (λm=>cs.length-m) 0 om ?_ ?_
  .exact lq [(0,_),(1,_)] []
  intro m h4;by_cases hb:a[k]=true
  .by_cases hm:m<cs.length
   .have hXs:(cs.take (m+1)).contains l[k]=((cs.take m).contains l[k] || decide (l[k]=cs[m])):=by
     rw[show cs.take (m+1)=cs.take m++[cs[m]] by rw[List.take_add_one,List.getElem?_eq_getElem hm];rfl,sZ]
    by_cases hX:(cs.take m).contains l[k]=true
    .have e2:((aT (l.length+1) λj=>boo (if j=k+1 then a[k]&&(cs.take m).contains l[k] else decide (j<=k)&&cB cs l a j)).set (k+1) (boo true))=aT (l.length+1) λj=>boo (if j=k+1 then a[k]&&(cs.take (m+1)).contains l[k] else decide (j<=k)&&cB cs l a j):=
      bG (by simp only[if_true,hXs,hb,hX,Bool.true_and,Bool.true_or]) (λi _ hi=>by simp only[hi,if_false])
     repeat' ((conv=>whnf);first|refine Idx.atE (l:=a) (d:=boo true) k rfl om (by rw[hb]) ?_|exact kQ|(refine bk ?_ ?_<;>intro _<;>try exact exo)|refine stq ?_|refine ac.by (id:=10) aB T0 [0,0,2,0,0,16,56,120,248,504,1016,504,4088,8184,504,504,49656,115192,262136,524280,1048575,2097151] (by kernel_rfl) ?_|refine bT.at (k+1) om om ?_|refine Get.F (k:=k+1) (d:=boo true) om (by simp only[if_true,hb,hX,Bool.true_and]) ?_|refine Put.one (by simp;omega) ?_|fail)
     (conv=>whnf)
     refine⟨m+1,om,om,?_⟩;exact lq [(0,_),(1,_)] []
    .have hX0:(cs.take m).contains l[k]=false:=by simpa using hX
     by_cases hq:cs[m]=l[k]
     .have e2:((aT (l.length+1) λj=>boo (if j=k+1 then a[k]&&(cs.take m).contains l[k] else decide (j<=k)&&cB cs l a j)).set (k+1) (boo true))=aT (l.length+1) λj=>boo (if j=k+1 then a[k]&&(cs.take (m+1)).contains l[k] else decide (j<=k)&&cB cs l a j):=
       bG (by simp only[if_true,hXs,hb,hX,hq,decide_true,Bool.true_and,Bool.or_true]) (λi _ hi=>by simp only[hi,if_false])
      repeat' ((conv=>whnf);first|refine Idx.atE (l:=a) (d:=boo true) k rfl om (by rw[hb]) ?_|exact kQ|(refine bk ?_ ?_<;>intro _<;>try exact exo)|refine stq ?_|refine ac.by (id:=10) aB T0 [0,0,2,0,0,16,56,120,248,504,1016,504,4088,8184,504,504,49656,115192,262136,524280,1048575,2097151] (by kernel_rfl) ?_|refine bT.at (k+1) om om ?_|refine Get.F (k:=k+1) (d:=boo false) om (by simp only[if_true,hb,hX0,Bool.true_and]) ?_|refine Idx.at m rfl hm ?_|refine Idx.at k rfl hk ?_|refine Put.one (by simp;omega) ?_|fail)
      (conv=>whnf)
      refine⟨m+1,om,om,?_⟩;exact lq [(0,_),(1,_)] []
     .have e2:((aT (l.length+1) λj=>boo (if j=k+1 then a[k]&&(cs.take m).contains l[k] else decide (j<=k)&&cB cs l a j)).set (k+1) (boo false))=aT (l.length+1) λj=>boo (if j=k+1 then a[k]&&(cs.take (m+1)).contains l[k] else decide (j<=k)&&cB cs l a j):=
       bG (by
        have:decide (l[k]=cs[m])=false:=decide_eq_false λe=>hq e.symm
        simp only[if_true,hXs,hb,hX0,this,Bool.true_and,Bool.or_false]) (λi _ hi=>by simp only[hi,if_false])
      repeat' ((conv=>whnf);first|refine Idx.atE (l:=a) (d:=boo true) k rfl om (by rw[hb]) ?_|exact kQ|(refine bk ?_ ?_<;>intro _<;>try exact exo)|refine stq ?_|refine ac.by (id:=10) aB T0 [0,0,2,0,0,16,56,120,248,504,1016,504,4088,8184,504,504,49656,115192,262136,524280,1048575,2097151] (by kernel_rfl) ?_|refine bT.at (k+1) om om ?_|refine Get.F (k:=k+1) (d:=boo false) om (by simp only[if_true,hb,hX0,Bool.true_and]) ?_|refine Idx.at m rfl hm ?_|refine Idx.at k rfl hk ?_|refine Put.one (by simp;omega) ?_|fail)
      (conv=>whnf)
      refine⟨m+1,om,om,?_⟩;exact lq [(0,_),(1,_)] []
   .have e3:=fin m (by rw[kE om]);repeat' ((conv=>whnf);first|refine Idx.atE (l:=a) (d:=boo true) k rfl om (by rw[hb]) ?_|exact kQ|(refine bk ?_ ?_<;>intro _<;>try exact exo)|refine stq ?_|fail)
    (conv=>whnf)
    refine⟨k+1,om,om,?_⟩;exact lq [(0,_),(1,_)] []
  .have hb0:a[k]=false:=by simpa using hb
   have e3:=fin m (by rw[hb0,Bool.false_and,Bool.false_and]);repeat' ((conv=>whnf);first|refine Idx.atE (l:=a) (d:=boo false) k rfl om (by rw[hb0]) ?_|exact kQ|(refine bk ?_ ?_<;>intro _<;>try exact exo)|refine stq ?_|fail)
   (conv=>whnf)
   refine⟨k+1,om,om,?_⟩;exact lq [(0,_),(1,_)] []
 .repeat' ((conv=>whnf);first|exact kQ|(refine bk ?_ ?_<;>intro _<;>try exact exo)|refine stq ?_|fail)
  (conv=>whnf)
  refine aD.frz1 (l:=(List.range (l.length+1)).map (cB cs l a)) (f:=boo) rfl ?_ si (λ_=>rfl) rfl;simp only[aT,List.map_map];exact List.map_congr_left λi hi=>by simp at hi;simp[show i<=k by omega]
theorem F1 {cs:List Int}{ss:List Pat}(hs:∀ k (h:k<ss.length),jC ss[k]) (hss:ss.length<=100000):jC (.mk 2 cs ss):=by
 intro l a hl ha;rw[show bF (Mw (.mk 2 cs ss)) l a=bF (MwL ss) l a from og λw=>Mw_cat,bB];refine Pu.of_v aB T0 Tryz.func100 rfl rfl (nE _ _ _ _ _) ?_;repeat' ((conv=>whnf);first|exact kQ|(refine bk ?_ ?_<;>intro _<;>try exact exo)|refine stq ?_|fail)
 refine aG.by aB T0 (λk:Nat=>⟨tmp 119 [(1,aC l),(3,.ptr 0 0),(7,ap (bF (MwL (ss.take k)) l a)),(10,i64 (k:Int))],⟨1,[(0,.cells [i64 2,aC cs,lstS bJ ss] true)]⟩⟩)
  (λk=>k<=ss.length) (λk=>ss.length-k) 0 om ?_ ?_
 .exact lq [(0,_)] []
 intro k h3;by_cases hk:k<ss.length
 .have hc:=hs k hk l _ hl (av (P:=MwL (ss.take k)) (l:=l) (a:=a));rw[zX,show ss.take k++[ss[k]]=ss.take (k+1) by rw[List.take_add_one,List.getElem?_eq_getElem hk];rfl] at hc;cases hq:ss[k] with
  | mk k' c' s'=>
  rw[hq,bB] at hc;have hpc:bJ ss[k]=[i64 k',aC c',lstS bJ s']:=by rw[hq,bB]
  repeat' ((conv=>whnf);first|refine Idx.atSE dN k rfl hk hpc ?_|exact kQ|(refine bk ?_ ?_<;>intro _<;>try exact exo)|refine stq ?_|refine cp hc ?_|fail)
  (conv=>whnf)
  refine⟨k+1,om,om,?_⟩;exact lq [(0,_)] []
 .repeat' ((conv=>whnf);first|exact kQ|(refine bk ?_ ?_<;>intro _<;>try exact exo)|refine stq ?_|fail)
  (conv=>whnf)
  exact aD.same (aw _) (congrArg (λq=>ap (bF (MwL q) l a)) (kE om))
theorem F2 {cs:List Int}{ss:List Pat}(hs:∀ k (h:k<ss.length),jC ss[k]) (hss:ss.length<=100000):jC (.mk 3 cs ss):=by
 intro l a hl ha;rw[<-sN,bB];refine Pu.of_v aB T0 Tryz.func100 rfl rfl (nE _ _ _ _ _) ?_
 have hz:∀ m:Int,m=(l.length:Int)+1->dK [boo false] m.toNat=(bF (Mw1 ss 0) l a).map boo:=λm hm=>by
  have e1:dK [boo false] m.toNat=aT (l.length+1) (λ_=>boo false):=a8 om (λ_ _=>rfl)
  have e2:=ct (l:=bF (Mw1 ss 0) l a) (f:=boo) (g:=λ_=>boo false) (λi hi=>by
   have:=zY (l:=l) (a:=a) (ss:=ss) (j:=i)
   rw[aH hi] at this
   rw[this])
  rw[av] at e2;rw[e1,e2]
 repeat' ((conv=>whnf);first|exact kQ|(refine bk ?_ ?_<;>intro _<;>try exact exo)|refine stq ?_|fail)
 refine aG.by aB T0 (λk:Nat=>⟨tmp 119 [(1,aC l),(2,ap a),(3,.ptr 0 0),(7,ap (bF (Mw1 ss k) l a)),(11,i64 (k:Int))],⟨1,[(0,.cells [i64 3,aC cs,lstS bJ ss] true)]⟩⟩)
  (λk=>k<=ss.length) (λk=>ss.length-k) 0 om ?_ ?_
 .exact lq [(0,_)] [5]
 intro k h3;by_cases hk:k<ss.length
 .have hc:=hs k hk l a hl ha;have he:=rf (a:=bF (Mw1 ss k) l a) (b:=bF (Mw ss[k]) l a) (by rw[av];omega) (by rw[av,av];omega);rw[CP hk] at he;generalize bF (Mw ss[k]) l a=r1 at hc he;cases hq:ss[k] with
  | mk k' c' s'=>
  rw[hq,bB] at hc;have hpc:bJ ss[k]=[i64 k',aC c',lstS bJ s']:=by rw[hq,bB]
  repeat' ((conv=>whnf);first|refine Idx.atSE dN k rfl hk hpc ?_|exact kQ|(refine bk ?_ ?_<;>intro _<;>try exact exo)|refine stq ?_|refine cp hc ?_|refine cp he ?_|fail)
  (conv=>whnf)
  refine⟨k+1,om,om,?_⟩;exact lq [(0,_)] []
 .have hkk:k=ss.length:=om;subst hkk;repeat' ((conv=>whnf);first|exact kQ|(refine bk ?_ ?_<;>intro _<;>try exact exo)|refine stq ?_|fail)
  (conv=>whnf)
  exact aD.same (aw _) rfl
theorem E1 {a:List Bool}:orL (List.replicate a.length false) a=a:=by
 refine gL (by simp[orL]) λj=>?_
 rw[eo si];constructor
 .rintro(h|h)
  .have:=iI h
   simp[List.getD,List.getElem?_replicate] at h;split at h<;>simp at h
  .exact h
 .exact .inr
theorem DF {p:Pat}(hp:jC p):jC (.mk 4 [] [p]):=by
 intro l a hl ha;generalize hr:bF (Mw (.mk 4 [] [p])) l a=r;rw[bB];refine Pu.of_v aB T0 Tryz.func100 rfl rfl (nE _ _ _ _ _) ?_
 have hz:∀ m:Int,m=(l.length:Int)+1->dK [boo false] m.toNat=(List.replicate a.length false).map boo:=λm hm=>by
  have e1:dK [boo false] m.toNat=aT (l.length+1) (λ_=>boo false):=a8 om (λ_ _=>rfl);have e2:=ct (l:=List.replicate a.length false) (f:=boo) (g:=λ_=>boo false) (λi hi=>si);rw[List.length_replicate] at e2;rw[e1,<-ha,e2]
 have he:=rf (a:=List.replicate a.length false) (b:=a) (by simp;omega) si;rw[E1] at he;repeat' ((conv=>whnf);first|exact kQ|(refine bk ?_ ?_<;>intro _<;>try exact exo)|refine stq ?_|refine Cll.emb (he ⟨0,[]⟩) [] [5] (ap a) [] [(0,.cells [i64 4,aC [],lstS bJ [p]] true)] rfl cO bxA rdA bxA reA ?_|fail)
 refine aG.by2 aB T0 (λ(out next:List Bool)=>⟨tmp 119 [(1,aC l),(3,.ptr 0 0),(7,ap out),(12,ap next)],⟨1,[(0,.cells [i64 4,aC [],lstS bJ [p]] true)]⟩⟩)
  (λout next=>r9 p l a out next) (λout next=>2*yC out+(if jk next=true then 1 else 0)) a a (r9.zero ha) ?_ ?_
 .exact lq [(0,_)] []
 intro out next S
 have h1:=some_c (a:=next) (by rw[S.ln];omega);by_cases hsm:jk next=true
 .rw[hsm] at h1;have hless:=S.less hsm;have S2:=S.next;have h2:=hp l next hl S.ln
  have h3:=Ic (a:=bF (Mw p) l next) (b:=out) (by rw[av];omega) (by rw[av,S.lo];omega);have h4:=rf (a:=out) (b:=cy (bF (Mw p) l next) out) (by rw[S.lo];omega) (by rw[S.lo,gt,av];omega);generalize bF (Mw p) l next=r1 at h2 h3 h4 S2 hless
  generalize cy r1 out=r2 at h3 h4 S2 hless;generalize orL out r2=r3 at h4 S2 hless;cases hq:p with
  | mk k' c' s'=>
  rw[hq,bB] at h2;repeat' ((conv=>whnf);first|refine Idx.atSE (l:=[Pat.mk k' c' s']) dN 0 rfl si (bB k' c' s') ?_|exact kQ|(refine bk ?_ ?_<;>intro _<;>try exact exo)|refine stq ?_|refine cp h1 ?_|refine cp h2 ?_|refine cp h3 ?_|refine cp h4 ?_|fail)
  (conv=>whnf)
  refine⟨r3,r2,by rw[<-hq];exact S2,hless,?_⟩;exact lq [(0,_)] []
 .have h1':jk next=false:=by simpa using hsm
  rw[h1'] at h1;have hd:=S.done (λj hj=>hsm (lC.2 ⟨j,hj⟩));rw[hr] at hd;subst hd;repeat' ((conv=>whnf);first|exact kQ|(refine bk ?_ ?_<;>intro _<;>try exact exo)|refine stq ?_|refine cp h1 ?_|fail)
  (conv=>whnf)
  exact aD.same (aw _) rfl
mutual
def okP:Pat->Bool
 | .mk k cs ss=>if k=1 then Nat.ble cs.length 100000 else if k=2 then Nat.ble ss.length 100000&&zj ss else if k=3 then Nat.ble ss.length 100000&&zj ss else if k=4 then cs.isEmpty&&Nat.beq ss.length 1&&zj ss else false
def zj:List Pat->Bool
 | []=>true
 | p::ps=>okP p&&zj ps
end
mutual
theorem rc:∀ p,okP p=true->jC p
 | .mk k cs ss,h=>by
  simp only[okP] at h;by_cases h1:k=1
  .subst h1;exact F0 (by simpa [Nat.ble_eq] using h)
  rw[if_neg h1] at h;by_cases h2:k=2
  .subst h2;simp only[if_true,kC,Nat.ble_eq] at h;exact F1 (ph ss h.2) h.1
  rw[if_neg h2] at h;by_cases h3:k=3
  .subst h3;simp only[if_true,kC,Nat.ble_eq] at h;exact F2 (ph ss h.2) h.1
  rw[if_neg h3] at h;by_cases h4:k=4
  .subst h4;simp only[if_true,kC,Nat.beq_eq] at h;obtain⟨⟨hc,hl⟩,ho⟩:=h;have hcs:cs=[]:=by simpa using hc
   subst hcs
   match ss,hl,ph ss ho with
   | [p],_,hx=>exact DF (hx 0 si)
  .rw[if_neg h4] at h;cases h
theorem ph:∀ ss,zj ss=true->∀ k (h:k<ss.length),jC ss[k]
 | [],_,k,h=>by simp at h
 | p::ps,h,0,_=>by
  simp only[zj,kC] at h;exact rc p h.1
 | p::ps,h,k+1,hk=>by
  simp only[zj,kC] at h;exact ph ps h.2 k (by simpa using hk)
end
end
section
variable [GT]
def tk:List Int->List Int->Bool
 | [],[]=>true
 | a::l,b::m=>ibe a b&&tk l m
 | _,_=>false
theorem xr:∀ {l m:List Int},tk l m=true->l=m
 | [],[],_=>rfl
 | [],_::_,h=>by simp[tk] at h
 | _::_,[],h=>by simp[tk] at h
 | a::l,b::m,h=>by
  simp only[tk,kC] at h;rw[jX.1 h.1,xr h.2]
mutual
def patB:Pat->Pat->Bool
 | .mk k cs ss,.mk k' cs' ss'=>ibe k k' && tk cs cs' && nA ss ss'
def nA:List Pat->List Pat->Bool
 | [],[]=>true
 | p::ps,q::qs=>patB p q&&nA ps qs
 | _,_=>false
end
mutual
theorem Hn:∀ p q:Pat,patB p q=true->p=q
 | .mk k cs ss,.mk k' cs' ss',h=>by
  simp only[patB,kC] at h;rw[jX.1 h.1.1,xr h.1.2,kU ss ss' h.2]
theorem kU:∀ ps qs:List Pat,nA ps qs=true->ps=qs
 | [],[],_=>rfl
 | [],_::_,h=>by simp[nA] at h
 | _::_,[],h=>by simp[nA] at h
 | p::ps,q::qs,h=>by
  simp only[nA,kC] at h;rw[Hn p q h.1,kU ps qs h.2]
end
def atQ (Q:List (List Pat)) (q:Nat) (f:List Pat->Bool):Bool:=match Q[q]? with|some r=>f r|none=>false
theorem p9 {Q:List (List Pat)}{q:Nat}{f:List Pat->Bool}:atQ Q q f=true↔∃ r,Q[q]?=some r/\f r=true:=by
 unfold atQ;cases Q[q]? with
 | none=>simp
 | some r=>simp
def trB (Q:List (List Pat)) (c:Nat) (r0:List Pat) (js:List Nat):Bool:=
 (jf (c:Int) r0).all (λr=>js.any λq'=>atQ Q q' λr'=>nA r' r)&&js.all λq'=>atQ Q q' λr'=>(jf (c:Int) r0).any λr=>nA r r'
theorem trB_ok {Q:List (List Pat)}{c:Nat}{r0:List Pat}{js:List Nat}(h:trB Q c r0 js=true) (r:List Pat):r∈jf (c:Int) r0↔∃ q',q' ∈ js/\Q[q']?=some r:=by
 simp only[trB,kC,kL,List.any_eq_true,p9] at h;constructor
 .intro hr;obtain⟨q',h1,r',h2,h3⟩:=h.1 r hr;exact⟨q',h1,by rw[h2,kU _ _ h3]⟩
 .rintro⟨q',h1,h2⟩;obtain⟨r',h3,r1,h4,h5⟩:=h.2 q' h1;rw[h2] at h3;injection h3 with h3;subst h3
  rw[<-kU _ _ h5];exact h4
structure eK where
 Q:List (List Pat)
 tr:List (List (List Nat))
 SS:List (List Nat)
 ts:List (List Nat)
 m0:Nat
 pr:List (List Nat)
def eK.trF (C:eK) (q:Nat) (c:Nat):List Nat:=(C.tr.getD q []).getD c []
def eK.set (C:eK) (m:Nat):List Nat:=C.SS.getD m []
def eK.nx (C:eK) (m c:Nat):Nat:=(C.ts.getD m []).getD c 0
def eK.unB (C:eK) (a S:List Nat) (c:Nat):Bool:=a.all (λq'=>Nat.beq q' 0 || S.any λq=>jt q' (C.trF q c))&&jt 0 a&&S.all λq=>(C.trF q c).all λq'=>jt q' a
theorem eK.un_ok {C:eK}{a S:List Nat}{c:Nat}(h:C.unB a S c=true) (q':Nat):q' ∈ a↔q'=0\/∃ q,q∈S/\q' ∈ C.trF q c:=by
 simp only[eK.unB,kC,kL,kN,Nat.beq_eq,List.any_eq_true,du] at h;constructor
 .intro hq;exact h.1.1 q' hq
 .rintro(rfl|⟨q,h1,h2⟩)
  .exact h.1.2
  .exact h.2 q h1 q' h2
def eK.b1 (C:eK) (p:Pat) (n:Nat):Bool:=atQ C.Q 0 (λr=>nA r [p])&&(List.range C.Q.length).all λq=>atQ C.Q q λr0=>(List.range (n+2)).all λc=>trB C.Q c r0 (C.trF q c)
def eK.b2 (C:eK) (e n:Nat):Bool:=C.SS.all (λS=>S.all λq=>Nat.blt q C.Q.length)&&(List.range C.SS.length).all (λm=>(List.range n).all λc=>Nat.blt (C.nx m c) C.SS.length&&C.unB (C.set (C.nx m c)) (C.set m) c)&&C.unB (C.set C.m0) [0] e&&Nat.blt C.m0 C.SS.length
def eK.b3 (C:eK) (n i:Nat) (N M:List (List Nat)):Bool:=jt C.m0 (C.pr.getD 0 [])&&(List.range N.length).all λs=>(C.pr.getD s []).all λm=>Nat.blt m C.SS.length&&(List.range n).all (λc=>jt (C.nx m c) (C.pr.getD ((N.getD s []).getD c 0) []))&&(jt i (M.getD s []) == (C.set m).any λq=>atQ C.Q q nuL)
def fw (N:List (List Nat)) (y:List Nat):Nat:=y.foldl (λs c=>(N.getD s []).getD c 0) 0
def qI (y:List Nat):List Int:=y.map λc:Nat=>(c:Int)
theorem Bl {C:eK}{p:Pat}{e n i:Nat}{N M:List (List Nat)}(he:e<n+2) (h1:C.b1 p n=true) (h2:C.b2 e n=true) (h3:C.b3 n i N M=true) (hN0:0<N.length) (hN:∀ s c,s<N.length->c<n->(N.getD s []).getD c 0<N.length)
  (y:List Nat) (hy:∀ c,c∈y->c<n):i∈M.getD (fw N y) []↔∃ u v,(e:Int)::qI y=u++v/\Mw p v:=by
 simp only[eK.b1,kC,kL,p9,List.mem_range] at h1;simp only[eK.b2,kC,kL,List.mem_range,Nat.blt_eq] at h2;simp only[eK.b3,kC,kL,List.mem_range,Nat.blt_eq,du,beq_iff_eq] at h3;obtain⟨⟨r00,q0,e0⟩,hq⟩:=h1;rw[kU _ _ e0] at q0;obtain⟨⟨⟨hS,hst⟩,hm0⟩,hm0l⟩:=h2;obtain⟨hp0,hpr⟩:=h3
 have hT:∀ c,c<n+2->TrOk C.Q (λq (z:Int)=>C.trF q z.toNat) (c:Int):=λc hc q r0 hr0 r=>by
  have hlt:q<C.Q.length:=(List.getElem?_eq_some_iff.1 hr0).1;obtain⟨r1,e1,e2⟩:=hq q hlt;rw[hr0] at e1;injection e1 with e1;subst e1
  have:=trB_ok (e2 c hc) r
  simpa using this
 have hB:∀ m,m<C.SS.length->∀ q,q∈C.set m->∃ r,C.Q[q]?=some r:=λm hm q hqm=>by
  have e1:C.set m=C.SS[m]:=by simp[eK.set,List.getD,hm]
  rw[e1] at hqm;have:=hS _ (kM hm) q hqm
  exact⟨C.Q[q],List.getElem?_eq_getElem this⟩
 have r0:Rep C.Q p (C.set C.m0) [(e:Int)]:=by
  have:=Rep.step (x:=[]) (c:=(e:Int)) q0 (Rep.zero q0) (hT e he) (S':=C.set C.m0) (λq'=>by
   have:=eK.un_ok hm0 q'
   simpa using this) (λq hq0=>by simp only[List.mem_singleton] at hq0;subst hq0;exact⟨_,q0⟩)
  simpa using this
 have key:∀ (k:Nat) (y:List Nat),y.length=k->(∀ c,c∈y->c<n)->fw N y<N.length/\∃ m,m∈C.pr.getD (fw N y) []/\m<C.SS.length/\Rep C.Q p (C.set m) ((e:Int)::qI y):=by
  intro k
  induction k with
  | zero=>
   intro y hk _
   have:y=[]:=List.length_eq_zero_iff.1 hk
   subst this;exact⟨hN0,C.m0,hp0,hm0l,r0⟩
  | succ k ih=>
   intro y hk hy;rcases List.eq_nil_or_concat y with rfl|⟨z,c,rfl⟩
   .simp at hk
   .rw[List.concat_eq_append] at hk hy ⊢;have hz:z.length=k:=by simpa using hk
    have hc:c<n:=hy c si;obtain⟨l1,m,m1,m2,m3⟩:=ih z hz (λd hd=>hy d (by simp[hd]));have er:fw N (z++[c])=(N.getD (fw N z) []).getD c 0:=by simp[fw,List.foldl_append]
    rw[er];have hx:=hpr (fw N z) l1 m m1;have hs:=hst m m2 c hc;refine⟨hN _ _ l1 hc,C.nx m c,hx.1.2 c hc,hs.1,?_⟩
    have:=Rep.step (c:=(c:Int)) q0 m3 (hT c om) (S':=C.set (C.nx m c)) (λq'=>by
     have:=eK.un_ok hs.2 q'
     simpa using this) (hB m m2)
    simpa [qI] using this
 obtain⟨l1,m,m1,m2,m3⟩:=key y.length y rfl hy;rw[m3.ends];have hx:=(hpr (fw N y) l1 m m1).2
 have e1:i∈M.getD (fw N y) []↔((C.set m).any λq=>atQ C.Q q nuL)=true:=by
  rw[<-hx,du]
 rw[e1,List.any_eq_true];constructor
 .rintro⟨q,h1,h2⟩;obtain⟨r,h3,h4⟩:=p9.1 h2;exact⟨q,r,h1,h3,h4⟩
 .rintro⟨q,r,h1,h3,h4⟩;exact⟨q,h1,p9.2 ⟨r,h3,h4⟩⟩
end
section
open Classical
theorem xX5.rdX {p:Prop}(h:p:=by first|exact Rd.same (aw _)|exact Rd.same (aM _)|exact Rd.same (fQ _ _ _)|exact nT rfl rfl rfl (by first|(rw[kO];omega;done)|fail)|exact nT rfl rfl (by first|(rw[List.eq_nil_of_length_eq_zero (show(l.take k).length=0 by omega)];rfl;done)|fail) (by first|(rw[kO];omega;done)|fail)|exact nT rfl rfl (by first|(rw[List.eq_nil_of_length_eq_zero (show(l.drop k).length=0 by omega)];rfl;done)|fail) (by first|(rw[kG,List.length_singleton];omega;done)|fail)|exact nT rfl rfl (cut3 _ _) (by first|(rw[kG,List.length_singleton];done)|fail)|exact lP rfl rfl hfin sim|exact lP rfl rfl (hfin _ rfl) (by first|(rw[kO,List.length_replicate];omega;done)|fail)|fail):p:=h
theorem xX5.rbX {p:Prop}(h:p:=by first|exact Rb.cells (Rds.same (xH _ _ _)) rfl|exact Rb.cells (Rds.eqs e2 (ab (λ_=>rfl))) rfl|exact Rb.cells (Rds.same (n9 _ _)) rfl|exact Rb.cells (Rds.eqs (a8 om (λi _=>by first|(simp;done)|fail)) (ab (λ_=>rfl))) rfl|fail):p:=h
open xX5
variable [GT]
theorem FS {p:Pat}{l:List Int}:(bF (Mw p) l (List.replicate (l.length+1) true)).getD l.length false=true↔∃ u v,l=u++v/\Mw p v:=by
 rw[bp];constructor
 .rintro⟨i,_,h2,h3,h4⟩;refine⟨l.take i,l.drop i,(List.take_append_drop i l).symm,?_⟩;unfold seg at h4
  rwa [kE (by rw[List.length_drop];omega)] at h4
 .rintro⟨u,v,rfl,h⟩;refine⟨u.length,?_,si,si,?_⟩
  .rw[aH (by simp;omega)];simp
  .unfold seg;rw[List.drop_left,kE si];exact h
theorem AO {p:Pat}{l:List Int}:(∃ j,(bF (Mw p) l (true::List.replicate l.length false)).getD j false=true)↔∃ u v,l=u++v/\Mw p u:=by
 constructor
 .rintro⟨j,h⟩;obtain⟨i,h1,h2,h3,h4⟩:=bp.1 h;cases i with
  | zero=>
   refine⟨l.take j,l.drop j,(List.take_append_drop j l).symm,?_⟩;simpa [seg] using h4
  | succ i=>
   have hi:=iI h1;simp only[kO,List.length_replicate] at hi;simp[List.getD,show i<l.length by omega] at h1
 .rintro⟨u,v,rfl,h⟩;refine⟨u.length,bp.2 ⟨0,rfl,om,si,?_⟩⟩;unfold seg;simpa using h
theorem tS (k:Int) (cs:List Int) (ss:List Pat) (l:List Int):aF [.agg [i64 k,aC cs,lstS bJ ss],aC l]=true:=by
 have h:aK (.agg [i64 k,aC cs,lstS bJ ss])=true:=fQ k cs ss;simp only[aF,h,aM,Bool.and_true]
theorem left_c {p:Pat}(hp:jC p){l:List Int}(hl:l.length<=100000):Pu Tryz.prog 70 [.agg (bJ p),aC l] (boo (decide (∃ u v,l=u++v/\Mw p v))):=by
 have hc:=hp l (List.replicate (l.length+1) true) hl si;have hR:=av (P:=Mw p) (l:=l) (a:=List.replicate (l.length+1) true);have hi:=FS (p:=p) (l:=l);generalize bF (Mw p) l (List.replicate (l.length+1) true)=R at hc hR hi;have hlt:l.length<R.length:=om
 have he:R[l.length]=decide (∃ u v,l=u++v/\Mw p v):=by
  rw[aH hlt] at hi;rw[Bool.eq_iff_iff,hi,decide_eq_true_iff]
 generalize decide (∃ u v,l=u++v/\Mw p v)=b at he;cases p with
 | mk k' c' s'=>
 rw[bB] at hc ⊢;refine Pu.of_v aB T0 Tryz.func70 rfl rfl (tS _ _ _ _) ?_;repeat' ((conv=>whnf);first|exact kQ|(refine bk ?_ ?_<;>intro _<;>try exact exo)|refine stq ?_|fail)
 refine aG.by aB T0 (λk:Nat=>⟨tmp 28 [(1,aC l),(2,.ptr 0 0),(5,.sl 1 0 (l.length+1) (l.length+1) 1 true),(6,i64 (k:Int))],⟨2,[(1,.cells (aT (l.length+1) λi=>boo (decide (i<k))) true),(0,.cells [i64 k',aC c',lstS bJ s'] true)]⟩⟩)
  (λk=>k<=l.length+1) (λk=>l.length+1-k) 0 om ?_ ?_
 .exact lq [(0,_),(1,_)] []
 intro k h3;by_cases hk:k<l.length+1
 .repeat' ((conv=>whnf);first|exact kQ|(refine bk ?_ ?_<;>intro _<;>try exact exo)|refine stq ?_|refine bT.at k rfl om ?_|refine Put.one (by simp;omega) ?_|fail)
  (conv=>whnf)
  have e2:(aT (l.length+1) λi=>boo (decide (i<k))).set k (boo true)=aT (l.length+1) λi=>boo (decide (i<k+1)):=
   bG si (λi _ hi=>by simp only[show(i<k+1)=(i<k) from propext ⟨λh=>om,λh=>om⟩])
  refine⟨k+1,om,om,?_⟩;exact lq [(0,_),(1,_)] []
 .have hfin:(aT (l.length+1) λi=>boo (decide (i<k)))=(List.replicate (l.length+1) true).map boo:=by
   have:=ct (l:=List.replicate (l.length+1) true) (f:=boo) (g:=λi=>boo (decide (i<k))) (λi hi=>by
    simp only[List.length_replicate] at hi
    simp[show i<k by omega])
   rwa [List.length_replicate] at this
  repeat' ((conv=>whnf);first|refine Idx.atE (l:=R) (d:=boo b) l.length rfl hlt (by rw[he]) ?_|exact kQ|(refine bk ?_ ?_<;>intro _<;>try exact exo)|refine stq ?_|refine Cll.emb (hc ⟨0,[]⟩) [] [1] (ap R) [] [(0,.cells [i64 k',aC c',lstS bJ s'] true)] rfl cO bxA rdA bxA reA ?_|fail)
  (conv=>whnf)
  exact aD.same rfl rfl
theorem GV {p:Pat}(hp:jC p){l:List Int}(hl:l.length<=100000):Pu Tryz.prog 71 [.agg (bJ p),aC l] (boo (decide (∃ u v,l=u++v/\Mw p u))):=by
 have hc:=hp l (true::List.replicate l.length false) hl si;have hR:=av (P:=Mw p) (l:=l) (a:=true::List.replicate l.length false);have hi:=AO (p:=p) (l:=l);generalize bF (Mw p) l (true::List.replicate l.length false)=R at hc hR hi;generalize(∃ u v,l=u++v/\Mw p u)=b at hi;have hz:∀ m:Int,m=(l.length:Int)+1->dK [boo false] m.toNat=aT (l.length+1) (λ_=>boo false):=λm hm=>a8 om (λ_ _=>rfl)
 have hfin:∀ m:Int,m=(l.length:Int)+1->(dK [boo false] m.toNat).set 0 (boo true)=(true::List.replicate l.length false).map boo:=λm hm=>by
  rw[hz m hm,bG (g:=λi=>boo (decide (i=0))) si (λi _ hi=>by simp[hi])]
  have:=ct (l:=true::List.replicate l.length false) (f:=boo) (g:=λi=>boo (decide (i=0))) (λi hi=>by
   cases i with
   | zero=>rfl
   | succ i=>
    simp only[kO,List.length_replicate] at hi
    simp)
  rwa [kO,List.length_replicate] at this
 cases p with
 | mk k' c' s'=>
 rw[bB] at hc ⊢;refine Pu.of_v aB T0 Tryz.func71 rfl rfl (tS _ _ _ _) ?_;repeat' ((conv=>whnf);first|refine Put.one (k:=0) (by show 0<(dK [boo false] ((l.length:Int)+1).toNat).length;rw[hz _ rfl];simp) ?_|refine bT.at 0 rfl om ?_|exact kQ|(refine bk ?_ ?_<;>intro _<;>try exact exo)|refine stq ?_|refine Cll.emb (hc ⟨0,[]⟩) [] [5] (ap R) [] [(0,.cells [i64 k',aC c',lstS bJ s'] true)] rfl cO bxA rdA bxA reA ?_|fail)
 refine aG.by aB T0 (λk:Nat=>⟨tmp 28 [(6,ap R),(7,i64 (k:Int))],⟨0,[]⟩⟩)
  (λk=>k<=R.length/\∀ i,i<k->¬R.getD i false=true) (λk=>R.length-k) 0 ⟨om,λ_ h=>om⟩ ?_ ?_
 .exact lq0
 intro k ⟨h3,h4⟩;by_cases hk:k<R.length
 .have eg:R.getD k false=R[k]:=aH hk;by_cases hb:R[k]=true
  .repeat' ((conv=>whnf);first|refine Idx.atE (d:=boo true) k rfl hk (by rw[hb]) ?_|exact kQ|(refine bk ?_ ?_<;>intro _<;>try exact exo)|refine stq ?_|fail)
   (conv=>whnf)
   exact aD.yes (hi.1 ⟨k,by rw[eg,hb]⟩)
  .have hb0:R[k]=false:=by simpa using hb
   repeat' ((conv=>whnf);first|refine Idx.atE (d:=boo false) k rfl hk (by rw[hb0]) ?_|exact kQ|(refine bk ?_ ?_<;>intro _<;>try exact exo)|refine stq ?_|fail)
   (conv=>whnf)
   refine⟨k+1,⟨om,λi hi2=>?_⟩,om,?_⟩
   .by_cases e:i=k
    .subst e;rw[eg];exact hb
    .exact h4 i om
   exact lq0
 .repeat' ((conv=>whnf);first|exact kQ|(refine bk ?_ ?_<;>intro _<;>try exact exo)|refine stq ?_|fail)
  (conv=>whnf)
  exact aD.no (λh=>by
   obtain⟨j,hj⟩:=hi.2 h
   exact h4 j (by have:=iI hj;omega) hj)
def Hit (n:Nat) (l:List Int) (k:Nat) (r:Rul):Prop:=(∃ u v,(n:Int)::l.take k=u++v/\Mw r.left v)/\∃ u v,l.drop k++[(n:Int)+1]=u++v/\Mw r.right u
def uP (n:Nat) (rs:List Rul) (l:List Int) (k:Nat):Option Nat->Prop
 | some i=>∃ h:i<rs.length,Hit n l k rs[i]/\∀ j (hj:j<i),¬Hit n l k (rs[j]'(by omega))
 | none=>∀ j (hj:j<rs.length),¬Hit n l k rs[j]
theorem Gs {n:Nat}{rs:List Rul}{l:List Int}{k j:Nat}{q:Option Nat}(hq:uP n rs l k q) (hj:j<rs.length) (h:Hit n l k rs[j]) (hb:∀ i (hi:i<j),¬Hit n l k (rs[i]'(by omega))):q=some j:=by
 cases q with
 | none=>exact absurd h (hq j hj)
 | some i=>
  obtain⟨hi,h1,h2⟩:=hq;rcases Nat.lt_trichotomy i j with h3|h3|h3
  .exact absurd h1 (hb i h3)
  .rw[h3]
  .exact absurd h (h2 j h3)
theorem Gr {n:Nat}{rs:List Rul}{l:List Int}{k:Nat}{q:Option Nat}(hq:uP n rs l k q) (hb:∀ i (hi:i<rs.length),¬Hit n l k rs[i]):q=none:=by
 cases q with
 | none=>rfl
 | some i=>
  obtain⟨hi,h1,_⟩:=hq;exact absurd h1 (hb i hi)
def v8 (rs:List Rul):Option Nat->Int
 | some i=>(match rs[i]? with|some r=>r.act|none=>2)
 | none=>2
def idxR:Option Nat->Int
 | some i=>(i:Int)
 | none=>-1
theorem eI.of {α:Type}{f:α->D}{h:aA}{l:List α}{n:Nat}{cs:List D}{K:Nat->List D->Prop}(en:n=l.length) (ec:cs=l.map f) (go:K l.length (l.map f)):eI h 1 (.imm n cs) K:=by
 subst en;subst ec;exact eI.lst go
theorem cut1 (l:List Int) (k:Nat):List.take (((k:Int)-0).toNat*1) (List.drop ((0:Int).toNat*1) (l.map i64))=(l.take k).map i64:=by simp
theorem cut2 (l:List Int) (k:Nat):List.take (((l.length:Int)-k).toNat*1) (List.drop ((k:Int).toNat*1) (l.map i64))=(l.drop k).map i64:=by
 rw[Nat.mul_one,Nat.mul_one,Int.toNat_natCast,List.map_drop,kE si]
theorem cut3 (l:List Int) (x:Int):List.take (l.length*1) (List.drop 0 (l.map i64))++[i64 x]=(l++[x]).map i64:=by
 rw[Nat.mul_one,List.drop_zero,kE si,List.map_append];rfl
theorem tO:∀ l:List Int,ep (l.map i64)=true
 | []=>rfl
 | _::s=>tO s
theorem nT {h:aA}{fz:Nat->Bool}{σ:Nat->Option Nat}{id n cap:Nat}{b:List Int}{cs:List D}{ex bx:Bool}(hf:fz id=true) (hg:h.get id=some (.cells cs bx)) (ec:cs=b.map i64) (e:n=b.length):Rd h fz σ (.sl id 0 n cap 1 ex) (aC b):=by
 subst e;subst ec;refine .frz hf hg si (.eqs ?_ (aU (λ_=>rfl) _));rw[List.drop_zero,kE si]
theorem n9 (cl:List Str) (rs:List Rul):aF [strs cl,lstS cC rs]=true:=by simp only[aF,aX,dP,Bool.and_true]
theorem Ce (cl:List Str) (rs:List Rul) (l:List Int) (k:Int):aF [.agg [strs cl,lstS cC rs],aC l,i64 k]=true:=by
 have h:aK (.agg [strs cl,lstS cC rs])=true:=by simp[aK,aF,aX,dP]
 simp only[aF,h,aM,Bool.and_true];rfl
theorem tJ {cl:List Str}{rs:List Rul}{l:List Int}{k:Nat}{q:Option Nat}(hC:Pu Tryz.prog 68 [.agg [strs cl,lstS cC rs]] (i64 0)) (hok:∀ r,r∈rs->jC r.left/\jC r.right) (hcl:cl.length<=1000) (hrs:rs.length<=1000) (hl:l.length<=1000) (hc:CL l cl.length) (hk:k<=l.length) (hq:uP cl.length rs l k q) :
  Pu Tryz.prog 48 [.agg [strs cl,lstS cC rs],aC l,i64 (k:Int)] (.tup [i64 (v8 rs q),i64 (idxR q)]):=by
 refine Pu.of_v aB T0 Tryz.func48 rfl rfl (Ce _ _ _ _) ?_;have t1:(l.take k).length=k:=by rw[List.length_take];omega
 have t2:(l.drop k).length=l.length-k:=List.length_drop;repeat' ((conv=>whnf);first|refine Chk.mk (by show 0+(1+(List.take k l).length)*1<=1;omega) ?_|refine eI.of (l:=l.drop k) (f:=i64) om (cut2 l k) ?_|refine eI.of (l:=l.take k) (f:=i64) om (cut1 l k) ?_|refine Chk.mk ⟨om,om,om,(by show(List.map i64 l).length=l.length*1;simp)⟩ ?_|exact kQ|(refine bk ?_ ?_<;>intro _<;>try exact exo)|refine stq ?_|refine cp hC ?_|(refine Cll.dec (rcl_c om) (λ_=>?_) (λ_=>?_)<;>(try contradiction))|refine Chk.mk (tO _) ?_|refine Chk.growX 8 1 rfl rfl om om (by first|exact kP _|(simp;done)) ?_|refine Chk.room 8 rfl om om ?_|fail)
 all_goals
  refine aG.by aB T0 (λj:Nat=>⟨tmp 83 [(3,.ptr 0 0),(9,aC ((cl.length:Int)::l.take k)),(10,aC (l.drop k++[(cl.length:Int)+1])),(11,i64 (j:Int))],⟨1,[(0,.cells [strs cl,lstS cC rs] true)]⟩⟩)
   (λj=>j<=rs.length/\∀ i (hi:i<rs.length),i<j->¬Hit cl.length l k rs[i]) (λj=>rs.length-j) 0 ⟨om,λ_ _ h=>om⟩ ?_ ?_
  .exact lq [(0,_)] [27,32,33,39,40,44,45,46,47]
  intro j ⟨h3,h4⟩;by_cases hj:j<rs.length
  .have hrok:=hok rs[j] (kM hj);have hat:=λh=>Gs hq hj h (λi hi=>h4 i om hi)
   cases hrj:rs[j] with
   | mk a lp rp=>
   rw[hrj] at hrok hat;obtain⟨hL,hR⟩:=hrok;dsimp only at hL hR;have h1:=left_c hL (l:=(cl.length:Int)::l.take k) (by rw[kO];omega);have h2:=GV hR (l:=l.drop k++[(cl.length:Int)+1]) (by rw[kG,List.length_singleton];omega);by_cases hb1:∃ u v,(cl.length:Int)::l.take k=u++v/\Mw lp v
   .rw[decide_eq_true hb1] at h1;by_cases hb2:∃ u v,l.drop k++[(cl.length:Int)+1]=u++v/\Mw rp u
    .rw[decide_eq_true hb2] at h2;have hqj:=hat ⟨hb1,hb2⟩;subst hqj
     have ha:v8 rs (some j)=a:=by
      show(match rs[j]? with|some r=>r.act|none=>2)=a;rw[List.getElem?_eq_getElem hj,hrj]
     rw[ha];cases lp with
     | mk k1 c1 s1=>
     cases rp with
     | mk k2 c2 s2=>
     have hrc:cC rs[j]=[i64 a,i64 k1,aC c1,lstS bJ s1,i64 k2,aC c2,lstS bJ s2]:=by rw[hrj,pT]
     rw[bB] at h1 h2;repeat' ((conv=>whnf);first|refine Idx.atSE j9 j rfl hj hrc ?_|exact kQ|(refine bk ?_ ?_<;>intro _<;>try exact exo)|refine stq ?_|refine cp h1 ?_|refine cp h2 ?_|fail)
     (conv=>whnf)
     exact aD.same rfl rfl
    .rw[decide_eq_false hb2] at h2;have hno:¬Hit cl.length l k rs[j]:=by rw[hrj];exact λh=>hb2 h.2
     cases lp with
     | mk k1 c1 s1=>
     cases rp with
     | mk k2 c2 s2=>
     have hrc:cC rs[j]=[i64 a,i64 k1,aC c1,lstS bJ s1,i64 k2,aC c2,lstS bJ s2]:=by rw[hrj,pT]
     rw[bB] at h1 h2;repeat' ((conv=>whnf);first|refine Idx.atSE j9 j rfl hj hrc ?_|exact kQ|(refine bk ?_ ?_<;>intro _<;>try exact exo)|refine stq ?_|refine cp h1 ?_|refine cp h2 ?_|fail)
     (conv=>whnf)
     refine⟨j+1,⟨om,λi hi hij=>?_⟩,om,?_⟩
     .by_cases e:i=j
      .subst e;exact hno
      .exact h4 i hi om
     exact lq [(0,_)] []
   .rw[decide_eq_false hb1] at h1;have hno:¬Hit cl.length l k rs[j]:=by rw[hrj];exact λh=>hb1 h.1
    cases lp with
    | mk k1 c1 s1=>
    cases rp with
    | mk k2 c2 s2=>
    have hrc:cC rs[j]=[i64 a,i64 k1,aC c1,lstS bJ s1,i64 k2,aC c2,lstS bJ s2]:=by rw[hrj,pT]
    rw[bB] at h1;repeat' ((conv=>whnf);first|refine Idx.atSE j9 j rfl hj hrc ?_|exact kQ|(refine bk ?_ ?_<;>intro _<;>try exact exo)|refine stq ?_|refine cp h1 ?_|fail)
    (conv=>whnf)
    refine⟨j+1,⟨om,λi hi hij=>?_⟩,om,?_⟩
    .by_cases e:i=j
     .subst e;exact hno
     .exact h4 i hi om
    exact lq [(0,_)] []
  .have hqn:=Gr hq (λi hi=>h4 i hi om);subst hqn;repeat' ((conv=>whnf);first|exact kQ|(refine bk ?_ ?_<;>intro _<;>try exact exo)|refine stq ?_|fail)
   (conv=>whnf)
   exact aD.same rfl rfl
end
section
variable [GT]
abbrev rp (n:Nat) (x:List Nat):List (List Nat):=List.replicate n x
def side (b:Bool) (r:Rul):Pat:=match b with|true=>r.left|false=>rev r.right
def iR (b:Bool) (e n:Nat) (N M:List (List Nat)):Nat->List Rul->List eK->Bool
 | _,[],[]=>true
 | i,r::rs,C::Cs=>C.b1 (side b r) n&&C.b2 e n&&C.b3 n i N M&&iR b e n N M (i+1) rs Cs
 | _,_,_=>false
theorem rk {b:Bool}{e n:Nat}{N M:List (List Nat)}:∀ {rs:List Rul}{Cs:List eK}{i:Nat},iR b e n N M i rs Cs=true->∀ j (h:j<rs.length),∃ C:eK,C.b1 (side b rs[j]) n=true/\C.b2 e n=true/\C.b3 n (i+j) N M=true
 | [],_,_,_,j,h=>by simp at h
 | _::_,[],_,h,_,_=>by simp[iR] at h
 | r::rs,C::Cs,i,h,j,hj=>by
  simp only[iR,kC] at h;obtain⟨⟨⟨h1,h2⟩,h3⟩,h4⟩:=h;cases j with
  | zero=>exact⟨C,h1,h2,h3⟩
  | succ j=>
   obtain⟨C',k1,k2,k3⟩:=rk h4 j (by simpa using hj);exact⟨C',by simpa using k1,k2,by rw[show i+(j+1)=i+1+j by omega];exact k3⟩
def nat (l:List Int):List Nat:=l.map Int.toNat
theorem sk {l:List Int}(h:∀ x,x∈l->0<=x):qI (nat l)=l:=by
 unfold qI nat;rw[List.map_map]
 conv=>rhs;rw[<-List.map_id l]
 exact List.map_congr_left λx hx=>by
  have:=h x hx
  simp only[Function.comp,id];omega
theorem ve {l:List Int}{c:Int}(h:CL l c){x:Int}(hx:x∈l):0<=x/\x<c:=by
 obtain⟨i,hi,rfl⟩:=List.mem_iff_getElem.1 hx;exact h i hi
theorem tE (N:List (List Nat)) (y:List Nat) (c:Nat):fw N (y++[c])=(N.getD (fw N y) []).getD c 0:=by
 simp[fw,List.foldl_append]
theorem Ao {N:List (List Nat)}{l:List Int}{c:Int}(hc:CL l c):∀ {k:Nat},k<=l.length->stL (cP N) l k=(fw N (nat (l.take k)):Int)
 | 0,_=>rfl
 | k+1,hk=>by
  have h1:=(hc k om).1;rw[stL,Ao hc om,aH (show k<l.length by omega)];have e1:l.take (k+1)=l.take k++[l[k]]:=by rw[List.take_add_one,List.getElem?_eq_getElem om];rfl
  rw[e1,show nat (l.take k++[l[k]])=nat (l.take k)++[l[k].toNat] by simp only[nat,List.map_append,List.map_cons,List.map_nil],tE,<-vB,Int.toNat_of_nonneg h1]
theorem An {N:List (List Nat)}{l:List Int}{c:Int}(hc:CL l c):∀ {j:Nat},j<=l.length->stR (cP N) l j=(fw N (nat (l.drop (l.length-j)).reverse):Int)
 | 0,_=>by simp[stR,nat,fw]
 | j+1,hj=>by
  have h1:=(hc (l.length-1-j) om).1;rw[stR,An hc om,aH (show l.length-1-j<l.length by omega)]
  have e1:l.drop (l.length-(j+1))=l[l.length-1-j]'(by omega)::l.drop (l.length-j):=by
   rw[kK (show l.length-(j+1)<l.length by omega)];congr 1
   .congr 1;omega
   .congr 1;omega
  rw[e1,List.reverse_cons,show ∀ (a:List Int) (x:Int),nat (a++[x])=nat a++[x.toNat] from λa x=>by simp[nat],tE,<-vB,Int.toNat_of_nonneg h1]
theorem vt {r:Nat}:∀ {m:List Nat}{lo:Nat},vu r lo m=true->∀ x,x∈m->lo<=x/\x<r
 | [],_,_,x,h=>by simp at h
 | y::m,lo,h,x,hx=>by
  simp only[vu,kC,Nat.ble_eq,Nat.blt_eq] at h;rcases List.mem_cons.1 hx with rfl|hx
  .exact⟨h.1.1,h.1.2⟩
  .have:=vt h.2 x hx
   omega
theorem yF {r:Nat}{b:List Nat}:∀ {a:List Nat}{lo i:Nat},vu r lo a=true->fcN a b=some i->i∈a/\i∈b/\∀ j,j∈a->j<i->j∉b
 | [],_,_,_,h=>by simp[fcN] at h
 | x::a,lo,i,ha,h=>by
  simp only[vu,kC,Nat.ble_eq,Nat.blt_eq] at ha;simp only[fcN] at h;cases hm:jt x b with
  | true=>
   rw[hm,cond_true] at h;injection h with h;subst h
   refine⟨si,du.1 hm,λj hj hlt=>?_⟩;rcases List.mem_cons.1 hj with rfl|hj
   .omega
   .have:=vt ha.2 j hj;omega
  | false=>
   rw[hm,cond_false] at h;obtain⟨h1,h2,h3⟩:=yF ha.2 h;refine⟨List.mem_cons_of_mem _ h1,h2,λj hj hlt=>?_⟩;rcases List.mem_cons.1 hj with rfl|hj
   .intro hb;rw[du.2 hb] at hm;cases hm
   .exact h3 j hj hlt
theorem yG {b:List Nat}:∀ {a:List Nat},fcN a b=none->∀ j,j∈a->j∉b
 | [],_,j,h=>by simp at h
 | x::a,h,j,hj=>by
  simp only[fcN] at h;cases hm:jt x b with
  | true=>rw[hm,cond_true] at h;cases h
  | false=>
   rw[hm,cond_false] at h;rcases List.mem_cons.1 hj with rfl|hj
   .intro hb;rw[du.2 hb] at hm;cases hm
   .exact yG h j hj
structure Law (n:Nat) (rs:List Rul) (LN LM RN RM:List (List Nat)):Prop where
 L:∃ Cs,iR true n n LN LM 0 rs Cs=true
 R:∃ Cs,iR false (n+1) n RN RM 0 rs Cs=true
 sL:sdB n rs.length LN LM=true
 sR:sdB n rs.length RN RM=true
theorem zT {n r:Nat}{N M:List (List Nat)}(h:sdB n r N M=true):0<N.length/\(∀ s c,s<N.length->c<n->(N.getD s []).getD c 0<N.length)/\∀ s,vu r 0 (M.getD s [])=true:=by
 simp only[sdB,kC,Nat.ble_eq,Nat.beq_eq,kL,Nat.blt_eq] at h;obtain⟨⟨⟨⟨⟨h0,h1⟩,h2⟩,h3⟩,h4⟩,h5⟩:=h;refine⟨om,λs c hs hc=>?_,λs=>?_⟩
 .have e1:N.getD s []=N[s]:=by simp[List.getD,hs]
  have hr:=h4 N[s] (kM hs);rw[e1];have hc':c<N[s].length:=by rw[hr.1];exact hc
  have e2:N[s].getD c 0=N[s][c]:=by simp[List.getD,hc']
  rw[e2];exact hr.2 _ (kM hc')
 .by_cases hs:s<M.length
  .have e1:M.getD s []=M[s]:=by simp[List.getD,hs]
   rw[e1];exact(h5 M[s] (kM hs)).1
  .have e1:M.getD s []=[]:=by simp[List.getD,hs]
   rw[e1];rfl
theorem rev_ex {p:Pat}{w:List Int}{c:Int}:(∃ u v,w++[c]=u++v/\Mw p u)↔∃ u v,c::w.reverse=u++v/\Mw (rev p) v:=by
 constructor
 .rintro⟨u,v,e,h⟩;refine⟨v.reverse,u.reverse,?_,h.back⟩;rw[<-List.reverse_append,<-e,List.reverse_append];rfl
 .rintro⟨u,v,e,h⟩;refine⟨v.reverse,u.reverse,?_,?_⟩
  .rw[<-List.reverse_append,<-e,List.reverse_cons,List.reverse_reverse]
  .rw[Mw.back_iff,List.reverse_reverse];exact h
theorem nO {n:Nat}{rs:List Rul}{LN LM RN RM:List (List Nat)}(W:Law n rs LN LM RN RM){l:List Int}(hc:CL l n){k j:Nat}(hj:j<rs.length) :
  Hit n l k rs[j]↔j∈LM.getD (fw LN (nat (l.take k))) []/\j∈RM.getD (fw RN (nat (l.drop k).reverse)) []:=by
 obtain⟨CL',hL⟩:=W.L;obtain⟨CR',hR⟩:=W.R;obtain⟨C1,a1,a2,a3⟩:=rk hL j hj;obtain⟨C2,b1,b2,b3⟩:=rk hR j hj;obtain⟨f1,f2,_⟩:=zT W.sL;obtain⟨g1,g2,_⟩:=zT W.sR;rw[Nat.zero_add] at a3 b3;have w1:qI (nat (l.take k))=l.take k:=sk λx hx=>(ve hc (List.mem_of_mem_take hx)).1
 have w2:qI (nat (l.drop k).reverse)=(l.drop k).reverse:=sk λx hx=>(ve hc (List.mem_of_mem_drop (List.mem_reverse.1 hx))).1
 have m1:∀ c,c∈nat (l.take k)->c<n:=λc h=>by
  simp only[nat,List.mem_map] at h;obtain⟨x,hx,rfl⟩:=h;have:=ve hc (List.mem_of_mem_take hx)
  omega
 have m2:∀ c,c∈nat (l.drop k).reverse->c<n:=λc h=>by
  simp only[nat,List.mem_map] at h;obtain⟨x,hx,rfl⟩:=h;have:=ve hc (List.mem_of_mem_drop (List.mem_reverse.1 hx))
  omega
 have r1:=Bl om a1 a2 a3 f1 f2 (nat (l.take k)) m1;have r2:=Bl om b1 b2 b3 g1 g2 (nat (l.drop k).reverse) m2;rw[w1] at r1;rw[w2] at r2;rw[r1,r2];unfold Hit;rw[rev_ex];exact Iff.rfl
theorem Ft {n:Nat}{rs:List Rul}{LN LM RN RM:List (List Nat)}(W:Law n rs LN LM RN RM){l:List Int}(hc:CL l n){k:Nat} :
  uP n rs l k (fcN (LM.getD (fw LN (nat (l.take k))) []) (RM.getD (fw RN (nat (l.drop k).reverse)) [])):=by
 have ha:=(zT W.sL).2.2 (fw LN (nat (l.take k)));cases hf:fcN (LM.getD (fw LN (nat (l.take k))) []) (RM.getD (fw RN (nat (l.drop k).reverse)) []) with
 | none=>exact λj hj h=>yG hf j ((nO W hc hj).1 h).1 ((nO W hc hj).1 h).2
 | some i=>
  obtain⟨h1,h2,h3⟩:=yF ha hf;have hi:=(vt ha i h1).2;exact⟨hi,(nO W hc hi).2 ⟨h1,h2⟩,λj hj h=>h3 j ((nO W hc om).1 h).1 hj ((nO W hc om).1 h).2⟩
theorem Be {cl:List Str}{rs:List Rul}{LN LM RN RM:List (List Nat)}(W:Law cl.length rs LN LM RN RM){l:List Int}(hc:CL l cl.length){k:Nat}(hk:k<=l.length) :
  ∃ q,uP cl.length rs l k q/\DK (tbl cl (rs.map (·.act)) LN LM RN RM) (rh (tbl cl (rs.map (·.act)) LN LM RN RM) (stL (cP LN) l k) (stR (cP RN) l (l.length-k)))=v8 rs q /\
   decI (rh (tbl cl (rs.map (·.act)) LN LM RN RM) (stL (cP LN) l k) (stR (cP RN) l (l.length-k)))=idxR q:=by
 have e1:=Ao (N:=LN) hc hk;have e2:=An (N:=RN) hc (j:=l.length-k) om;rw[show l.length-(l.length-k)=k by omega] at e2;have hF:=Ft W hc (k:=k);rw[e1,e2];generalize fw LN (nat (l.take k))=x at hF;generalize fw RN (nat (l.drop k).reverse)=y at hF
 have hd:rh (tbl cl (rs.map (·.act)) LN LM RN RM) (x:Int) (y:Int)=(fcN (LM.getD x []) (RM.getD y [])).map λk:Nat=>(k:Int):=by
  unfold rh;show fc ((cP LM).getD (x:Int).toNat []) ((cP RM).getD (y:Int).toNat [])=_;rw[Int.toNat_natCast,Int.toNat_natCast,nq,nq,Fu]
 rw[hd];refine⟨_,hF,?_,?_⟩
 .cases hq:fcN (LM.getD x []) (RM.getD y []) with
  | none=>rfl
  | some i=>
   rw[hq] at hF;obtain⟨hi,_⟩:=hF;show(rs.map (·.act)).getD ((i:Nat):Int).toNat 0=(match rs[i]? with|some r=>r.act|none=>2);rw[Int.toNat_natCast,List.getElem?_eq_getElem hi];simp[List.getD,hi]
 .cases fcN (LM.getD x []) (RM.getD y []) with
  | none=>rfl
  | some i=>rfl
end
section
abbrev rqL (n x:Nat):List Nat:=List.replicate n x
abbrev pCl (l:List Int):Pat:=.mk 1 l []
abbrev pSt (p:Pat):Pat:=.mk 4 [] [p]
abbrev pSq (l:List Pat):Pat:=.mk 2 [] l
def dgL (l:List Nat):List (List Nat):=l.map λx=>[x]
def szL:Nat->List Nat->List (List Nat)
 | n,k::v::l=>(szL n l).set k [v]
 | n,_=>List.replicate n []
end
end Go.Proofs.YtlimkdlhldlolaaGreatDoor
