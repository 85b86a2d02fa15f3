/-
  Patterns and words: what is left of a pattern behind a class; words backward. Plain: no program in sight.
-/
import Derived.Test.YtpgcjpcenaefpaaGreatDoorC8
import Derived.Test.YtpgcjpcenaefpaaGreatDoorV0
set_option linter.unusedSectionVars false
namespace Go.Proofs.YtpgcjpcenaefpaaGreatDoor
section
open Go Go.Am
set_option maxRecDepth 100000
mutual
inductive Mw:Pat->List Int->Prop
 | cls {cs:List Int} {ss:List Pat} {c:Int} (h:c∈cs):Mw (.mk 1 cs ss) [c]
 | cat {cs:List Int} {ss:List Pat} {w:List Int} (h:MwL ss w):Mw (.mk 2 cs ss) w
 | alt {cs:List Int} {ss:List Pat} {s:Pat} {w:List Int} (hm:s∈ss) (h:Mw s w):Mw (.mk 3 cs ss) w
 | nil {cs:List Int} {ss:List Pat}:Mw (.mk 4 cs ss) []
 | more {cs:List Int} {s:Pat} {ss:List Pat} {u v:List Int} (h:Mw s u) (h2:Mw (.mk 4 cs (s::ss)) v):Mw (.mk 4 cs (s::ss)) (u++v)
inductive MwL:List Pat->List Int->Prop
 | nil:MwL [] []
 | cons {p:Pat} {ps:List Pat} {u v:List Int} (h:Mw p u) (h2:MwL ps v):MwL (p::ps) (u++v)
end
theorem MwL.app:∀ {ps qs:List Pat}{u v:List Int},MwL ps u->MwL qs v->MwL (ps++qs) (u++v)
 | [],qs,_,v,.nil,h=>h
 | p::ps,qs,_,v,.cons (u:=a) (v:=b) h h2,h3=>by
  rw[List.append_assoc];exact .cons h (MwL.app h2 h3)
theorem MwL.split:∀ {ps qs:List Pat}{w:List Int},MwL (ps++qs) w->∃ u v,w=u++v∧MwL ps u∧MwL qs v
 | [],qs,w,h=>⟨[],w,rfl,.nil,h⟩
 | p::ps,qs,_,.cons (u:=a) (v:=b) h h2=>by
  obtain⟨u,v,rfl,h3,h4⟩:=MwL.split h2;exact⟨a++u,v,by rw[List.append_assoc],.cons h h3,h4⟩
theorem MwL.one {p:Pat}{w:List Int}:MwL [p] w↔Mw p w:=by
 constructor
 ·intro h;cases h with
  | cons h h2=>cases h2;simpa using h
 ·intro h;simpa using MwL.cons h .nil
mutual
def nu:Pat->Bool
 | .mk k _ ss=>if k=2 then nuL ss else if k=3 then nuA ss else if k=4 then true else false
def nuL:List Pat->Bool
 | []=>true
 | p::ps=>nu p&&nuL ps
def nuA:List Pat->Bool
 | []=>false
 | p::ps=>nu p || nuA ps
end
mutual
def aft (c:Int):Pat->List (List Pat)
 | .mk k cs ss=>if k=1 then(if cs.contains c then [[]] else []) else if k=2 then nB c ss else if k=3 then zi c ss else if k=4 then aftH c (.mk 4 cs ss) ss else []
def nB (c:Int):List Pat->List (List Pat)
 | []=>[]
 | p::ps=>(aft c p).map (·++ps)++(if nu p then nB c ps else [])
def aftH (c:Int) (t:Pat):List Pat->List (List Pat)
 | []=>[]
 | s::_=>(aft c s).map (·++[t])
def zi (c:Int):List Pat->List (List Pat)
 | []=>[]
 | p::ps=>aft c p++zi c ps
end
mutual
theorem AO:∀ (p:Pat),Mw p []->nu p=true
 | .mk k cs ss,h=>by
  generalize hw:([]:List Int)=w at h;cases h with
  | cls h=>cases hw
  | cat h=>subst hw;simp only[nu,if_true];exact yy ss h
  | alt hm h=>subst hw;simp only[nu,if_true];exact D0 ss _ hm h
  | nil=>simp[nu]
  | more h h2=>simp[nu]
theorem yy:∀ (ps:List Pat),MwL ps []->nuL ps=true
 | [],_=>rfl
 | p::ps,h=>by
  generalize hw:([]:List Int)=w at h;cases h with
  | cons h h2=>
   have:=List.append_eq_nil_iff.1 hw.symm
   obtain⟨rfl,rfl⟩:=this;simp only[nuL,AO p h,yy ps h2,Bool.and_self]
theorem D0:∀ (ps:List Pat) (s:Pat),s∈ps->Mw s []->nuA ps=true
 | [],s,hm,_=>by simp at hm
 | p::ps,s,hm,h=>by
  rcases List.mem_cons.1 hm with e|hm
  ·rw[e] at h;simp only[nuA,AO p h,Bool.true_or]
  ·simp only[nuA,D0 ps s hm h,Bool.or_true]
end
mutual
theorem Dy:∀ (p:Pat),nu p=true->Mw p []
 | .mk k cs ss,h=>by
  simp only[nu] at h;split at h
  ·rename_i e;subst e;exact .cat (yv ss h)
  split at h
  ·rename_i e;subst e;obtain⟨s,hm,hs⟩:=Dx ss h;exact .alt hm hs
  split at h
  ·rename_i e;subst e;exact .nil
  ·cases h
theorem yv:∀ (ps:List Pat),nuL ps=true->MwL ps []
 | [],_=>.nil
 | p::ps,h=>by
  simp only[nuL,kC] at h;exact MwL.cons (u:=[]) (v:=[]) (Dy p h.1) (yv ps h.2)
theorem Dx:∀ (ps:List Pat),nuA ps=true->∃ s,s∈ps∧Mw s []
 | [],h=>by simp[nuA] at h
 | p::ps,h=>by
  simp only[nuA,kN] at h;rcases h with h|h
  ·exact⟨p,by simp,Dy p h⟩
  ·obtain⟨s,hm,hs⟩:=Dx ps h;exact⟨s,List.mem_cons_of_mem _ hm,hs⟩
end
theorem wk {c:Int}{s:Pat}{r:List Pat}:∀ {ss:List Pat},s∈ss->r∈aft c s->r∈zi c ss
 | p::ps,hm,hr=>by
  simp only[zi,List.mem_append];rcases List.mem_cons.1 hm with rfl|hm
  ·exact .inl hr
  ·exact .inr (wk hm hr)
theorem aft_of {p:Pat}{x:List Int}(h:Mw p x):∀ c w,x=c::w->∃ r,r∈aft c p∧MwL r w:=
 Mw.rec (motive_1:=λp x _=>∀ c w,x=c::w->∃ r,r∈aft c p∧MwL r w) (motive_2:=λps x _=>∀ c w,x=c::w->∃ r,r∈nB c ps∧MwL r w)
  (λ{cs ss c0} hm c w e=>by
   injection e with e1 e2;subst e1;subst e2
   exact⟨[],by simp[aft,hm],.nil⟩)
  (λ{cs ss w0} h ih c w e=>by
   obtain⟨r,h1,h2⟩:=ih c w e
   exact⟨r,by simpa [aft] using h1,h2⟩)
  (λ{cs ss s w0} hm h ih c w e=>by
   obtain⟨r,h1,h2⟩:=ih c w e
   exact⟨r,by simpa [aft] using wk hm h1,h2⟩)
  (λ{cs ss} c w e=>by cases e)
  (λ{cs s ss u v} h h2 ih1 ih2 c w e=>by
   cases u with
   | nil=>exact ih2 c w (by simpa using e)
   | cons a u=>
    rw[List.cons_append] at e;injection e with e1 e2;subst e1;subst e2
    obtain⟨r,q1,q2⟩:=ih1 a u rfl;refine⟨r++[.mk 4 cs (s::ss)],?_,q2.app (MwL.one.2 h2)⟩
    simp[aft,aftH,q1])
  (λc w e=>by cases e)
  (λ{p ps u v} h h2 ih1 ih2 c w e=>by
   cases u with
   | nil=>
    obtain⟨r,q1,q2⟩:=ih2 c w (by simpa using e);refine⟨r,?_,q2⟩;simp only[nB,AO p h,if_true,List.mem_append];exact .inr q1
   | cons a u=>
    rw[List.cons_append] at e;injection e with e1 e2;subst e1;subst e2
    obtain⟨r,q1,q2⟩:=ih1 a u rfl;refine⟨r++ps,?_,q2.app h2⟩;simp only[nB,List.mem_append,List.mem_map]
    exact .inl ⟨r,q1,rfl⟩)
  h
theorem A8:∀ {ps:List Pat}{c:Int}{w:List Int},MwL ps (c::w)->∃ r,r∈nB c ps∧MwL r w
 | [],c,w,h=>by cases h
 | p::ps,c,w,h=>by
  generalize hx:c::w=x at h;cases h with
  | cons h h2=>
   rename_i u v;cases u with
   | nil=>
    rw[List.nil_append] at hx;subst hx;obtain⟨r,q1,q2⟩:=A8 h2;refine⟨r,?_,q2⟩;simp only[nB,AO p h,if_true,List.mem_append];exact .inr q1
   | cons a u=>
    rw[List.cons_append] at hx;injection hx with e1 e2;subst e1;subst e2
    obtain⟨r,q1,q2⟩:=aft_of h _ _ rfl;refine⟨r++ps,?_,q2.app h2⟩;simp only[nB,List.mem_append,List.mem_map];exact .inl ⟨r,q1,rfl⟩
mutual
theorem yw {c:Int}{w:List Int}:∀ (p:Pat) (r:List Pat),r∈aft c p->MwL r w->Mw p (c::w)
 | .mk k cs ss,r,hr,h=>by
  simp only[aft] at hr;split at hr
  ·rename_i e;subst e;split at hr
   ·rename_i hm;simp only[List.mem_singleton] at hr;subst hr;cases h;exact .cls (by simpa using hm)
   ·cases hr
  split at hr
  ·rename_i e;subst e;exact .cat (ut ss r hr h)
  split at hr
  ·rename_i e;subst e;obtain⟨s,hm,hs⟩:=AK ss r hr h;exact .alt hm hs
  split at hr
  ·rename_i e;subst e
   match ss,hr with
   | s::ss,hr=>
    simp only[aftH,List.mem_map] at hr;obtain⟨r0,q1,rfl⟩:=hr;obtain⟨u,v,rfl,h1,h2⟩:=h.split;exact Mw.more (u:=c::u) (yw s r0 q1 h1) (MwL.one.1 h2)
  ·cases hr
theorem ut {c:Int}{w:List Int}:∀ (ps:List Pat) (r:List Pat),r∈nB c ps->MwL r w->MwL ps (c::w)
 | [],r,hr,h=>by simp[nB] at hr
 | p::ps,r,hr,h=>by
  simp only[nB,List.mem_append,List.mem_map] at hr;rcases hr with⟨r0,q1,rfl⟩|hr
  ·obtain⟨u,v,rfl,h1,h2⟩:=h.split;exact MwL.cons (u:=c::u) (yw p r0 q1 h1) h2
  ·split at hr
   ·rename_i hn;exact MwL.cons (u:=[]) (Dy p hn) (ut ps r hr h)
   ·cases hr
theorem AK {c:Int}{w:List Int}:∀ (ss:List Pat) (r:List Pat),r∈zi c ss->MwL r w->∃ s,s∈ss∧Mw s (c::w)
 | [],r,hr,h=>by simp[zi] at hr
 | p::ps,r,hr,h=>by
  simp only[zi,List.mem_append] at hr;rcases hr with hr|hr
  ·exact⟨p,by simp,yw p r hr h⟩
  ·obtain⟨s,hm,hs⟩:=AK ps r hr h;exact⟨s,List.mem_cons_of_mem _ hm,hs⟩
end
theorem MwL.step {ps:List Pat}{c:Int}{w:List Int}:MwL ps (c::w)↔∃ r,r∈nB c ps∧MwL r w:=
 ⟨A8,λ⟨r,h1,h2⟩=>ut ps r h1 h2⟩
theorem MwL.empty {ps:List Pat}:MwL ps []↔nuL ps=true:=⟨yy ps,yv ps⟩
def AW:List Int->List Pat->List Pat->Prop
 | [],r0,r=>r=r0
 | c::v,r0,r=>∃ r',r' ∈ nB c r0∧AW v r' r
theorem MwL.read:∀ {v:List Int}{r0:List Pat},MwL r0 v↔∃ r,AW v r0 r∧nuL r=true
 | [],r0=>by
  rw[MwL.empty];exact⟨λh=>⟨r0,rfl,h⟩,λ⟨r,e,h⟩=>by rw[AW] at e;rw[<-e];exact h⟩
 | c::v,r0=>by
  rw[MwL.step];constructor
  ·rintro⟨r',h1,h2⟩;obtain⟨r,h3,h4⟩:=MwL.read.1 h2;exact⟨r,⟨r',h1,h3⟩,h4⟩
  ·rintro⟨r,⟨r',h1,h3⟩,h4⟩;exact⟨r',h1,MwL.read.2 ⟨r,h3,h4⟩⟩
theorem AW.snoc {c:Int}{r:List Pat}:∀ {v:List Int}{r0:List Pat},AW (v++[c]) r0 r↔∃ r',AW v r0 r'∧r∈nB c r'
 | [],r0=>by
  constructor
  ·rintro⟨r',h1,h2⟩;rw[AW] at h2;subst h2;exact⟨r0,rfl,h1⟩
  ·rintro⟨r',h1,h2⟩;rw[AW] at h1;subst h1;exact⟨r,h2,rfl⟩
 | a::v,r0=>by
  constructor
  ·rintro⟨r1,h1,h2⟩;obtain⟨r',h3,h4⟩:=AW.snoc.1 h2;exact⟨r',⟨r1,h1,h3⟩,h4⟩
  ·rintro⟨r',⟨r1,h1,h3⟩,h4⟩;exact⟨r1,h1,AW.snoc.2 ⟨r',h3,h4⟩⟩
theorem MwL.snoc {ps:List Pat}{p:Pat}{u v:List Int}(h:MwL ps u) (h2:Mw p v):MwL (ps++[p]) (u++v):=h.app (MwL.one.2 h2)
end
section
open Go Go.Am Classical
set_option maxRecDepth 100000
def seg (l:List Int) (i j:Nat):List Int:=(l.drop i).take (j-i)
theorem GM {l:List Int}{i j:Nat}(h:i<=j) (hj:j<=l.length):(seg l i j).length=j-i:=by
 simp[seg];omega
theorem DY {l:List Int}{i:Nat}:seg l i i=[]:=by simp[seg]
def Ld (P:List Int->Prop) (l:List Int) (i j:Nat):Prop:=i<=j∧j<=l.length∧P (seg l i j)
noncomputable def sf (P:List Int->Prop) (l:List Int) (a:List Bool):List Bool:=(List.range (l.length+1)).map λj=>decide (∃ i,a.getD i false=true∧Ld P l i j)
theorem nW {P:List Int->Prop}{l:List Int}{a:List Bool}:(sf P l a).length=l.length+1:=by simp[sf]
theorem Be {P:List Int->Prop}{l:List Int}{a:List Bool}{j:Nat}:(sf P l a).getD j false=true↔∃ i,a.getD i false=true∧Ld P l i j:=by
 by_cases hj:j<l.length+1
 ·simp[sf,List.getD,hj]
 ·constructor
  ·intro h
   have:(sf P l a)[j]?=none:=List.getElem?_eq_none (by rw[nW];omega)
   simp[List.getD,this] at h
  ·rintro⟨i,_,_,h2,_⟩;omega
theorem Ce {x y:List Bool}(hl:x.length=y.length) (h:∀ j,x.getD j false=true↔y.getD j false=true):x=y:=by
 refine List.ext_getElem hl λj h1 h2=>?_
 have:=h j
 simp only[List.getD,List.getElem?_eq_getElem h1,List.getElem?_eq_getElem h2,Option.getD_some] at this;cases hx:x[j]<;>cases hy:y[j]<;>simp_all
theorem HK {x:List Bool}{j:Nat}(h:x.getD j false=true):j<x.length:=by
 by_cases hj:j<x.length
 ·exact hj
 ·have:x[j]?=none:=List.getElem?_eq_none om
  simp[List.getD,this] at h
theorem BD {w:List Int}:MwL [] w↔w=[]:=⟨λh=>by cases h;rfl,λh=>by subst h;exact .nil⟩
theorem Bd {l:List Int}{a:List Bool}(ha:a.length=l.length+1):sf (MwL []) l a=a:=by
 refine Ce (by rw[nW,ha]) λj=>?_
 rw[Be];constructor
 ·rintro⟨i,h1,h2,h3,h4⟩;have:=congrArg List.length (BD.1 h4)
  rw[GM h2 h3] at this
  have:i=j:=by simp at this;omega
  rwa [<-this]
 ·intro h;have:=HK h
  exact⟨j,h,kP _,by omega,BD.2 DY⟩
def cB (cs l:List Int) (a:List Bool):Nat->Bool
 | 0=>false
 | i+1=>decide (i<l.length)&&(a.getD i false&&cs.contains (l.getD i 0))
end
section
open Go Go.Am Classical
set_option maxRecDepth 100000
theorem xX3.rbX {p:Prop}(h:p:=by first|exact Rb.cells (Rds.eqs e2 (ag (λ_=>rfl))) rfl|exact Rb.cells (Rds.eqs (bo om (λi _=>by first|(simp;done)|fail)) (ag (λ_=>rfl))) rfl|fail):p:=h
open xX3
variable [GT]
end
section
open Go Go.Am Classical
set_option maxRecDepth 100000
theorem xX4.rdX {p:Prop}(h:p:=by first|exact Rd.same (a8 _)|exact Rd.eqd (by first|(rw[List.take_zero,Bd ha];done)|fail) (a8 _)|exact kx rfl rfl (hz _ rfl) (by first|(rw[nW];omega;done)|fail)|exact kx rfl rfl (hz _ rfl) sim|fail):p:=h
theorem xX4.rbX {p:Prop}(h:p:=by first|exact Rb.cells (Rds.same (wc _ _ _)) rfl|exact Rb.cells (Rds.eqs (cg (λi _=>start i)) (ag (λ_=>rfl))) rfl|exact Rb.cells (Rds.eqs e2 (ag (λ_=>rfl))) rfl|exact Rb.cells (Rds.eqs e3 (ag (λ_=>rfl))) rfl|exact Rb.cells (Rds.eqs (bo om (λi _=>by first|(cases i<;>simp[cB];done)|fail)) (ag (λ_=>rfl))) rfl|fail):p:=h
open xX4
variable [GT]
theorem wc (k:Int) (cs:List Int) (ss:List Pat):aF [i64 k,aD cs,lstS cx ss]=true:=by rw[<-c7];exact ez _
theorem kx {h:aA}{fz:Nat->Bool}{σ:Nat->Option Nat}{id n cap:Nat}{b:List Bool}{cs:List D}{ex bx:Bool}(hf:fz id=true) (hg:h.get id=some (.cells cs bx)) (ec:cs=b.map boo) (e:n=b.length):Rd h fz σ (.sl id 0 n cap 1 ex) (bz b):=by
 subst e;subst ec;refine .frz hf hg si (.eqs ?_ (aS (λ_=>rfl) _));rw[List.drop_zero,kE si]
end
section
open Go Go.Am Classical
set_option maxRecDepth 100000
theorem xX5.rdX {p:Prop}(h:p:=by first|exact Rd.same (a8 _)|exact Rd.same (aO _)|exact Rd.same (i8 _ _ _)|exact mt rfl rfl rfl (by first|(rw[kO];omega;done)|fail)|exact mt rfl rfl (by first|(rw[List.eq_nil_of_length_eq_zero (show(l.take k).length=0 by omega)];rfl;done)|fail) (by first|(rw[kO];omega;done)|fail)|exact mt rfl rfl (by first|(rw[List.eq_nil_of_length_eq_zero (show(l.drop k).length=0 by omega)];rfl;done)|fail) (by first|(rw[kG,List.length_singleton];omega;done)|fail)|exact mt rfl rfl (cut3 _ _) (by first|(rw[kG,List.length_singleton];done)|fail)|exact kx rfl rfl hfin sim|exact kx rfl rfl (hfin _ rfl) (by first|(rw[kO,List.length_replicate];omega;done)|fail)|fail):p:=h
theorem xX5.rbX {p:Prop}(h:p:=by first|exact Rb.cells (Rds.same (wc _ _ _)) rfl|exact Rb.cells (Rds.eqs e2 (ag (λ_=>rfl))) rfl|exact Rb.cells (Rds.same (s6 _ _)) rfl|exact Rb.cells (Rds.eqs (bo om (λi _=>by first|(simp;done)|fail)) (ag (λ_=>rfl))) rfl|fail):p:=h
open xX5
variable [GT]
theorem eX.of {α:Type}{f:α->D}{h:aA}{l:List α}{n:Nat}{cs:List D}{K:Nat->List D->Prop}(en:n=l.length) (ec:cs=l.map f) (go:K l.length (l.map f)):eX h 1 (.imm n cs) K:=by
 subst en;subst ec;exact eX.lst go
theorem cut3 (l:List Int) (x:Int):List.take (l.length*1) (List.drop 0 (l.map i64))++[i64 x]=(l++[x]).map i64:=by
 rw[Nat.mul_one,List.drop_zero,kE si,List.map_append];rfl
theorem mt {h:aA}{fz:Nat->Bool}{σ:Nat->Option Nat}{id n cap:Nat}{b:List Int}{cs:List D}{ex bx:Bool}(hf:fz id=true) (hg:h.get id=some (.cells cs bx)) (ec:cs=b.map i64) (e:n=b.length):Rd h fz σ (.sl id 0 n cap 1 ex) (aD b):=by
 subst e;subst ec;refine .frz hf hg si (.eqs ?_ (aS (λ_=>rfl) _));rw[List.drop_zero,kE si]
theorem s6 (cl:List Str) (rs:List Rul):aF [strs cl,lstS iM rs]=true:=by simp only[aF,ai,i7,Bool.and_true]
end
end Go.Proofs.YtpgcjpcenaefpaaGreatDoor
