/-
  Plain: the canonical order of a text, and how starters take up what stands behind them.
-/
import Derived.Test.YticpeeooobajgaaGreatDoorC0
import Derived.Test.YticpeeooobajgaaGreatDoorG0
set_option linter.unusedSectionVars false
namespace Go.Proofs.YticpeeooobajgaaGreatDoor
section
open Go Go.Am
set_option linter.unusedVariables false
section
variable (cls:Int->Int)
def co (x:Int):List Int->List Int
 | []=>[x]
 | y::l=>if 0<cls y∧cls y<cls x then y::co x l else x::y::l
def can:List Int->List Int
 | []=>[]
 | x::l=>co cls x (can l)
inductive Sw:List Int->List Int->Prop
 | refl (l:List Int):Sw l l
 | step {a:List Int} (p:List Int) (x y:Int) (s:List Int):0<cls x->0<cls y->cls x≠cls y->Sw a (p++x::y::s)->Sw a (p++y::x::s)
variable {cls}
theorem Sw.trans {a b c:List Int}(h:Sw cls a b) (k:Sw cls b c):Sw cls a c:=by
 induction k with
 | refl=>exact h
 | step p x y s h1 h2 h3 _ ih=>exact .step p x y s h1 h2 h3 ih
theorem Sw.one (p:List Int) (x y:Int) (s:List Int) (h1:0<cls x) (h2:0<cls y) (h3:cls x≠cls y):Sw cls (p++x::y::s) (p++y::x::s):=.step p x y s h1 h2 h3 (.refl _)
theorem Sw.symm {a b:List Int}(h:Sw cls a b):Sw cls b a:=by
 induction h with
 | refl=>exact .refl _
 | step p x y s h1 h2 h3 _ ih=>exact(Sw.one p y x s h2 h1 (Ne.symm h3)).trans ih
theorem Sw.mid {a b:List Int}(p s:List Int) (h:Sw cls a b):Sw cls (p++a++s) (p++b++s):=by
 induction h with
 | refl=>exact .refl _
 | step q x y t h1 h2 h3 _ ih=>
  refine ih.trans ?_;have:=Sw.one (cls:=cls) (p++q) x y (t++s) h1 h2 h3
  simpa using this
theorem Sw.app {a b c d:List Int}(h:Sw cls a b) (k:Sw cls c d):Sw cls (a++c) (b++d):=by
 have h1:=h.mid [] c;have h2:=k.mid b [];simpa using (by simpa using h1:Sw cls (a++c) (b++c)).trans (by simpa using h2)
theorem Sw.cons {a b:List Int}(x:Int) (h:Sw cls a b):Sw cls (x::a) (x::b):=by simpa using h.mid [x] []
theorem Sw.perm {a b:List Int}(h:Sw cls a b):a.Perm b:=by
 induction h with
 | refl=>exact .refl _
 | step p x y s _ _ _ _ ih=>exact ih.trans (.append_left p (.swap y x s))
theorem xC (x:Int):∀ l,Sw cls (x::l) (co cls x l)
 | []=>.refl _
 | y::l=>by
  unfold co;split
  ·rename_i h;exact(Sw.one [] x y l om h.1 om).trans ((xC x l).cons y)
  ·exact .refl _
theorem gU:∀ l,Sw cls l (can cls l)
 | []=>.refl _
 | x::l=>((gU l).cons x).trans (xC x _)
theorem qk {x y:Int}(hx:0<cls x) (hy:0<cls y) (hne:cls x≠cls y):∀ l,co cls x (co cls y l)=co cls y (co cls x l)
 | []=>by
  simp only[co];by_cases h:cls y<cls x
  ·rw[if_pos ⟨hy,h⟩,if_neg om]
  ·rw[if_neg om,if_pos ⟨hx,by omega⟩]
 | z::l=>by
  by_cases hzy:0<cls z∧cls z<cls y<;>by_cases hzx:0<cls z∧cls z<cls x
  ·simp only[co,if_pos hzy,if_pos hzx,qk hx hy hne l]
  ·have:co cls x (z::l)=x::z::l:=by rw[co,if_neg hzx]
   rw[this];simp only[co,if_pos hzy,if_neg hzx];rw[if_pos ⟨hx,by omega⟩]
  ·have:co cls y (z::l)=y::z::l:=by rw[co,if_neg hzy]
   rw[this];simp only[co,if_pos hzx,if_neg hzy];rw[if_pos ⟨hy,by omega⟩]
  ·have e1:co cls y (z::l)=y::z::l:=by rw[co,if_neg hzy]
   have e2:co cls x (z::l)=x::z::l:=by rw[co,if_neg hzx]
   rw[e1,e2];by_cases h:cls y<cls x
   ·rw[co,if_pos ⟨hy,h⟩,e2,co,if_neg om]
   ·rw[co,if_neg om,co,if_pos ⟨hx,by omega⟩,e1]
theorem xO:∀ (p:List Int){a b:List Int},can cls a=can cls b->can cls (p++a)=can cls (p++b)
 | [],_,_,h=>h
 | x::p,_,_,h=>congrArg (co cls x) (xO p h)
theorem Sw.same {a b:List Int}(h:Sw cls a b):can cls a=can cls b:=by
 induction h with
 | refl=>rfl
 | step p x y s h1 h2 h3 _ ih=>exact ih.trans (xO p (qk h1 h2 h3 _))
theorem C3 (l:List Int):can cls (can cls l)=can cls l:=(gU l).same.symm
theorem cX (l:List Int):(can cls l).Perm l:=(gU l).perm.symm
theorem l9 {l:List Int}{x:Int}:x∈can cls l↔x∈l:=(cX l).mem_iff
def dG (cls:Int->Int):List Int->Prop
 | x::y::l=>¬(0<cls y∧cls y<cls x)∧dG cls (y::l)
 | _=>True
theorem dG.tail {x:Int}:∀ {l:List Int},dG cls (x::l)->dG cls l
 | [],_=>trivial
 | _::_,h=>h.2
theorem dG.same:∀ {l:List Int},dG cls l->can cls l=l
 | [],_=>rfl
 | [_],_=>rfl
 | x::y::l,h=>by
  show co cls x (can cls (y::l))=_;rw[dG.same h.2,co,if_neg h.1]
theorem t5 (x:Int):∀ {l:List Int},dG cls l->dG cls (co cls x l)
 | [],_=>trivial
 | [y],_=>by
  unfold co;split
  ·rename_i h;exact⟨by omega,trivial⟩
  ·rename_i h;exact⟨h,trivial⟩
 | y::z::l,h=>by
  unfold co;split
  ·rename_i hy;have ih:=t5 x h.2;unfold co at ih ⊢;split at ih<;>rename_i hz
   ·rw[if_pos hz];exact⟨h.1,ih⟩
   ·rw[if_neg hz];exact⟨by omega,ih⟩
  ·rename_i hy;exact⟨hy,h⟩
theorem wd:∀ l,dG cls (can cls l)
 | []=>trivial
 | x::l=>t5 x (wd l)
theorem dG.app {z:Int}:∀ {a b:List Int},dG cls (a++[z])->dG cls (z::b)->dG cls (a++z::b)
 | [],_,_,h=>h
 | [x],_,h,k=>⟨h.1,k⟩
 | _::y::a,_,h,k=>⟨h.1,dG.app (a:=y::a) h.2 k⟩
theorem dG.left {b:List Int}:∀ {a:List Int},dG cls (a++b)->dG cls a
 | [],_=>trivial
 | [_],_=>trivial
 | _::y::a,h=>⟨h.1,dG.left (a:=y::a) h.2⟩
theorem dG.right {b:List Int}:∀ {a:List Int},dG cls (a++b)->dG cls b
 | [],h=>h
 | _::a,h=>dG.right (a:=a) h.tail
theorem dG.part {s:Int}(hs:cls s=0){b:List Int}(hb:dG cls (s::b)):∀ {a:List Int},dG cls a->dG cls (a++s::b)
 | [],_=>hb
 | [_],_=>⟨by omega,hb⟩
 | _::y::a,h=>⟨h.1,dG.part hs hb (a:=y::a) h.2⟩
theorem qj {s:Int}(hs:cls s=0) (x:Int) (b:List Int):∀ a,co cls x (a++s::b)=co cls x a++s::b
 | []=>by simp only[List.nil_append,co,if_neg (show ¬(0<cls s∧cls s<cls x) by omega)];rfl
 | y::a=>by
  simp only[List.cons_append,co,qj hs x b a];split<;>rfl
theorem uU {s:Int}(hs:cls s=0) (b:List Int):can cls (s::b)=s::can cls b:=by
 show co cls s (can cls b)=_;cases can cls b with
 | nil=>rfl
 | cons y l=>rw[co,if_neg om]
theorem l8 {s:Int}(hs:cls s=0) (b:List Int):∀ a,can cls (a++s::b)=can cls a++s::can cls b
 | []=>uU hs b
 | x::a=>by
  show co cls x (can cls (a++s::b))=co cls x (can cls a)++_;rw[l8 hs b a,qj hs]
theorem dG.le {z c:Int}:∀ {q:List Int},dG cls (q++[c])->0<cls c->(∀ x∈q,0<cls x)->z∈q->cls z<=cls c
 | [x],h,hc,_,hz=>by
  simp only[List.mem_singleton] at hz;subst hz;have:=h.1;omega
 | x::y::q,h,hc,hq,hz=>by
  rcases List.mem_cons.1 hz with rfl|hz
  ·have h1:=dG.le (z:=y) (q:=y::q) h.2 hc (λa ha=>hq a (List.mem_cons_of_mem _ ha)) (List.mem_cons_self ..);have h2:=h.1;have h3:=hq y si;omega
  ·exact dG.le (q:=y::q) h.2 hc (λa ha=>hq a (List.mem_cons_of_mem _ ha)) hz
end
section
variable (cls:Int->Int) (jn:Int->Int->Option Int)
variable {cls jn}
structure JOk (cls:Int->Int) (jn:Int->Int->Option Int):Prop where
 zero:∀ {a c w},jn a c=some w->cls w=0∧cls a=0
variable {ex:Int->List Int}
abbrev exs (ex:Int->List Int) (l:List Int):List Int:=l.flatMap ex
end
end
section
open Go Go.Am
set_option linter.unusedVariables false
variable {cls:Int->Int}{jn:Int->Int->Option Int}{ex:Int->List Int}
theorem qq {f:Int->List Int}:∀ {n:List Int},(∀ z∈n,f z=[z])->n.flatMap f=n
 | [],_=>rfl
 | z::n,h=>by simp only[List.flatMap_cons,h z si,qq λy hy=>h y (List.mem_cons_of_mem _ hy)];rfl
end
section
open Go Go.Am
set_option linter.unusedVariables false
structure NK (cls:Int->Int) (jn:Int->Int->Option Int) (ex:Int->List Int):Prop extends JOk cls jn where
 pos:∀ c,0<=cls c
 join:∀ {a c w},jn a c=some w->ex w=ex a++ex c
 irr:∀ c,∀ e∈ex c,ex e=[e]
section
variable {cls:Int->Int}{jn:Int->Int->Option Int}{ex:Int->List Int}
def dcm (cls:Int->Int) (ex:Int->List Int) (x:List Int):List Int:=can cls (exs ex x)
theorem Cr (h:NK cls jn ex){x:List Int}{e:Int}(he:e∈dcm cls ex x):ex e=[e]:=by
 obtain⟨c,_,hc⟩:=List.mem_flatMap.1 (l9.1 he);exact h.irr c e hc
theorem v3 {l:List Int}(h:∀ e∈l,ex e=[e]):dcm cls ex l=can cls l:=by rw[dcm,exs,qq h]
theorem Cs (h:NK cls jn ex) (x:List Int):dcm cls ex (dcm cls ex x)=dcm cls ex x:=by
 rw[v3 λe he=>Cr h he,dcm,C3]
variable {ex':Int->List Int}
end
end
section
open Go Go.Am Classical
set_option maxRecDepth 100000
set_option linter.unusedVariables false
structure Nm where
 cl:List Spn
 dc:List Mpg
 xc:List Rng
def hk (c:Int):Int:=
 if 4352<=c∧c<=4370 then 1 else if 4449<=c∧c<=4469 then 2 else if 4520<=c∧c<=4546 then 3 else if 44032<=c∧c<=55203 then(if(c-44032) % 28=0 then 4 else 5) else 0
def hd (c:Int):List Int:=
 if 4<=hk c then [4352+(c-44032) / 28 / 21,4449+(c-44032) / 28 % 21]++(if(c-44032) % 28=0 then [] else [4519+(c-44032) % 28]) else [c]
def hc (a b:Int):Option Int:=
 if hk a=1∧hk b=2 then some (44032+(21*(a-4352)+(b-4449))*28) else if hk a=4∧hk b=3 then some (a+b-4519) else none
theorem gv (c:Int):(hk c=1∧4352<=c∧c<=4370)∨(hk c=2∧4449<=c∧c<=4469)∨(hk c=3∧4520<=c∧c<=4546)∨(hk c=4∧44032<=c∧c<=55203∧(c-44032) % 28=0)∨(hk c=5∧44032<=c∧c<=55203∧(c-44032) % 28≠0) ∨
  (hk c=0∧¬(4352<=c∧c<=4370)∧¬(4449<=c∧c<=4469)∧¬(4520<=c∧c<=4546)∧¬(44032<=c∧c<=55203)):=by
 unfold hk;repeat' split
 all_goals simp_all
theorem hd_low {c e:Int}(h:4<=hk c) (he:e∈hd c):hk e<4∧1<=hk e∧4352<=e∧e<=4546:=by
 unfold hd at he;rw[if_pos h] at he;have hc:=gv c
 have key:∀ {x:Int},(4352<=x∧x<=4370)∨(4449<=x∧x<=4469)∨(4520<=x∧x<=4546)->hk x<4∧1<=hk x∧4352<=x∧x<=4546:=λ{x} hx=>by
  have:=gv x;omega
 apply key;split at he
 ·simp only[List.append_nil,kH,List.not_mem_nil,or_false] at he;omega
 ·simp only[List.cons_append,List.nil_append,kH,List.not_mem_nil,or_false] at he;omega
def cls (n:Nm) (c:Int):Int:=aK n.cl c
def fnd (l:List Mpg) (c:Int):Option Mpg:=l.find? λm=>decide (m.frm=c)
def once (n:Nm) (k:Bool) (c:Int):Option (List Int):=
 if 4<=hk c then some (hd c) else match fnd n.dc c with
  | some m=>if m.tag≠[]∧k=false then none else some m.to
  | none=>none
theorem uD {l:List Mpg}{c:Int}{m:Mpg}(h:fnd l c=some m):m∈l∧m.frm=c:=by
 unfold fnd at h;exact⟨List.mem_of_find?_eq_some h,by have:=List.find?_some h;simpa using this⟩
def m8 (on:Int->Option (List Int)) (ex:Int->List Int):Prop:=∀ c,ex c=match on c with|none=>[c]|some to=>to.flatMap ex
noncomputable def j5 (on:Int->Option (List Int)):Int->List Int:=if h:∃ ex,m8 on ex then Classical.choose h else λc=>[c]
def ui (on:Int->Option (List Int)):Prop:=∃ rk:Int->Nat,∀ c to,on c=some to->∀ e∈to,rk e<rk c
def exF (on:Int->Option (List Int)):Nat->Int->List Int
 | 0,c=>[c]
 | f+1,c=>match on c with|none=>[c]|some to=>to.flatMap (exF on f)
theorem uH {on:Int->Option (List Int)}{rk:Int->Nat}(hr:∀ c to,on c=some to->∀ e∈to,rk e<rk c):∀ (f g:Nat) (c:Int),rk c<f->rk c<g->exF on f c=exF on g c
 | 0,_,_,h,_=>absurd h (Nat.not_lt_zero _)
 | _+1,0,_,_,h=>absurd h (Nat.not_lt_zero _)
 | f+1,g+1,c,h1,h2=>by
  simp only[exF];split
  ·rfl
  ·rename_i to ht
   have:∀ l:List Int,(∀ e∈l,rk e<rk c)->l.flatMap (exF on f)=l.flatMap (exF on g):=λl=>by
    induction l with
    | nil=>intro _;rfl
    | cons e l ih=>
     intro hl;have:=hl e si
     simp only[List.flatMap_cons,ih λx hx=>hl x (List.mem_cons_of_mem _ hx),uH hr f g e om om]
   exact this to (hr c to ht)
theorem Aw {on:Int->Option (List Int)}(h:ui on):m8 on (j5 on):=by
 have he:∃ ex,m8 on ex:=by
  obtain⟨rk,hr⟩:=h;refine⟨λc=>exF on (rk c+1) c,λc=>?_⟩;show exF on (rk c+1) c=_;simp only[exF];split
  ·rfl
  ·rename_i to ht
   have:∀ l:List Int,(∀ e∈l,rk e<rk c)->l.flatMap (exF on (rk c))=l.flatMap (λe=>exF on (rk e+1) e):=λl=>by
    induction l with
    | nil=>intro _;rfl
    | cons e l ih=>
     intro hl;have:=hl e si
     simp only[List.flatMap_cons,ih λx hx=>hl x (List.mem_cons_of_mem _ hx),uH hr (rk c) (rk e+1) e om om]
   exact this to (hr c to ht)
 unfold j5;rw[dif_pos he];exact Classical.choose_spec he
theorem m8.none {on:Int->Option (List Int)}{ex:Int->List Int}(h:m8 on ex){c:Int}(hc:on c=none):ex c=[c]:=by rw[h c,hc]
theorem m8.some {on:Int->Option (List Int)}{ex:Int->List Int}(h:m8 on ex){c:Int}{to:List Int}(hc:on c=some to):ex c=to.flatMap ex:=by rw[h c,hc]
theorem m8.irr {on:Int->Option (List Int)}{ex:Int->List Int}(h:m8 on ex) (hE:ui on) (c:Int):∀ e∈ex c,on e=Option.none:=by
 obtain⟨rk,hr⟩:=hE
 have:∀ n c,rk c<n->∀ e∈ex c,on e=Option.none:=by
  intro n
  induction n with
  | zero=>intro c h;exact absurd h (Nat.not_lt_zero _)
  | succ n ih=>
   intro c hn e he;cases hc:on c with
   | none=>rw[h.none hc,List.mem_singleton] at he;rw[he,hc]
   | some to=>
    rw[h.some hc] at he;obtain⟨d,hd,he⟩:=List.mem_flatMap.1 he;have:=hr c to hc d hd
    exact ih d om e he
 exact this _ c (Nat.lt_succ_self _)
def compo (n:Nm) (a b:Int) (m:Mpg):Prop:=m.tag=[]∧m.to=[a,b]∧hasB n.xc m.frm=false∧cls n m.frm=0∧cls n a=0
noncomputable def jn (n:Nm) (a b:Int):Option Int:=
 match hc a b with
 | some w=>some w
 | none=>(n.dc.find? λm=>decide (compo n a b m)).map (·.frm)
structure NmV (n:Nm):Prop where
 cl:ClV n.cl
 dc:MOk n.dc
 xc:po n.xc
 inj:∀ m∈n.dc,∀ m' ∈ n.dc,m.frm=m'.frm->m=m'
 two:∀ m∈n.dc,m.tag=[]->m.to.length=1∨m.to.length=2
 kind:∀ m∈n.dc,hk m.frm=0
 tagged:∀ m∈n.dc,m.tag≠[]->cls n m.frm=0
 ends:ui (once n true)
 len:∀ c,(j5 (once n true) c).length<=64
theorem eG {n:Nm}{c:Int}{to:List Int}(h:once n false c=some to):once n true c=some to:=by
 unfold once at *;split at h
 ·rename_i hc;rw[if_pos hc];exact h
 ·rename_i hc;rw[if_neg hc];split at h
  ·rename_i m hm;split at h
   ·cases h
   ·rename_i ht
    try simp only[hm]
    rw[if_neg si];exact h
  ·cases h
namespace NmV
variable {n:Nm}(h:NmV n)
include h
theorem endsD:ui (once n false):=by
 obtain⟨rk,hr⟩:=h.ends;exact⟨rk,λc to hc=>hr c to (eG hc)⟩
theorem cls_pos (c:Int):0<=cls n c:=by
 have:∀ l:List Spn,(∀ s∈l,1<=s.val)->0<=aK l c:=λl=>by
  induction l with
  | nil=>intro _;simp[aK]
  | cons s l ih=>
   intro hl;simp only[aK];split
   ·have:=hl s si;omega
   ·exact ih λx hx=>hl x (List.mem_cons_of_mem _ hx)
 exact this _ λs hs=>by
  obtain⟨i,hi,rfl⟩:=List.getElem_of_mem hs;exact(h.cl i hi).1.2.2.2.1
end NmV
end
end Go.Proofs.YticpeeooobajgaaGreatDoor
