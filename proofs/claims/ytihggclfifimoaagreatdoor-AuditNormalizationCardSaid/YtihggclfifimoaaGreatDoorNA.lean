/-
  Plain: the canonical order of a text, and how starters take up what stands behind them.
-/
import Derived.Test.YtihggclfifimoaaGreatDoorC0
set_option linter.unusedSectionVars false
namespace Go.Proofs.YtihggclfifimoaaGreatDoor
section
open Go Go.Am
set_option linter.unusedVariables false
section
variable (cls:Int->Int)
def bw (x:Int):List Int->List Int
 | []=>[x]
 | y::l=>if 0<cls y∧cls y<cls x then y::bw x l else x::y::l
def can:List Int->List Int
 | []=>[]
 | x::l=>bw cls x (can l)
inductive Sw:List Int->List Int->Prop
 | refl (l:List Int):Sw l l
 | step {a:List Int} (p:List Int) (x y:Int) (s:List Int):0<cls x->0<cls y->cls x≠cls y->Sw a (p++x::y::s)->Sw a (p++y::x::s)
variable {cls}
theorem Sw.trans {a b c:List Int}(h:Sw cls a b) (k:Sw cls b c):Sw cls a c:=by
 induction k with
 | refl=>exact h
 | step p x y s h1 h2 h3 _ ih=>exact .step p x y s h1 h2 h3 ih
theorem Sw.one (p:List Int) (x y:Int) (s:List Int) (h1:0<cls x) (h2:0<cls y) (h3:cls x≠cls y):Sw cls (p++x::y::s) (p++y::x::s):=.step p x y s h1 h2 h3 (.refl _)
theorem Sw.symm {a b:List Int}(h:Sw cls a b):Sw cls b a:=by
 induction h with
 | refl=>exact .refl _
 | step p x y s h1 h2 h3 _ ih=>exact(Sw.one p y x s h2 h1 (Ne.symm h3)).trans ih
theorem Sw.mid {a b:List Int}(p s:List Int) (h:Sw cls a b):Sw cls (p++a++s) (p++b++s):=by
 induction h with
 | refl=>exact .refl _
 | step q x y t h1 h2 h3 _ ih=>
  refine ih.trans ?_;have:=Sw.one (cls:=cls) (p++q) x y (t++s) h1 h2 h3
  simpa using this
theorem Sw.app {a b c d:List Int}(h:Sw cls a b) (k:Sw cls c d):Sw cls (a++c) (b++d):=by
 have h1:=h.mid [] c;have h2:=k.mid b [];simpa using (by simpa using h1:Sw cls (a++c) (b++c)).trans (by simpa using h2)
theorem Sw.cons {a b:List Int}(x:Int) (h:Sw cls a b):Sw cls (x::a) (x::b):=by simpa using h.mid [x] []
theorem Sw.perm {a b:List Int}(h:Sw cls a b):a.Perm b:=by
 induction h with
 | refl=>exact .refl _
 | step p x y s _ _ _ _ ih=>exact ih.trans (.append_left p (.swap y x s))
theorem AJ (x:Int):∀ l,Sw cls (x::l) (bw cls x l)
 | []=>.refl _
 | y::l=>by
  unfold bw;split
  ·rename_i h;exact(Sw.one [] x y l om h.1 om).trans ((AJ x l).cons y)
  ·exact .refl _
theorem fu:∀ l,Sw cls l (can cls l)
 | []=>.refl _
 | x::l=>((fu l).cons x).trans (AJ x _)
theorem sq {x y:Int}(hx:0<cls x) (hy:0<cls y) (hne:cls x≠cls y):∀ l,bw cls x (bw cls y l)=bw cls y (bw cls x l)
 | []=>by
  simp only[bw];by_cases h:cls y<cls x
  ·rw[if_pos ⟨hy,h⟩,if_neg om]
  ·rw[if_neg om,if_pos ⟨hx,by omega⟩]
 | z::l=>by
  by_cases hzy:0<cls z∧cls z<cls y<;>by_cases hzx:0<cls z∧cls z<cls x
  ·simp only[bw,if_pos hzy,if_pos hzx,sq hx hy hne l]
  ·have:bw cls x (z::l)=x::z::l:=by rw[bw,if_neg hzx]
   rw[this];simp only[bw,if_pos hzy,if_neg hzx];rw[if_pos ⟨hx,by omega⟩]
  ·have:bw cls y (z::l)=y::z::l:=by rw[bw,if_neg hzy]
   rw[this];simp only[bw,if_pos hzx,if_neg hzy];rw[if_pos ⟨hy,by omega⟩]
  ·have e1:bw cls y (z::l)=y::z::l:=by rw[bw,if_neg hzy]
   have e2:bw cls x (z::l)=x::z::l:=by rw[bw,if_neg hzx]
   rw[e1,e2];by_cases h:cls y<cls x
   ·rw[bw,if_pos ⟨hy,h⟩,e2,bw,if_neg om]
   ·rw[bw,if_neg om,bw,if_pos ⟨hx,by omega⟩,e1]
theorem Ai:∀ (p:List Int){a b:List Int},can cls a=can cls b->can cls (p++a)=can cls (p++b)
 | [],_,_,h=>h
 | x::p,_,_,h=>congrArg (bw cls x) (Ai p h)
theorem Sw.same {a b:List Int}(h:Sw cls a b):can cls a=can cls b:=by
 induction h with
 | refl=>rfl
 | step p x y s h1 h2 h3 _ ih=>exact ih.trans (Ai p (sq h1 h2 h3 _))
theorem Gq (l:List Int):can cls (can cls l)=can cls l:=(fu l).same.symm
theorem cj (l:List Int):(can cls l).Perm l:=(fu l).perm.symm
theorem lU {l:List Int}{x:Int}:x∈can cls l↔x∈l:=(cj l).mem_iff
def aq (cls:Int->Int):List Int->Prop
 | x::y::l=>¬(0<cls y∧cls y<cls x)∧aq cls (y::l)
 | _=>True
theorem aq.tail {x:Int}:∀ {l:List Int},aq cls (x::l)->aq cls l
 | [],_=>trivial
 | _::_,h=>h.2
theorem aq.same:∀ {l:List Int},aq cls l->can cls l=l
 | [],_=>rfl
 | [_],_=>rfl
 | x::y::l,h=>by
  show bw cls x (can cls (y::l))=_;rw[aq.same h.2,bw,if_neg h.1]
theorem wt (x:Int):∀ {l:List Int},aq cls l->aq cls (bw cls x l)
 | [],_=>trivial
 | [y],_=>by
  unfold bw;split
  ·rename_i h;exact⟨by omega,trivial⟩
  ·rename_i h;exact⟨h,trivial⟩
 | y::z::l,h=>by
  unfold bw;split
  ·rename_i hy;have ih:=wt x h.2;unfold bw at ih ⊢;split at ih<;>rename_i hz
   ·rw[if_pos hz];exact⟨h.1,ih⟩
   ·rw[if_neg hz];exact⟨by omega,ih⟩
  ·rename_i hy;exact⟨hy,h⟩
theorem my:∀ l,aq cls (can cls l)
 | []=>trivial
 | x::l=>wt x (my l)
theorem rU {l:List Int}:can cls l=l↔aq cls l:=⟨λh=>h▸my l,aq.same⟩
theorem aq.app {z:Int}:∀ {a b:List Int},aq cls (a++[z])->aq cls (z::b)->aq cls (a++z::b)
 | [],_,_,h=>h
 | [x],_,h,k=>⟨h.1,k⟩
 | _::y::a,_,h,k=>⟨h.1,aq.app (a:=y::a) h.2 k⟩
theorem aq.left {b:List Int}:∀ {a:List Int},aq cls (a++b)->aq cls a
 | [],_=>trivial
 | [_],_=>trivial
 | _::y::a,h=>⟨h.1,aq.left (a:=y::a) h.2⟩
theorem aq.right {b:List Int}:∀ {a:List Int},aq cls (a++b)->aq cls b
 | [],h=>h
 | _::a,h=>aq.right (a:=a) h.tail
theorem aq.starter {s:Int}(hs:cls s=0):∀ {l:List Int},aq cls l->aq cls (s::l)
 | [],_=>trivial
 | _::_,h=>⟨by omega,h⟩
theorem aq.part {s:Int}(hs:cls s=0){b:List Int}(hb:aq cls (s::b)):∀ {a:List Int},aq cls a->aq cls (a++s::b)
 | [],_=>hb
 | [_],_=>⟨by omega,hb⟩
 | _::y::a,h=>⟨h.1,aq.part hs hb (a:=y::a) h.2⟩
theorem sn {s:Int}(hs:cls s=0) (x:Int) (b:List Int):∀ a,bw cls x (a++s::b)=bw cls x a++s::b
 | []=>by simp only[List.nil_append,bw,if_neg (show ¬(0<cls s∧cls s<cls x) by omega)];rfl
 | y::a=>by
  simp only[List.cons_append,bw,sn hs x b a];split<;>rfl
theorem kw {s:Int}(hs:cls s=0) (b:List Int):can cls (s::b)=s::can cls b:=by
 show bw cls s (can cls b)=_;cases can cls b with
 | nil=>rfl
 | cons y l=>rw[bw,if_neg om]
theorem gj {s:Int}(hs:cls s=0) (b:List Int):∀ a,can cls (a++s::b)=can cls a++s::can cls b
 | []=>kw hs b
 | x::a=>by
  show bw cls x (can cls (a++s::b))=bw cls x (can cls a)++_;rw[gj hs b a,sn hs]
theorem aq.le {z c:Int}:∀ {q:List Int},aq cls (q++[c])->0<cls c->(∀ x∈q,0<cls x)->z∈q->cls z<=cls c
 | [x],h,hc,_,hz=>by
  simp only[List.mem_singleton] at hz;subst hz;have:=h.1;omega
 | x::y::q,h,hc,hq,hz=>by
  rcases List.mem_cons.1 hz with rfl|hz
  ·have h1:=aq.le (z:=y) (q:=y::q) h.2 hc (λa ha=>hq a (List.mem_cons_of_mem _ ha)) (List.mem_cons_self ..);have h2:=h.1;have h3:=hq y si;omega
  ·exact aq.le (q:=y::q) h.2 hc (λa ha=>hq a (List.mem_cons_of_mem _ ha)) hz
end
section
variable (cls:Int->Int) (jn:Int->Int->Option Int)
def opn (q:List Int) (c:Int):Bool:=match q.getLast? with|none=>true|some z=>decide (cls z<cls c)
def jns (s:Option Int) (q:List Int) (c:Int):Option Int:=match s with|none=>none|some a=>if opn cls q c then jn a c else none
def cz:Option Int->List Int->List Int->List Int
 | s,q,[]=>s.toList++q
 | s,q,c::l=>match jns cls jn s q c with
  | some w=>cz (some w) q l
  | none=>if cls c=0 then s.toList++(q++cz (some c) [] l) else cz s (q++[c]) l
def ft (l:List Int):List Int:=cz cls jn none [] l
variable {cls jn}
theorem wn {s:Option Int}{q:List Int}{c:Int}(h:∀ a,jn a c=none):jns cls jn s q c=none:=by
 unfold jns;split
 ·rfl
 ·split
  ·exact h _
  ·rfl
theorem cX (s:Option Int) (q:List Int) (c:Int) (l:List Int):cz cls jn s q (c::l)=match jns cls jn s q c with
  | some w=>cz cls jn (some w) q l
  | none=>if cls c=0 then s.toList++(q++cz cls jn (some c) [] l) else cz cls jn s (q++[c]) l:=by rw[cz]
theorem lR {t:Int}(ht:cls t=0) (hj:∀ a,jn a t=none) (B:List Int):∀ (A:List Int) (s:Option Int) (q:List Int),cz cls jn s q (A++t::B)=cz cls jn s q A++cz cls jn none [] (t::B)
 | [],s,q=>by
  have:cz cls jn none [] (t::B)=cz cls jn (some t) [] B:=by simp[cz,jns,ht]
  rw[this];simp only[List.nil_append,cz,wn hj,ht,if_true,List.append_assoc]
 | c::A,s,q=>by
  rw[List.cons_append,cX,cX];cases jns cls jn s q c with
  | some w=>exact lR ht hj B A _ _
  | none=>
   by_cases hc:cls c=0
   ·simp only[if_pos hc,lR ht hj B A,List.append_assoc]
   ·simp only[if_neg hc,lR ht hj B A]
theorem xP {a:Int}(hj:∀ b,jn a b=none):∀ (l q:List Int),cz cls jn (some a) q l=a::cz cls jn none q l
 | [],q=>rfl
 | c::l,q=>by
  have h1:jns cls jn (some a) q c=none:=by unfold jns;simp[hj]
  have h2:jns cls jn none q c=none:=rfl;simp only[cz,h1,h2];split
  ·rfl
  ·exact xP hj l _
theorem gY {s:Option Int}{q:List Int}{c w:Int}(h:jns cls jn s q c=some w):∃ a,s=some a∧jn a c=some w∧(q=[]∨∃ z q',q=q' ++ [z]∧cls z<cls c):=by
 unfold jns at h;split at h
 ·cases h
 ·rename_i a;split at h
  ·rename_i hb;refine⟨a,rfl,h,?_⟩;unfold opn at hb;split at hb
   ·rename_i hn;exact .inl (List.getLast?_eq_none_iff.1 hn)
   ·rename_i z hz;obtain⟨q',rfl⟩:=List.getLast?_eq_some_iff.1 hz;exact .inr ⟨z,q',rfl,by simpa using hb⟩
  ·cases h
theorem CH {l:List Int}:∀ {q:List Int},(∀ x∈l,cls x≠0)->cz cls jn none q l=q++l:=by
 induction l with
 | nil=>intro q _;simp[cz]
 | cons c l ih=>
  intro q h;have h2:jns cls jn none q c=none:=rfl;simp only[cz,h2];rw[if_neg (h c si),ih λx hx=>h x (List.mem_cons_of_mem _ hx)];simp
structure JOk (cls:Int->Int) (jn:Int->Int->Option Int):Prop where
 zero:∀ {a c w},jn a c=some w->cls w=0∧cls a=0
theorem wK {q l:List Int}{c:Int}(ho:aq cls (q++c::l)) (hq:q=[]∨∃ z q',q=q' ++ [z]∧cls z<cls c):aq cls (q++l):=by
 rcases hq with rfl|⟨z,q',rfl,hz⟩
 ·exact ho.tail
 ·rw[List.append_assoc] at ho ⊢;have h1:aq cls (z::c::l):=aq.right ho
  have h0:aq cls (q' ++ [z]):=by
   have:q' ++ ([z]++c::l)=(q' ++ [z])++(c::l):=by simp
   rw[this] at ho;exact ho.left
  refine aq.app h0 ?_;cases l with
  | nil=>trivial
  | cons d l=>exact⟨by have:=h1.2.1;omega,h1.2.2⟩
theorem uj {s:Int}(hs:cls s=0) (hJ:JOk cls jn):∀ (l q:List Int),∃ h t,cz cls jn (some s) q l=h::t∧cls h=0
 | [],q=>⟨s,q,rfl,hs⟩
 | c::l,q=>by
  simp only[cz];split
  ·rename_i w hw;obtain⟨a,_,h2,_⟩:=gY hw;exact uj (hJ.zero h2).1 hJ l q
  ·split
   ·exact⟨s,_,rfl,hs⟩
   ·exact uj hs hJ l _
theorem uh (hJ:JOk cls jn):∀ (l q:List Int) (s:Option Int),(∀ a,s=some a->cls a=0)->aq cls (q++l)->aq cls (cz cls jn s q l)
 | [],q,s,hs,ho=>by
  simp only[List.append_nil] at ho;cases s with
  | none=>exact ho
  | some a=>exact aq.starter (hs a rfl) ho
 | c::l,q,s,hs,ho=>by
  simp only[cz];split
  ·rename_i w hw;obtain⟨a,_,h2,h3⟩:=gY hw;exact uh hJ l q _ (λb hb=>by cases hb;exact(hJ.zero h2).1) (wK ho h3)
  ·split
   ·rename_i hc;have ih:=uh hJ l [] (some c) (λb hb=>by cases hb;exact hc) (by simpa using ho.right.tail);obtain⟨h,t,he,hh⟩:=uj (jn:=jn) hc hJ l [];rw[he] at ih ⊢
    have:aq cls (q++h::t):=aq.part hh ih ho.left
    cases s with
    | none=>exact this
    | some a=>exact aq.starter (hs a rfl) this
   ·exact uh hJ l _ s hs (by simpa using ho)
variable {ex:Int->List Int}
abbrev exs (ex:Int->List Int) (l:List Int):List Int:=l.flatMap ex
theorem AY (hJ:∀ {a c w},jn a c=some w->ex w=ex a++ex c):∀ (l q:List Int) (s:Option Int),(∀ x∈q,0<cls x∧ex x=[x])->(∀ x∈l,cls x≠0->0<cls x∧ex x=[x])->aq cls (q++l)->Sw cls (exs ex (s.toList++(q++l))) (exs ex (cz cls jn s q l))
 | [],q,s,_,_,_=>by simp only[List.append_nil,cz];exact .refl _
 | c::l,q,s,hq,hl,ho=>by
  have hl':∀ x∈l,cls x≠0->0<cls x∧ex x=[x]:=λx hx=>hl x (List.mem_cons_of_mem _ hx)
  simp only[cz];split
  ·rename_i w hw;obtain⟨a,rfl,h2,h3⟩:=gY hw;refine Sw.trans ?_ (AY hJ l q (some w) hq hl' (wK ho h3));simp only[exs,Option.toList_some,List.flatMap_append,List.flatMap_cons,List.flatMap_nil,List.append_nil,hJ h2,List.append_assoc];refine(Sw.refl (cls:=cls) (ex a)).app ?_;rw[<-List.append_assoc,<-List.append_assoc];refine Sw.app ?_ (.refl _);rcases h3 with rfl|⟨z,q',rfl,hz⟩
   ·simp only[List.flatMap_nil,List.append_nil,List.nil_append];exact .refl _
   ·have hzp:=hq z si;obtain⟨hcp,hce⟩:=hl c si om;rw[hce]
    -- all of q is smaller than c
    have hlt:∀ x∈q' ++ [z],0<cls x∧cls x<cls c∧ex x=[x]:=λx hx=>by
     refine⟨(hq x hx).1,?_,(hq x hx).2⟩;have h0:aq cls (q' ++ [z]):=ho.left;rcases List.mem_append.1 hx with hx|hx
     ·have:=aq.le h0 hzp.1 (λy hy=>(hq y (List.mem_append_left _ hy)).1) hx
      omega
     ·simp only[List.mem_singleton] at hx;subst hx;exact hz
    generalize q' ++ [z]=p at hlt
    induction p with
    | nil=>exact .refl _
    | cons x p ih=>
     have h1:=hlt x si;have ih:=ih λy hy=>hlt y (List.mem_cons_of_mem _ hy)
     simp only[List.flatMap_cons,h1.2.2,List.cons_append,List.nil_append] at ih ⊢;exact(ih.cons x).trans (by simpa using Sw.one (cls:=cls) [] x c _ h1.1 hcp om)
  ·split
   ·rename_i hc;have ih:=AY hJ l [] (some c) (λx hx=>by simp at hx) hl' (by simpa using ho.right.tail);simp only[exs,List.flatMap_append] at ih ⊢;refine(Sw.refl (cls:=cls) _).app ?_;refine(Sw.refl (cls:=cls) _).app ?_;simpa using ih
   ·rename_i hc
    have:=AY hJ l (q++[c]) s (λx hx=>by
     rcases List.mem_append.1 hx with hx|hx
     ·exact hq x hx
     ·exact List.mem_singleton.1 hx▸hl c si hc) hl' (by simpa using ho)
    simpa using this
end
end
section
open Go Go.Am
set_option linter.unusedVariables false
variable {cls:Int->Int}{jn:Int->Int->Option Int}{ex:Int->List Int}
inductive FJ (jn:Int->Int->Option Int):Int->List Int->Int->Prop
 | nil (a:Int):FJ jn a [] a
 | cons {a e w c:Int} {es:List Int}:jn a e=some w->FJ jn w es c->FJ jn a (e::es) c
theorem FJ.snoc {a c e w:Int}{es:List Int}(h:FJ jn a es c) (hj:jn c e=some w):FJ jn a (es++[e]) w:=by
 induction h with
 | nil=>exact .cons hj (.nil _)
 | cons h1 _ ih=>exact .cons h1 (ih hj)
theorem FJ.run {a c:Int}{es:List Int}(h:FJ jn a es c):cz cls jn (some a) [] es=[c]:=by
 induction h with
 | nil=>rfl
 | cons h1 _ ih=>
  rw[cX];simp only[jns,opn,List.getLast?_nil,if_true,h1];exact ih
theorem rQ:∀ (l q:List Int) (s:Option Int),q.length+s.toList.length<=(cz cls jn s q l).length
 | [],q,s=>by simp[cz];omega
 | c::l,q,s=>by
  rw[cX];split
  ·rename_i w hw;obtain⟨a,rfl,_,_⟩:=gY hw;have:=rQ l q (some w)
   simpa using this
  ·split
   ·simp;omega
   ·have:=rQ l (q++[c]) s
    simp at this;omega
theorem EX (l q:List Int){a:Int}:1<=(cz cls jn (some a) q l).length:=by
 have:=rQ (cls:=cls) (jn:=jn) l q (some a)
 simp at this;omega
theorem FJ.of_cz {c:Int}:∀ {es:List Int}{a:Int},cz cls jn (some a) [] es=[c]->FJ jn a es c
 | [],a,h=>by
  have:a=c:=by simpa [cz] using h
  subst this;exact .nil _
 | e::es,a,h=>by
  rw[cX] at h;split at h
  ·rename_i w hw;obtain⟨b,hb,h2,_⟩:=gY hw;cases hb;exact .cons h2 (FJ.of_cz h)
  ·split at h
   ·have h2:=congrArg List.length h;have:=EX (cls:=cls) (jn:=jn) es [] (a:=e)
    simp at h2;exact absurd (List.eq_nil_iff_length_eq_zero.1 h2) om
   ·have h2:=congrArg List.length h;have:=rQ (cls:=cls) (jn:=jn) es [e] (some a)
    simp at h2 this;omega
theorem one_of {c:Int}{l:List Int}(h:ft cls jn l=[c]):l=[c]∨∃ t es,l=t::es∧cls t=0∧FJ jn t es c:=by
 cases l with
 | nil=>simp[ft,cz] at h
 | cons t es=>
  unfold ft at h;rw[cX] at h;simp only[jns] at h;by_cases ht:cls t=0
  ·simp only[if_pos ht,Option.toList_none,List.nil_append] at h;exact .inr ⟨t,es,rfl,ht,FJ.of_cz h⟩
  ·simp only[if_neg ht,List.nil_append] at h;left;cases es with
   | nil=>simpa [cz] using h
   | cons e es=>
    exfalso;rw[cX] at h;simp only[jns] at h;have h2:=congrArg List.length h;split at h2
    ·have:=EX (cls:=cls) (jn:=jn) es [] (a:=e)
     simp at h2;exact absurd (List.eq_nil_iff_length_eq_zero.1 h2) om
    ·have:=rQ (cls:=cls) (jn:=jn) es ([t]++[e]) none
     simp at h2 this;omega
theorem FJ.zero (hJ:JOk cls jn){t c:Int}{es:List Int}(h:FJ jn t es c) (ht:cls t=0):cls c=0:=by
 induction h with
 | nil=>exact ht
 | cons h1 _ ih=>exact ih (hJ.zero h1).1
structure zQ (cls:Int->Int) (jn:Int->Int->Option Int) (ex:Int->List Int) (c:Int):Prop where
 exs:∃ t es,ex c=t::es∧cls t=0∧FJ jn t es c
 ord:aq cls (ex c)
def pD (cls:Int->Int) (jn:Int->Int->Option Int) (ex:Int->List Int) (c:Int):Prop:=ft cls jn (can cls (ex c))=[c]
theorem zQ.self {c:Int}(h:zQ cls jn ex c):pD cls jn ex c:=by
 unfold pD;rw[h.ord.same];obtain⟨t,es,he,ht,hf⟩:=h.exs;rw[he];unfold ft;rw[cX];simp only[jns,if_pos ht,Option.toList_none,List.nil_append];exact hf.run
theorem vf {c:Int}(h:ex c=[c]):pD cls jn ex c:=by
 unfold pD ft;rw[h];show cz cls jn none [] [c]=_;rw[cX];simp only[jns];split<;>simp[cz]
theorem pb (hJ:JOk cls jn) (hE:∀ {a c w},jn a c=some w->ex w=ex a++ex c):∀ (l q:List Int) (s:Option Int),(∀ a,s=some a->zQ cls jn ex a∧aq cls (ex a++l))->(∀ x∈q,ex x=[x])->(∀ x∈l,ex x=[x])->(∀ x,0<=cls x)->aq cls l ->
  ∀ c∈cz cls jn s q l,pD cls jn ex c
 | [],q,s,hs,hq,_,_,_,c,hc=>by
  simp only[cz,List.mem_append,Option.mem_toList] at hc;rcases hc with hc|hc
  ·exact(hs c hc).1.self
  ·exact vf (hq c hc)
 | d::l,q,s,hs,hq,hl,h0,ho,c,hc=>by
  have hl':∀ x∈l,ex x=[x]:=λx hx=>hl x (List.mem_cons_of_mem _ hx)
  have hd:=hl d si;rw[cX] at hc;split at hc
  ·rename_i w hw;obtain⟨a,rfl,h2,_⟩:=gY hw;obtain⟨⟨⟨t,es,e1,e2,e3⟩,_⟩,e5⟩:=hs a rfl;have hw:ex w=ex a++[d]:=by rw[hE h2,hd]
   have ho2:aq cls (ex w++l):=by rw[hw];simpa using e5
   refine pb hJ hE l q (some w) (λb hb=>?_) hq hl' h0 ho.tail c hc;cases hb;exact⟨⟨⟨t,es++[d],by rw[hw,e1];rfl,e2,e3.snoc h2⟩,ho2.left⟩,ho2⟩
  ·split at hc
   ·rename_i hz;simp only[List.mem_append,Option.mem_toList] at hc;rcases hc with hc|hc|hc
    ·exact(hs c hc).1.self
    ·exact vf (hq c hc)
    ·refine pb hJ hE l [] (some d) (λb hb=>?_) (λx hx=>by simp at hx) hl' h0 ho.tail c hc;cases hb;exact⟨⟨⟨d,[],hd,hz,.nil _⟩,by rw[hd];trivial⟩,by rw[hd];exact ho⟩
   ·rename_i hz;refine pb hJ hE l (q++[d]) s (λa ha=>⟨(hs a ha).1,?_⟩) (λx hx=>?_) hl' h0 ho.tail c hc
    ·-- what stood between may be left out: its class is above 0
     have h1:=(hs a ha).2;obtain⟨⟨t,es,e1,_,_⟩,_⟩:=(hs a ha).1;rw[e1] at h1 ⊢;obtain⟨p,z,hpz⟩:∃ p z,t::es=p++[z]:=⟨_,_,(List.dropLast_concat_getLast (List.cons_ne_nil t es)).symm⟩;rw[hpz] at h1 ⊢;have h2:aq cls (p++[z]):=h1.left;have h3:aq cls (z::d::l):=by simpa using (show aq cls (p++z::d::l) by simpa using h1).right
     have:aq cls (p++z::l):=by
      refine aq.app h2 ?_;cases l with
      | nil=>trivial
      | cons y l=>exact⟨by have:=h3.1;have:=h3.2.1;have:=h0 d;omega,h3.2.2⟩
     simpa using this
    ·rcases List.mem_append.1 hx with hx|hx
     ·exact hq x hx
     ·exact List.mem_singleton.1 hx▸hd
inductive Mg (cls:Int->Int):List Int->List Int->List Int->Prop
 | nil:Mg cls [] [] []
 | ec {L es n:List Int} (e:Int):Mg cls L es n->Mg cls (e::L) (e::es) n
 | zc {L es n:List Int} (z:Int):(∀ e∈es,cls z<cls e)->Mg cls L es n->Mg cls (z::L) es (z::n)
theorem Mg.only:∀ n:List Int,Mg cls n [] n
 | []=>.nil
 | z::n=>.zc z (λ_ h=>by simp at h) (Mg.only n)
theorem Mg.ins {e:Int}{L es n:List Int}(h:Mg cls L es n) (ho:aq cls (e::es)):Mg cls (bw cls e L) (e::es) n:=by
 induction h with
 | nil=>exact .ec e .nil
 | ec d h _=>
  unfold bw;rw[if_neg ho.1];exact .ec e (.ec d h)
 | zc z hz h ih=>
  unfold bw;split
  ·rename_i hp;exact .zc z (λx hx=>(List.mem_cons.1 hx).elim (λh=>h▸hp.2) (hz x)) (ih ho)
  ·exact .ec e (.zc z hz h)
theorem Mg.srt {n:List Int}(hn:aq cls n):∀ {es:List Int},aq cls es->Mg cls (can cls (es++n)) es n
 | [],_=>by simpa [hn.same] using Mg.only n
 | e::es,h=>(Mg.srt hn h.tail).ins h
theorem Mg.run {L es n:List Int}(h:Mg cls L es n):∀ {a c:Int}{q:List Int},FJ jn a es c->(∀ z∈q,∀ e∈es,cls z<cls e)->(∀ z∈n,cls z≠0∧∀ b,jn b z=none)->cz cls jn (some a) q L=c::(q++n):=by
 induction h with
 | nil=>intro a c q hf _ _;cases hf;simp[cz]
 | ec e h ih=>
  intro a c q hf hq hn;cases hf with
  | cons h1 h2=>
   rw[cX]
   have:jns cls jn (some a) q e=jn a e:=by
    unfold jns opn;cases hl:q.getLast? with
    | none=>rfl
    | some z=>
     have:=hq z (List.mem_of_getLast? hl) e si
     simp[this]
   rw[this,h1];exact ih h2 (λz hz x hx=>hq z hz x (List.mem_cons_of_mem _ hx)) hn
 | zc z hz h ih=>
  intro a c q hf hq hn;have h1:=hn z si;rw[cX,wn h1.2];simp only[if_neg h1.1];rw[ih hf (λy hy x hx=>?_) (λy hy=>hn y (List.mem_cons_of_mem _ hy))]
  ·simp
  ·rcases List.mem_append.1 hy with hy|hy
   ·exact hq y hy x hx
   ·exact List.mem_singleton.1 hy▸hz x hx
structure tN (cls:Int->Int) (jn:Int->Int->Option Int) (ex:Int->List Int) (c:Int):Prop where
 self:pD cls jn ex c
 start:∀ t es,can cls (ex c)=t::es->∀ a,jn a t=none
theorem tN.parts (hJ:JOk cls jn){c:Int}(h:tN cls jn ex c):(can cls (ex c)=[c]∨cls c=0∧∃ t es,can cls (ex c)=t::es∧cls t=0∧FJ jn t es c):=by
 rcases one_of h.self with h1|⟨t,es,h1,h2,h3⟩
 ·exact .inl h1
 ·exact .inr ⟨h3.zero hJ h2,t,es,h1,h2,h3⟩
theorem nG:∀ x:List Int,(∀ c∈x,cls c≠0)∨∃ y c n,x=y++c::n∧cls c=0∧∀ z∈n,cls z≠0
 | []=>.inl λ_ h=>by simp at h
 | a::x=>by
  rcases nG x with h|⟨y,c,n,rfl,h1,h2⟩
  ·by_cases ha:cls a=0
   ·exact .inr ⟨[],a,x,rfl,ha,h⟩
   ·exact .inl λc hc=>(List.mem_cons.1 hc).elim (λe=>e▸ha) (h c)
  ·exact .inr ⟨a::y,c,n,rfl,h1,h2⟩
theorem uc:∀ l:List Int,Sw cls (exs ex l) (l.flatMap λc=>can cls (ex c))
 | []=>.refl _
 | c::l=>by
  simp only[exs,List.flatMap_cons];exact(fu (ex c)).app (uc l)
theorem gK {f:Int->List Int}:∀ {n:List Int},(∀ z∈n,f z=[z])->n.flatMap f=n
 | [],_=>rfl
 | z::n,h=>by simp only[List.flatMap_cons,h z si,gK λy hy=>h y (List.mem_cons_of_mem _ hy)];rfl
theorem EH (hJ:JOk cls jn):∀ (k:Nat) (x:List Int),x.length<=k->aq cls x->(∀ c∈x,tN cls jn ex c)->ft cls jn (can cls (x.flatMap λc=>can cls (ex c)))=x:=by
 have non:∀ z,tN cls jn ex z->cls z≠0->can cls (ex z)=[z]:=λz hg hz=>(hg.parts hJ).resolve_right λh=>hz h.1
 intro k
 induction k with
 | zero=>
  intro x hx _ _;have:=List.eq_nil_iff_length_eq_zero.2 (Nat.le_zero.1 hx)
  subst this;rfl
 | succ k ih=>
  intro x hx ho hg;rcases nG (cls:=cls) x with hn|⟨y,c,n,rfl,hc,hn⟩
  ·rw[gK λz hz=>non z (hg z hz) (hn z hz),ho.same];exact CH hn
  ·have hgn:∀ z∈n,tN cls jn ex z:=λz hz=>hg z (by simp[hz])
   have hgc:=hg c si;have en:(n.flatMap λc=>can cls (ex c))=n:=gK λz hz=>non z (hgn z hz) (hn z hz)
   have hon:aq cls n:=(ho.right (a:=y)).tail
   obtain⟨t,es,h1,h2,h3⟩:∃ t es,can cls (ex c)=t::es∧cls t=0∧FJ jn t es c:=by
    rcases hgc.parts hJ with h|⟨_,h⟩
    ·exact⟨c,[],h,hc,.nil _⟩
    ·exact h
   have e1:((y++c::n).flatMap λc=>can cls (ex c))=(y.flatMap λc=>can cls (ex c))++t::(es++n):=by
    simp only[List.flatMap_append,List.flatMap_cons,h1,en];rfl
   have hes:aq cls es:=by have:=my (cls:=cls) (ex c);rw[h1] at this;exact this.tail
   rw[e1,gj h2];unfold ft;rw[lR h2 (hgc.start t es h1)];have ihy:=ih y (by simp at hx;omega) ho.left λz hz=>hg z (by simp[hz])
   unfold ft at ihy;rw[ihy,cX];simp only[jns,if_pos h2,Option.toList_none,List.nil_append];rw[(Mg.srt hon hes).run h3 (λz hz=>by simp at hz) λz hz=>⟨hn z hz,λb=>?_⟩]
   ·rfl
   ·exact(hgn z hz).start z [] (non z (hgn z hz) (hn z hz)) b
theorem EM (hJ:JOk cls jn){x:List Int}(ho:aq cls x) (hg:∀ c∈x,tN cls jn ex c):ft cls jn (can cls (exs ex x))=x:=by
 rw[(uc x).same];exact EH hJ _ x (kP _) ho hg
end
section
open Go Go.Am
set_option linter.unusedVariables false
section
variable {cls:Int->Int}
abbrev Up (cls:Int->Int) (l:List Int):Prop:=l.Pairwise λa b=>cls a<=cls b
abbrev Mk (cls:Int->Int) (l:List Int):Prop:=∀ x∈l,0<cls x
theorem Up.ord:∀ {l:List Int},Up cls l->aq cls l
 | [],_=>trivial
 | [_],_=>trivial
 | x::y::l,h=>by
  have h1:=List.pairwise_cons.1 h;exact⟨by have:=h1.1 y si;omega,Up.ord h1.2⟩
theorem aq.up:∀ {l:List Int},aq cls l->Mk cls l->Up cls l
 | [],_,_=>.nil
 | [x],_,_=>List.pairwise_singleton _ _
 | x::y::l,h,hm=>by
  have h1:=aq.up h.2 λz hz=>hm z (List.mem_cons_of_mem _ hz)
  refine List.pairwise_cons.2 ⟨λz hz=>?_,h1⟩;have h2:=h.1;have h3:=hm y si;rcases List.mem_cons.1 hz with rfl|hz
  ·omega
  ·have:=(List.pairwise_cons.1 h1).1 z hz;omega
theorem kv {l:List Int}(hm:Mk cls l):Up cls (can cls l):=(my l).up λx hx=>hm x (lU.1 hx)
theorem Sw.far {x:Int}(hx:0<cls x):∀ {Y:List Int},(∀ y∈Y,0<cls y∧cls y≠cls x)->Sw cls (x::Y) (Y++[x])
 | [],_=>.refl _
 | y::Y,h=>by
  have h1:=h y si;exact(Sw.one [] x y Y hx h1.1 (Ne.symm h1.2)).trans ((Sw.far hx λz hz=>h z (List.mem_cons_of_mem _ hz)).cons y)
theorem Sw.rot {Y:List Int}:∀ {X:List Int},Mk cls X->Mk cls Y->(∀ x∈X,∀ y∈Y,cls y≠cls x)->Sw cls (X++Y) (Y++X)
 | [],_,_,_=>by simpa using Sw.refl (cls:=cls) Y
 | x::X,h1,h2,h3=>by
  have h4:=(Sw.rot (X:=X) (λz hz=>h1 z (List.mem_cons_of_mem _ hz)) h2 λz hz=>h3 z (List.mem_cons_of_mem _ hz)).cons x;have h5:=Sw.app (Sw.far (h1 x si) (Y:=Y) λy hy=>⟨h2 y hy,h3 x si y hy⟩) (Sw.refl (cls:=cls) X);exact h4.trans (by simpa using h5)
theorem CL {U X Y V:List Int}(hU:Mk cls U) (hX:Mk cls X) (hY:Mk cls Y) (hV:Mk cls V) (h1:Up cls (U++X)) (h2:Up cls (Y++V)) (h3:∀ x∈X,∀ y∈Y,cls y<cls x) (h4:∀ u∈U,∀ v∈V,cls u<=cls v) :
  can cls (U++X++(Y++V))=can cls (U++Y)++can cls (X++V):=by
 have hs:Sw cls (U++X++(Y++V)) (can cls (U++Y)++can cls (X++V)):=by
  have a:=(Sw.rot hX hY λx hx y hy=>by have:=h3 x hx y hy;omega).mid U V;have b:=Sw.app (fu (cls:=cls) (U++Y)) (fu (cls:=cls) (X++V));have c:Sw cls (U++X++(Y++V)) ((U++Y)++(X++V)):=by simpa using a
  exact c.trans b
 rw[hs.same];refine(Up.ord ?_).same;refine List.pairwise_append.2 ⟨kv λx hx=>?_,kv λx hx=>?_,λa ha b hb=>?_⟩
 ·rcases List.mem_append.1 hx with hx|hx
  ·exact hU x hx
  ·exact hY x hx
 ·rcases List.mem_append.1 hx with hx|hx
  ·exact hX x hx
  ·exact hV x hx
 ·rcases List.mem_append.1 (lU.1 ha) with ha|ha<;>rcases List.mem_append.1 (lU.1 hb) with hb|hb
  ·exact(List.pairwise_append.1 h1).2.2 a ha b hb
  ·exact h4 a ha b hb
  ·have:=h3 b hb a ha;omega
  ·exact(List.pairwise_append.1 h2).2.2 a ha b hb
theorem CN {x:Int}{A B:List Int}(hm:Mk cls (A++B)) (hx:0<cls x) (hu:Up cls (A++B)) (h1:∀ y∈A,cls y<cls x) (h2:∀ y∈B,cls x<=cls y):can cls (x::(A++B))=A++x::B:=by
 have hs:Sw cls (x::(A++B)) (A++x::B):=by
  have:=Sw.app (Sw.far hx (Y:=A) λy hy=>⟨hm y (List.mem_append_left _ hy),by have:=h1 y hy;omega⟩) (Sw.refl (cls:=cls) B)
  simpa using this
 rw[hs.same];refine(Up.ord ?_).same;obtain⟨p,q,r⟩:=List.pairwise_append.1 hu;refine List.pairwise_append.2 ⟨p,List.pairwise_cons.2 ⟨h2,q⟩,λa ha b hb=>?_⟩;rcases List.mem_cons.1 hb with rfl|hb
 ·have:=h1 a ha;omega
 ·exact r a ha b hb
theorem xe {y:Int}{A B:List Int}(hm:Mk cls (A++B)) (hy:0<cls y) (hu:Up cls (A++B)) (h1:∀ x∈A,cls x<=cls y) (h2:∀ x∈B,cls y<cls x):can cls (A++B++[y])=A++y::B:=by
 have hs:Sw cls (A++B++[y]) (A++y::B):=by
  have:=Sw.app (Sw.refl (cls:=cls) A) (Sw.rot (X:=B) (Y:=[y]) (λz hz=>hm z (List.mem_append_right _ hz)) (λz hz=>by rw[List.mem_singleton.1 hz];exact hy) λx hx z hz=>by rw[List.mem_singleton.1 hz];have:=h2 x hx;omega)
  simpa using this
 rw[hs.same];refine(Up.ord ?_).same;obtain⟨p,q,r⟩:=List.pairwise_append.1 hu;refine List.pairwise_append.2 ⟨p,List.pairwise_cons.2 ⟨λz hz=>by have:=h2 z hz;omega,q⟩,λa ha b hb=>?_⟩;rcases List.mem_cons.1 hb with rfl|hb
 ·exact h1 a ha
 ·exact r a ha b hb
end
def eK (l:List Int) (a b:Nat):List Int:=(l.set a (l.getD b 0)).set b (l.getD a 0)
@[simp] theorem swap2_len (l:List Int) (a b:Nat):(eK l a b).length=l.length:=by simp[eK]
def jy:List Int->Nat->Nat->Nat->List Int
 | l,_,_,0=>l
 | l,a,b,k+1=>jy (eK l a b) (a+1) (b+1) k
theorem vR (P:List Int) (x:Int) (A:List Int) (y:Int) (S:List Int):eK (P++x::(A++y::S)) P.length (P.length+(A.length+1))=P++y::(A++x::S):=by
 have e1:(P++x::(A++y::S)).getD P.length 0=x:=by simp[List.getD_eq_getElem?_getD]
 have e2:(P++x::(A++y::S)).getD (P.length+(A.length+1)) 0=y:=by
  rw[List.getD_eq_getElem?_getD,List.getElem?_append_right om,Nat.add_sub_cancel_left,List.getElem?_cons_succ,List.getElem?_append_right om];simp
 unfold eK;rw[e1,e2,List.set_append_right _ _ om,Nat.sub_self,List.set_cons_zero,List.set_append_right _ _ om,Nat.add_sub_cancel_left,List.set_cons_succ,List.set_append_right _ _ om,Nat.sub_self,List.set_cons_zero]
theorem pQ:∀ (X Y P M S:List Int),X.length=Y.length->jy (P++(X++(M++(Y++S)))) P.length (P.length+(X.length+M.length)) X.length=P++(Y++(M++(X++S)))
 | [],[],P,M,S,_=>rfl
 | [],_::_,_,_,_,h=>by simp at h
 | _::_,[],_,_,_,h=>by simp at h
 | x::X,y::Y,P,M,S,h=>by
  have h1:=vR P x (X++M) y (Y++S);have e:(X++M).length+1=(x::X).length+M.length:=by simp;omega
  rw[e] at h1;have h2:=pQ X Y (P++[y]) (M++[x]) S (by simpa using h);have e3:(P++[y]).length+(X.length+(M++[x]).length)=P.length+((x::X).length+M.length)+1:=by simp;omega
  rw[e3] at h2;have e4:(P++[y]).length=P.length+1:=by simp
  rw[e4] at h2;show jy (eK _ _ _) _ _ _=_;have e5:P++(x::X++(M++(y::Y++S)))=P++x::(X++M++y::(Y++S)):=by simp
  rw[e5,h1];have e6:P++y::(X++M++x::(Y++S))=P++[y]++(X++(M++[x]++(Y++S))):=by simp
  rw[e6,h2];simp
end
section
open Go Go.Am
set_option linter.unusedVariables false
section
variable {cls:Int->Int}
theorem gDe {l:List Int}{k:Nat}{d:Int}(h:k<l.length):l.getD k d=l[k]:=by simp[List.getD,List.getElem?_eq_getElem h]
theorem qN (l:List Int){a b:Nat}(h:a≠b):eK l a b=eK l b a:=by unfold eK;exact List.set_comm _ _ h
theorem lv (P:List Int) (x y:Int) (S:List Int):eK (P++x::y::S) P.length (P.length+1)=P++y::x::S:=vR P x [] y S
theorem Up.get {l:List Int}(h:Up cls l){i j:Nat}(hij:i<=j) (hj:j<l.length):cls (l.getD i 0)<=cls (l.getD j 0):=by
 rw[gDe om,gDe hj];rcases Nat.lt_or_eq_of_le hij with h1|h1
 ·exact List.pairwise_iff_getElem.1 h i j om hj h1
 ·subst h1;exact Int.le_refl _
theorem gC {l:List Int}{n:Nat}{x:Int}(h:x∈l.take n):∃ i,i<n∧i<l.length∧l.getD i 0=x:=by
 obtain⟨i,hi,e⟩:=List.mem_iff_getElem.1 h;rw[List.length_take] at hi;refine⟨i,by omega,by omega,?_⟩;rw[gDe om,<-e,List.getElem_take]
theorem gD {l:List Int}{n:Nat}{x:Int}(h:x∈l.drop n):∃ i,n<=i∧i<l.length∧l.getD i 0=x:=by
 obtain⟨i,hi,e⟩:=List.mem_iff_getElem.1 h;rw[List.length_drop] at hi;refine⟨n+i,by omega,by omega,?_⟩;rw[gDe om,<-e,List.getElem_drop]
theorem Ek (A:List Int) (y:List Int):can cls (can cls A++y)=can cls (A++y):=(Sw.app (fu (cls:=cls) A) (Sw.refl (cls:=cls) y)).same.symm
theorem Up.same {l:List Int}(h:Up cls l):can cls l=l:=h.ord.same
theorem Mk.left {a b:List Int}(h:Mk cls (a++b)):Mk cls a:=λx hx=>h x (List.mem_append_left _ hx)
theorem Mk.right {a b:List Int}(h:Mk cls (a++b)):Mk cls b:=λx hx=>h x (List.mem_append_right _ hx)
theorem Up.left {a b:List Int}(h:Up cls (a++b)):Up cls a:=(List.pairwise_append.1 h).1
theorem Up.right {a b:List Int}(h:Up cls (a++b)):Up cls b:=(List.pairwise_append.1 h).2.1
def js (cls:Int->Int) (P A:List Int) (y:Int) (R:List Int) (j:Nat) (cur:List Int):Prop:=
 ∃ B1 B2:List Int,can cls A=B1++B2∧cur=P++(B1++y::(B2++R))∧B1.length=j∧∀ b∈B2,cls y<cls b
theorem js.start (P A:List Int) (y:Int) (R:List Int):js cls P A y R A.length (P++(can cls A++y::R)):=
 ⟨can cls A,[],by simp,by simp,(cj A).length_eq,by simp⟩
theorem js.done {P A:List Int}{y:Int}{R:List Int}{cur:List Int}{B1 B2:List Int}(hm:Mk cls (A++[y])) (h1:can cls A=B1++B2) (h2:cur=P++(B1++y::(B2++R))) (h3:∀ b∈B2,cls y<cls b) (h4:∀ b∈B1,cls b<=cls y):cur=P++(can cls (A++[y])++R):=by
 have hk:Mk cls (B1++B2):=by rw[<-h1];exact λx hx=>hm x (List.mem_append_left _ (lU.1 hx))
 have hu:Up cls (B1++B2):=by rw[<-h1];exact kv hm.left
 rw[<-Ek,h1,xe hk (hm y si) hu h4 h3,h2];simp
theorem js.zero {P A:List Int}{y:Int}{R:List Int}{cur:List Int}(h:js cls P A y R 0 cur) (hm:Mk cls (A++[y])):cur=P++(can cls (A++[y])++R):=by
 obtain⟨B1,B2,h1,h2,h3,h4⟩:=h;obtain rfl:=List.length_eq_zero_iff.1 h3;exact js.done hm h1 h2 h4 si
theorem js.len {P A:List Int}{y:Int}{R:List Int}{j:Nat}{cur:List Int}(h:js cls P A y R j cur):cur.length=P.length+(A.length+(R.length+1))∧j<=A.length:=by
 obtain⟨B1,B2,h1,h2,h3,h4⟩:=h;have:=(cj (cls:=cls) A).length_eq
 rw[h1,kG] at this;rw[h2];simp only[kG,kO];omega
theorem js.here {P A:List Int}{y:Int}{R:List Int}{j:Nat}{cur:List Int}(h:js cls P A y R j cur){k:Nat}(hk:k=P.length+j):cur.getD k 0=y:=by
 obtain⟨B1,B2,h1,h2,h3,h4⟩:=h;subst hk;rw[h2,List.getD_eq_getElem?_getD,List.getElem?_append_right om,List.getElem?_append_right om,show P.length+j-P.length-B1.length=0 by omega];rfl
theorem js.more {P A:List Int}{y:Int}{R:List Int}{j:Nat}{cur:List Int}(h:js cls P A y R (j+1) cur) (hlt:cls y<cls (cur.getD (P.length+j) 0)):js cls P A y R j (eK cur (P.length+(j+1)) (P.length+j)):=by
 obtain⟨B1,B2,h1,h2,h3,h4⟩:=h;rcases List.eq_nil_or_concat B1 with rfl|⟨C,z,rfl⟩
 ·simp at h3
 simp only[List.concat_eq_append,kG,List.length_singleton] at h3 h1 h2;have hj:C.length=j:=by omega
 subst hj;have e1:cur=(P++C)++z::y::(B2++R):=by rw[h2];simp
 have e2:cur.getD (P.length+C.length) 0=z:=by
  rw[e1,<-kG,List.getD_eq_getElem?_getD,List.getElem?_append_right om,Nat.sub_self];rfl
 rw[e2] at hlt;rw[qN _ om,e1,<-kG,show P.length+(C.length+1)=(P++C).length+1 by simp;omega,lv];refine⟨C,z::B2,by rw[h1];simp,by simp,rfl,λb hb=>?_⟩;rcases List.mem_cons.1 hb with rfl|hb
 ·exact hlt
 ·exact h4 b hb
theorem js.stop {P A:List Int}{y:Int}{R:List Int}{j:Nat}{cur:List Int}(h:js cls P A y R (j+1) cur) (hm:Mk cls (A++[y])) (hlt:¬cls y<cls (cur.getD (P.length+j) 0)):cur=P++(can cls (A++[y])++R):=by
 obtain⟨B1,B2,h1,h2,h3,h4⟩:=h;refine js.done hm h1 h2 h4 λb hb=>?_
 have hu:Up cls (B1++B2):=by rw[<-h1];exact kv hm.left
 obtain⟨i,hi,e⟩:=List.mem_iff_getElem.1 hb;have h5:=(Up.left hu).get (i:=i) (j:=j) om om
 have e2:cur.getD (P.length+j) 0=B1.getD j 0:=by
  rw[h2,List.getD_eq_getElem?_getD,List.getD_eq_getElem?_getD,List.getElem?_append_right om,Nat.add_sub_cancel_left,List.getElem?_append_left om]
 rw[gDe hi,e] at h5;rw[e2] at hlt;omega
theorem Bx {x:Int}{B:List Int}{k:Nat}(hm:Mk cls (x::B)) (hu:Up cls B) (hk:k<=B.length) (h1:∀ i,i<k->cls (B.getD i 0)<cls x) (h2:∀ i,k<=i->i<B.length->¬cls (B.getD i 0)<cls x):can cls (x::B)=B.take k++x::B.drop k:=by
 have e:B.take k++B.drop k=B:=List.take_append_drop k B
 have h:=CN (cls:=cls) (x:=x) (A:=B.take k) (B:=B.drop k) (by rw[e];exact λz hz=>hm z (List.mem_cons_of_mem _ hz)) (hm x si) (by rw[e];exact hu)
  (λy hy=>by obtain⟨i,a,b,c⟩:=gC hy;rw[<-c];exact h1 i a)
  (λy hy=>by obtain⟨i,a,b,c⟩:=gD hy;rw[<-c];have:=h2 i a b;omega)
 rwa [e] at h
theorem Er {y:Int}{A:List Int}{k:Nat}(hm:Mk cls (A++[y])) (hu:Up cls A) (hk:k<=A.length) (h1:∀ i,i<k->¬cls y<cls (A.getD i 0)) (h2:∀ i,k<=i->i<A.length->cls y<cls (A.getD i 0)):can cls (A++[y])=A.take k++y::A.drop k:=by
 have e:A.take k++A.drop k=A:=List.take_append_drop k A
 have h:=xe (cls:=cls) (y:=y) (A:=A.take k) (B:=A.drop k) (by rw[e];exact hm.left) (hm y si) (by rw[e];exact hu)
  (λx hx=>by obtain⟨i,a,b,c⟩:=gC hx;rw[<-c];have:=h1 i a;omega)
  (λx hx=>by obtain⟨i,a,b,c⟩:=gD hx;rw[<-c];exact h2 i a b)
 rwa [e] at h
theorem Fx {A B:List Int}{s t:Nat}(hm:Mk cls (A++B)) (hA:Up cls A) (hB:Up cls B) (hs:s<=A.length) (ht:t<=B.length)
  (h1:s=A.length∨t=0∨cls (B.getD (t-1) 0)<cls (A.getD s 0)) (h2:s=0∨t=B.length∨¬cls (B.getD t 0)<cls (A.getD (s-1) 0)) :
  can cls (A++B)=can cls (A.take s++B.take t)++can cls (A.drop s++B.drop t):=by
 have eA:A.take s++A.drop s=A:=List.take_append_drop s A;have eB:B.take t++B.drop t=B:=List.take_append_drop t B
 have h:=CL (cls:=cls) (U:=A.take s) (X:=A.drop s) (Y:=B.take t) (V:=B.drop t) (λz hz=>hm z (List.mem_append_left _ (List.mem_of_mem_take hz))) (λz hz=>hm z (List.mem_append_left _ (List.mem_of_mem_drop hz)))
  (λz hz=>hm z (List.mem_append_right _ (List.mem_of_mem_take hz))) (λz hz=>hm z (List.mem_append_right _ (List.mem_of_mem_drop hz))) (by rw[eA];exact hA) (by rw[eB];exact hB)
  (λx hx y hy=>by
   obtain⟨i,a1,a2,a3⟩:=gD hx;obtain⟨j,b1,b2,b3⟩:=gC hy;rw[<-a3,<-b3];rcases h1 with h1|h1|h1
   ·omega
   ·omega
   ·have q1:=hA.get (i:=s) (j:=i) a1 a2;have q2:=hB.get (i:=j) (j:=t-1) om om
    omega)
  (λu hu v hv=>by
   obtain⟨i,a1,a2,a3⟩:=gC hu;obtain⟨j,b1,b2,b3⟩:=gD hv;rw[<-a3,<-b3];rcases h2 with h2|h2|h2
   ·omega
   ·omega
   ·have q1:=hA.get (i:=i) (j:=s-1) om om;have q2:=hB.get (i:=t) (j:=j) b1 b2
    omega)
 rwa [eA,eB] at h
theorem uv {P A S:List Int}{k:Nat}(h1:P.length<=k) (h2:k<P.length+A.length):(P++(A++S)).getD k 0=A.getD (k-P.length) 0:=by
 rw[List.getD_eq_getElem?_getD,List.getD_eq_getElem?_getD,List.getElem?_append_right h1,List.getElem?_append_left om]
theorem uu {P A B S:List Int}{k:Nat}(h1:P.length+A.length<=k) (h2:k<P.length+A.length+B.length):(P++(A++(B++S))).getD k 0=B.getD (k-(P.length+A.length)) 0:=by
 rw[<-List.append_assoc];have:=uv (P:=P++A) (A:=B) (S:=S) (k:=k) (by simp;omega) (by simp;omega)
 rwa [kG] at this
structure SmI (cls:Int->Int) (A B:List Int) (a m b s0 r0:Nat) (st r:Nat):Prop where
 le:s0<=st∧st<=r∧r<=r0
 lo:∀ c,s0<=c->c<st->¬cls (B.getD ((a+b) / 2-1-c) 0)<cls (A.getD (c-a) 0)
 hi:∀ c,r<=c->c<r0->cls (B.getD ((a+b) / 2-1-c) 0)<cls (A.getD (c-a) 0)
theorem SmI.up {A B:List Int}{a m b s0 r0 st r c:Nat}(h:SmI cls A B a m b s0 r0 st r) (hA:Up cls A) (hB:Up cls B) (hal:a+A.length=m) (hbl:m+B.length=b) (hr0:r0<=m∧r0<=(a+b) / 2) (hs0:a<=s0∧(a+b) / 2+m<=b+s0) (h1:st<=c) (h2:c<r)
  (hc:¬cls (B.getD ((a+b) / 2-1-c) 0)<cls (A.getD (c-a) 0)):SmI cls A B a m b s0 r0 (c+1) r:=by
 have hle:=h.le;refine⟨by omega,λk hk1 hk2=>?_,h.hi⟩;have q1:=hA.get (i:=k-a) (j:=c-a) om om;have q2:=hB.get (i:=(a+b) / 2-1-c) (j:=(a+b) / 2-1-k) om om;omega
theorem SmI.down {A B:List Int}{a m b s0 r0 st r c:Nat}(h:SmI cls A B a m b s0 r0 st r) (hA:Up cls A) (hB:Up cls B) (hal:a+A.length=m) (hbl:m+B.length=b) (hr0:r0<=m∧r0<=(a+b) / 2) (hs0:a<=s0∧(a+b) / 2+m<=b+s0) (h1:st<=c) (h2:c<r)
  (hc:cls (B.getD ((a+b) / 2-1-c) 0)<cls (A.getD (c-a) 0)):SmI cls A B a m b s0 r0 st c:=by
 have hle:=h.le;refine⟨by omega,h.lo,λk hk1 hk2=>?_⟩;have q1:=hA.get (i:=c-a) (j:=k-a) om om;have q2:=hB.get (i:=(a+b) / 2-1-k) (j:=(a+b) / 2-1-c) om om;omega
theorem SmI.cut {A B:List Int}{a m b s0 r0 s:Nat}(h:SmI cls A B a m b s0 r0 s s) (hm:Mk cls (A++B)) (hA:Up cls A) (hB:Up cls B) (hal:a+A.length=m) (hbl:m+B.length=b)
  (hw:((a+b) / 2<m∧s0+b=(a+b) / 2+m∧r0=(a+b) / 2)∨(m<=(a+b) / 2∧s0=a∧r0=m)) :
  can cls (A++B)=can cls (A.take (s-a)++B.take ((a+b) / 2-s))++can cls (A.drop (s-a)++B.drop ((a+b) / 2-s)):=by
 have hle:=h.le;refine Fx hm hA hB om om ?_ ?_
 ·by_cases hs:s<r0
  ·have:=h.hi s om hs
   exact .inr (.inr (by rw[show(a+b) / 2-s-1=(a+b) / 2-1-s by omega];exact this))
  ·rcases hw with hw|hw
   ·exact .inr (.inl om)
   ·exact .inl om
 ·by_cases hs:s0<s
  ·have:=h.lo (s-1) om om
   exact .inr (.inr (by rw[show s-a-1=s-1-a by omega,show(a+b) / 2-s=(a+b) / 2-1-(s-1) by omega];exact this))
  ·rcases hw with hw|hw
   ·exact .inr (.inl om)
   ·exact .inl om
theorem Up.sub {l:List Int}(h:Up cls l) (i n:Nat):Up cls ((l.drop i).take n):=List.Pairwise.sublist ((List.take_sublist _ _).trans (List.drop_sublist _ _)) h
inductive Bk (cls:Int->Int) (z:Nat):List Int->Prop
 | last {l:List Int}:l.length<=z->Up cls l->Bk cls z l
 | cons {A R:List Int}:A.length=z->Up cls A->Bk cls z R->Bk cls z (A++R)
inductive Bf (cls:Int->Int) (z:Nat):List Int->Prop
 | nil:Bf cls z []
 | snoc {D A:List Int}:Bf cls z D->A.length=z->Up cls A->Bf cls z (D++A)
theorem Bf.app {z:Nat}{D:List Int}(h:Bf cls z D):∀ {R:List Int},Bk cls z R->Bk cls z (D++R):=by
 induction h with
 | nil=>intro R hR;exact hR
 | snoc _ h2 h3 ih=>intro R hR;rw[List.append_assoc];exact ih (.cons h2 h3 hR)
theorem Bk.up {z:Nat}{R:List Int}(h:Bk cls z R) (hl:R.length<=z):Up cls R:=by
 cases h with
 | last _ h=>exact h
 | cons h1 h2 h3=>
  rename_i A R;rw[kG] at hl;rw[List.length_eq_zero_iff.1 (by omega:R.length=0),List.append_nil];exact h2
theorem Bk.one {z:Nat}{R:List Int}(h:Bk cls z R) (h1:z<R.length) (h2:R.length<z+z):∃ A B,R=A++B∧A.length=z∧0<B.length∧Up cls A∧Up cls B:=by
 cases h with
 | last h=>omega
 | cons h3 h4 h5=>
  rename_i A R;rw[kG] at h1 h2;exact⟨A,R,rfl,h3,by omega,h4,h5.up om⟩
theorem Bk.two {z:Nat}{R:List Int}(h:Bk cls z R) (hz:0<z) (h1:z+z<=R.length):∃ A B R',R=A++(B++R')∧A.length=z∧B.length=z∧Up cls A∧Up cls B∧Bk cls z R':=by
 cases h with
 | last h=>omega
 | cons h3 h4 h5=>
  rename_i A R;rw[kG] at h1;cases h5 with
  | last h6 h7=>exact⟨A,R,[],by simp,h3,by omega,h4,h7,.last si .nil⟩
  | cons h6 h7 h8=>rename_i B R;exact⟨A,B,R,rfl,h3,h6,h4,h7,h8⟩
end
end
end Go.Proofs.YtihggclfifimoaaGreatDoor
