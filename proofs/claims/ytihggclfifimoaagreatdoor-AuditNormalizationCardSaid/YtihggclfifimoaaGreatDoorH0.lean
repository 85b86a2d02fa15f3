/-
  Sets of code points by ranges: one form for each set. Plain: no program in sight.
-/
import Derived.Test.YtihggclfifimoaaGreatDoorC0
set_option linter.unusedSectionVars false
namespace Go.Proofs.YtihggclfifimoaaGreatDoor
set_option maxRecDepth 100000
section
structure Rng where
 lo:Int
 hi:Int
 deriving DecidableEq
def InR (l:List Rng) (c:Int):Prop:=∃ r,r∈l∧r.lo<=c∧c<=r.hi
def Canon:Int->List Rng->Prop
 | _,[]=>True
 | b,r::l=>b<r.lo∧r.lo<=r.hi∧r.hi<=1114111∧Canon (r.hi+1) l
theorem InR.cons {r:Rng}{l:List Rng}{c:Int}:InR (r::l) c↔(r.lo<=c∧c<=r.hi)∨InR l c:=by
 constructor
 ·rintro⟨q,hq,h⟩;rcases List.mem_cons.1 hq with rfl|hq
  ·exact .inl h
  ·exact .inr ⟨q,hq,h⟩
 ·rintro(h|⟨q,hq,h⟩)
  ·exact⟨r,List.mem_cons_self,h⟩
  ·exact⟨q,List.mem_cons_of_mem _ hq,h⟩
theorem InR.nil {c:Int}:¬InR [] c:=by rintro⟨_,h,_⟩;cases h
theorem InR.app {a b:List Rng}{c:Int}:InR (a++b) c↔InR a c∨InR b c:=by
 induction a with
 | nil=>simp[InR.nil]
 | cons r a ih=>rw[List.cons_append,InR.cons,InR.cons,ih,or_assoc]
theorem Canon.above:∀ {l:List Rng}{b c:Int},Canon b l->InR l c->b<c
 | [],_,_,_,h=>absurd h InR.nil
 | r::l,b,c,⟨h1,h2,_,h4⟩,h=>by
  rcases InR.cons.1 h with h|h
  ·omega
  ·have:=Canon.above h4 h
   omega
theorem Canon.unique:∀ {l m:List Rng}{b:Int},Canon b l->Canon b m->(∀ c,InR l c↔InR m c)->l=m
 | [],[],_,_,_,_=>rfl
 | [],q::m,_,_,⟨_,h2,_⟩,h=>absurd ((h q.lo).2 (InR.cons.2 (.inl ⟨Int.le_refl _,h2⟩))) InR.nil
 | r::l,[],_,⟨_,h2,_⟩,_,h=>absurd ((h r.lo).1 (InR.cons.2 (.inl ⟨Int.le_refl _,h2⟩))) InR.nil
 | r::l,q::m,b,⟨a1,a2,a3,a4⟩,⟨b1,b2,b3,b4⟩,h=>by
  have e1:r.lo=q.lo:=by
   have x1:=InR.cons.1 ((h r.lo).1 (InR.cons.2 (.inl ⟨Int.le_refl _,a2⟩)));have x2:=InR.cons.1 ((h q.lo).2 (InR.cons.2 (.inl ⟨Int.le_refl _,b2⟩)))
   have y1:q.lo<=r.lo:=by
    rcases x1 with x|x
    ·omega
    ·have:=Canon.above b4 x;omega
   have y2:r.lo<=q.lo:=by
    rcases x2 with x|x
    ·omega
    ·have:=Canon.above a4 x;omega
   omega
  have e2:r.hi=q.hi:=by
   have y1:q.hi<=r.hi:=by
    by_cases hx:q.hi<=r.hi
    ·exact hx
    ·have x:=InR.cons.1 ((h (r.hi+1)).2 (InR.cons.2 (.inl ⟨by omega,by omega⟩)));rcases x with x|x
     ·omega
     ·have:=Canon.above a4 x;omega
   have y2:r.hi<=q.hi:=by
    by_cases hx:r.hi<=q.hi
    ·exact hx
    ·have x:=InR.cons.1 ((h (q.hi+1)).1 (InR.cons.2 (.inl ⟨by omega,by omega⟩)));rcases x with x|x
     ·omega
     ·have:=Canon.above b4 x;omega
   omega
  have er:r=q:=by
   cases r;cases q;simp only at e1 e2;subst e1;subst e2;rfl
  subst er;rw[Canon.unique a4 b4 λc=>?_];constructor
  ·intro hc;rcases InR.cons.1 ((h c).1 (InR.cons.2 (.inr hc))) with x|x
   ·have:=Canon.above a4 hc;omega
   ·exact x
  ·intro hc;rcases InR.cons.1 ((h c).2 (InR.cons.2 (.inr hc))) with x|x
   ·have:=Canon.above b4 hc;omega
   ·exact x
def i7 (l:List Rng):Prop:=Canon (-1) l
theorem i7.iff {l m:List Rng}(hm:i7 m) (hc:∀ c,0<=c->c<=1114111->(InR m c↔InR l c)):l=m↔i7 l:=by
 refine⟨λe=>by rw[e];exact hm,λhl=>Canon.unique hl hm λc=>?_⟩;by_cases h:0<=c∧c<=1114111
 ·exact(hc c h.1 h.2).symm
 ·have up:∀ {k:List Rng} {b:Int},Canon b k->InR k c->c<=1114111:=λ{k}=>by
   induction k with
   | nil=>intro b _ hx;exact absurd hx InR.nil
   | cons r k ih=>
    intro b hk hx;obtain⟨_,_,h3,h4⟩:=hk;rcases InR.cons.1 hx with x|x
    ·omega
    ·exact ih h4 x
  constructor
  ·intro hx;have:=Canon.above hl hx
   have:=up hl hx
   omega
  ·intro hx;have:=Canon.above hm hx
   have:=up hm hx
   omega
end
section
def yD:Int->List Rng->Int
 | b,[]=>b
 | _,r::l=>yD (r.hi+1) l
theorem nn:∀ (l:List Rng) (b:Int) (r:Rng),yD b (l++[r])=r.hi+1
 | [],_,_=>rfl
 | _::l,_,r=>nn l _ r
theorem Canon.snoc:∀ {l:List Rng}{b:Int}{r:Rng},Canon b (l++[r])↔Canon b l∧yD b l<r.lo∧r.lo<=r.hi∧r.hi<=1114111
 | [],b,r=>by simp[Canon,yD]
 | q::l,b,r=>by
  rw[List.cons_append];simp only[Canon,yD];rw[Canon.snoc (l:=l)];simp only[and_assoc]
theorem InR.one {r:Rng}{c:Int}:InR [r] c↔r.lo<=c∧c<=r.hi:=by
 rw[InR.cons];exact⟨λh=>h.elim id λh=>absurd h InR.nil,.inl⟩
def mrg:List Rng->List Rng->List Rng
 | out,[]=>out
 | out,r::l=>match out.getLast? with
  | none=>mrg (out++[r]) l
  | some o=>if r.lo<=o.hi+1 then mrg (out.dropLast++[⟨o.lo,max o.hi r.hi⟩]) l else mrg (out++[r]) l
theorem pU:∀ (l out:List Rng),(l.Pairwise λa b=>a.lo<=b.lo)->(∀ r,r∈l->0<=r.lo∧r.lo<=r.hi∧r.hi<=1114111) ->
  Canon (-1) out->(∀ o,out.getLast?=some o->∀ r,r∈l->o.lo<=r.lo) ->
  Canon (-1) (mrg out l)∧∀ c,InR (mrg out l) c↔InR out c∨InR l c
 | [],out,_,_,hc,_=>⟨hc,λc=>⟨.inl,λh=>h.elim id λh=>absurd h InR.nil⟩⟩
 | r::l,out,hp,hv,hc,hl=>by
  obtain⟨hp1,hp2⟩:=List.pairwise_cons.1 hp;have hr:=hv r List.mem_cons_self;have hv':∀ q,q∈l->0<=q.lo∧q.lo<=q.hi∧q.hi<=1114111:=λq hq=>hv q (List.mem_cons_of_mem _ hq)
  rcases List.eq_nil_or_concat out with rfl|⟨pre,o,rfl⟩
  ·have:=pU l [r] hp2 hv' ⟨by omega,hr.2.1,hr.2.2,trivial⟩ λo ho q hq=>by
    simp only[List.getLast?_singleton,Option.some.injEq] at ho;subst ho;exact hp1 q hq
   refine⟨this.1,λc=>?_⟩;show InR (mrg [r] l) c↔_;rw[this.2 c,InR.one,InR.cons];exact⟨λh=>.inr h,λh=>h.elim (λh=>absurd h InR.nil) id⟩
  ·rw[List.concat_eq_append] at hc hl ⊢;obtain⟨h1,h2,h3,h4⟩:=Canon.snoc.1 hc;have ho:=hl o (by simp) r List.mem_cons_self;show Canon (-1) (mrg (pre++[o]) (r::l))∧_;simp only[mrg,List.getLast?_concat,List.dropLast_concat];split
   ·rename_i ht
    have:=pU l (pre++[⟨o.lo,max o.hi r.hi⟩]) hp2 hv' (Canon.snoc.2 ⟨h1,h2,by show o.lo<=max o.hi r.hi;omega,by show max o.hi r.hi<=1114111;omega⟩) λq hq x hx=>by
     simp only[List.getLast?_concat,Option.some.injEq] at hq;subst hq;exact hl o (by simp) x (List.mem_cons_of_mem _ hx)
    refine⟨this.1,λc=>?_⟩;rw[this.2 c,InR.app,InR.app,InR.one,InR.one,InR.cons];show(_∨(o.lo<=c∧c<=max o.hi r.hi))∨_↔_;constructor
    ·rintro((h|h)|h)
     ·exact .inl (.inl h)
     ·by_cases hx:c<=o.hi
      ·exact .inl (.inr ⟨h.1,hx⟩)
      ·exact .inr (.inl ⟨by omega,by omega⟩)
     ·exact .inr (.inr h)
    ·rintro((h|h)|(h|h))
     ·exact .inl (.inl h)
     ·exact .inl (.inr ⟨h.1,by omega⟩)
     ·exact .inl (.inr ⟨by omega,by omega⟩)
     ·exact .inr h
   ·rename_i ht
    have:=pU l ((pre++[o])++[r]) hp2 hv' (Canon.snoc.2 ⟨hc,by rw[nn];omega,hr.2.1,hr.2.2⟩) λq hq x hx=>by
     simp only[List.getLast?_concat,Option.some.injEq] at hq;subst hq;exact hp1 x hx
    refine⟨this.1,λc=>?_⟩;rw[this.2 c,InR.app (b:=[r]),InR.one,InR.cons,or_assoc]
def cmb (p:Int->Bool):List Rng->Bool->List Int->List Rng
 | out,_,[]=>out
 | out,op,c::l=>
  let hi:=match l with|[]=>1114111|d::_=>d-1
  cmb p (if p c then(if op then(match out.getLast? with|none=>out|some o=>out.dropLast++[⟨o.lo,hi⟩]) else out++[⟨c,hi⟩]) else out) (p c) l
theorem Gj (p:Int->Bool):∀ (l:List Int) (c:Int) (out:List Rng) (op:Bool),((c::l).Pairwise (· < ·))->0<=c->(∀ d,d∈c::l->d<=1114111) ->
  (∀ d x:Int,d∈c::l->d<=x->x<=1114111->(∀ y,y∈c::l->y<=d∨x<y)->p x=p d) ->
  Canon (-1) out->(op=true->∃ pre o,out=pre++[o]∧o.hi+1=c)->(op=false->yD (-1) out<c) ->
  Canon (-1) (cmb p out op (c::l))∧∀ x,0<=x->x<=1114111->(InR (cmb p out op (c::l)) x↔(InR out x∨(c<=x∧p x=true))):=by
 intro l
 induction l with
 | nil=>
  intro c out op hp h0 hm hk hc ho hn;have hcm:=hm c (by simp);have hkx:∀ x,c<=x->x<=1114111->p x=p c:=λx h1 h2=>hk c x (by simp) h1 h2 λy hy=>.inl (by simp at hy;omega)
  cases hpc:p c with
  | false=>
   simp only[cmb,hpc];refine⟨hc,λx h1 h2=>⟨.inl,λh=>h.elim id λh=>?_⟩⟩;rw[hkx x h.1 h2,hpc] at h;exact absurd h.2 (by decide)
  | true=>
   cases op with
   | true=>
    obtain⟨pre,o,rfl,he⟩:=ho rfl;obtain⟨a1,a2,a3,a4⟩:=Canon.snoc.1 hc;simp only[cmb,hpc,if_true,List.getLast?_concat,List.dropLast_concat];refine⟨Canon.snoc.2 ⟨a1,a2,by show o.lo<=1114111;omega,Int.le_refl _⟩,λx h1 h2=>?_⟩;rw[InR.app,InR.app,InR.one,InR.one,or_assoc];refine or_congr Iff.rfl ?_;show(o.lo<=x∧x<=1114111)↔_;constructor
    ·intro h;by_cases hx:x<=o.hi
     ·exact .inl ⟨h.1,hx⟩
     ·exact .inr ⟨by omega,by rw[hkx x (by omega) h2,hpc]⟩
    ·rintro(h|h)<;>exact⟨by omega,h2⟩
   | false=>
    simp only[cmb,hpc,if_true,Bool.false_eq_true,if_false];refine⟨Canon.snoc.2 ⟨hc,hn rfl,hcm,Int.le_refl _⟩,λx h1 h2=>?_⟩;rw[InR.app,InR.one];refine or_congr Iff.rfl ?_;exact⟨λh=>⟨h.1,by rw[hkx x h.1 h2,hpc]⟩,λh=>⟨h.1,h2⟩⟩
 | cons d l ih=>
  intro c out op hp h0 hm hk hc ho hn;obtain⟨hp1,hp2⟩:=List.pairwise_cons.1 hp;obtain⟨hq1,_⟩:=List.pairwise_cons.1 hp2;have hcd:c<d:=hp1 d List.mem_cons_self;have hdm:=hm d (by simp)
  have hkx:∀ x,c<=x->x<d->p x=p c:=λx h1 h2=>hk c x (by simp) h1 (by omega) λy hy=>by
   rcases List.mem_cons.1 hy with rfl|hy
   ·exact .inl (Int.le_refl _)
   ·rcases List.mem_cons.1 hy with rfl|hy
    ·exact .inr h2
    ·have:=hq1 y hy
     exact .inr (by omega)
  have hk':∀ e x:Int,e∈d::l->e<=x->x<=1114111->(∀ y,y∈d::l->y<=e∨x<y)->p x=p e:=λe x he h1 h2 h3=>
   hk e x (List.mem_cons_of_mem _ he) h1 h2 λy hy=>by
    rcases List.mem_cons.1 hy with rfl|hy
    ·exact .inl (by have:=hp1 e he;omega)
    ·exact h3 y hy
  have hm':∀ e,e∈d::l->e<=1114111:=λe he=>hm e (List.mem_cons_of_mem _ he)
  cases hpc:p c with
  | false=>
   have htop:yD (-1) out<d:=by
    cases op with
    | true=>
     obtain⟨pre,o,rfl,he⟩:=ho rfl;rw[nn];omega
    | false=>have:=hn rfl;omega
   have:=ih d out false hp2 (by omega) hm' hk' hc (by simp) λ_=>htop
   have e:cmb p out op (c::d::l)=cmb p out false (d::l):=by
    rw[cmb];simp only[hpc,Bool.false_eq_true,if_false]
   rw[e];refine⟨this.1,λx h1 h2=>?_⟩;rw[this.2 x h1 h2];refine or_congr Iff.rfl ⟨λh=>⟨by omega,h.2⟩,λh=>⟨?_,h.2⟩⟩;by_cases hx:d<=x
   ·exact hx
   ·rw[hkx x h.1 (by omega),hpc] at h;exact absurd h.2 (by decide)
  | true=>
   cases op with
   | true=>
    obtain⟨pre,o,rfl,he⟩:=ho rfl;obtain⟨a1,a2,a3,a4⟩:=Canon.snoc.1 hc;have:=ih d (pre++[⟨o.lo,d-1⟩]) true hp2 (by omega) hm' hk' (Canon.snoc.2 ⟨a1,a2,by show o.lo<=d-1;omega,by show d-1<=1114111;omega⟩) (λ_=>⟨pre,_,rfl,by show d-1+1=d;omega⟩) (by simp)
    have e:cmb p (pre++[o]) true (c::d::l)=cmb p (pre++[⟨o.lo,d-1⟩]) true (d::l):=by
     rw[cmb];simp only[hpc,if_true,List.getLast?_concat,List.dropLast_concat]
    rw[e];refine⟨this.1,λx h1 h2=>?_⟩;rw[this.2 x h1 h2,InR.app,InR.app,InR.one,InR.one,or_assoc,or_assoc];refine or_congr Iff.rfl ?_;show((o.lo<=x∧x<=d-1)∨_)↔_;constructor
    ·rintro(h|h)
     ·by_cases hx:x<=o.hi
      ·exact .inl ⟨h.1,hx⟩
      ·exact .inr ⟨by omega,by rw[hkx x (by omega) (by omega),hpc]⟩
     ·exact .inr ⟨by omega,h.2⟩
    ·rintro(h|h)
     ·exact .inl ⟨h.1,by omega⟩
     ·by_cases hx:d<=x
      ·exact .inr ⟨hx,h.2⟩
      ·exact .inl ⟨by omega,by omega⟩
   | false=>
    have:=ih d (out++[⟨c,d-1⟩]) true hp2 (by omega) hm' hk' (Canon.snoc.2 ⟨hc,hn rfl,by show c<=d-1;omega,by show d-1<=1114111;omega⟩) (λ_=>⟨out,_,rfl,by show d-1+1=d;omega⟩) (by simp)
    have e:cmb p out false (c::d::l)=cmb p (out++[⟨c,d-1⟩]) true (d::l):=by
     rw[cmb];simp only[hpc,if_true,Bool.false_eq_true,if_false]
    rw[e];refine⟨this.1,λx h1 h2=>?_⟩;rw[this.2 x h1 h2,InR.app,InR.one,or_assoc];refine or_congr Iff.rfl ?_;show((c<=x∧x<=d-1)∨_)↔_;constructor
    ·rintro(h|h)
     ·exact⟨h.1,by rw[hkx x h.1 (by omega),hpc]⟩
     ·exact⟨by omega,h.2⟩
    ·intro h;by_cases hx:d<=x
     ·exact .inr ⟨hx,h.2⟩
     ·exact .inl ⟨h.1,by omega⟩
def aw (l:List Int) (n:Int):List Int:=l.filter (λx=>decide (x<n))++n::l.filter (λx=>decide (n<x))
theorem ig {l:List Int}{n x:Int}:x∈aw l n↔x=n∨x∈l:=by
 simp only[aw,List.mem_append,List.mem_filter,List.mem_cons,decide_eq_true_eq];constructor
 ·rintro(h|h|h)
  ·exact .inr h.1
  ·exact .inl h
  ·exact .inr h.1
 ·rintro(h|h)
  ·exact .inr (.inl h)
  ·rcases Int.lt_trichotomy x n with hx|hx|hx
   ·exact .inl ⟨h,hx⟩
   ·exact .inr (.inl hx)
   ·exact .inr (.inr ⟨h,hx⟩)
theorem gI {l:List Int}{n:Int}(h:l.Pairwise (· < ·)):(aw l n).Pairwise (· < ·):=by
 unfold aw;refine List.pairwise_append.2 ⟨h.filter _,List.pairwise_cons.2 ⟨λx hx=>?_,h.filter _⟩,λa ha b hb=>?_⟩
 ·simpa using (List.mem_filter.1 hx).2
 ·have:=(List.mem_filter.1 ha).2
  simp only[decide_eq_true_eq] at this;rcases List.mem_cons.1 hb with rfl|hb
  ·exact this
  ·have:=(List.mem_filter.1 hb).2
   simp only[decide_eq_true_eq] at this;omega
end
section
def bB:List Int->List Rng->List Int
 | l,[]=>aw l 0
 | l,r::rs=>
  let l1:=if 0<=r.lo∧r.lo<=1114111 then aw l r.lo else l
  bB (if 0<=r.hi∧r.hi<1114111 then aw l1 (r.hi+1) else l1) rs
def xv (r:Rng) (x:Int):Prop:=(0<=r.lo∧r.lo<=1114111∧x=r.lo)∨(0<=r.hi∧r.hi<1114111∧x=r.hi+1)
theorem gh:∀ (rs:List Rng) (l:List Int) (x:Int),x∈bB l rs↔x=0∨x∈l∨∃ r,r∈rs∧xv r x
 | [],l,x=>by
  show x∈aw l 0↔_;rw[ig];simp
 | r::rs,l,x=>by
  rw[bB];rw[gh rs]
  have e:(∃ q,q∈r::rs∧xv q x)↔xv r x∨∃ q,q∈rs∧xv q x:=by
   constructor
   ·rintro⟨q,hq,h⟩;rcases List.mem_cons.1 hq with rfl|hq
    ·exact .inl h
    ·exact .inr ⟨q,hq,h⟩
   ·rintro(h|⟨q,hq,h⟩)
    ·exact⟨r,List.mem_cons_self,h⟩
    ·exact⟨q,List.mem_cons_of_mem _ hq,h⟩
  rw[e];refine or_congr Iff.rfl ?_;rw[<-or_assoc];refine or_congr ?_ Iff.rfl;by_cases h1:0<=r.lo∧r.lo<=1114111<;>by_cases h2:0<=r.hi∧r.hi<1114111
  ·rw[if_pos h2,if_pos h1,ig,ig];constructor
   ·rintro(h|h|h)
    ·exact .inr (.inr ⟨h2.1,h2.2,h⟩)
    ·exact .inr (.inl ⟨h1.1,h1.2,h⟩)
    ·exact .inl h
   ·rintro(h|⟨_,_,h⟩|⟨_,_,h⟩)
    ·exact .inr (.inr h)
    ·exact .inr (.inl h)
    ·exact .inl h
  ·rw[if_neg h2,if_pos h1,ig];constructor
   ·rintro(h|h)
    ·exact .inr (.inl ⟨h1.1,h1.2,h⟩)
    ·exact .inl h
   ·rintro(h|⟨_,_,h⟩|⟨a,b,_⟩)
    ·exact .inr h
    ·exact .inl h
    ·exact absurd ⟨a,b⟩ h2
  ·rw[if_pos h2,if_neg h1,ig];constructor
   ·rintro(h|h)
    ·exact .inr (.inr ⟨h2.1,h2.2,h⟩)
    ·exact .inl h
   ·rintro(h|⟨a,b,_⟩|⟨_,_,h⟩)
    ·exact .inr h
    ·exact absurd ⟨a,b⟩ h1
    ·exact .inl h
  ·rw[if_neg h2,if_neg h1];constructor
   ·exact .inl
   ·rintro(h|⟨a,b,_⟩|⟨a,b,_⟩)
    ·exact h
    ·exact absurd ⟨a,b⟩ h1
    ·exact absurd ⟨a,b⟩ h2
theorem jV:∀ (rs:List Rng) (l:List Int),l.Pairwise (· < ·)->(bB l rs).Pairwise (· < ·)
 | [],_,h=>gI h
 | r::rs,l,h=>by
  rw[bB];refine jV rs _ ?_
  have h1:(if 0<=r.lo∧r.lo<=1114111 then aw l r.lo else l).Pairwise (· < ·):=by
   split
   ·exact gI h
   ·exact h
  split
  ·exact gI h1
  ·exact h1
def bM (rs:List Rng) (c:Int):Bool:=decide (0<=c∧c<=1114111)&&rs.any λr=>decide (r.lo<=c∧c<=r.hi)
theorem cG {rs:List Rng}{c:Int}:bM rs c=true↔(0<=c∧c<=1114111)∧InR rs c:=by
 simp only[bM,Bool.and_eq_true,decide_eq_true_eq,List.any_eq_true,InR]
def fx (rs:List Rng):List Rng:=cmb (λc=>bM rs c) [] false (bB (bB [] rs) [])
theorem lJ (rs:List Rng):i7 (fx rs)∧∀ c,0<=c->c<=1114111->(InR (fx rs) c↔InR rs c):=by
 have hm:∀ x,x∈bB (bB [] rs) []↔x=0∨∃ r,r∈rs∧xv r x:=λx=>by
  rw[gh,gh];simp
 have hr:∀ x,x∈bB (bB [] rs) []->0<=x∧x<=1114111:=λx hx=>by
  rcases(hm x).1 hx with rfl|⟨r,_,⟨_,_,rfl⟩|⟨_,_,rfl⟩⟩<;>omega
 have ha:(bB (bB [] rs) []).Pairwise (· < ·):=jV _ _ (jV _ _ List.Pairwise.nil);have h0:(0:Int)∈bB (bB [] rs) []:=(hm 0).2 (.inl rfl)
 have hsame:∀ d x:Int,d∈bB (bB [] rs) []->d<=x->x<=1114111->(∀ y,y∈bB (bB [] rs) []->y<=d∨x<y)->bM rs x=bM rs d:=λd x hd h1 h2 h3=>by
  have hd0:=hr d hd;rw[Bool.eq_iff_iff,cG,cG];refine and_congr ⟨λ_=>hd0,λ_=>⟨by omega,h2⟩⟩ ?_;refine exists_congr λr=>?_
  constructor
  ·rintro⟨hq,a,b⟩;refine⟨hq,?_,by omega⟩;by_cases hlo:0<=r.lo
   ·rcases h3 r.lo ((hm _).2 (.inr ⟨r,hq,.inl ⟨hlo,by omega,rfl⟩⟩)) with h|h
    ·exact h
    ·omega
   ·omega
  ·rintro⟨hq,a,b⟩;refine⟨hq,by omega,?_⟩;by_cases hhi:r.hi<1114111
   ·rcases h3 (r.hi+1) ((hm _).2 (.inr ⟨r,hq,.inr ⟨by omega,hhi,rfl⟩⟩)) with h|h
    ·omega
    ·omega
   ·omega
 unfold fx;revert hm hr ha h0 hsame;generalize bB (bB [] rs) []=cuts;intro hm hr ha h0 hsame;cases cuts with
 | nil=>cases h0
 | cons c t=>
  have hc:c=0:=by
   rcases List.mem_cons.1 h0 with h|h
   ·exact h.symm
   ·have:=(List.pairwise_cons.1 ha).1 0 h
    have:=(hr c List.mem_cons_self).1
    omega
  subst hc
  have:=Gj (λc=>bM rs c) t 0 [] false ha (Int.le_refl _) (λd hd=>(hr d hd).2) hsame trivial (by simp) λ_=>by
   show(-1:Int)<0;omega
  refine⟨this.1,λx h1 h2=>?_⟩;rw[this.2 x h1 h2];constructor
  ·rintro(h|h)
   ·exact absurd h InR.nil
   ·exact(cG.1 h.2).2
  ·exact λh=>.inr ⟨h1,cG.2 ⟨⟨h1,h2⟩,h⟩⟩
theorem BN {rs:List Rng}:rs=fx rs↔i7 rs:=i7.iff (lJ rs).1 (lJ rs).2
def jX (r:Rng):Rng:=⟨max r.lo 0,min r.hi 1114111⟩
def cT (l:List Rng):List Rng:=(l.map jX).filter λr=>decide (r.lo<=r.hi)
theorem n8 {l s:List Rng}(hp:s.Perm (cT l)) (hs:s.Pairwise λa b=>a.lo<=b.lo) :
  i7 (mrg [] s)∧∀ c,0<=c->c<=1114111->(InR (mrg [] s) c↔InR l c):=by
 have hmem:∀ r,r∈s↔(∃ q,q∈l∧jX q=r)∧r.lo<=r.hi:=λr=>by
  rw[hp.mem_iff,cT,List.mem_filter,List.mem_map,decide_eq_true_eq]
 have:=pU s [] hs (λr hr=>by
  obtain⟨⟨q,_,rfl⟩,h⟩:=(hmem r).1 hr;simp only[jX] at h ⊢
  omega) trivial (λo ho=>by cases ho)
 refine⟨this.1,λc h1 h2=>?_⟩;rw[this.2 c];constructor
 ·rintro(h|⟨r,hr,ha,hb⟩)
  ·exact absurd h InR.nil
  ·obtain⟨⟨q,hq,rfl⟩,_⟩:=(hmem r).1 hr;simp only[jX] at ha hb;exact⟨q,hq,by omega,by omega⟩
 ·rintro⟨q,hq,ha,hb⟩;refine .inr ⟨jX q,(hmem _).2 ⟨⟨q,hq,rfl⟩,?_⟩,?_,?_⟩<;>simp only[jX]<;>omega
theorem BS {l s:List Rng}(hp:s.Perm (cT l)) (hs:s.Pairwise λa b=>a.lo<=b.lo):l=mrg [] s↔i7 l:=
 i7.iff (n8 hp hs).1 (n8 hp hs).2
end
section
section
variable {α:Type}(lt:α->α->Bool) (z:α)
def A0 (l:List α) (j:Nat):List α:=(l.set (j+1) (l.getD j z)).set j (l.getD (j+1) z)
def Bn:List α->Nat->List α
 | l,0=>l
 | l,j+1=>if lt (l.getD (j+1) z) (l.getD j z)=true then Bn (A0 z l j) j else l
def wr (l:List α):Nat->List α
 | 0=>l
 | i+1=>Bn lt z (wr l i) (i+1)
def gn (l:List α):List α:=wr lt z l (l.length-1)
@[simp] theorem swpG_len (l:List α) (j:Nat):(A0 z l j).length=l.length:=by simp[A0]
@[simp] theorem innG_len:∀ (j:Nat) (l:List α),(Bn lt z l j).length=l.length
 | 0,l=>rfl
 | j+1,l=>by
  unfold Bn;split
  ·rw[innG_len j,swpG_len]
  ·rfl
@[simp] theorem insG_len (l:List α):∀ i,(wr lt z l i).length=l.length
 | 0=>rfl
 | i+1=>by simp[wr,insG_len l i]
@[simp] theorem srtG_len (l:List α):(gn lt z l).length=l.length:=by simp[gn]
theorem FT (A:List α) (y x:α) (R:List α):A0 z (A++y::x::R) A.length=A++x::y::R:=by
 induction A with
 | nil=>simp[A0]
 | cons a A ih=>
  simp only[A0,List.cons_append,List.length_cons,List.getD_cons_succ,List.set_cons_succ] at ih ⊢;rw[ih]
theorem EJ (A:List α) (x:α) (R:List α):(A++x::R).getD A.length z=x:=by simp
theorem Bw (A:List α) (y x:α) (R:List α):(A++y::x::R).getD (A.length+1) z=x:=by
 simp
variable {le:α->α->Prop}(h1:∀ a b,lt a b=true->le a b) (h2:∀ a b,lt a b=false->le b a) (tr:∀ a b c,le a b->le b c->le a c)
include h1 h2 tr
theorem EB:∀ (n:Nat) (A:List α) (x:α) (R:List α),A.length=n->A.Pairwise le->∃ B,Bn lt z (A++x::R) n=B++R∧B.Perm (x::A)∧B.Pairwise le:=by
 intro n
 induction n with
 | zero=>
  intro A x R hA _
  have:A=[]:=List.eq_nil_of_length_eq_zero hA
  subst this;exact⟨[x],rfl,List.Perm.refl _,by simp⟩
 | succ n ih=>
  intro A x R hA hs;obtain⟨A',y,rfl⟩:∃ A' y,A=A' ++ [y]:=⟨A.dropLast,A.getLast (by rintro rfl;simp at hA),(List.dropLast_concat_getLast _).symm⟩;have hn:A'.length=n:=by simpa using hA
  rw[List.pairwise_append] at hs;obtain⟨s1,_,s3⟩:=hs;have s4:∀ a,a∈A'->le a y:=λa ha=>s3 a ha y (by simp)
  rw[List.append_assoc,List.singleton_append];unfold Bn;rw[<-hn,EJ,Bw];by_cases hc:lt x y=true
  ·rw[if_pos hc,FT,hn]
   -- x moves down through A',y is the first of what stays behind
   obtain⟨B,e,p,s⟩:=ih A' x (y::R) hn s1;refine⟨B++[y],by rw[e];simp,?_,?_⟩
   ·have q1:(B++[y]).Perm ((x::A')++[y]):=p.append_right [y];simpa using q1
   ·rw[List.pairwise_append];refine⟨s,by simp,λa ha b hb=>?_⟩;simp only[List.mem_singleton] at hb;subst hb;rcases List.mem_cons.1 (p.mem_iff.1 ha) with rfl|ha
    ·exact h1 _ _ hc
    ·exact s4 a ha
  ·rw[if_neg hc];refine⟨A' ++ [y,x],by simp,?_,?_⟩
   ·have q:(A' ++ [y,x]).Perm ([y,x]++A'):=List.perm_append_comm;have q2:([y,x]++A').Perm (x::(y::A')):=by simpa using List.Perm.swap x y A'
    have q3:(y::A').Perm (A' ++ [y]):=(List.perm_append_comm (l₁:=[y]) (l₂:=A'));exact(q.trans q2).trans (q3.cons x)
   ·have hxy:le y x:=h2 x y (by simpa using hc);rw[List.pairwise_append];refine⟨s1,by simp[hxy],λa ha b hb=>?_⟩;rcases List.mem_cons.1 hb with rfl|hb
    ·exact s4 a ha
    ·simp only[List.mem_singleton] at hb;subst hb;exact tr _ _ _ (s4 a ha) hxy
theorem wq (l:List α):∀ i,i<l.length->∃ B,wr lt z l i=B++l.drop (i+1)∧B.Perm (l.take (i+1))∧B.Pairwise le
 | 0,hi=>by
  obtain⟨a,l',rfl⟩:∃ a l',l=a::l':=by cases l with|nil=>simp at hi|cons a l'=>exact⟨a,l',rfl⟩
  exact⟨[a],by simp[wr],by simp,by simp⟩
 | i+1,hi=>by
  obtain⟨B,e,p,s⟩:=wq l i (by omega);have hd:l.drop (i+1)=l[i+1]::l.drop (i+1+1):=List.drop_eq_getElem_cons hi;have hB:B.length=i+1:=by rw[p.length_eq];simp;omega
  obtain⟨B',e',p',s'⟩:=EB lt z h1 h2 tr (i+1) B l[i+1] (l.drop (i+1+1)) hB s;refine⟨B',by rw[wr,e,hd];exact e',?_,s'⟩;rw[show l.take (i+1+1)=l.take (i+1)++[l[i+1]] from(List.take_append_getElem hi).symm];exact(p'.trans (p.cons _)).trans (List.perm_append_comm (l₁:=[l[i+1]]) (l₂:=l.take (i+1)))
theorem vW (l:List α):(gn lt z l).Perm l∧(gn lt z l).Pairwise le:=by
 by_cases hl:l=[]
 ·subst hl;exact⟨List.Perm.refl _,by simp[gn,wr]⟩
 ·have:0<l.length:=List.length_pos_iff.2 hl
  obtain⟨B,e,p,s⟩:=wq lt z h1 h2 tr l (l.length-1) (by omega);rw[show l.length-1+1=l.length from by omega,List.take_length,List.drop_length,List.append_nil] at *;rw[gn,e];exact⟨p,s⟩
end
def iL (a b:Rng):Int:=if a.lo<b.lo then -1 else if b.lo<a.lo then 1 else if a.hi<b.hi then -1 else if b.hi<a.hi then 1 else 0
def ltR (a b:Rng):Bool:=decide (iL a b<0)
def zR:Rng:=⟨0,0⟩
theorem j0 (l:List Rng):(gn ltR zR l).Perm l∧(gn ltR zR l).Pairwise λa b=>a.lo<=b.lo:=by
 refine vW ltR zR (le:=λa b=>a.lo<=b.lo) (λa b h=>?_) (λa b h=>?_) (λa b c h k=>Int.le_trans h k) l
 ·have h:=of_decide_eq_true h;unfold iL at h;split at h
  ·omega
  ·split at h<;>omega
 ·have h:=of_decide_eq_false h;unfold iL at h;split at h
  ·omega
  ·omega
def mkR (l:List Rng):List Rng:=mrg [] (gn ltR zR (cT l))
theorem Fv {l:List Rng}:l=mkR l↔i7 l:=BS (j0 _).1 (j0 _).2
end
end Go.Proofs.YtihggclfifimoaaGreatDoor
