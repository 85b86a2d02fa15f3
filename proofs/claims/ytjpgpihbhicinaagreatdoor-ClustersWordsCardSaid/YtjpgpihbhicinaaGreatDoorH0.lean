/-
  Sets of code points by ranges: one form for each set. Plain: no program in sight.
-/
import Derived.Test.YtjpgpihbhicinaaGreatDoorC0
set_option linter.unusedSectionVars false
namespace Go.Proofs.YtjpgpihbhicinaaGreatDoor
section
set_option maxRecDepth 100000
structure Rng where
 lo:Int
 hi:Int
 deriving DecidableEq
def InR (l:List Rng) (c:Int):Prop:=∃ r,r∈l∧r.lo≤c∧c≤r.hi
def Canon:Int→List Rng→Prop
 | _,[]=>True
 | b,r::l=>b<r.lo∧r.lo≤r.hi∧r.hi≤1114111∧Canon (r.hi+1) l
theorem InR.cons {r:Rng}{l:List Rng}{c:Int}:InR (r::l) c↔(r.lo≤c∧c≤r.hi)∨InR l c:=by
 constructor
 ·rintro⟨q,hq,h⟩;rcases List.mem_cons.1 hq with rfl|hq
  ·exact .inl h
  ·exact .inr ⟨q,hq,h⟩
 ·rintro(h|⟨q,hq,h⟩)
  ·exact⟨r,List.mem_cons_self,h⟩
  ·exact⟨q,List.mem_cons_of_mem _ hq,h⟩
theorem InR.nil {c:Int}:¬InR [] c:=by rintro⟨_,h,_⟩;cases h
theorem InR.app {a b:List Rng}{c:Int}:InR (a++b) c↔InR a c∨InR b c:=by
 induction a with
 | nil=>simp[InR.nil]
 | cons r a ih=>rw[List.cons_append,InR.cons,InR.cons,ih,or_assoc]
theorem Canon.above:∀ {l:List Rng}{b c:Int},Canon b l→InR l c→b<c
 | [],_,_,_,h=>absurd h InR.nil
 | r::l,b,c,⟨h1,h2,_,h4⟩,h=>by
  rcases InR.cons.1 h with h|h
  ·omega
  ·have:=Canon.above h4 h
   omega
theorem Canon.unique:∀ {l m:List Rng}{b:Int},Canon b l→Canon b m→(∀ c,InR l c↔InR m c)→l=m
 | [],[],_,_,_,_=>rfl
 | [],q::m,_,_,⟨_,h2,_⟩,h=>absurd ((h q.lo).2 (InR.cons.2 (.inl ⟨Int.le_refl _,h2⟩))) InR.nil
 | r::l,[],_,⟨_,h2,_⟩,_,h=>absurd ((h r.lo).1 (InR.cons.2 (.inl ⟨Int.le_refl _,h2⟩))) InR.nil
 | r::l,q::m,b,⟨a1,a2,a3,a4⟩,⟨b1,b2,b3,b4⟩,h=>by
  have e1:r.lo=q.lo:=by
   have x1:=InR.cons.1 ((h r.lo).1 (InR.cons.2 (.inl ⟨Int.le_refl _,a2⟩)));have x2:=InR.cons.1 ((h q.lo).2 (InR.cons.2 (.inl ⟨Int.le_refl _,b2⟩)))
   have y1:q.lo≤r.lo:=by
    rcases x1 with x|x
    ·omega
    ·have:=Canon.above b4 x;omega
   have y2:r.lo≤q.lo:=by
    rcases x2 with x|x
    ·omega
    ·have:=Canon.above a4 x;omega
   omega
  have e2:r.hi=q.hi:=by
   have y1:q.hi≤r.hi:=by
    by_cases hx:q.hi≤r.hi
    ·exact hx
    ·have x:=InR.cons.1 ((h (r.hi+1)).2 (InR.cons.2 (.inl ⟨by omega,by omega⟩)));rcases x with x|x
     ·omega
     ·have:=Canon.above a4 x;omega
   have y2:r.hi≤q.hi:=by
    by_cases hx:r.hi≤q.hi
    ·exact hx
    ·have x:=InR.cons.1 ((h (q.hi+1)).1 (InR.cons.2 (.inl ⟨by omega,by omega⟩)));rcases x with x|x
     ·omega
     ·have:=Canon.above b4 x;omega
   omega
  have er:r=q:=by
   cases r;cases q;simp only at e1 e2;subst e1;subst e2;rfl
  subst er;rw[Canon.unique a4 b4 fun c=>?_];constructor
  ·intro hc;rcases InR.cons.1 ((h c).1 (InR.cons.2 (.inr hc))) with x|x
   ·have:=Canon.above a4 hc;omega
   ·exact x
  ·intro hc;rcases InR.cons.1 ((h c).2 (InR.cons.2 (.inr hc))) with x|x
   ·have:=Canon.above b4 hc;omega
   ·exact x
def gx (l:List Rng):Prop:=Canon (-1) l
theorem gx.iff {l m:List Rng}(hm:gx m) (hc:∀ c,0≤c→c≤1114111→(InR m c↔InR l c)):l=m↔gx l:=by
 refine⟨fun e=>by rw[e];exact hm,fun hl=>Canon.unique hl hm fun c=>?_⟩;by_cases h:0≤c∧c≤1114111
 ·exact(hc c h.1 h.2).symm
 ·have up:∀ {k:List Rng} {b:Int},Canon b k→InR k c→c≤1114111:=fun {k}=>by
   induction k with
   | nil=>intro b _ hx;exact absurd hx InR.nil
   | cons r k ih=>
    intro b hk hx;obtain⟨_,_,h3,h4⟩:=hk;rcases InR.cons.1 hx with x|x
    ·omega
    ·exact ih h4 x
  constructor
  ·intro hx;have:=Canon.above hl hx
   have:=up hl hx
   omega
  ·intro hx;have:=Canon.above hm hx
   have:=up hm hx
   omega
end
section
set_option maxRecDepth 100000
def zu:Int→List Rng→Int
 | b,[]=>b
 | _,r::l=>zu (r.hi+1) l
theorem rB:∀ (l:List Rng) (b:Int) (r:Rng),zu b (l++[r])=r.hi+1
 | [],_,_=>rfl
 | _::l,_,r=>rB l _ r
theorem Canon.snoc:∀ {l:List Rng}{b:Int}{r:Rng},Canon b (l++[r])↔Canon b l∧zu b l<r.lo∧r.lo≤r.hi∧r.hi≤1114111
 | [],b,r=>by simp[Canon,zu]
 | q::l,b,r=>by
  rw[List.cons_append];simp only[Canon,zu];rw[Canon.snoc (l:=l)];simp only[and_assoc]
theorem InR.one {r:Rng}{c:Int}:InR [r] c↔r.lo≤c∧c≤r.hi:=by
 rw[InR.cons];exact⟨fun h=>h.elim id fun h=>absurd h InR.nil,.inl⟩
def mrg:List Rng→List Rng→List Rng
 | out,[]=>out
 | out,r::l=>match out.getLast? with
  | none=>mrg (out++[r]) l
  | some o=>if r.lo≤o.hi+1 then mrg (out.dropLast++[⟨o.lo,max o.hi r.hi⟩]) l else mrg (out++[r]) l
theorem oc:∀ (l out:List Rng),(l.Pairwise fun a b=>a.lo≤b.lo)→(∀ r,r∈l→0≤r.lo∧r.lo≤r.hi∧r.hi≤1114111) →
  Canon (-1) out→(∀ o,out.getLast?=some o→∀ r,r∈l→o.lo≤r.lo) →
  Canon (-1) (mrg out l)∧∀ c,InR (mrg out l) c↔InR out c∨InR l c
 | [],out,_,_,hc,_=>⟨hc,fun c=>⟨.inl,fun h=>h.elim id fun h=>absurd h InR.nil⟩⟩
 | r::l,out,hp,hv,hc,hl=>by
  obtain⟨hp1,hp2⟩:=List.pairwise_cons.1 hp;have hr:=hv r List.mem_cons_self;have hv':∀ q,q∈l→0≤q.lo∧q.lo≤q.hi∧q.hi≤1114111:=fun q hq=>hv q (List.mem_cons_of_mem _ hq)
  rcases List.eq_nil_or_concat out with rfl|⟨pre,o,rfl⟩
  ·have:=oc l [r] hp2 hv' ⟨by omega,hr.2.1,hr.2.2,trivial⟩ fun o ho q hq=>by
    simp only[List.getLast?_singleton,Option.some.injEq] at ho;subst ho;exact hp1 q hq
   refine⟨this.1,fun c=>?_⟩;show InR (mrg [r] l) c↔_;rw[this.2 c,InR.one,InR.cons];exact⟨fun h=>.inr h,fun h=>h.elim (fun h=>absurd h InR.nil) id⟩
  ·rw[List.concat_eq_append] at hc hl ⊢;obtain⟨h1,h2,h3,h4⟩:=Canon.snoc.1 hc;have ho:=hl o (by simp) r List.mem_cons_self;show Canon (-1) (mrg (pre++[o]) (r::l))∧_;simp only[mrg,List.getLast?_concat,List.dropLast_concat];split
   ·rename_i ht
    have:=oc l (pre++[⟨o.lo,max o.hi r.hi⟩]) hp2 hv' (Canon.snoc.2 ⟨h1,h2,by show o.lo≤max o.hi r.hi;omega,by show max o.hi r.hi≤1114111;omega⟩) fun q hq x hx=>by
     simp only[List.getLast?_concat,Option.some.injEq] at hq;subst hq;exact hl o (by simp) x (List.mem_cons_of_mem _ hx)
    refine⟨this.1,fun c=>?_⟩;rw[this.2 c,InR.app,InR.app,InR.one,InR.one,InR.cons];show(_∨(o.lo≤c∧c≤max o.hi r.hi))∨_↔_;constructor
    ·rintro((h|h)|h)
     ·exact .inl (.inl h)
     ·by_cases hx:c≤o.hi
      ·exact .inl (.inr ⟨h.1,hx⟩)
      ·exact .inr (.inl ⟨by omega,by omega⟩)
     ·exact .inr (.inr h)
    ·rintro((h|h)|(h|h))
     ·exact .inl (.inl h)
     ·exact .inl (.inr ⟨h.1,by omega⟩)
     ·exact .inl (.inr ⟨by omega,by omega⟩)
     ·exact .inr h
   ·rename_i ht
    have:=oc l ((pre++[o])++[r]) hp2 hv' (Canon.snoc.2 ⟨hc,by rw[rB];omega,hr.2.1,hr.2.2⟩) fun q hq x hx=>by
     simp only[List.getLast?_concat,Option.some.injEq] at hq;subst hq;exact hp1 x hx
    refine⟨this.1,fun c=>?_⟩;rw[this.2 c,InR.app (b:=[r]),InR.one,InR.cons,or_assoc]
end
section
set_option maxRecDepth 100000
def iw (r:Rng):Rng:=⟨max r.lo 0,min r.hi 1114111⟩
def cr (l:List Rng):List Rng:=(l.map iw).filter fun r=>decide (r.lo≤r.hi)
theorem rN {l s:List Rng}(hp:s.Perm (cr l)) (hs:s.Pairwise fun a b=>a.lo≤b.lo) :
  gx (mrg [] s)∧∀ c,0≤c→c≤1114111→(InR (mrg [] s) c↔InR l c):=by
 have hmem:∀ r,r∈s↔(∃ q,q∈l∧iw q=r)∧r.lo≤r.hi:=fun r=>by
  rw[hp.mem_iff,cr,List.mem_filter,List.mem_map,decide_eq_true_eq]
 have:=oc s [] hs (fun r hr=>by
  obtain⟨⟨q,_,rfl⟩,h⟩:=(hmem r).1 hr;simp only[iw] at h ⊢
  omega) trivial (fun o ho=>by cases ho)
 refine⟨this.1,fun c h1 h2=>?_⟩;rw[this.2 c];constructor
 ·rintro(h|⟨r,hr,ha,hb⟩)
  ·exact absurd h InR.nil
  ·obtain⟨⟨q,hq,rfl⟩,_⟩:=(hmem r).1 hr;simp only[iw] at ha hb;exact⟨q,hq,by omega,by omega⟩
 ·rintro⟨q,hq,ha,hb⟩;refine .inr ⟨iw q,(hmem _).2 ⟨⟨q,hq,rfl⟩,?_⟩,?_,?_⟩<;>simp only[iw]<;>omega
theorem yn {l s:List Rng}(hp:s.Perm (cr l)) (hs:s.Pairwise fun a b=>a.lo≤b.lo):l=mrg [] s↔gx l:=
 gx.iff (rN hp hs).1 (rN hp hs).2
end
section
set_option maxRecDepth 100000
section
variable {α:Type}(lt:α→α→Bool) (z:α)
def sR (l:List α) (j:Nat):List α:=(l.set (j+1) (l.getD j z)).set j (l.getD (j+1) z)
def tB:List α→Nat→List α
 | l,0=>l
 | l,j+1=>if lt (l.getD (j+1) z) (l.getD j z)=true then tB (sR z l j) j else l
def my (l:List α):Nat→List α
 | 0=>l
 | i+1=>tB lt z (my l i) (i+1)
def gJ (l:List α):List α:=my lt z l (l.length-1)
@[simp] theorem swpG_len (l:List α) (j:Nat):(sR z l j).length=l.length:=by simp[sR]
@[simp] theorem innG_len:∀ (j:Nat) (l:List α),(tB lt z l j).length=l.length
 | 0,l=>rfl
 | j+1,l=>by
  unfold tB;split
  ·rw[innG_len j,swpG_len]
  ·rfl
@[simp] theorem insG_len (l:List α):∀ i,(my lt z l i).length=l.length
 | 0=>rfl
 | i+1=>by simp[my,insG_len l i]
@[simp] theorem srtG_len (l:List α):(gJ lt z l).length=l.length:=by simp[gJ]
theorem Ce (A:List α) (y x:α) (R:List α):sR z (A++y::x::R) A.length=A++x::y::R:=by
 induction A with
 | nil=>simp[sR]
 | cons a A ih=>
  simp only[sR,List.cons_append,List.length_cons,List.getD_cons_succ,List.set_cons_succ] at ih ⊢;rw[ih]
theorem BS (A:List α) (x:α) (R:List α):(A++x::R).getD A.length z=x:=by simp
theorem zD (A:List α) (y x:α) (R:List α):(A++y::x::R).getD (A.length+1) z=x:=by
 simp
variable {le:α→α→Prop}(h1:∀ a b,lt a b=true→le a b) (h2:∀ a b,lt a b=false→le b a) (tr:∀ a b c,le a b→le b c→le a c)
include h1 h2 tr
theorem BK:∀ (n:Nat) (A:List α) (x:α) (R:List α),A.length=n→A.Pairwise le→∃ B,tB lt z (A++x::R) n=B++R∧B.Perm (x::A)∧B.Pairwise le:=by
 intro n
 induction n with
 | zero=>
  intro A x R hA _
  have:A=[]:=List.eq_nil_of_length_eq_zero hA
  subst this;exact⟨[x],rfl,List.Perm.refl _,by simp⟩
 | succ n ih=>
  intro A x R hA hs;obtain⟨A',y,rfl⟩:∃ A' y,A=A' ++ [y]:=⟨A.dropLast,A.getLast (by rintro rfl;simp at hA),(List.dropLast_concat_getLast _).symm⟩;have hn:A'.length=n:=by simpa using hA
  rw[List.pairwise_append] at hs;obtain⟨s1,_,s3⟩:=hs;have s4:∀ a,a∈A'→le a y:=fun a ha=>s3 a ha y (by simp)
  rw[List.append_assoc,List.singleton_append];unfold tB;rw[←hn,BS,zD];by_cases hc:lt x y=true
  ·rw[if_pos hc,Ce,hn]
   -- x moves down through A',y is the first of what stays behind
   obtain⟨B,e,p,s⟩:=ih A' x (y::R) hn s1;refine⟨B++[y],by rw[e];simp,?_,?_⟩
   ·have q1:(B++[y]).Perm ((x::A')++[y]):=p.append_right [y];simpa using q1
   ·rw[List.pairwise_append];refine⟨s,by simp,fun a ha b hb=>?_⟩;simp only[List.mem_singleton] at hb;subst hb;rcases List.mem_cons.1 (p.mem_iff.1 ha) with rfl|ha
    ·exact h1 _ _ hc
    ·exact s4 a ha
  ·rw[if_neg hc];refine⟨A' ++ [y,x],by simp,?_,?_⟩
   ·have q:(A' ++ [y,x]).Perm ([y,x]++A'):=List.perm_append_comm;have q2:([y,x]++A').Perm (x::(y::A')):=by simpa using List.Perm.swap x y A'
    have q3:(y::A').Perm (A' ++ [y]):=(List.perm_append_comm (l₁:=[y]) (l₂:=A'));exact(q.trans q2).trans (q3.cons x)
   ·have hxy:le y x:=h2 x y (by simpa using hc);rw[List.pairwise_append];refine⟨s1,by simp[hxy],fun a ha b hb=>?_⟩;rcases List.mem_cons.1 hb with rfl|hb
    ·exact s4 a ha
    ·simp only[List.mem_singleton] at hb;subst hb;exact tr _ _ _ (s4 a ha) hxy
theorem un (l:List α):∀ i,i<l.length→∃ B,my lt z l i=B++l.drop (i+1)∧B.Perm (l.take (i+1))∧B.Pairwise le
 | 0,hi=>by
  obtain⟨a,l',rfl⟩:∃ a l',l=a::l':=by cases l with|nil=>simp at hi|cons a l'=>exact⟨a,l',rfl⟩
  exact⟨[a],by simp[my],by simp,by simp⟩
 | i+1,hi=>by
  obtain⟨B,e,p,s⟩:=un l i (by omega);have hd:l.drop (i+1)=l[i+1]::l.drop (i+1+1):=List.drop_eq_getElem_cons hi;have hB:B.length=i+1:=by rw[p.length_eq];simp;omega
  obtain⟨B',e',p',s'⟩:=BK lt z h1 h2 tr (i+1) B l[i+1] (l.drop (i+1+1)) hB s;refine⟨B',by rw[my,e,hd];exact e',?_,s'⟩;rw[show l.take (i+1+1)=l.take (i+1)++[l[i+1]] from(List.take_append_getElem hi).symm];exact(p'.trans (p.cons _)).trans (List.perm_append_comm (l₁:=[l[i+1]]) (l₂:=l.take (i+1)))
theorem AC (l:List α):(gJ lt z l).Perm l∧(gJ lt z l).Pairwise le:=by
 by_cases hl:l=[]
 ·subst hl;exact⟨List.Perm.refl _,by simp[gJ,my]⟩
 ·have:0<l.length:=List.length_pos_iff.2 hl
  obtain⟨B,e,p,s⟩:=un lt z h1 h2 tr l (l.length-1) (by omega);rw[show l.length-1+1=l.length from by omega,List.take_length,List.drop_length,List.append_nil] at *;rw[gJ,e];exact⟨p,s⟩
end
def yo (a b:Rng):Int:=if a.lo<b.lo then -1 else if b.lo<a.lo then 1 else if a.hi<b.hi then -1 else if b.hi<a.hi then 1 else 0
def ltR (a b:Rng):Bool:=decide (yo a b<0)
def zR:Rng:=⟨0,0⟩
theorem pF (l:List Rng):(gJ ltR zR l).Perm l∧(gJ ltR zR l).Pairwise fun a b=>a.lo≤b.lo:=by
 refine AC ltR zR (le:=fun a b=>a.lo≤b.lo) (fun a b h=>?_) (fun a b h=>?_) (fun a b c h k=>Int.le_trans h k) l
 ·have h:=of_decide_eq_true h;unfold yo at h;split at h
  ·omega
  ·split at h<;>omega
 ·have h:=of_decide_eq_false h;unfold yo at h;split at h
  ·omega
  ·omega
def mkR (l:List Rng):List Rng:=mrg [] (gJ ltR zR (cr l))
theorem DG {l:List Rng}:l=mkR l↔gx l:=yn (pF _).1 (pF _).2
end
end Go.Proofs.YtjpgpihbhicinaaGreatDoor
