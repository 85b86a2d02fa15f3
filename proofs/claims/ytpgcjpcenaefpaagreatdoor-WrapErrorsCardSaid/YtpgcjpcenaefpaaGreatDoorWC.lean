/-
  Layer 36, plain: where lines can end; the longest line; the best division. No program in sight.
-/
import Derived.Test.YtpgcjpcenaefpaaGreatDoorO0
import Derived.Test.YtpgcjpcenaefpaaGreatDoorJ1
set_option linter.unusedSectionVars false
namespace Go.Proofs.YtpgcjpcenaefpaaGreatDoor
section
open Go Go.Am Classical
set_option maxRecDepth 100000
def c8:List Rng->Nat->Nat
 | [],_=>0
 | r::P,k=>if(k:Int)<r.hi then r.hi.toNat else c8 P k
noncomputable def zb (O:List Int) (P:List Rng) (k:Nat):Bool:=decide ((k:Int)∈O∨∃ r∈P,r.hi=(k:Int))
theorem vP:∀ {P:List Rng}{s e:Int}{r:Rng},Chn s P e->r∈P->s<=r.lo∧r.lo<r.hi∧r.hi<=e
 | q::P,s,e,r,h,hr=>by
  have h1:=h.1;have h2:=h.2.1;have h3:=oB h.2.2;rcases List.mem_cons.1 hr with rfl|hr
  ·omega
  ·have:=vP h.2.2 hr;omega
theorem xA:∀ {P:List Rng}{s e:Int}{k i:Nat}(_:Chn s P e) (hi:i<P.length),P[i].lo<=(k:Int)->(k:Int)<P[i].hi->c8 P k=P[i].hi.toNat
 | r::P,s,e,k,0,h,_,_,h2=>by simp only[List.getElem_cons_zero] at h2 ⊢;simp only[c8];rw[if_pos h2]
 | r::P,s,e,k,i+1,h,hi,h1,h2=>by
  simp only[List.getElem_cons_succ] at h1 h2 ⊢;have h3:=vP h.2.2 (kM (by simpa using hi:i<P.length));simp only[c8];rw[if_neg om];exact xA h.2.2 (by simpa using hi) h1 h2
theorem gO:∀ {P:List Rng}{s e:Int}{k:Nat},Chn s P e->0<=s->s<=(k:Int)->(k:Int)<e->k<c8 P k∧(c8 P k:Int)<=e∧(∃ r∈P,r.hi=(c8 P k:Int))∧∀ r∈P,(k:Int)<r.hi->(c8 P k:Int)<=r.hi
 | [],s,e,k,h,_,h1,h2=>by have:s=e:=h;omega
 | r::P,s,e,k,h,h0,h1,h2=>by
  have e1:=h.1;have e2:=h.2.1;have e3:=oB h.2.2;simp only[c8];by_cases hk:(k:Int)<r.hi
  ·rw[if_pos hk];refine⟨by omega,by omega,⟨r,by simp,by omega⟩,λq hq hl=>?_⟩;rcases List.mem_cons.1 hq with rfl|hq
   ·omega
   ·have:=vP h.2.2 hq;omega
  ·rw[if_neg hk];obtain⟨q1,q2,⟨q,q3,q4⟩,q5⟩:=gO h.2.2 om om h2;refine⟨q1,q2,⟨q,by simp[q3],q4⟩,λu hu hl=>?_⟩;rcases List.mem_cons.1 hu with rfl|hu
   ·exact absurd hl hk
   ·exact q5 u hu hl
def eU (can:Nat->Bool) (lo hi:Nat):List Nat:=(List.range' (lo+1) (hi-lo)).filter can
theorem qY (can:Nat->Bool) (k:Nat):eU can k k=[]:=by simp[eU]
theorem qX {can:Nat->Bool}{k hi:Nat}(h:k<hi) (hc:can (k+1)=true):eU can k hi=(k+1)::eU can (k+1) hi:=by
 unfold eU;rw[show hi-k=(hi-(k+1))+1 by omega,List.range'_succ,List.filter_cons_of_pos hc]
theorem uh {can:Nat->Bool}{k hi:Nat}(h:k<hi) (hc:¬can (k+1)=true):eU can k hi=eU can (k+1) hi:=by
 unfold eU;rw[show hi-k=(hi-(k+1))+1 by omega,List.range'_succ,List.filter_cons_of_neg hc]
theorem mS {can:Nat->Bool}{lo hi x:Nat}:x∈eU can lo hi↔(lo<x∧x<=hi)∧can x=true:=by
 unfold eU;rw[List.mem_filter,List.mem_range'_1];constructor
 ·rintro⟨h1,h2⟩;exact⟨by omega,h2⟩
 ·rintro⟨h1,h2⟩;exact⟨by omega,h2⟩
theorem Dq (can:Nat->Bool) (lo hi:Nat):(eU can lo hi).Pairwise (· < ·):=(List.pairwise_lt_range').filter _
theorem Bi {can:Nat->Bool}{lo k:Nat}(h:lo<=k):eU can lo (k+1)=eU can lo k++(if can (k+1)=true then [k+1] else []):=by
 unfold eU;rw[show k+1-lo=(k-lo)+1 by omega,List.range'_concat,List.filter_append,show lo+1+1*(k-lo)=k+1 by omega];congr 1;split
 ·rename_i hc;rw[List.filter_cons_of_pos hc];rfl
 ·rename_i hc;rw[List.filter_cons_of_neg hc];rfl
def fV (w:Nat->Int) (n:Int) (lo:Nat):Nat->List Nat->Nat
 | e,[]=>e
 | e,x::l=>if n<w x then(if lo<e then e else x) else fV w n lo x l
theorem kq {w:Nat->Int}{n:Int}{lo:Nat}:∀ {l:List Nat}{e:Nat},(fV w n lo e l=e∧(l=[]∨lo<e))∨fV w n lo e l∈l
 | [],e=>.inl ⟨rfl,.inl rfl⟩
 | x::l,e=>by
  simp only[fV];split
  ·split
   ·rename_i h;exact .inl ⟨rfl,.inr h⟩
   ·exact .inr si
  ·rcases kq (w:=w) (n:=n) (lo:=lo) (l:=l) (e:=x) with⟨h,_⟩|h
   ·exact .inr (by rw[h];simp)
   ·exact .inr (by simp[h])
theorem ly {w:Nat->Int}{n:Int}{lo:Nat}(hw:∀ x y,x<=y->w x<=w y):∀ {l:List Nat}{e:Nat},lo<e->w e<=n->(∀ x∈l,e<x)->l.Pairwise (· < ·)->w (fV w n lo e l)<=n∧∀ y∈l,fV w n lo e l<y->n<w y
 | [],e,_,h,_,_=>⟨h,λy hy=>by cases hy⟩
 | x::l,e,h0,h,h1,h2=>by
  have h3:=List.pairwise_cons.1 h2;simp only[fV];by_cases hx:n<w x
  ·rw[if_pos hx,if_pos h0];refine⟨h,λy hy _=>?_⟩
   have:x<=y:=by rcases List.mem_cons.1 hy with rfl|hy;exact kP _;exact Nat.le_of_lt (h3.1 y hy)
   have:=hw x y this
   omega
  ·rw[if_neg hx];have h4:=h1 x si;obtain⟨q1,q2⟩:=ly (n:=n) (lo:=lo) hw (l:=l) (e:=x) om om h3.1 h3.2;refine⟨q1,λy hy hl=>?_⟩;rcases List.mem_cons.1 hy with rfl|hy
   ·have:y<=fV w n lo y l:=by
     rcases kq (w:=w) (n:=n) (lo:=lo) (l:=l) (e:=y) with⟨q,_⟩|q
     ·omega
     ·exact Nat.le_of_lt (h3.1 _ q)
    omega
   ·exact q2 y hy hl
def a9 (c:Nat->Int) (b:Nat×Int) (x:Nat):Nat×Int:=if b.1=0∨c x<=b.2 then(x,c x) else b
def bst (c:Nat->Nat->Int) (pos:Nat->List Nat):Nat->Nat->Nat×Int
 | 0,_=>(0,0)
 | f+1,lo=>(pos lo).foldl (a9 λx=>c lo x+(bst c pos f x).2) (0,0)
theorem l8 {c d:Nat->Int}:∀ {l:List Nat}{b:Nat×Int},(∀ x∈l,c x=d x)->l.foldl (a9 c) b=l.foldl (a9 d) b
 | [],_,_=>rfl
 | x::l,b,h=>by
  simp only[List.foldl_cons];have e:a9 c b x=a9 d b x:=by simp only[a9,h x si]
  rw[e];exact l8 λy hy=>h y (by simp[hy])
theorem xk {c:Nat->Nat->Int}{pos:Nat->List Nat}{n:Nat}(hp:∀ lo x,x∈pos lo->lo<x∧x<=n) (hn:pos n=[]):∀ {f g lo:Nat},lo<=n->n-lo<=f->n-lo<=g->bst c pos f lo=bst c pos g lo
 | 0,0,_,_,_,_=>rfl
 | 0,g+1,lo,h,h1,_=>by
  obtain rfl:lo=n:=by omega
  simp[bst,hn]
 | f+1,0,lo,h,_,h1=>by
  obtain rfl:lo=n:=by omega
  simp[bst,hn]
 | f+1,g+1,lo,h,h1,h2=>by
  simp only[bst];refine l8 λx hx=>?_
  have:=hp lo x hx
  rw[xk hp hn (f:=f) (g:=g) (lo:=x) om om om]
def tf (c:Nat->Nat->Int) (pos:Nat->List Nat) (n lo:Nat):Nat×Int:=bst c pos (n-lo) lo
theorem Fc {c:Nat->Nat->Int}{pos:Nat->List Nat}{n lo:Nat}(hp:∀ lo x,x∈pos lo->lo<x∧x<=n) (hn:pos n=[]) (hl:lo<n):tf c pos n lo=(pos lo).foldl (a9 λx=>c lo x+(tf c pos n x).2) (0,0):=by
 unfold tf;rw[show n-lo=(n-lo-1)+1 by omega];simp only[bst];refine l8 λx hx=>?_
 have:=hp lo x hx
 rw[xk hp hn (f:=n-lo-1) (g:=n-x) (lo:=x) om om (kP _)]
theorem Cf {c:Nat->Nat->Int}{pos:Nat->List Nat}{n:Nat}:tf c pos n n=(0,0):=by simp[tf,bst]
theorem nt {c:Nat->Int}:∀ {l:List Nat}{b:Nat×Int},b.1≠0->b.2=c b.1->(∀ x∈l,x≠0)->(l.foldl (a9 c) b).1≠0∧(l.foldl (a9 c) b).2=c (l.foldl (a9 c) b).1∧((l.foldl (a9 c) b).1=b.1∨(l.foldl (a9 c) b).1∈l)∧(l.foldl (a9 c) b).2<=b.2∧∀ x∈l,(l.foldl (a9 c) b).2<=c x
 | [],b,h0,h1,_=>⟨h0,h1,.inl rfl,Int.le_refl _,λx hx=>by cases hx⟩
 | x::l,b,h0,h1,h2=>by
  simp only[List.foldl_cons];by_cases h:c x<=b.2
  ·have e:a9 c b x=(x,c x):=by simp only[a9];rw[if_pos (.inr h)]
   rw[e];obtain⟨q1,q2,q3,q4,q5⟩:=nt (c:=c) (l:=l) (b:=(x,c x)) (h2 x si) rfl λy hy=>h2 y (by simp[hy])
   refine⟨q1,q2,.inr ?_,by simp only at q4;omega,λy hy=>?_⟩
   ·rcases q3 with q|q
    ·rw[q];simp
    ·simp[q]
   ·rcases List.mem_cons.1 hy with rfl|hy
    ·exact q4
    ·exact q5 y hy
  ·have e:a9 c b x=b:=by simp only[a9];rw[if_neg λhc=>hc.elim h0 h]
   rw[e];obtain⟨q1,q2,q3,q4,q5⟩:=nt (c:=c) (l:=l) (b:=b) h0 h1 λy hy=>h2 y (by simp[hy])
   refine⟨q1,q2,q3.imp id (λq=>by simp[q]),q4,λy hy=>?_⟩;rcases List.mem_cons.1 hy with rfl|hy
   ·omega
   ·exact q5 y hy
theorem rF {c:Nat->Int}{x:Nat}{l:List Nat}(h:∀ y∈x::l,y≠0):((x::l).foldl (a9 c) (0,0)).1∈x::l∧((x::l).foldl (a9 c) (0,0)).2=c ((x::l).foldl (a9 c) (0,0)).1∧∀ y∈x::l,((x::l).foldl (a9 c) (0,0)).2<=c y:=by
 have e:(x::l).foldl (a9 c) (0,0)=l.foldl (a9 c) (x,c x):=by simp[a9]
 rw[e];obtain⟨_,q2,q3,q4,q5⟩:=nt (c:=c) (l:=l) (b:=(x,c x)) (h x si) rfl λy hy=>h y (by simp[hy])
 refine⟨?_,q2,λy hy=>?_⟩
 ·rcases q3 with q|q
  ·rw[q];simp
  ·simp[q]
 ·rcases List.mem_cons.1 hy with rfl|hy
  ·exact q4
  ·exact q5 y hy
theorem tR {c:Nat->Int}:∀ {l:List Nat}{b:Nat×Int},b.1≠0->(∀ x∈l,b.2<c x)->l.foldl (a9 c) b=b
 | [],_,_,_=>rfl
 | x::l,b,h0,h=>by
  simp only[List.foldl_cons]
  have e:a9 c b x=b:=by
   simp only[a9];rw[if_neg λhc=>hc.elim h0 λhc=>by have:=h x si;omega]
  rw[e];exact tR h0 λy hy=>h y (by simp[hy])
theorem CH {c:Nat->Int}{l:List Nat}{x:Nat}{b:Nat×Int}(hx:c x<=(l.foldl (a9 c) b).2∨(l.foldl (a9 c) b).1=0):(l++[x]).foldl (a9 c) b=(x,c x):=by
 rw[List.foldl_append];simp only[List.foldl_cons,List.foldl_nil,a9];rw[if_pos hx.symm]
end
section
open Go Go.Am Classical
set_option maxRecDepth 100000
structure aT where
 n:Nat
 can:Nat->Bool
 last:Nat->Nat
 w:Nat->Nat->Int
 m:Int
namespace aT
def cst (L:aT) (lo hi:Nat):Int:=if 0<L.w lo hi-L.m then(L.w lo hi-L.m)*(L.w lo hi-L.m)*1000 else if hi=L.last lo then 0 else(L.w lo hi-L.m)*(L.w lo hi-L.m)
def pos (L:aT) (lo:Nat):List Nat:=if lo<L.n then eU L.can lo (L.last lo) else []
def B (L:aT) (lo:Nat):Nat×Int:=tf L.cst L.pos L.n lo
structure ok (L:aT):Prop where
 last:∀ {k},k<L.n->k<L.last k∧L.last k<=L.n∧L.can (L.last k)=true
 same:∀ {k x},k<L.n->k<=x->x<L.last k->L.last x=L.last k
 w0:∀ {a b},b<=L.n->0<=L.w a b∧L.w a b<=80
 wm:∀ {a b c},b<=c->L.w a b<=L.w a c
 m1:1<=L.m∧L.m<=1000
variable {L:aT}
theorem sq_range {o:Int}(h1:-1000<=o) (h2:o<=1000):0<=o*o∧o*o<=1000000:=by
 have:o*o=(o.natAbs*o.natAbs:Nat):=by rw[Int.natAbs_mul_self]
 have h:o.natAbs<=1000:=by omega
 have:=Nat.mul_le_mul h h
 omega
theorem cst_range (h:L.ok){lo hi:Nat}(hh:hi<=L.n):0<=L.cst lo hi∧L.cst lo hi<=1000000000:=by
 have h1:=h.w0 (a:=lo) hh;have h2:=h.m1;have h3:=sq_range (o:=L.w lo hi-L.m) om om;unfold cst;split
 ·omega
 ·split<;>omega
theorem pos_mem (_h:L.ok){lo x:Nat}(hx:x∈L.pos lo):lo<L.n∧lo<x∧x<=L.last lo∧L.can x=true:=by
 unfold pos at hx;split at hx
 ·have:=mS.1 hx;exact⟨by assumption,this.1.1,this.1.2,this.2⟩
 ·cases hx
theorem mem_pos {lo x:Nat}(h0:lo<L.n) (h1:lo<x) (h2:x<=L.last lo) (h3:L.can x=true):x∈L.pos lo:=by
 unfold pos;rw[if_pos h0];exact mS.2 ⟨⟨h1,h2⟩,h3⟩
theorem pos_lt (h:L.ok):∀ lo x,x∈L.pos lo->lo<x∧x<=L.n:=λlo x hx=>by
 obtain⟨h1,h2,h3,_⟩:=pos_mem h hx;have:=(h.last h1).2.1
 omega
theorem ug:L.pos L.n=[]:=by unfold pos;rw[if_neg (Nat.lt_irrefl _)]
theorem uf (h:L.ok){lo:Nat}(hl:lo<L.n):∃ x l,L.pos lo=x::l:=by
 have h1:=h.last hl;have h2:=mem_pos hl h1.1 (kP _) h1.2.2;cases e:L.pos lo with
 | nil=>rw[e] at h2;cases h2
 | cons x l=>exact⟨x,l,rfl⟩
theorem B_end:L.B L.n=(0,0):=Cf
theorem B_eq (h:L.ok){lo:Nat}(hl:lo<L.n):L.B lo=(L.pos lo).foldl (a9 λx=>L.cst lo x+(L.B x).2) (0,0):=Fc (pos_lt h) ug hl
theorem B_spec (h:L.ok){lo:Nat}(hl:lo<L.n):(L.B lo).1∈L.pos lo∧(L.B lo).2=L.cst lo (L.B lo).1+(L.B (L.B lo).1).2∧∀ x∈L.pos lo,(L.B lo).2<=L.cst lo x+(L.B x).2:=by
 obtain⟨x,l,e⟩:=uf h hl;have hz:∀ y∈x::l,y≠0:=λy hy=>by rw[<-e] at hy;have:=pos_lt h lo y hy;omega
 have:=rF (c:=λx=>L.cst lo x+(L.B x).2) hz
 rw[<-e,<-B_eq h hl] at this;exact this
theorem B_range (h:L.ok):∀ {f lo:Nat},lo<=L.n->L.n-lo<=f->0<=(L.B lo).2∧(L.B lo).2<=f*1000000000
 | 0,lo,h0,h1=>by
  obtain rfl:lo=L.n:=by omega
  rw[B_end];simp
 | f+1,lo,h0,h1=>by
  by_cases hl:lo=L.n
  ·subst hl;rw[B_end];simp;omega
  ·obtain⟨h2,h3,_⟩:=B_spec h (lo:=lo) om;have h4:=pos_lt h _ _ h2;have h5:=cst_range h (lo:=lo) h4.2;have h6:=B_range h (f:=f) (lo:=(L.B lo).1) h4.2 om;rw[h3];constructor
   ·omega
   ·have:((f+1:Nat):Int)*1000000000=(f:Int)*1000000000+1000000000:=by omega
    omega
theorem B_pos (h:L.ok){lo:Nat}(hl:lo<=L.n):0<=(L.B lo).2:=(B_range h hl (kP _)).1
theorem Fy (h:L.ok){lo:Nat}(hl:lo<L.n):∀ {f x:Nat},lo<=x->x<=L.last lo->L.last lo-x<=f->(L.B (L.last lo)).2<=(L.B x).2
 | 0,x,_,h1,h2=>by
  obtain rfl:x=L.last lo:=by omega
  exact Int.le_refl _
 | f+1,x,h0,h1,h2=>by
  by_cases hx:x=L.last lo
  ·subst hx;exact Int.le_refl _
  ·have h3:=h.last hl;obtain⟨h4,h5,_⟩:=B_spec h (lo:=x) om;obtain⟨_,h6,h7,_⟩:=pos_mem h h4;rw[h.same hl h0 om] at h7;have h8:=cst_range h (lo:=x) (hi:=(L.B x).1) om;have h9:=Fy h hl (f:=f) (x:=(L.B x).1) om h7 om;omega
theorem B_fits (h:L.ok){lo:Nat}(hl:lo<L.n) (hw:L.w lo (L.last lo)<=L.m):L.B lo=(L.last lo,(L.B (L.last lo)).2):=by
 have h1:=h.last hl;have hc:L.cst lo (L.last lo)=0:=by unfold cst;rw[if_neg om,if_pos rfl]
 have hp:L.pos lo=eU L.can lo (L.last lo-1)++[L.last lo]:=by
  unfold pos;rw[if_pos hl]
  conv=>lhs;rw[show L.last lo=(L.last lo-1)+1 by omega]
  rw[Bi om,show L.last lo-1+1=L.last lo by omega,if_pos h1.2.2]
 rw[B_eq h hl,hp,CH,hc,Int.zero_add];cases e:eU L.can lo (L.last lo-1) with
 | nil=>exact .inr rfl
 | cons x l=>
  left;have hm:∀ y∈x::l,lo<y∧y<L.last lo:=λy hy=>by rw[<-e] at hy;have:=(mS.1 hy).1;omega
  have hf:=rF (c:=λx=>L.cst lo x+(L.B x).2) (x:=x) (l:=l) λy hy=>by have:=hm y hy;omega
  rw[hf.2.1,hc,Int.zero_add];have h2:=hm _ hf.1;have h3:=cst_range h (lo:=lo) (hi:=((x::l).foldl (a9 λx=>L.cst lo x+(L.B x).2) (0,0)).1) om;have h4:=Fy h hl (f:=L.last lo) (x:=((x::l).foldl (a9 λx=>L.cst lo x+(L.B x).2) (0,0)).1) om om om;omega
theorem FC (h:L.ok){lo x y:Nat}(hx:L.m<L.w lo x) (hy:x<=y):L.cst lo x<=L.cst lo y:=by
 have h1:=h.wm (a:=lo) hy;unfold cst;rw[if_pos om,if_pos om];have h2:(L.w lo x-L.m)*(L.w lo x-L.m)<=(L.w lo y-L.m)*(L.w lo y-L.m):=Int.mul_le_mul om om om om;omega
theorem H9 (h:L.ok){lo k:Nat}{b:Nat×Int}(hl:lo<L.n) (hb:b.1≠0) (hw:L.m<L.w lo (k+1)) (hc:b.2<L.cst lo (k+1)) (_hk:lo<=k):(eU L.can k (L.last lo)).foldl (a9 λx=>L.cst lo x+(L.B x).2) b=b:=by
 refine tR hb λx hx=>?_
 have h1:=(mS.1 hx).1;have h2:=FC h hw (y:=x) om;have h3:=B_pos h (lo:=x) (by have:=(h.last hl).2.1;omega);omega
def dvs (L:aT):Nat->List Nat->Prop
 | lo,[]=>lo=L.n
 | lo,x::l=>x∈L.pos lo∧dvs L x l
def sumD (L:aT):Nat->List Nat->Int
 | _,[]=>0
 | lo,x::l=>L.cst lo x+sumD L x l
theorem B_least (h:L.ok):∀ {l:List Nat}{lo:Nat},L.dvs lo l->(L.B lo).2<=L.sumD lo l
 | [],lo,hd=>by
  obtain rfl:lo=L.n:=hd;rw[B_end];exact Int.le_refl _
 | x::l,lo,hd=>by
  have h1:=(B_spec h (lo:=lo) (pos_mem h hd.1).1).2.2 x hd.1;have h2:=B_least h hd.2;simp only[sumD];omega
def bends (L:aT):Nat->Nat->List Nat
 | 0,_=>[]
 | f+1,lo=>if lo<L.n then(L.B lo).1::bends L f (L.B lo).1 else []
theorem xn (h:L.ok):∀ {f lo:Nat},lo<=L.n->L.n-lo<=f->L.dvs lo (L.bends f lo)∧L.sumD lo (L.bends f lo)=(L.B lo).2
 | 0,lo,h0,h1=>by
  obtain rfl:lo=L.n:=by omega
  rw[B_end];exact⟨rfl,rfl⟩
 | f+1,lo,h0,h1=>by
  simp only[bends];by_cases hl:lo<L.n
  ·rw[if_pos hl];obtain⟨h2,h3,_⟩:=B_spec h hl;have h4:=pos_lt h _ _ h2;obtain⟨h5,h6⟩:=xn h (f:=f) (lo:=(L.B lo).1) h4.2 om;refine⟨⟨h2,h5⟩,?_⟩;simp only[sumD];rw[h6,h3]
  ·rw[if_neg hl];obtain rfl:lo=L.n:=by omega
   rw[B_end];exact⟨rfl,rfl⟩
def nxt (L:aT) (lo:Nat):Nat:=fV (L.w lo) L.m lo lo (L.pos lo)
theorem AB {lo:Nat}:(L.pos lo).Pairwise (· < ·):=by
 unfold pos;split
 ·exact Dq _ _ _
 ·exact List.Pairwise.nil
theorem nxt_mem (h:L.ok){lo:Nat}(hl:lo<L.n):L.nxt lo∈L.pos lo:=by
 obtain⟨x,l,e⟩:=uf h hl;unfold nxt;rcases kq (w:=L.w lo) (n:=L.m) (lo:=lo) (l:=L.pos lo) (e:=lo) with⟨_,h1⟩|h1
 ·rcases h1 with h1|h1
  ·rw[e] at h1;cases h1
  ·omega
 ·exact h1
def lends (L:aT):Nat->Nat->List Nat
 | 0,_=>[]
 | f+1,lo=>if lo<L.n then L.nxt lo::lends L f (L.nxt lo) else []
theorem lends_ok (h:L.ok):∀ {f lo:Nat},lo<=L.n->L.n-lo<=f->L.dvs lo (L.lends f lo)
 | 0,lo,h0,h1=>show lo=L.n by omega
 | f+1,lo,h0,h1=>by
  simp only[lends];by_cases hl:lo<L.n
  ·rw[if_pos hl];have h2:=nxt_mem h hl;have h4:=pos_lt h _ _ h2;exact⟨h2,lends_ok h h4.2 om⟩
  ·rw[if_neg hl];show lo=L.n;omega
theorem nxt_wide (h:L.ok){lo x:Nat}(hl:lo<L.n) (hw:L.m<L.w lo (L.nxt lo)) (h1:lo<x) (h2:x<L.nxt lo):¬L.can x=true:=λhc=>by
 have hm:=pos_mem h (nxt_mem h hl);have hx:=mem_pos hl h1 om hc;obtain⟨y,l,e⟩:=uf h hl;have hs:=AB (L:=L) (lo:=lo);rw[e] at hs hx;have h3:=List.pairwise_cons.1 hs;have hyx:y<=x:=by rcases List.mem_cons.1 hx with rfl|hx;exact kP _;exact Nat.le_of_lt (h3.1 x hx)
 have hy:lo<y:=(pos_mem h (x:=y) (by rw[e];simp)).2.1;unfold nxt at hw h2;rw[e] at hw h2;simp only[fV] at hw h2;by_cases hyw:L.m<L.w lo y
 ·rw[if_pos hyw,if_neg (Nat.lt_irrefl _)] at h2;omega
 ·rw[if_neg hyw] at hw;have:=(ly (w:=L.w lo) (n:=L.m) (lo:=lo) (λx y h'=>h.wm h') (l:=l) (e:=y) hy om h3.1 h3.2).1
  omega
theorem nxt_fits (h:L.ok){lo x:Nat}(hl:lo<L.n) (hw:L.w lo (L.nxt lo)<=L.m) (hx:x∈L.pos lo) (h1:L.nxt lo<x):L.m<L.w lo x:=by
 obtain⟨y,l,e⟩:=uf h hl;have hs:=AB (L:=L) (lo:=lo);rw[e] at hs hx;have h3:=List.pairwise_cons.1 hs;have hy:lo<y:=(pos_mem h (x:=y) (by rw[e];simp)).2.1;unfold nxt at hw h1;rw[e] at hw h1;simp only[fV] at hw h1;by_cases hyw:L.m<L.w lo y
 ·rw[if_pos hyw,if_neg (Nat.lt_irrefl _)] at hw;omega
 ·rw[if_neg hyw] at h1;have h4:=ly (w:=L.w lo) (n:=L.m) (lo:=lo) (λx y h'=>h.wm h') (l:=l) (e:=y) hy om h3.1 h3.2;rcases List.mem_cons.1 hx with rfl|hx
  ·have:x<=fV (L.w lo) L.m lo x l:=by
    rcases kq (w:=L.w lo) (n:=L.m) (lo:=lo) (l:=l) (e:=x) with⟨q,_⟩|q
    ·omega
    ·exact Nat.le_of_lt (h3.1 _ q)
   omega
  ·exact h4.2 x hx h1
end aT
end
section
open Go Go.Am Classical
set_option maxRecDepth 100000
abbrev Tab:=List (Nat×Int)
def tg (T:Tab) (k:Nat):Nat×Int:=T.getD k (0,0)
theorem hZ {T:Tab}{i k:Nat}{v:Nat×Int}(hi:i<T.length):tg (T.set i v) k=if k=i then v else tg T k:=by
 unfold tg;rw[List.getD,List.getD,List.getElem?_set];by_cases h:i=k
 ·subst h;rw[if_pos rfl,if_pos hi,if_pos rfl];rfl
 ·rw[if_neg h,if_neg λe=>h e.symm]
namespace aT
def cc (L:aT) (lo x:Nat):Int:=L.cst lo x+(L.B x).2
def lstL (L:aT) (g:Nat->Tab->Tab) (lo:Nat):List Nat->Tab->Tab
 | [],T=>T
 | x::l,T=>if L.m<L.w lo x∧0<(tg T lo).1∧(tg T lo).2<L.cst lo x then T else lstL L g lo l ((g x T).set lo (a9 (L.cc lo) (tg T lo) x))
def lst (L:aT):Nat->Nat->Tab->Tab
 | 0,_,T=>T
 | f+1,lo,T=>if lo<L.n then(if 0<(tg T lo).1 then T else if L.w lo (L.last lo)<=L.m then(lst L f (L.last lo) T).set lo (L.B lo) else lstL L (lst L f) lo (L.pos lo) T) else T
def Cl (L:aT) (T:Tab):Prop:=∀ k,k<L.n->(tg T k).1≠0->(tg T k).1<L.n->(tg T (tg T k).1).1≠0
structure TOk (L:aT) (lo:Nat) (T:Tab):Prop where
 len:T.length=400
 inv:∀ k,lo<=k->tg T k=(0,0)∨(k<L.n∧tg T k=L.B k)
 cl:L.Cl T
structure Post (L:aT) (lo:Nat) (T T':Tab):Prop where
 ok:L.TOk lo T'
 low:∀ k,k<lo->tg T' k=tg T k
 at':lo<L.n->tg T' lo=L.B lo
 mono:∀ k,(tg T k).1≠0->(tg T' k).1≠0
variable {L:aT}
theorem Cl.set {T:Tab}{lo:Nat}{v:Nat×Int}(hlt:lo<T.length) (hv:v.1≠0) (hc:L.Cl T) (hn:v.1<L.n->(tg T v.1).1≠0):L.Cl (T.set lo v):=λk hk h1 h2=>by
 have e:tg (T.set lo v) k=if k=lo then v else tg T k:=hZ hlt
 by_cases hkl:k=lo
 ·rw[if_pos hkl] at e;rw[e] at h2 ⊢;rw[hZ hlt];split
  ·exact hv
  ·exact hn h2
 ·rw[if_neg hkl] at e;rw[e] at h1 h2 ⊢;rw[hZ hlt];split
  ·exact hv
  ·exact hc k hk h1 h2
theorem wD {T:Tab}{lo:Nat}{v:Nat×Int}(hlt:lo<T.length) (hv:v.1≠0) (k:Nat) (h:(tg T k).1≠0):(tg (T.set lo v) k).1≠0:=by
 rw[hZ hlt];split
 ·exact hv
 ·exact h
theorem xj {c:Nat->Int}{b:Nat×Int}{x:Nat}(hx:x≠0):(a9 c b x).1≠0:=by
 unfold a9;split
 ·exact hx
 ·rename_i h;exact λe=>h (.inl e)
theorem TOk.up {lo hi:Nat}{T:Tab}(h:L.TOk lo T) (hl:lo<=hi):L.TOk hi T:=⟨h.len,λk hk=>h.inv k om,h.cl⟩
theorem B_ne (h:L.ok){lo:Nat}(hl:lo<L.n):(L.B lo).1≠0:=by
 have:=pos_lt h _ _ (B_spec h hl).1
 omega
theorem TOk.step (h:L.ok) (hn:L.n<=400){lo k:Nat}{T T1:Tab}(hl:lo<L.n) (hk:lo<k) (h4:L.TOk (lo+1) T) (p:L.Post k T T1):L.TOk (lo+1) (T1.set lo (a9 (L.cc lo) (tg T lo) k)):=by
 have hlt:lo<T1.length:=by rw[p.ok.len];omega
 refine⟨by rw[List.length_set,p.ok.len],λq hq=>?_,Cl.set hlt (xj om) p.ok.cl λhv=>?_⟩
 ·rw[hZ hlt,if_neg om];by_cases e:q<k
  ·rw[p.low q e];exact h4.inv q hq
  ·exact p.ok.inv q om
 ·unfold a9 at hv ⊢;split at hv
  ·rw[if_pos asm];rw[p.at' hv];exact B_ne h hv
  ·rename_i hb;rw[if_neg hb];have hb1:(tg T lo).1≠0:=λe=>hb (.inl e)
   exact p.mono _ (h4.cl lo hl hb1 hv)
theorem pQ (h:L.ok) (hn:L.n<=400){lo f:Nat}(hl:lo<L.n) (hf:L.n-lo<=f+1) (ih:∀ x T,x<=L.n->L.n-x<=f->L.TOk x T->L.Post x T (L.lst f x T)) :
  ∀ {j k:Nat} {T:Tab},L.last lo-k<=j->lo<=k->k<=L.last lo->L.TOk (lo+1) T->(tg T lo=(0,0)∨(tg T lo).1≠0)->(eU L.can k (L.last lo)).foldl (a9 (L.cc lo)) (tg T lo)=L.B lo->L.Post lo T (L.lstL (L.lst f) lo (eU L.can k (L.last lo)) T)
 | 0,k,T,h1,h2,h3,h4,h5,h6=>by
  obtain rfl:k=L.last lo:=by omega
  rw[qY] at h6 ⊢;simp only[List.foldl_nil,lstL] at h6 ⊢
  exact⟨⟨h4.len,λq hq=>by
   by_cases e:q=lo
   ·subst e;exact .inr ⟨hl,h6⟩
   ·exact h4.inv q om,h4.cl⟩,λ_ _=>rfl,λ_=>h6,λ_ h=>h⟩
 | j+1,k,T,h1,h2,h3,h4,h5,h6=>by
  by_cases hk:k=L.last lo
  ·exact pQ h hn hl hf ih (j:=0) om h2 h3 h4 h5 h6
  by_cases hc:L.can (k+1)=true
  ·have hp:=qX (can:=L.can) (show k<L.last lo by omega) hc;have hln:=(h.last hl).2.1;by_cases hb:L.m<L.w lo (k+1)∧0<(tg T lo).1∧(tg T lo).2<L.cst lo (k+1)
   ·have h7:=H9 h hl (b:=tg T lo) om hb.1 hb.2.2 h2;rw[show(λx=>L.cst lo x+(L.B x).2)=L.cc lo from rfl,h6] at h7;rw[hp];simp only[lstL];rw[if_pos hb]
    exact⟨⟨h4.len,λq hq=>by
     by_cases e:q=lo
     ·subst e;exact .inr ⟨hl,h7.symm⟩
     ·exact h4.inv q om,h4.cl⟩,λ_ _=>rfl,λ_=>h7.symm,λ_ h=>h⟩
   ·have p:=ih (k+1) T om om (h4.up om);rw[hp] at h6 ⊢;simp only[lstL,List.foldl_cons] at h6 ⊢;rw[if_neg hb];have hlt:lo<(L.lst f (k+1) T).length:=by rw[p.ok.len];omega
    have e2:tg ((L.lst f (k+1) T).set lo (a9 (L.cc lo) (tg T lo) (k+1))) lo=a9 (L.cc lo) (tg T lo) (k+1):=by rw[hZ hlt,if_pos rfl]
    have q:=pQ h hn hl hf ih (j:=j) (k:=k+1) (T:=(L.lst f (k+1) T).set lo (a9 (L.cc lo) (tg T lo) (k+1))) om om om
     (h4.step h hn hl om p)
     (by
      rw[e2];unfold a9;split
      ·exact .inr si
      ·exact h5)
     (by rw[e2];exact h6)
    refine⟨q.ok,λi hi=>?_,q.at',λi hi=>q.mono i (wD hlt (xj om) i (p.mono i hi))⟩;rw[q.low i hi,hZ hlt,if_neg om,p.low i om]
  ·rw[uh (can:=L.can) (show k<L.last lo by omega) hc] at h6 ⊢;exact pQ h hn hl hf ih (j:=j) om om om h4 h5 h6
theorem lst_ok (h:L.ok) (hn:L.n<=400):∀ {f lo:Nat}{T:Tab},lo<=L.n->L.n-lo<=f->L.TOk lo T->L.Post lo T (L.lst f lo T)
 | 0,lo,T,h1,h2,h3=>⟨h3,λ_ _=>rfl,λh=>by omega,λ_ h=>h⟩
 | f+1,lo,T,h1,h2,h3=>by
  simp only[lst];by_cases hl:lo<L.n
  ·rw[if_pos hl];have hla:=h.last hl;by_cases h0:0<(tg T lo).1
   ·rw[if_pos h0];refine⟨h3,λ_ _=>rfl,λ_=>?_,λ_ h=>h⟩;rcases h3.inv lo (kP _) with e|e
    ·rw[e] at h0;exact absurd h0 si
    ·exact e.2
   ·rw[if_neg h0];by_cases hw:L.w lo (L.last lo)<=L.m
    ·rw[if_pos hw];have p:=lst_ok h hn (f:=f) (lo:=L.last lo) (T:=T) hla.2.1 om (h3.up om);have hlt:lo<(L.lst f (L.last lo) T).length:=by rw[p.ok.len];omega
     have hB:=B_fits h hl hw;refine⟨⟨by rw[List.length_set,p.ok.len],λq hq=>?_,Cl.set hlt (B_ne h hl) p.ok.cl λhv=>?_⟩,λi hi=>?_,λ_=>by rw[hZ hlt,if_pos rfl],λi hi=>wD hlt (B_ne h hl) i (p.mono i hi)⟩
     ·rw[hZ hlt];split
      ·rename_i e;subst e;exact .inr ⟨hl,rfl⟩
      ·by_cases e:q<L.last lo
       ·rw[p.low q e];exact h3.inv q hq
       ·exact p.ok.inv q om
     ·rw[hB] at hv ⊢;simp only at hv ⊢;rw[p.at' hv];exact B_ne h hv
     ·rw[hZ hlt,if_neg om,p.low i om]
    ·rw[if_neg hw]
     have hz:tg T lo=(0,0):=by
      rcases h3.inv lo (kP _) with e|e
      ·exact e
      ·exact absurd (by rw[e.2];exact B_ne h hl) (by omega:¬(tg T lo).1≠0)
     have e:L.pos lo=eU L.can lo (L.last lo):=by unfold pos;rw[if_pos hl]
     rw[e];refine pQ h hn hl h2 (λx T h1 h2 h3=>lst_ok h hn h1 h2 h3) (j:=L.last lo) om (kP _) om (h3.up om) (.inl hz) ?_;rw[hz,B_eq h hl,e];rfl
  ·rw[if_neg hl];exact⟨h3,λ_ _=>rfl,λh=>absurd h hl,λ_ h=>h⟩
end aT
end
section
open Go Go.Am Classical
set_option maxRecDepth 100000
theorem wQ (d:Db) (text:List Int):Chn 0 (lH d text) text.length:=by
 letI:=gtR;exact pd (Ac (j9 (p:=d.lin) (text:=text)))
noncomputable def cS (d:Db) (text:List Int) (m:Int):aT:=⟨text.length,zb (Bp d text) (lH d text),c8 (lH d text),u4 d text,m⟩
theorem Gz {d:Db}{text:List Int}{m:Int}(hx:text.length<=40) (hm:1<=m∧m<=1000):(cS d text m).ok:=by
 have hc:=wQ d text;refine⟨λ{k} hk=>?_,λ{k x} hk h1 h2=>?_,λ{a b} hb=>?_,λ{a b c} h=>B3 d h,hm⟩
 ·obtain⟨h1,h2,⟨r,h3,h4⟩,_⟩:=gO hc (Int.le_refl _) om (show(k:Int)<text.length from by have:k<text.length:=hk;omega);exact⟨h1,by show c8 (lH d text) k<=text.length;omega,decide_eq_true (.inr ⟨r,h3,h4⟩)⟩
 ·have hk':k<text.length:=hk;have h2':x<c8 (lH d text) k:=h2;obtain⟨a1,a2,⟨r,a3,a4⟩,a5⟩:=gO hc (Int.le_refl _) om (show(k:Int)<text.length from by omega);obtain⟨b1,b2,⟨q,b3,b4⟩,b5⟩:=gO hc (Int.le_refl _) om (show(x:Int)<text.length from by omega);have c1:=b5 r a3 om;have c2:=a5 q b3 om;show c8 (lH d text) x=c8 (lH d text) k;omega
 ·have:=zB d (text:=text) (a:=a) hb
  show 0<=u4 d text a b∧u4 d text a b<=80;omega
structure oJ (d:Db) (text:List Int) (m:Int) (L:aT) (O:List Int) (P:List Rng):Prop where
 n:L.n=text.length
 m:L.m=m
 can:∀ k,L.can k=zb O P k
 last:∀ k,L.last k=c8 P k
 ok:L.ok
 len:text.length<=40
 lenO:O.length<=1000
 chk:@Pu gtR Tryz.prog 57 [dbD d] (i64 0)
 opp:@Pu gtR Tryz.prog 14 [dbD d,aD text] (.tup [aD O,i64 0])
 par:@Pu gtR Tryz.prog 15 [dbD d,aD text] (.tup [bB P,i64 0])
 chn:Chn 0 P text.length
 onl:∀ x∈O,0<=x∧x<=text.length
 wid:∀ a b,(a=0∨L.can a=true)->L.can b=true->a<b->b<=text.length->∃ e:Nat,a<=e∧e<=b∧@Pu gtR Tryz.prog 38 [dbD d,aD text,dQ a b] (.tup [dQ a e,i64 0])∧@Pu gtR Tryz.prog 39 [dbD d,aD (pce text a e)] (.tup [i64 (L.w a b),i64 0])
theorem yr {d:Db}{text:List Int}:∀ x∈Bp d text,0<=x∧x<=text.length:=λx hx=>by
 letI:=gtR;obtain⟨i,rfl,h1,h2,h3,_⟩:=rA.1 hx;have:=j9 (p:=d.lin) (text:=text)
 omega
theorem Good.lay {d:Db}(g:Good d){text:List Int}{m:Int}(hx:text.length<=40) (hm:1<=m∧m<=1000):oJ d text m (cS d text m) (Bp d text) (lH d text):=by
 letI:=gtR;refine⟨rfl,rfl,λ_=>rfl,λ_=>rfl,Gz hx hm,hx,?_,g.chk,AH g.ok g.sm g.va om,Gf g.ok g.sm g.va om,wQ d text,yr,λa b _ _ hab hb=>?_⟩
 ·exact Nat.le_trans rB (by rw[j9];omega)
 ·refine⟨cG (nvL d text) a b,zt _ _ _ om,uK _ _ _,F9 g.ok g.sm g.va hx om hb,?_⟩;have h:=g.width (text:=pce text a (cG (nvL d text) a b:Nat)) (by simp only[List.length_take,List.length_drop];omega);exact h
noncomputable def ja (n:Nat) (O:List Int) (P:List Rng):List Bool:=(List.range (n+1)).map (zb O P)
def dW (n:Nat) (P:List Rng):List Int:=(List.range n).map λk=>(c8 P k:Int)
theorem rY {n:Nat}{O:List Int}{P:List Rng}{k:Nat}(h:k<(ja n O P).length):(ja n O P)[k]=zb O P k:=by simp[ja]
theorem kr {n:Nat}{P:List Rng}{k:Nat}(h:k<(dW n P).length):(dW n P)[k]=(c8 P k:Int):=by simp[dW]
theorem m6 (n:Nat) (O:List Int) (P:List Rng):(ja n O P).length=n+1:=by simp[ja]
theorem iY (n:Nat) (P:List Rng):(dW n P).length=n:=by simp[dW]
noncomputable abbrev mh (d:Db) (text:List Int) (m:Int) (O:List Int) (P:List Rng):List D:=dbC d++[aD text,i64 m,bz (ja text.length O P),aD (dW text.length P)]
def rgL:Nat->List Nat->List Rng
 | _,[]=>[]
 | s,x::l=>⟨s,x⟩::rgL x l
theorem IQ {p:Prop}{i:Decidable p}(h:p):@decide p i=true:=decide_eq_true h
theorem Ar {p q:Prop}{i:Decidable p}{j:Decidable q}(h:p↔q):@decide p i=@decide q j:=decide_eq_decide.2 h
theorem je {α:Type}{l:List α}{i:Nat}(h:i<l.length){x:α}:x∈l.take (i+1)↔x=l[i]∨x∈l.take i:=by
 rw[List.take_add_one,List.getElem?_eq_getElem h,List.mem_append];simp only[Option.toList_some,List.mem_singleton];exact Or.comm
theorem tc {O:List Int}{P:List Rng}{i:Nat}(h:i<P.length){k:Nat}:decide ((k:Int)∈O∨∃ r∈P.take (i+1),r.hi=(k:Int))=if(k:Int)=P[i].hi then true else decide ((k:Int)∈O∨∃ r∈P.take i,r.hi=(k:Int)):=by
 by_cases hk:(k:Int)=P[i].hi
 ·rw[if_pos hk];exact IQ (.inr ⟨P[i],(je h).2 (.inl rfl),hk.symm⟩)
 ·rw[if_neg hk];refine Ar ⟨?_,?_⟩
  ·rintro(h1|⟨r,hr,h1⟩)
   ·exact .inl h1
   ·rcases(je h).1 hr with rfl|hr
    ·exact absurd h1.symm hk
    ·exact .inr ⟨r,hr,h1⟩
  ·rintro(h1|⟨r,hr,h1⟩)
   ·exact .inl h1
   ·exact .inr ⟨r,(je h).2 (.inr hr),h1⟩
theorem wj {O:List Int}{i:Nat}(h:i<O.length){k:Nat}:decide ((k:Int)∈O.take (i+1))=if(k:Int)=O[i] then true else decide ((k:Int)∈O.take i):=by
 by_cases hk:(k:Int)=O[i]
 ·rw[if_pos hk];exact IQ ((je h).2 (.inl hk))
 ·rw[if_neg hk];exact Ar ((je h).trans (or_iff_right hk))
end
section
open Go Go.Am Classical
set_option maxRecDepth 100000
theorem Ev [GT] {h:aA}{fz:Nat->Bool}{σ:Nat->Option Nat}{id n cap:Nat}{b:List Rng}{cs:List D}{ex bx:Bool}(hf:fz id=true) (hg:h.get id=some (.cells cs bx)) (ec:cs=b.flatMap bX) (e:n=b.length):Rd h fz σ (.sl id 0 n cap 2 ex) (bB b):=
 Eu hf hg ec e
theorem aT.lends_fuel {L:aT}(h:L.ok):∀ {f g lo:Nat},lo<=L.n->L.n-lo<=f->L.n-lo<=g->L.lends f lo=L.lends g lo
 | 0,0,_,_,_,_=>rfl
 | 0,g+1,lo,h0,h1,_=>by simp only[lends];rw[if_neg om]
 | f+1,0,lo,h0,_,h1=>by simp only[lends];rw[if_neg om]
 | f+1,g+1,lo,h0,h1,h2=>by
  simp only[lends];split
  ·have h3:=pos_lt h _ _ (nxt_mem h (lo:=lo) asm);rw[lends_fuel h (f:=f) (g:=g) (lo:=L.nxt lo) h3.2 om om]
  ·rfl
def aT.lin (L:aT) (lo:Nat):List Nat:=L.lends (L.n-lo) lo
theorem aT.lin_eq {L:aT}(h:L.ok){lo:Nat}(hl:lo<L.n):L.lin lo=L.nxt lo::L.lin (L.nxt lo):=by
 have h3:=pos_lt h _ _ (nxt_mem h hl);unfold lin;rw[show L.n-lo=(L.n-lo-1)+1 by omega];simp only[lends];rw[if_pos hl,lends_fuel h (f:=L.n-lo-1) (g:=L.n-L.nxt lo) h3.2 om (kP _)]
theorem aT.lin_end {L:aT}:L.lin L.n=[]:=by unfold lin;simp[lends]
theorem aT.bends_fuel {L:aT}(h:L.ok):∀ {f g lo:Nat},lo<=L.n->L.n-lo<=f->L.n-lo<=g->L.bends f lo=L.bends g lo
 | 0,0,_,_,_,_=>rfl
 | 0,g+1,lo,h0,h1,_=>by simp only[bends];rw[if_neg om]
 | f+1,0,lo,h0,_,h1=>by simp only[bends];rw[if_neg om]
 | f+1,g+1,lo,h0,h1,h2=>by
  simp only[bends];split
  ·have h3:=pos_lt h _ _ (B_spec h (lo:=lo) asm).1;rw[bends_fuel h (f:=f) (g:=g) (lo:=(L.B lo).1) h3.2 om om]
  ·rfl
def aT.bin (L:aT) (lo:Nat):List Nat:=L.bends (L.n-lo) lo
theorem aT.bin_eq {L:aT}(h:L.ok){lo:Nat}(hl:lo<L.n):L.bin lo=(L.B lo).1::L.bin (L.B lo).1:=by
 have h3:=pos_lt h _ _ (B_spec h hl).1;unfold bin;rw[show L.n-lo=(L.n-lo-1)+1 by omega];simp only[bends];rw[if_pos hl,bends_fuel h (f:=L.n-lo-1) (g:=L.n-(L.B lo).1) h3.2 om (kP _)]
theorem aT.bin_end {L:aT}:L.bin L.n=[]:=by unfold bin;simp[bends]
theorem aT.bin_ok {L:aT}(h:L.ok){lo:Nat}(hl:lo<=L.n):L.dvs lo (L.bin lo)∧L.sumD lo (L.bin lo)=(L.B lo).2:=xn h hl (kP _)
theorem jH {L:aT}(h:L.ok):∀ {l:List Nat}{lo:Nat},lo<=L.n->L.dvs lo l->l.length+lo<=L.n
 | [],lo,h0,hd=>by simp;exact h0
 | x::l,lo,h0,hd=>by
  have h1:=aT.pos_lt h _ _ hd.1;have h2:=jH h h1.2 hd.2;simp only[kO];omega
def gZ (P:List Rng):List Int:=P.map (·.hi)
theorem EB {P:List Rng}{x:Int}:x∈gZ P↔∃ r∈P,r.hi=x:=by simp[gZ]
def up (l:List Nat):List Int:=l.map λx:Nat=>(x:Int)
theorem uI (l:List Nat):(up l).length=l.length:=by simp[up]
theorem fH:∀ (l:List Nat) (s:Nat),(rgL s l).length=l.length
 | [],_=>rfl
 | x::l,s=>by simp only[rgL,kO,fH l x]
noncomputable def eW (L:aT):Nat->List Int->Option Int
 | lo,[]=>if lo=L.n then some 0 else none
 | lo,x::l=>if lo<L.n∧(lo:Int)<x∧x<=(L.last lo:Int)∧L.can x.toNat=true then(eW L x.toNat l).map (L.cst lo x.toNat + ·) else none
theorem FF {L:aT}{lo:Nat}{x:Int}{l:List Int}(h:lo<L.n∧(lo:Int)<x∧x<=(L.last lo:Int)∧L.can x.toNat=true) (s:Int):(eW L lo (x::l)).map (s + ·)=(eW L x.toNat l).map (s+L.cst lo x.toNat + ·):=by
 simp only[eW];rw[if_pos h,Option.map_map];congr 1;funext y;simp only[Function.comp];omega
theorem He {L:aT}{lo:Nat}{x:Int}{l:List Int}(h:¬(lo<L.n∧(lo:Int)<x∧x<=(L.last lo:Int)∧L.can x.toNat=true)):eW L lo (x::l)=none:=by
 simp only[eW];rw[if_neg h]
theorem mw {L:aT}(h:L.ok):∀ {l:List Nat}{lo:Nat},L.dvs lo l->eW L lo (up l)=some (L.sumD lo l)
 | [],lo,hd=>by
  have e:lo=L.n:=hd;simp only[up,List.map_nil,eW,aT.sumD];rw[if_pos e]
 | x::l,lo,hd=>by
  obtain⟨h1,h2⟩:=hd;obtain⟨q1,q2,q3,q4⟩:=aT.pos_mem h h1;show eW L lo ((x:Int)::up l)=_;simp only[eW,aT.sumD];rw[if_pos ⟨q1,by omega,by omega,by rw[Int.toNat_natCast];exact q4⟩,Int.toNat_natCast,mw h h2];rfl
theorem tW {L:aT}(h:L.ok):∀ {l:List Int}{lo:Nat}{s:Int},eW L lo l=some s->∃ l':List Nat,l=up l'∧L.dvs lo l'∧s=L.sumD lo l'
 | [],lo,s,e=>by
  simp only[eW] at e;split at e
  ·rename_i h0;exact⟨[],rfl,h0,(Option.some.inj e).symm⟩
  ·cases e
 | x::l,lo,s,e=>by
  simp only[eW] at e;split at e
  ·rename_i h0;obtain⟨s',e1,e2⟩:=Option.map_eq_some_iff.1 e;obtain⟨l',q1,q2,q3⟩:=tW h e1;refine⟨x.toNat::l',?_,⟨aT.mem_pos h0.1 om om h0.2.2.2,q2⟩,?_⟩
   ·rw[q1];show x::up l'=((x.toNat:Nat):Int)::up l';rw[Int.toNat_of_nonneg om]
   ·simp only[aT.sumD];rw[<-q3];exact e2.symm
  ·cases e
theorem zV {L:aT}(h:L.ok){l:List Int}{s:Int}(e:eW L 0 l=some s):(L.B 0).2<=s:=by
 obtain⟨l',_,h2,h3⟩:=tW h e;rw[h3];exact aT.B_least h h2
theorem uX:∀ {l:List Nat}{s k:Nat}(h:k<l.length),(rgL s l)[k]'(by rw[fH];exact h)=⟨((s::l).getD k 0:Nat),l[k]⟩
 | x::l,s,0,h=>rfl
 | x::l,s,k+1,h=>by
  have h':k<l.length:=by simpa using h
  have:=uX (l:=l) (s:=x) (k:=k) h'
  simp only[rgL,List.getElem_cons_succ];rw[this];rfl
theorem rT {L:aT}(h:L.ok):∀ {l:List Nat}{s k:Nat},L.dvs s l->(hk:k<l.length)->l[k]∈L.pos ((s::l).getD k 0)
 | x::l,s,0,hd,hk=>hd.1
 | x::l,s,k+1,hd,hk=>by
  have h':k<l.length:=by simpa using hk
  have:=rT h (l:=l) (s:=x) (k:=k) hd.2 h'
  simpa using this
theorem wy {L:aT}(h:L.ok):∀ {f s k:Nat}(hk:k<(L.lends f s).length),(L.lends f s)[k]=L.nxt ((s::L.lends f s).getD k 0)∧(s::L.lends f s).getD k 0<L.n
 | 0,s,k,hk=>by simp[aT.lends] at hk
 | f+1,s,k,hk=>by
  by_cases hs:s<L.n
  ·have e:L.lends (f+1) s=L.nxt s::L.lends f (L.nxt s):=by simp only[aT.lends];rw[if_pos hs]
   cases k with
   | zero=>simp only[e];exact⟨rfl,hs⟩
   | succ k=>
    have hk':k<(L.lends f (L.nxt s)).length:=by rw[e] at hk;simpa using hk
    have:=wy h (f:=f) (s:=L.nxt s) (k:=k) hk'
    simp only[e,List.getElem_cons_succ];exact this
  ·have e:L.lends (f+1) s=[]:=by simp only[aT.lends];rw[if_neg hs]
   rw[e] at hk;simp at hk
theorem An {L:aT}:∀ {l:List Nat}{s:Nat},L.dvs s l->(s::l).getD l.length 0=L.n
 | [],s,hd=>by have e:s=L.n:=hd;simp[e]
 | x::l,s,hd=>by
  have:=An (l:=l) (s:=x) hd.2
  simpa using this
theorem Hb {L:aT}(h:L.ok){l:List Nat}{k:Nat}(hd:L.dvs 0 l) (hk:k<l.length+1):(0::l).getD k 0=0∨L.can ((0::l).getD k 0)=true:=by
 cases k with
 | zero=>exact .inl rfl
 | succ k=>
  have h1:=aT.pos_mem h (rT h hd (k:=k) om);right
  have e:(0::l).getD (k+1) 0=l[k]'(by omega):=by
   rw[List.getD_cons_succ,List.getD,List.getElem?_eq_getElem om];rfl
  rw[e];exact h1.2.2.2
theorem pT {L:aT}(h:L.ok):L.dvs 0 (L.lin 0):=aT.lends_ok h (Nat.zero_le _) (kP _)
theorem A3 {L:aT}(h:L.ok):L.dvs 0 (L.bin 0):=(aT.bin_ok h (Nat.zero_le _)).1
theorem BP {d:Db}{text:List Int}{m:Int}{L:aT}{O:List Int}{P:List Rng}(H:oJ d text m L O P){R:List Rng}(hR:R=rgL 0 (L.lin 0)){i:Nat}(hi:i<R.length) :
  ∃ s e:Nat,R[i]=⟨(s:Int),(e:Int)⟩∧(s=0∨L.can s=true)∧L.can e=true∧s<e∧e<=text.length∧(m<L.w s e->∀ x∈O,¬((s:Int)<x∧x<(e:Int))) ∧
   (¬m<L.w s e->∀ h:i+1<R.length,¬(e:Int)∈gZ P->∃ e2:Nat,R[i+1]=⟨(e:Int),(e2:Int)⟩∧L.can e2=true∧s<e2∧e2<=text.length∧m<L.w s e2):=by
 subst hR;have hok:=H.ok;have hn:=H.n;have hm:=H.m;have hd:=pT hok;rw[fH] at hi;have hat:=rT hok hd hi;have hca:=Hb hok hd (k:=i) om;have hle:=wy hok (f:=L.n-0) (s:=0) (k:=i) hi;have hrg:=uX (l:=L.lin 0) (s:=0) hi;have hnx:(L.lin 0)[i]=L.nxt ((0::L.lin 0).getD i 0):=hle.1;have hsn:(0::L.lin 0).getD i 0<L.n:=hle.2;have hpm:=aT.pos_mem hok hat;have hlt:=aT.pos_lt hok _ _ hat;refine⟨(0::L.lin 0).getD i 0,(L.lin 0)[i],hrg,hca,hpm.2.2.2,hpm.2.1,by omega,λhw x hx hc=>?_,λhw hi2 he=>?_⟩
 ·rw[hnx] at hw hc
  have hxc:L.can x.toNat=true:=by
   rw[H.can,zb,decide_eq_true_eq];left;rw[Int.toNat_of_nonneg om];exact hx
  exact aT.nxt_wide hok hsn (x:=x.toNat) (by rw[hm];exact hw) om om hxc
 ·have hi3:i+1<(L.lin 0).length:=by rw[fH] at hi2;exact hi2
  have hrg2:=uX (l:=L.lin 0) (s:=0) hi3;have hat2:=rT hok hd hi3
  have e0:(0::L.lin 0).getD (i+1) 0=(L.lin 0)[i]:=by
   rw[List.getD_cons_succ,List.getD,List.getElem?_eq_getElem hi];rfl
  rw[e0] at hrg2 hat2;have hpm2:=aT.pos_mem hok hat2;have hlt2:=aT.pos_lt hok _ _ hat2;obtain⟨s1,s2,⟨r,s3,s4⟩,_⟩:=gO H.chn (Int.le_refl _) om (show(((0::L.lin 0).getD i 0:Nat):Int)<text.length by omega);have hne:(L.lin 0)[i]≠L.last ((0::L.lin 0).getD i 0):=λe=>he (EB.2 ⟨r,s3,by rw[s4,e,H.last]⟩)
  have hsm:=hok.same hsn (x:=(L.lin 0)[i]) om om;have hps:=aT.mem_pos (L:=L) hsn (x:=(L.lin 0)[i+1]) om om hpm2.2.2.2;refine⟨(L.lin 0)[i+1],hrg2,hpm2.2.2.2,by omega,by omega,?_⟩;have:=aT.nxt_fits hok hsn (x:=(L.lin 0)[i+1]) (by rw[<-hnx,hm];omega) hps (by rw[<-hnx];omega)
  rw[hm] at this;exact this
theorem oA:∀ (l:List Nat) (s:Nat),gZ (rgL s l)=up l
 | [],_=>rfl
 | x::l,s=>by simp only[rgL,gZ,up,List.map_cons];exact congrArg _ (oA l x)
end
end Go.Proofs.YtpgcjpcenaefpaaGreatDoor
