/-
  Layer 36, plain: where lines can end; the longest line; the best division. No program in sight.
-/
import Derived.Test.YtlimkdlhldlolaaGreatDoorO0
set_option linter.unusedSectionVars false
set_option maxRecDepth 100000
namespace Go.Proofs.YtlimkdlhldlolaaGreatDoor
section
open Go Go.Am Classical
def bw:List Rng->Nat->Nat
 | [],_=>0
 | r::P,k=>if(k:Int)<r.hi then r.hi.toNat else bw P k
noncomputable def kv (O:List Int) (P:List Rng) (k:Nat):Bool:=decide ((k:Int)∈O\/∃ r∈P,r.hi=(k:Int))
theorem vg:∀ {P:List Rng}{s e:Int}{r:Rng},Chn s P e->r∈P->s<=r.lo/\r.lo<r.hi/\r.hi<=e
 | q::P,s,e,r,h,hr=>by
  have h1:=h.1;have h2:=h.2.1;have h3:=oQ h.2.2;rcases List.mem_cons.1 hr with rfl|hr
  .omega
  .have:=vg h.2.2 hr;omega
theorem xj:∀ {P:List Rng}{s e:Int}{k i:Nat}(_:Chn s P e) (hi:i<P.length),P[i].lo<=(k:Int)->(k:Int)<P[i].hi->bw P k=P[i].hi.toNat
 | r::P,s,e,k,0,h,_,_,h2=>by simp only[List.getElem_cons_zero] at h2 ⊢;simp only[bw];rw[if_pos h2]
 | r::P,s,e,k,i+1,h,hi,h1,h2=>by
  simp only[List.getElem_cons_succ] at h1 h2 ⊢;have h3:=vg h.2.2 (kM (by simpa using hi:i<P.length));simp only[bw];rw[if_neg om];exact xj h.2.2 (by simpa using hi) h1 h2
theorem fT:∀ {P:List Rng}{s e:Int}{k:Nat},Chn s P e->0<=s->s<=(k:Int)->(k:Int)<e->k<bw P k/\(bw P k:Int)<=e/\(∃ r∈P,r.hi=(bw P k:Int))/\∀ r∈P,(k:Int)<r.hi->(bw P k:Int)<=r.hi
 | [],s,e,k,h,_,h1,h2=>by have:s=e:=h;omega
 | r::P,s,e,k,h,h0,h1,h2=>by
  have e1:=h.1;have e2:=h.2.1;have e3:=oQ h.2.2;simp only[bw];by_cases hk:(k:Int)<r.hi
  .rw[if_pos hk];refine⟨om,om,⟨r,si,om⟩,λq hq hl=>?_⟩;rcases List.mem_cons.1 hq with rfl|hq
   .omega
   .have:=vg h.2.2 hq;omega
  .rw[if_neg hk];obtain⟨q1,q2,⟨q,q3,q4⟩,q5⟩:=fT h.2.2 om om h2;refine⟨q1,q2,⟨q,by simp[q3],q4⟩,λu hu hl=>?_⟩;rcases List.mem_cons.1 hu with rfl|hu
   .exact absurd hl hk
   .exact q5 u hu hl
def dX (can:Nat->Bool) (lo hi:Nat):List Nat:=(List.range' (lo+1) (hi-lo)).filter can
theorem m6 (can:Nat->Bool) (k:Nat):dX can k k=[]:=by simp[dX]
theorem qb {can:Nat->Bool}{k hi:Nat}(h:k<hi) (hc:can (k+1)=true):dX can k hi=(k+1)::dX can (k+1) hi:=by
 unfold dX;rw[show hi-k=(hi-(k+1))+1 by omega,List.range'_succ,List.filter_cons_of_pos hc]
theorem uw {can:Nat->Bool}{k hi:Nat}(h:k<hi) (hc:¬can (k+1)=true):dX can k hi=dX can (k+1) hi:=by
 unfold dX;rw[show hi-k=(hi-(k+1))+1 by omega,List.range'_succ,List.filter_cons_of_neg hc]
theorem m7 {can:Nat->Bool}{lo hi x:Nat}:x∈dX can lo hi↔(lo<x/\x<=hi)/\can x=true:=by
 unfold dX;rw[List.mem_filter,List.mem_range'_1];constructor
 .rintro⟨h1,h2⟩;exact⟨om,h2⟩
 .rintro⟨h1,h2⟩;exact⟨om,h2⟩
theorem tK {can:Nat->Bool}{lo k:Nat}(h:lo<=k):dX can lo (k+1)=dX can lo k++(if can (k+1)=true then [k+1] else []):=by
 unfold dX;rw[show k+1-lo=(k-lo)+1 by omega,List.range'_concat,List.filter_append,show lo+1+1*(k-lo)=k+1 by omega];congr 1;split
 .rename_i hc;rw[List.filter_cons_of_pos hc];rfl
 .rename_i hc;rw[List.filter_cons_of_neg hc];rfl
def lm (w:Nat->Int) (n:Int) (lo:Nat):Nat->List Nat->Nat
 | e,[]=>e
 | e,x::l=>if n<w x then(if lo<e then e else x) else lm w n lo x l
theorem tc {w:Nat->Int}{n:Int}{lo:Nat}:∀ {l:List Nat}{e:Nat},(lm w n lo e l=e/\(l=[]\/lo<e))\/lm w n lo e l∈l
 | [],e=>.inl ⟨rfl,.inl rfl⟩
 | x::l,e=>by
  simp only[lm];split
  .split
   .rename_i h;exact .inl ⟨rfl,.inr h⟩
   .exact .inr si
  .rcases tc (w:=w) (n:=n) (lo:=lo) (l:=l) (e:=x) with⟨h,_⟩|h
   .exact .inr (by rw[h];simp)
   .exact .inr (by simp[h])
def a6 (c:Nat->Int) (b:Nat×Int) (x:Nat):Nat×Int:=if b.1=0\/c x<=b.2 then(x,c x) else b
def bst (c:Nat->Nat->Int) (pos:Nat->List Nat):Nat->Nat->Nat×Int
 | 0,_=>(0,0)
 | f+1,lo=>(pos lo).foldl (a6 λx=>c lo x+(bst c pos f x).2) (0,0)
theorem mT {c d:Nat->Int}:∀ {l:List Nat}{b:Nat×Int},(∀ x∈l,c x=d x)->l.foldl (a6 c) b=l.foldl (a6 d) b
 | [],_,_=>rfl
 | x::l,b,h=>by
  simp only[List.foldl_cons];have e:a6 c b x=a6 d b x:=by simp only[a6,h x si]
  rw[e];exact mT λy hy=>h y (by simp[hy])
theorem yb {c:Nat->Nat->Int}{pos:Nat->List Nat}{n:Nat}(hp:∀ lo x,x∈pos lo->lo<x/\x<=n) (hn:pos n=[]):∀ {f g lo:Nat},lo<=n->n-lo<=f->n-lo<=g->bst c pos f lo=bst c pos g lo
 | 0,0,_,_,_,_=>rfl
 | 0,g+1,lo,h,h1,_=>by
  obtain rfl:lo=n:=by omega
  simp[bst,hn]
 | f+1,0,lo,h,_,h1=>by
  obtain rfl:lo=n:=by omega
  simp[bst,hn]
 | f+1,g+1,lo,h,h1,h2=>by
  simp only[bst];refine mT λx hx=>?_
  have:=hp lo x hx
  rw[yb hp hn (f:=f) (g:=g) (lo:=x) om om om]
def uJ (c:Nat->Nat->Int) (pos:Nat->List Nat) (n lo:Nat):Nat×Int:=bst c pos (n-lo) lo
theorem GS {c:Nat->Nat->Int}{pos:Nat->List Nat}{n lo:Nat}(hp:∀ lo x,x∈pos lo->lo<x/\x<=n) (hn:pos n=[]) (hl:lo<n):uJ c pos n lo=(pos lo).foldl (a6 λx=>c lo x+(uJ c pos n x).2) (0,0):=by
 unfold uJ;rw[show n-lo=(n-lo-1)+1 by omega];simp only[bst];refine mT λx hx=>?_
 have:=hp lo x hx
 rw[yb hp hn (f:=n-lo-1) (g:=n-x) (lo:=x) om om (kP _)]
theorem DV {c:Nat->Nat->Int}{pos:Nat->List Nat}{n:Nat}:uJ c pos n n=(0,0):=by simp[uJ,bst]
theorem oJ {c:Nat->Int}:∀ {l:List Nat}{b:Nat×Int},b.1≠0->b.2=c b.1->(∀ x∈l,x≠0)->(l.foldl (a6 c) b).1≠0/\(l.foldl (a6 c) b).2=c (l.foldl (a6 c) b).1/\((l.foldl (a6 c) b).1=b.1\/(l.foldl (a6 c) b).1∈l)/\(l.foldl (a6 c) b).2<=b.2/\∀ x∈l,(l.foldl (a6 c) b).2<=c x
 | [],b,h0,h1,_=>⟨h0,h1,.inl rfl,Int.le_refl _,λx hx=>by cases hx⟩
 | x::l,b,h0,h1,h2=>by
  simp only[List.foldl_cons];by_cases h:c x<=b.2
  .have e:a6 c b x=(x,c x):=by simp only[a6];rw[if_pos (.inr h)]
   rw[e];obtain⟨q1,q2,q3,q4,q5⟩:=oJ (c:=c) (l:=l) (b:=(x,c x)) (h2 x si) rfl λy hy=>h2 y (by simp[hy])
   refine⟨q1,q2,.inr ?_,by simp only at q4;omega,λy hy=>?_⟩
   .rcases q3 with q|q
    .rw[q];simp
    .simp[q]
   .rcases List.mem_cons.1 hy with rfl|hy
    .exact q4
    .exact q5 y hy
  .have e:a6 c b x=b:=by simp only[a6];rw[if_neg λhc=>hc.elim h0 h]
   rw[e];obtain⟨q1,q2,q3,q4,q5⟩:=oJ (c:=c) (l:=l) (b:=b) h0 h1 λy hy=>h2 y (by simp[hy])
   refine⟨q1,q2,q3.imp id (λq=>by simp[q]),q4,λy hy=>?_⟩;rcases List.mem_cons.1 hy with rfl|hy
   .omega
   .exact q5 y hy
theorem rN {c:Nat->Int}{x:Nat}{l:List Nat}(h:∀ y∈x::l,y≠0):((x::l).foldl (a6 c) (0,0)).1∈x::l/\((x::l).foldl (a6 c) (0,0)).2=c ((x::l).foldl (a6 c) (0,0)).1/\∀ y∈x::l,((x::l).foldl (a6 c) (0,0)).2<=c y:=by
 have e:(x::l).foldl (a6 c) (0,0)=l.foldl (a6 c) (x,c x):=by simp[a6]
 rw[e];obtain⟨_,q2,q3,q4,q5⟩:=oJ (c:=c) (l:=l) (b:=(x,c x)) (h x si) rfl λy hy=>h y (by simp[hy])
 refine⟨?_,q2,λy hy=>?_⟩
 .rcases q3 with q|q
  .rw[q];simp
  .simp[q]
 .rcases List.mem_cons.1 hy with rfl|hy
  .exact q4
  .exact q5 y hy
theorem t5 {c:Nat->Int}:∀ {l:List Nat}{b:Nat×Int},b.1≠0->(∀ x∈l,b.2<c x)->l.foldl (a6 c) b=b
 | [],_,_,_=>rfl
 | x::l,b,h0,h=>by
  simp only[List.foldl_cons]
  have e:a6 c b x=b:=by
   simp only[a6];rw[if_neg λhc=>hc.elim h0 λhc=>by have:=h x si;omega]
  rw[e];exact t5 h0 λy hy=>h y (by simp[hy])
theorem C8 {c:Nat->Int}{l:List Nat}{x:Nat}{b:Nat×Int}(hx:c x<=(l.foldl (a6 c) b).2\/(l.foldl (a6 c) b).1=0):(l++[x]).foldl (a6 c) b=(x,c x):=by
 rw[List.foldl_append];simp only[List.foldl_cons,List.foldl_nil,a6];rw[if_pos hx.symm]
end
section
open Go Go.Am Classical
structure aZ where
 n:Nat
 can:Nat->Bool
 last:Nat->Nat
 w:Nat->Nat->Int
 m:Int
namespace aZ
def cst (L:aZ) (lo hi:Nat):Int:=if 0<L.w lo hi-L.m then(L.w lo hi-L.m)*(L.w lo hi-L.m)*1000 else if hi=L.last lo then 0 else(L.w lo hi-L.m)*(L.w lo hi-L.m)
def pos (L:aZ) (lo:Nat):List Nat:=if lo<L.n then dX L.can lo (L.last lo) else []
def B (L:aZ) (lo:Nat):Nat×Int:=uJ L.cst L.pos L.n lo
structure ok (L:aZ):Prop where
 last:∀ {k},k<L.n->k<L.last k/\L.last k<=L.n/\L.can (L.last k)=true
 same:∀ {k x},k<L.n->k<=x->x<L.last k->L.last x=L.last k
 w0:∀ {a b},b<=L.n->0<=L.w a b/\L.w a b<=80
 wm:∀ {a b c},b<=c->L.w a b<=L.w a c
 m1:1<=L.m/\L.m<=1000
variable {L:aZ}
theorem sq_range {o:Int}(h1:-1000<=o) (h2:o<=1000):0<=o*o/\o*o<=1000000:=by
 have:o*o=(o.natAbs*o.natAbs:Nat):=by rw[Int.natAbs_mul_self]
 have h:o.natAbs<=1000:=om;have:=Nat.mul_le_mul h h
 omega
theorem cst_range (h:L.ok){lo hi:Nat}(hh:hi<=L.n):0<=L.cst lo hi/\L.cst lo hi<=1000000000:=by
 have h1:=h.w0 (a:=lo) hh;have h2:=h.m1;have h3:=sq_range (o:=L.w lo hi-L.m) om om;unfold cst;split
 .omega
 .split<;>omega
theorem pos_mem (_h:L.ok){lo x:Nat}(hx:x∈L.pos lo):lo<L.n/\lo<x/\x<=L.last lo/\L.can x=true:=by
 unfold pos at hx;split at hx
 .have:=m7.1 hx;exact⟨asm,this.1.1,this.1.2,this.2⟩
 .cases hx
theorem H4 {lo x:Nat}(h0:lo<L.n) (h1:lo<x) (h2:x<=L.last lo) (h3:L.can x=true):x∈L.pos lo:=by
 unfold pos;rw[if_pos h0];exact m7.2 ⟨⟨h1,h2⟩,h3⟩
theorem pos_lt (h:L.ok):∀ lo x,x∈L.pos lo->lo<x/\x<=L.n:=λlo x hx=>by
 obtain⟨h1,h2,h3,_⟩:=pos_mem h hx;have:=(h.last h1).2.1
 omega
theorem uv:L.pos L.n=[]:=by unfold pos;rw[if_neg (Nat.lt_irrefl _)]
theorem Es (h:L.ok){lo:Nat}(hl:lo<L.n):∃ x l,L.pos lo=x::l:=by
 have h1:=h.last hl;have h2:=H4 hl h1.1 (kP _) h1.2.2;cases e:L.pos lo with
 | nil=>rw[e] at h2;cases h2
 | cons x l=>exact⟨x,l,rfl⟩
theorem B_end:L.B L.n=(0,0):=DV
theorem B_eq (h:L.ok){lo:Nat}(hl:lo<L.n):L.B lo=(L.pos lo).foldl (a6 λx=>L.cst lo x+(L.B x).2) (0,0):=GS (pos_lt h) uv hl
theorem B_spec (h:L.ok){lo:Nat}(hl:lo<L.n):(L.B lo).1∈L.pos lo/\(L.B lo).2=L.cst lo (L.B lo).1+(L.B (L.B lo).1).2/\∀ x∈L.pos lo,(L.B lo).2<=L.cst lo x+(L.B x).2:=by
 obtain⟨x,l,e⟩:=Es h hl;have hz:∀ y∈x::l,y≠0:=λy hy=>by rw[<-e] at hy;have:=pos_lt h lo y hy;omega
 have:=rN (c:=λx=>L.cst lo x+(L.B x).2) hz
 rw[<-e,<-B_eq h hl] at this;exact this
theorem B_range (h:L.ok):∀ {f lo:Nat},lo<=L.n->L.n-lo<=f->0<=(L.B lo).2/\(L.B lo).2<=f*1000000000
 | 0,lo,h0,h1=>by
  obtain rfl:lo=L.n:=by omega
  rw[B_end];simp
 | f+1,lo,h0,h1=>by
  by_cases hl:lo=L.n
  .subst hl;rw[B_end];simp;omega
  .obtain⟨h2,h3,_⟩:=B_spec h (lo:=lo) om;have h4:=pos_lt h _ _ h2;have h5:=cst_range h (lo:=lo) h4.2;have h6:=B_range h (f:=f) (lo:=(L.B lo).1) h4.2 om;rw[h3];constructor
   .omega
   .have:((f+1:Nat):Int)*1000000000=(f:Int)*1000000000+1000000000:=by omega
    omega
theorem B_pos (h:L.ok){lo:Nat}(hl:lo<=L.n):0<=(L.B lo).2:=(B_range h hl (kP _)).1
theorem Gv (h:L.ok){lo:Nat}(hl:lo<L.n):∀ {f x:Nat},lo<=x->x<=L.last lo->L.last lo-x<=f->(L.B (L.last lo)).2<=(L.B x).2
 | 0,x,_,h1,h2=>by
  obtain rfl:x=L.last lo:=by omega
  exact Int.le_refl _
 | f+1,x,h0,h1,h2=>by
  by_cases hx:x=L.last lo
  .subst hx;exact Int.le_refl _
  .have h3:=h.last hl;obtain⟨h4,h5,_⟩:=B_spec h (lo:=x) om;obtain⟨_,h6,h7,_⟩:=pos_mem h h4;rw[h.same hl h0 om] at h7;have h8:=cst_range h (lo:=x) (hi:=(L.B x).1) om;have h9:=Gv h hl (f:=f) (x:=(L.B x).1) om h7 om;omega
theorem B_fits (h:L.ok){lo:Nat}(hl:lo<L.n) (hw:L.w lo (L.last lo)<=L.m):L.B lo=(L.last lo,(L.B (L.last lo)).2):=by
 have h1:=h.last hl;have hc:L.cst lo (L.last lo)=0:=by unfold cst;rw[if_neg om,if_pos rfl]
 have hp:L.pos lo=dX L.can lo (L.last lo-1)++[L.last lo]:=by
  unfold pos;rw[if_pos hl]
  conv=>lhs;rw[show L.last lo=(L.last lo-1)+1 by omega]
  rw[tK om,show L.last lo-1+1=L.last lo by omega,if_pos h1.2.2]
 rw[B_eq h hl,hp,C8,hc,Int.zero_add];cases e:dX L.can lo (L.last lo-1) with
 | nil=>exact .inr rfl
 | cons x l=>
  left;have hm:∀ y∈x::l,lo<y/\y<L.last lo:=λy hy=>by rw[<-e] at hy;have:=(m7.1 hy).1;omega
  have hf:=rN (c:=λx=>L.cst lo x+(L.B x).2) (x:=x) (l:=l) λy hy=>by have:=hm y hy;omega
  rw[hf.2.1,hc,Int.zero_add];have h2:=hm _ hf.1;have h3:=cst_range h (lo:=lo) (hi:=((x::l).foldl (a6 λx=>L.cst lo x+(L.B x).2) (0,0)).1) om;have h4:=Gv h hl (f:=L.last lo) (x:=((x::l).foldl (a6 λx=>L.cst lo x+(L.B x).2) (0,0)).1) om om om;omega
theorem F9 (h:L.ok){lo x y:Nat}(hx:L.m<L.w lo x) (hy:x<=y):L.cst lo x<=L.cst lo y:=by
 have h1:=h.wm (a:=lo) hy;unfold cst;rw[if_pos om,if_pos om];have h2:(L.w lo x-L.m)*(L.w lo x-L.m)<=(L.w lo y-L.m)*(L.w lo y-L.m):=Int.mul_le_mul om om om om;omega
theorem JJ (h:L.ok){lo k:Nat}{b:Nat×Int}(hl:lo<L.n) (hb:b.1≠0) (hw:L.m<L.w lo (k+1)) (hc:b.2<L.cst lo (k+1)) (_hk:lo<=k):(dX L.can k (L.last lo)).foldl (a6 λx=>L.cst lo x+(L.B x).2) b=b:=by
 refine t5 hb λx hx=>?_
 have h1:=(m7.1 hx).1;have h2:=F9 h hw (y:=x) om;have h3:=B_pos h (lo:=x) (by have:=(h.last hl).2.1;omega);omega
def dvs (L:aZ):Nat->List Nat->Prop
 | lo,[]=>lo=L.n
 | lo,x::l=>x∈L.pos lo/\dvs L x l
def sumD (L:aZ):Nat->List Nat->Int
 | _,[]=>0
 | lo,x::l=>L.cst lo x+sumD L x l
def bends (L:aZ):Nat->Nat->List Nat
 | 0,_=>[]
 | f+1,lo=>if lo<L.n then(L.B lo).1::bends L f (L.B lo).1 else []
theorem ye (h:L.ok):∀ {f lo:Nat},lo<=L.n->L.n-lo<=f->L.dvs lo (L.bends f lo)/\L.sumD lo (L.bends f lo)=(L.B lo).2
 | 0,lo,h0,h1=>by
  obtain rfl:lo=L.n:=by omega
  rw[B_end];exact⟨rfl,rfl⟩
 | f+1,lo,h0,h1=>by
  simp only[bends];by_cases hl:lo<L.n
  .rw[if_pos hl];obtain⟨h2,h3,_⟩:=B_spec h hl;have h4:=pos_lt h _ _ h2;obtain⟨h5,h6⟩:=ye h (f:=f) (lo:=(L.B lo).1) h4.2 om;refine⟨⟨h2,h5⟩,?_⟩;simp only[sumD];rw[h6,h3]
  .rw[if_neg hl];obtain rfl:lo=L.n:=by omega
   rw[B_end];exact⟨rfl,rfl⟩
def nxt (L:aZ) (lo:Nat):Nat:=lm (L.w lo) L.m lo lo (L.pos lo)
theorem nxt_mem (h:L.ok){lo:Nat}(hl:lo<L.n):L.nxt lo∈L.pos lo:=by
 obtain⟨x,l,e⟩:=Es h hl;unfold nxt;rcases tc (w:=L.w lo) (n:=L.m) (lo:=lo) (l:=L.pos lo) (e:=lo) with⟨_,h1⟩|h1
 .rcases h1 with h1|h1
  .rw[e] at h1;cases h1
  .omega
 .exact h1
def lends (L:aZ):Nat->Nat->List Nat
 | 0,_=>[]
 | f+1,lo=>if lo<L.n then L.nxt lo::lends L f (L.nxt lo) else []
end aZ
end
section
open Go Go.Am Classical
abbrev Tab:=List (Nat×Int)
def tg (T:Tab) (k:Nat):Nat×Int:=T.getD k (0,0)
theorem de {T:Tab}{i k:Nat}{v:Nat×Int}(hi:i<T.length):tg (T.set i v) k=if k=i then v else tg T k:=by
 unfold tg;rw[List.getD,List.getD,List.getElem?_set];by_cases h:i=k
 .subst h;rw[if_pos rfl,if_pos hi,if_pos rfl];rfl
 .rw[if_neg h,if_neg λe=>h e.symm]
namespace aZ
def cc (L:aZ) (lo x:Nat):Int:=L.cst lo x+(L.B x).2
def lstL (L:aZ) (g:Nat->Tab->Tab) (lo:Nat):List Nat->Tab->Tab
 | [],T=>T
 | x::l,T=>if L.m<L.w lo x/\0<(tg T lo).1/\(tg T lo).2<L.cst lo x then T else lstL L g lo l ((g x T).set lo (a6 (L.cc lo) (tg T lo) x))
def lst (L:aZ):Nat->Nat->Tab->Tab
 | 0,_,T=>T
 | f+1,lo,T=>if lo<L.n then(if 0<(tg T lo).1 then T else if L.w lo (L.last lo)<=L.m then(lst L f (L.last lo) T).set lo (L.B lo) else lstL L (lst L f) lo (L.pos lo) T) else T
def Cl (L:aZ) (T:Tab):Prop:=∀ k,k<L.n->(tg T k).1≠0->(tg T k).1<L.n->(tg T (tg T k).1).1≠0
structure TOk (L:aZ) (lo:Nat) (T:Tab):Prop where
 len:T.length=400
 inv:∀ k,lo<=k->tg T k=(0,0)\/(k<L.n/\tg T k=L.B k)
 cl:L.Cl T
structure Post (L:aZ) (lo:Nat) (T T':Tab):Prop where
 ok:L.TOk lo T'
 low:∀ k,k<lo->tg T' k=tg T k
 at':lo<L.n->tg T' lo=L.B lo
 mono:∀ k,(tg T k).1≠0->(tg T' k).1≠0
variable {L:aZ}
theorem Cl.set {T:Tab}{lo:Nat}{v:Nat×Int}(hlt:lo<T.length) (hv:v.1≠0) (hc:L.Cl T) (hn:v.1<L.n->(tg T v.1).1≠0):L.Cl (T.set lo v):=λk hk h1 h2=>by
 have e:tg (T.set lo v) k=if k=lo then v else tg T k:=de hlt
 by_cases hkl:k=lo
 .rw[if_pos hkl] at e;rw[e] at h2 ⊢;rw[de hlt];split
  .exact hv
  .exact hn h2
 .rw[if_neg hkl] at e;rw[e] at h1 h2 ⊢;rw[de hlt];split
  .exact hv
  .exact hc k hk h1 h2
theorem wc {T:Tab}{lo:Nat}{v:Nat×Int}(hlt:lo<T.length) (hv:v.1≠0) (k:Nat) (h:(tg T k).1≠0):(tg (T.set lo v) k).1≠0:=by
 rw[de hlt];split
 .exact hv
 .exact h
theorem ya {c:Nat->Int}{b:Nat×Int}{x:Nat}(hx:x≠0):(a6 c b x).1≠0:=by
 unfold a6;split
 .exact hx
 .rename_i h;exact λe=>h (.inl e)
theorem TOk.up {lo hi:Nat}{T:Tab}(h:L.TOk lo T) (hl:lo<=hi):L.TOk hi T:=⟨h.len,λk hk=>h.inv k om,h.cl⟩
theorem B_ne (h:L.ok){lo:Nat}(hl:lo<L.n):(L.B lo).1≠0:=by
 have:=pos_lt h _ _ (B_spec h hl).1
 omega
theorem TOk.step (h:L.ok) (hn:L.n<=400){lo k:Nat}{T T1:Tab}(hl:lo<L.n) (hk:lo<k) (h4:L.TOk (lo+1) T) (p:L.Post k T T1):L.TOk (lo+1) (T1.set lo (a6 (L.cc lo) (tg T lo) k)):=by
 have hlt:lo<T1.length:=by rw[p.ok.len];omega
 refine⟨by rw[List.length_set,p.ok.len],λq hq=>?_,Cl.set hlt (ya om) p.ok.cl λhv=>?_⟩
 .rw[de hlt,if_neg om];by_cases e:q<k
  .rw[p.low q e];exact h4.inv q hq
  .exact p.ok.inv q om
 .unfold a6 at hv ⊢;split at hv
  .rw[if_pos asm];rw[p.at' hv];exact B_ne h hv
  .rename_i hb;rw[if_neg hb];have hb1:(tg T lo).1≠0:=λe=>hb (.inl e)
   exact p.mono _ (h4.cl lo hl hb1 hv)
theorem pZ (h:L.ok) (hn:L.n<=400){lo f:Nat}(hl:lo<L.n) (hf:L.n-lo<=f+1) (ih:∀ x T,x<=L.n->L.n-x<=f->L.TOk x T->L.Post x T (L.lst f x T)) :
  ∀ {j k:Nat} {T:Tab},L.last lo-k<=j->lo<=k->k<=L.last lo->L.TOk (lo+1) T->(tg T lo=(0,0)\/(tg T lo).1≠0)->(dX L.can k (L.last lo)).foldl (a6 (L.cc lo)) (tg T lo)=L.B lo->L.Post lo T (L.lstL (L.lst f) lo (dX L.can k (L.last lo)) T)
 | 0,k,T,h1,h2,h3,h4,h5,h6=>by
  obtain rfl:k=L.last lo:=by omega
  rw[m6] at h6 ⊢;simp only[List.foldl_nil,lstL] at h6 ⊢
  exact⟨⟨h4.len,λq hq=>by
   by_cases e:q=lo
   .subst e;exact .inr ⟨hl,h6⟩
   .exact h4.inv q om,h4.cl⟩,λ_ _=>rfl,λ_=>h6,λ_ h=>h⟩
 | j+1,k,T,h1,h2,h3,h4,h5,h6=>by
  by_cases hk:k=L.last lo
  .exact pZ h hn hl hf ih (j:=0) om h2 h3 h4 h5 h6
  by_cases hc:L.can (k+1)=true
  .have hp:=qb (can:=L.can) (show k<L.last lo by omega) hc;have hln:=(h.last hl).2.1;by_cases hb:L.m<L.w lo (k+1)/\0<(tg T lo).1/\(tg T lo).2<L.cst lo (k+1)
   .have h7:=JJ h hl (b:=tg T lo) om hb.1 hb.2.2 h2;rw[show(λx=>L.cst lo x+(L.B x).2)=L.cc lo from rfl,h6] at h7;rw[hp];simp only[lstL];rw[if_pos hb]
    exact⟨⟨h4.len,λq hq=>by
     by_cases e:q=lo
     .subst e;exact .inr ⟨hl,h7.symm⟩
     .exact h4.inv q om,h4.cl⟩,λ_ _=>rfl,λ_=>h7.symm,λ_ h=>h⟩
   .have p:=ih (k+1) T om om (h4.up om);rw[hp] at h6 ⊢;simp only[lstL,List.foldl_cons] at h6 ⊢;rw[if_neg hb];have hlt:lo<(L.lst f (k+1) T).length:=by rw[p.ok.len];omega
    have e2:tg ((L.lst f (k+1) T).set lo (a6 (L.cc lo) (tg T lo) (k+1))) lo=a6 (L.cc lo) (tg T lo) (k+1):=by rw[de hlt,if_pos rfl]
    have q:=pZ h hn hl hf ih (j:=j) (k:=k+1) (T:=(L.lst f (k+1) T).set lo (a6 (L.cc lo) (tg T lo) (k+1))) om om om
     (h4.step h hn hl om p)
     (by
      rw[e2];unfold a6;split
      .exact .inr si
      .exact h5)
     (by rw[e2];exact h6)
    refine⟨q.ok,λi hi=>?_,q.at',λi hi=>q.mono i (wc hlt (ya om) i (p.mono i hi))⟩;rw[q.low i hi,de hlt,if_neg om,p.low i om]
  .rw[uw (can:=L.can) (show k<L.last lo by omega) hc] at h6 ⊢;exact pZ h hn hl hf ih (j:=j) om om om h4 h5 h6
theorem lst_ok (h:L.ok) (hn:L.n<=400):∀ {f lo:Nat}{T:Tab},lo<=L.n->L.n-lo<=f->L.TOk lo T->L.Post lo T (L.lst f lo T)
 | 0,lo,T,h1,h2,h3=>⟨h3,λ_ _=>rfl,λh=>om,λ_ h=>h⟩
 | f+1,lo,T,h1,h2,h3=>by
  simp only[lst];by_cases hl:lo<L.n
  .rw[if_pos hl];have hla:=h.last hl;by_cases h0:0<(tg T lo).1
   .rw[if_pos h0];refine⟨h3,λ_ _=>rfl,λ_=>?_,λ_ h=>h⟩;rcases h3.inv lo (kP _) with e|e
    .rw[e] at h0;exact absurd h0 si
    .exact e.2
   .rw[if_neg h0];by_cases hw:L.w lo (L.last lo)<=L.m
    .rw[if_pos hw];have p:=lst_ok h hn (f:=f) (lo:=L.last lo) (T:=T) hla.2.1 om (h3.up om);have hlt:lo<(L.lst f (L.last lo) T).length:=by rw[p.ok.len];omega
     have hB:=B_fits h hl hw;refine⟨⟨by rw[List.length_set,p.ok.len],λq hq=>?_,Cl.set hlt (B_ne h hl) p.ok.cl λhv=>?_⟩,λi hi=>?_,λ_=>by rw[de hlt,if_pos rfl],λi hi=>wc hlt (B_ne h hl) i (p.mono i hi)⟩
     .rw[de hlt];split
      .rename_i e;subst e;exact .inr ⟨hl,rfl⟩
      .by_cases e:q<L.last lo
       .rw[p.low q e];exact h3.inv q hq
       .exact p.ok.inv q om
     .rw[hB] at hv ⊢;simp only at hv ⊢;rw[p.at' hv];exact B_ne h hv
     .rw[de hlt,if_neg om,p.low i om]
    .rw[if_neg hw]
     have hz:tg T lo=(0,0):=by
      rcases h3.inv lo (kP _) with e|e
      .exact e
      .exact absurd (by rw[e.2];exact B_ne h hl) (by omega:¬(tg T lo).1≠0)
     have e:L.pos lo=dX L.can lo (L.last lo):=by unfold pos;rw[if_pos hl]
     rw[e];refine pZ h hn hl h2 (λx T h1 h2 h3=>lst_ok h hn h1 h2 h3) (j:=L.last lo) om (kP _) om (h3.up om) (.inl hz) ?_;rw[hz,B_eq h hl,e];rfl
  .rw[if_neg hl];exact⟨h3,λ_ _=>rfl,λh=>absurd h hl,λ_ h=>h⟩
end aZ
end
section
open Go Go.Am Classical
theorem nB (d:Db) (text:List Int):Chn 0 (dY d text) text.length:=by
 letI:=gtR;exact pz (BO (fC (p:=d.lin) (text:=text)))
noncomputable def ju (d:Db) (text:List Int) (m:Int):aZ:=⟨text.length,kv (nD d text) (dY d text),bw (dY d text),ix d text,m⟩
theorem IB {d:Db}{text:List Int}{m:Int}(hx:text.length<=40) (hm:1<=m/\m<=1000):(ju d text m).ok:=by
 have hc:=nB d text;refine⟨λ{k} hk=>?_,λ{k x} hk h1 h2=>?_,λ{a b} hb=>?_,λ{a b c} h=>Cp d h,hm⟩
 .obtain⟨h1,h2,⟨r,h3,h4⟩,_⟩:=fT hc (Int.le_refl _) om (show(k:Int)<text.length from by have:k<text.length:=hk;omega);exact⟨h1,by show bw (dY d text) k<=text.length;omega,decide_eq_true (.inr ⟨r,h3,h4⟩)⟩
 .have hk':k<text.length:=hk;have h2':x<bw (dY d text) k:=h2;obtain⟨a1,a2,⟨r,a3,a4⟩,a5⟩:=fT hc (Int.le_refl _) om (show(k:Int)<text.length from om);obtain⟨b1,b2,⟨q,b3,b4⟩,b5⟩:=fT hc (Int.le_refl _) om (show(x:Int)<text.length from om);have c1:=b5 r a3 om;have c2:=a5 q b3 om;show bw (dY d text) x=bw (dY d text) k;omega
 .have:=qz d (text:=text) (a:=a) hb
  show 0<=ix d text a b/\ix d text a b<=80;omega
structure sB (d:Db) (text:List Int) (m:Int) (L:aZ) (O:List Int) (P:List Rng):Prop where
 n:L.n=text.length
 m:L.m=m
 can:∀ k,L.can k=kv O P k
 last:∀ k,L.last k=bw P k
 ok:L.ok
 len:text.length<=40
 lenO:O.length<=1000
 chk:@Pu gtR Tryz.prog 51 [dbD d] (i64 0)
 opp:@Pu gtR Tryz.prog 30 [dbD d,aC text] (.tup [aC O,i64 0])
 par:@Pu gtR Tryz.prog 31 [dbD d,aC text] (.tup [ax P,i64 0])
 chn:Chn 0 P text.length
 onl:∀ x∈O,0<=x/\x<=text.length
 wid:∀ a b,(a=0\/L.can a=true)->L.can b=true->a<b->b<=text.length->∃ e:Nat,a<=e/\e<=b/\@Pu gtR Tryz.prog 41 [dbD d,aC text,dE a b] (.tup [dE a e,i64 0])/\@Pu gtR Tryz.prog 42 [dbD d,aC (pce text a e)] (.tup [i64 (L.w a b),i64 0])
theorem zh {d:Db}{text:List Int}:∀ x∈nD d text,0<=x/\x<=text.length:=λx hx=>by
 letI:=gtR;obtain⟨i,rfl,h1,h2,h3,_⟩:=rI.1 hx;have:=fC (p:=d.lin) (text:=text)
 omega
theorem Good.lay {d:Db}(g:Good d){text:List Int}{m:Int}(hx:text.length<=40) (hm:1<=m/\m<=1000):sB d text m (ju d text m) (nD d text) (dY d text):=by
 letI:=gtR;refine⟨rfl,rfl,λ_=>rfl,λ_=>rfl,IB hx hm,hx,?_,g.chk,A6 g.ok g.sm g.va om,Hq g.ok g.sm g.va om,nB d text,zh,λa b _ _ hab hb=>?_⟩
 .exact Nat.le_trans iz (by rw[fC];omega)
 .refine⟨cA (nvL d text) a b,uZ _ _ _ om,pS _ _ _,HA g.ok g.sm g.va hx om hb,?_⟩;have h:=g.width (text:=pce text a (cA (nvL d text) a b:Nat)) (by simp only[List.length_take,List.length_drop];omega);exact h
noncomputable def jx (n:Nat) (O:List Int) (P:List Rng):List Bool:=(List.range (n+1)).map (kv O P)
def dw (n:Nat) (P:List Rng):List Int:=(List.range n).map λk=>(bw P k:Int)
theorem rt {n:Nat}{O:List Int}{P:List Rng}{k:Nat}(h:k<(jx n O P).length):(jx n O P)[k]=kv O P k:=by simp[jx]
theorem lM {n:Nat}{P:List Rng}{k:Nat}(h:k<(dw n P).length):(dw n P)[k]=(bw P k:Int):=by simp[dw]
theorem nZ (n:Nat) (O:List Int) (P:List Rng):(jx n O P).length=n+1:=by simp[jx]
theorem iy (n:Nat) (P:List Rng):(dw n P).length=n:=by simp[dw]
noncomputable abbrev lZ (d:Db) (text:List Int) (m:Int) (O:List Int) (P:List Rng):List D:=dbC d++[aC text,i64 m,ap (jx text.length O P),aC (dw text.length P)]
def rgL:Nat->List Nat->List Rng
 | _,[]=>[]
 | s,x::l=>⟨s,x⟩::rgL x l
theorem Jb {p:Prop}{i:Decidable p}(h:p):@decide p i=true:=decide_eq_true h
theorem Bf {p q:Prop}{i:Decidable p}{j:Decidable q}(h:p↔q):@decide p i=@decide q j:=decide_eq_decide.2 h
theorem j0 {α:Type}{l:List α}{i:Nat}(h:i<l.length){x:α}:x∈l.take (i+1)↔x=l[i]\/x∈l.take i:=by
 rw[List.take_add_one,List.getElem?_eq_getElem h,List.mem_append];simp only[Option.toList_some,List.mem_singleton];exact Or.comm
theorem uG {O:List Int}{P:List Rng}{i:Nat}(h:i<P.length){k:Nat}:decide ((k:Int)∈O\/∃ r∈P.take (i+1),r.hi=(k:Int))=if(k:Int)=P[i].hi then true else decide ((k:Int)∈O\/∃ r∈P.take i,r.hi=(k:Int)):=by
 by_cases hk:(k:Int)=P[i].hi
 .rw[if_pos hk];exact Jb (.inr ⟨P[i],(j0 h).2 (.inl rfl),hk.symm⟩)
 .rw[if_neg hk];refine Bf ⟨?_,?_⟩
  .rintro(h1|⟨r,hr,h1⟩)
   .exact .inl h1
   .rcases(j0 h).1 hr with rfl|hr
    .exact absurd h1.symm hk
    .exact .inr ⟨r,hr,h1⟩
  .rintro(h1|⟨r,hr,h1⟩)
   .exact .inl h1
   .exact .inr ⟨r,(j0 h).2 (.inr hr),h1⟩
theorem xP {O:List Int}{i:Nat}(h:i<O.length){k:Nat}:decide ((k:Int)∈O.take (i+1))=if(k:Int)=O[i] then true else decide ((k:Int)∈O.take i):=by
 by_cases hk:(k:Int)=O[i]
 .rw[if_pos hk];exact Jb ((j0 h).2 (.inl hk))
 .rw[if_neg hk];exact Bf ((j0 h).trans (or_iff_right hk))
end
section
open Go Go.Am Classical
theorem BU [GT] {h:aA}{fz:Nat->Bool}{σ:Nat->Option Nat}{id n cap:Nat}{b:List Rng}{cs:List D}{ex bx:Bool}(hf:fz id=true) (hg:h.get id=some (.cells cs bx)) (ec:cs=b.flatMap bm) (e:n=b.length):Rd h fz σ (.sl id 0 n cap 2 ex) (ax b):=
 AA hf hg ec e
theorem aZ.lends_fuel {L:aZ}(h:L.ok):∀ {f g lo:Nat},lo<=L.n->L.n-lo<=f->L.n-lo<=g->L.lends f lo=L.lends g lo
 | 0,0,_,_,_,_=>rfl
 | 0,g+1,lo,h0,h1,_=>by simp only[lends];rw[if_neg om]
 | f+1,0,lo,h0,_,h1=>by simp only[lends];rw[if_neg om]
 | f+1,g+1,lo,h0,h1,h2=>by
  simp only[lends];split
  .have h3:=pos_lt h _ _ (nxt_mem h (lo:=lo) asm);rw[lends_fuel h (f:=f) (g:=g) (lo:=L.nxt lo) h3.2 om om]
  .rfl
def aZ.lin (L:aZ) (lo:Nat):List Nat:=L.lends (L.n-lo) lo
theorem aZ.lin_eq {L:aZ}(h:L.ok){lo:Nat}(hl:lo<L.n):L.lin lo=L.nxt lo::L.lin (L.nxt lo):=by
 have h3:=pos_lt h _ _ (nxt_mem h hl);unfold lin;rw[show L.n-lo=(L.n-lo-1)+1 by omega];simp only[lends];rw[if_pos hl,lends_fuel h (f:=L.n-lo-1) (g:=L.n-L.nxt lo) h3.2 om (kP _)]
theorem aZ.lin_end {L:aZ}:L.lin L.n=[]:=by unfold lin;simp[lends]
theorem aZ.bends_fuel {L:aZ}(h:L.ok):∀ {f g lo:Nat},lo<=L.n->L.n-lo<=f->L.n-lo<=g->L.bends f lo=L.bends g lo
 | 0,0,_,_,_,_=>rfl
 | 0,g+1,lo,h0,h1,_=>by simp only[bends];rw[if_neg om]
 | f+1,0,lo,h0,_,h1=>by simp only[bends];rw[if_neg om]
 | f+1,g+1,lo,h0,h1,h2=>by
  simp only[bends];split
  .have h3:=pos_lt h _ _ (B_spec h (lo:=lo) asm).1;rw[bends_fuel h (f:=f) (g:=g) (lo:=(L.B lo).1) h3.2 om om]
  .rfl
def aZ.bin (L:aZ) (lo:Nat):List Nat:=L.bends (L.n-lo) lo
theorem aZ.bin_eq {L:aZ}(h:L.ok){lo:Nat}(hl:lo<L.n):L.bin lo=(L.B lo).1::L.bin (L.B lo).1:=by
 have h3:=pos_lt h _ _ (B_spec h hl).1;unfold bin;rw[show L.n-lo=(L.n-lo-1)+1 by omega];simp only[bends];rw[if_pos hl,bends_fuel h (f:=L.n-lo-1) (g:=L.n-(L.B lo).1) h3.2 om (kP _)]
theorem aZ.bin_end {L:aZ}:L.bin L.n=[]:=by unfold bin;simp[bends]
theorem aZ.bin_ok {L:aZ}(h:L.ok){lo:Nat}(hl:lo<=L.n):L.dvs lo (L.bin lo)/\L.sumD lo (L.bin lo)=(L.B lo).2:=ye h hl (kP _)
theorem vX {L:aZ}(h:L.ok):∀ {l:List Nat}{lo:Nat},lo<=L.n->L.dvs lo l->l.length+lo<=L.n
 | [],lo,h0,hd=>by simp;exact h0
 | x::l,lo,h0,hd=>by
  have h1:=aZ.pos_lt h _ _ hd.1;have h2:=vX h h1.2 hd.2;simp only[kO];omega
def cq (P:List Rng):List Int:=P.map (·.hi)
theorem kd {P:List Rng}{x:Int}:x∈cq P↔∃ r∈P,r.hi=x:=by simp[cq]
def up (l:List Nat):List Int:=l.map λx:Nat=>(x:Int)
theorem D2 (l:List Nat):(up l).length=l.length:=by simp[up]
theorem up_get {l:List Nat}{k:Nat}(h:k<l.length):(up l)[k]'(by rw[D2];exact h)=(l[k]:Int):=by simp[up]
theorem wl:∀ (l:List Nat) (s x:Nat),rgL s (l++[x])=rgL s l++[⟨(l.getLastD s:Nat),x⟩]
 | [],s,x=>by simp[rgL]
 | y::l,s,x=>by simp only[List.cons_append,rgL,wl l y x,List.getLastD_cons]
theorem uo:∀ (l:List Nat) (s:Nat),(rgL s l).length=l.length
 | [],_=>rfl
 | x::l,s=>by simp only[rgL,kO,uo l x]
theorem Cr {l:List Nat}{k:Nat}(h:k<l.length):(l.take (k+1)).getLastD 0=l[k]:=by
 rw[List.getLastD_eq_getLast?,List.take_add_one,List.getElem?_eq_getElem h,Option.toList_some,List.getLast?_concat];rfl
noncomputable def mX (L:aZ):Nat->List Int->Option Int
 | lo,[]=>if lo=L.n then some 0 else none
 | lo,x::l=>if lo<L.n/\(lo:Int)<x/\x<=(L.last lo:Int)/\L.can x.toNat=true then(mX L x.toNat l).map (L.cst lo x.toNat + ·) else none
theorem GB {L:aZ}{lo:Nat}{x:Int}{l:List Int}(h:lo<L.n/\(lo:Int)<x/\x<=(L.last lo:Int)/\L.can x.toNat=true) (s:Int):(mX L lo (x::l)).map (s + ·)=(mX L x.toNat l).map (s+L.cst lo x.toNat + ·):=by
 simp only[mX];rw[if_pos h,Option.map_map];congr 1;funext y;simp only[Function.comp];omega
theorem Im {L:aZ}{lo:Nat}{x:Int}{l:List Int}(h:¬(lo<L.n/\(lo:Int)<x/\x<=(L.last lo:Int)/\L.can x.toNat=true)):mX L lo (x::l)=none:=by
 simp only[mX];rw[if_neg h]
noncomputable def knV (L:aZ) (s k:Nat):Nat×Int:=if s<=k/\(k=0\/L.can k=true) then L.B k else(0,0)
theorem FZ {L:aZ}{s k:Nat}(h0:s≠0) (hc:¬L.can s=true):knV L s k=knV L (s+1) k:=by
 unfold knV;by_cases e:k=s
 .subst e;rw[if_neg λh=>h.2.elim h0 hc,if_neg λh=>by have:=h.1;omega]
 .by_cases h:s+1<=k/\(k=0\/L.can k=true)
  .rw[if_pos h,if_pos ⟨om,h.2⟩]
  .rw[if_neg h,if_neg λh'=>h ⟨om,h'.2⟩]
theorem IG {L:aZ}{s k:Nat}(hc:s=0\/L.can s=true):knV L s k=if k=s then L.B s else knV L (s+1) k:=by
 unfold knV;by_cases e:k=s
 .subst e;rw[if_pos ⟨kP _,hc⟩,if_pos rfl]
 .rw[if_neg e];by_cases h:s+1<=k/\(k=0\/L.can k=true)
  .rw[if_pos h,if_pos ⟨om,h.2⟩]
  .rw[if_neg h,if_neg λh'=>h ⟨om,h'.2⟩]
theorem Iy {L:aZ}(h:L.ok):L.dvs 0 (L.bin 0):=(aZ.bin_ok h (Nat.zero_le _)).1
end
section
open Go Go.Am Classical
abbrev nilP:D:=.v (.pointer none)
theorem Ie {d:Db}{text:List Int}{k:Int}(ho:d.ok):@Pu gtR Tryz.prog 4 [dbD d,aC text,i64 k] (boo (decide (SmD d/\(text.length:Int)<=k))):=by
 letI:=gtR;have h:=F3 ho;refine pv Tryz.func4 ?_;repeat' ((conv=>whnf);first|exact kQ|(refine bk ?_ ?_<;>intro _<;>try exact exo)|refine stq ?_|refine cd h (λ_=>?_) (λ_=>?_)|fail)
 all_goals(conv=>whnf)
 all_goals first
  | exact aD.yes ⟨asm,om⟩
  | exact aD.no (λhc=>by have:=hc.2;omega)
  | exact aD.no (λhc=>by have:=hc.1;contradiction)
theorem Eo {d:Db}{text:List Int}{m:Int}(g:Good d) (hx:text.length<=900) (hm:¬(1<=m/\m<=1000)):@Pu gtR Tryz.prog 13 [dbD d,aC text,i64 m] (.tup [nilP,i64 1]):=by
 letI:=gtR;have hO:=A6 (text:=text) g.ok g.sm g.va om;refine pv Tryz.func13 ?_;repeat' ((conv=>whnf);first|exact kQ|(refine bk ?_ ?_<;>intro _<;>try exact exo)|refine stq ?_|refine cp hO ?_|fail)
 all_goals(conv=>whnf)
 all_goals first
  | exact⟨Rd.eqd rfl rfl⟩
  | (exfalso;omega)
theorem Hl {d:Db}{text:List Int}{m:Int}(ho:d.ok) (hs:SmD d) (hv:¬DbV d):@Pu gtR Tryz.prog 13 [dbD d,aC text,i64 m] (.tup [nilP,i64 11]):=by
 letI:=gtR;have hO:=opp_no (text:=text) ho hs hv;refine pv Tryz.func13 ?_;repeat' ((conv=>whnf);first|exact kQ|(refine bk ?_ ?_<;>intro _<;>try exact exo)|refine stq ?_|refine cp hO ?_|fail)
 (conv=>whnf)
 exact⟨Rd.eqd rfl rfl⟩
theorem B4 {d:Db}{text:List Int}{m e:Int}(h0:e≠0) (hp:@Pu gtR Tryz.prog 13 [dbD d,aC text,i64 m] (.tup [nilP,i64 e])):@Pu gtR Tryz.prog 6 [dbD d,aC text,i64 m] (.tup [aJ,i64 0,i64 e]):=by
 letI:=gtR;refine pv Tryz.func6 ?_;repeat' ((conv=>whnf);first|exact kQ|(refine bk ?_ ?_<;>intro _<;>try exact exo)|refine stq ?_|refine cp hp ?_|fail)
 (conv=>whnf)
 exact⟨Rd.eqd rfl rfl⟩
end
end Go.Proofs.YtlimkdlhldlolaaGreatDoor
