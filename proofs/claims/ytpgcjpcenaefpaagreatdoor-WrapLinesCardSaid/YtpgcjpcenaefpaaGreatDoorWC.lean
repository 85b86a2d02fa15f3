/-
  Layer 36, plain: where lines can end; the longest line; the best division. No program in sight.
-/
import Derived.Test.YtpgcjpcenaefpaaGreatDoorO0
import Derived.Test.YtpgcjpcenaefpaaGreatDoorJ1
set_option linter.unusedSectionVars false
namespace Go.Proofs.YtpgcjpcenaefpaaGreatDoor
section
open Go Go.Am Classical
set_option maxRecDepth 100000
def cG:List Rng->Nat->Nat
 | [],_=>0
 | r::P,k=>if(k:Int)<r.hi then r.hi.toNat else cG P k
noncomputable def mP (O:List Int) (P:List Rng) (k:Nat):Bool:=decide ((k:Int)∈O\/∃ r∈P,r.hi=(k:Int))
theorem vV:∀ {P:List Rng}{s e:Int}{r:Rng},Chn s P e->r∈P->s<=r.lo/\r.lo<r.hi/\r.hi<=e
 | q::P,s,e,r,h,hr=>by
  have h1:=h.1;have h2:=h.2.1;have h3:=oG h.2.2;rcases List.mem_cons.1 hr with rfl|hr
  .omega
  .have:=vV h.2.2 hr;omega
theorem xV:∀ {P:List Rng}{s e:Int}{k i:Nat}(_:Chn s P e) (hi:i<P.length),P[i].lo<=(k:Int)->(k:Int)<P[i].hi->cG P k=P[i].hi.toNat
 | r::P,s,e,k,0,h,_,_,h2=>by simp only[List.getElem_cons_zero] at h2 ⊢;simp only[cG];rw[if_pos h2]
 | r::P,s,e,k,i+1,h,hi,h1,h2=>by
  simp only[List.getElem_cons_succ] at h1 h2 ⊢;have h3:=vV h.2.2 (kM (by simpa using hi:i<P.length));simp only[cG];rw[if_neg om];exact xV h.2.2 (by simpa using hi) h1 h2
theorem gk:∀ {P:List Rng}{s e:Int}{k:Nat},Chn s P e->0<=s->s<=(k:Int)->(k:Int)<e->k<cG P k/\(cG P k:Int)<=e/\(∃ r∈P,r.hi=(cG P k:Int))/\∀ r∈P,(k:Int)<r.hi->(cG P k:Int)<=r.hi
 | [],s,e,k,h,_,h1,h2=>by have:s=e:=h;omega
 | r::P,s,e,k,h,h0,h1,h2=>by
  have e1:=h.1;have e2:=h.2.1;have e3:=oG h.2.2;simp only[cG];by_cases hk:(k:Int)<r.hi
  .rw[if_pos hk];refine⟨om,om,⟨r,si,om⟩,λq hq hl=>?_⟩;rcases List.mem_cons.1 hq with rfl|hq
   .omega
   .have:=vV h.2.2 hq;omega
  .rw[if_neg hk];obtain⟨q1,q2,⟨q,q3,q4⟩,q5⟩:=gk h.2.2 om om h2;refine⟨q1,q2,⟨q,by simp[q3],q4⟩,λu hu hl=>?_⟩;rcases List.mem_cons.1 hu with rfl|hu
   .exact absurd hl hk
   .exact q5 u hu hl
def fe (can:Nat->Bool) (lo hi:Nat):List Nat:=(List.range' (lo+1) (hi-lo)).filter can
theorem wj (can:Nat->Bool) (k:Nat):fe can k k=[]:=by simp[fe]
theorem EU {can:Nat->Bool}{k hi:Nat}(h:k<hi) (hc:can (k+1)=true):fe can k hi=(k+1)::fe can (k+1) hi:=by
 unfold fe;rw[show hi-k=(hi-(k+1))+1 by omega,List.range'_succ,List.filter_cons_of_pos hc]
theorem HK {can:Nat->Bool}{k hi:Nat}(h:k<hi) (hc:¬can (k+1)=true):fe can k hi=fe can (k+1) hi:=by
 unfold fe;rw[show hi-k=(hi-(k+1))+1 by omega,List.range'_succ,List.filter_cons_of_neg hc]
theorem wk {can:Nat->Bool}{lo hi x:Nat}:x∈fe can lo hi↔(lo<x/\x<=hi)/\can x=true:=by
 unfold fe;rw[List.mem_filter,List.mem_range'_1];constructor
 .rintro⟨h1,h2⟩;exact⟨om,h2⟩
 .rintro⟨h1,h2⟩;exact⟨om,h2⟩
theorem EV (can:Nat->Bool) (lo hi:Nat):(fe can lo hi).Pairwise (· < ·):=(List.pairwise_lt_range').filter _
theorem CA {can:Nat->Bool}{lo k:Nat}(h:lo<=k):fe can lo (k+1)=fe can lo k++(if can (k+1)=true then [k+1] else []):=by
 unfold fe;rw[show k+1-lo=(k-lo)+1 by omega,List.range'_concat,List.filter_append,show lo+1+1*(k-lo)=k+1 by omega];congr 1;split
 .rename_i hc;rw[List.filter_cons_of_pos hc];rfl
 .rename_i hc;rw[List.filter_cons_of_neg hc];rfl
def gg (w:Nat->Int) (n:Int) (lo:Nat):Nat->List Nat->Nat
 | e,[]=>e
 | e,x::l=>if n<w x then(if lo<e then e else x) else gg w n lo x l
def fw (w:Nat->Int) (n:Int):Nat->List Nat->Nat
 | e,[]=>e
 | e,x::l=>fw w n (if w x<=n then x else e) l
theorem mF {w:Nat->Int}{n:Int}:∀ {l:List Nat}{e:Nat},(∀ x∈l,n<w x)->fw w n e l=e
 | [],e,_=>rfl
 | x::l,e,h=>by
  simp only[fw];rw[if_neg (by have:=h x si;omega)];exact mF λy hy=>h y (by simp[hy])
theorem A5 {w:Nat->Int}{n:Int}{lo:Nat}(hw:∀ x y,x<=y->w x<=w y):∀ {l:List Nat}{e:Nat},lo<e->(∀ x∈l,lo<x)->l.Pairwise (· < ·)->gg w n lo e l=fw w n e l
 | [],e,_,_,_=>rfl
 | x::l,e,h0,h1,h2=>by
  have h3:=List.pairwise_cons.1 h2;simp only[gg,fw];by_cases h:n<w x
  .rw[if_pos h,if_pos h0,if_neg om,mF];intro y hy;have:=hw x y (by have:=h3.1 y hy;omega)
   omega
  .rw[if_neg h,if_pos om];exact A5 hw (h1 x si) (λy hy=>h1 y (by simp[hy])) h3.2
theorem E3 {w:Nat->Int}{n:Int}{lo x:Nat}{l:List Nat}(hw:∀ x y,x<=y->w x<=w y) (h1:∀ y∈x::l,lo<y) (h2:(x::l).Pairwise (· < ·)):gg w n lo lo (x::l)=fw w n x (x::l):=by
 have h3:=List.pairwise_cons.1 h2;simp only[gg,fw];by_cases h:n<w x
 .rw[if_pos h,if_neg (Nat.lt_irrefl _),if_neg om,mF];intro y hy;have:=hw x y (by have:=h3.1 y hy;omega)
  omega
 .rw[if_neg h,if_pos om];exact A5 hw (h1 x si) (λy hy=>h1 y (by simp[hy])) h3.2
theorem tR {w:Nat->Int}{n:Int}{lo:Nat}:∀ {l:List Nat}{e:Nat},(gg w n lo e l=e/\(l=[]\/lo<e))\/gg w n lo e l∈l
 | [],e=>.inl ⟨rfl,.inl rfl⟩
 | x::l,e=>by
  simp only[gg];split
  .split
   .rename_i h;exact .inl ⟨rfl,.inr h⟩
   .exact .inr si
  .rcases tR (w:=w) (n:=n) (lo:=lo) (l:=l) (e:=x) with⟨h,_⟩|h
   .exact .inr (by rw[h];simp)
   .exact .inr (by simp[h])
def I6 (c:Nat->Int) (b:Nat×Int) (x:Nat):Nat×Int:=if b.1=0\/c x<=b.2 then(x,c x) else b
def bst (c:Nat->Nat->Int) (pos:Nat->List Nat):Nat->Nat->Nat×Int
 | 0,_=>(0,0)
 | f+1,lo=>(pos lo).foldl (I6 λx=>c lo x+(bst c pos f x).2) (0,0)
def JQ (c:Nat->Nat->Int) (pos:Nat->List Nat) (n lo:Nat):Nat×Int:=bst c pos (n-lo) lo
end
section
open Go Go.Am Classical
set_option maxRecDepth 100000
structure bU where
 n:Nat
 can:Nat->Bool
 last:Nat->Nat
 w:Nat->Nat->Int
 m:Int
namespace bU
def cst (L:bU) (lo hi:Nat):Int:=if 0<L.w lo hi-L.m then(L.w lo hi-L.m)*(L.w lo hi-L.m)*1000 else if hi=L.last lo then 0 else(L.w lo hi-L.m)*(L.w lo hi-L.m)
def pos (L:bU) (lo:Nat):List Nat:=if lo<L.n then fe L.can lo (L.last lo) else []
def B (L:bU) (lo:Nat):Nat×Int:=JQ L.cst L.pos L.n lo
structure ok (L:bU):Prop where
 last:∀ {k},k<L.n->k<L.last k/\L.last k<=L.n/\L.can (L.last k)=true
 same:∀ {k x},k<L.n->k<=x->x<L.last k->L.last x=L.last k
 w0:∀ {a b},b<=L.n->0<=L.w a b/\L.w a b<=80
 wm:∀ {a b c},b<=c->L.w a b<=L.w a c
 m1:1<=L.m/\L.m<=1000
variable {L:bU}
theorem sq_range {o:Int}(h1:-1000<=o) (h2:o<=1000):0<=o*o/\o*o<=1000000:=by
 have:o*o=(o.natAbs*o.natAbs:Nat):=by rw[Int.natAbs_mul_self]
 have h:o.natAbs<=1000:=om;have:=Nat.mul_le_mul h h
 omega
theorem cst_range (h:L.ok){lo hi:Nat}(hh:hi<=L.n):0<=L.cst lo hi/\L.cst lo hi<=1000000000:=by
 have h1:=h.w0 (a:=lo) hh;have h2:=h.m1;have h3:=sq_range (o:=L.w lo hi-L.m) om om;unfold cst;split
 .omega
 .split<;>omega
theorem pos_mem (_h:L.ok){lo x:Nat}(hx:x∈L.pos lo):lo<L.n/\lo<x/\x<=L.last lo/\L.can x=true:=by
 unfold pos at hx;split at hx
 .have:=wk.1 hx;exact⟨asm,this.1.1,this.1.2,this.2⟩
 .cases hx
theorem Hd {lo x:Nat}(h0:lo<L.n) (h1:lo<x) (h2:x<=L.last lo) (h3:L.can x=true):x∈L.pos lo:=by
 unfold pos;rw[if_pos h0];exact wk.2 ⟨⟨h1,h2⟩,h3⟩
theorem pos_lt (h:L.ok):∀ lo x,x∈L.pos lo->lo<x/\x<=L.n:=λlo x hx=>by
 obtain⟨h1,h2,h3,_⟩:=pos_mem h hx;have:=(h.last h1).2.1
 omega
theorem pos_ne (h:L.ok){lo:Nat}(hl:lo<L.n):∃ x l,L.pos lo=x::l:=by
 have h1:=h.last hl;have h2:=Hd hl h1.1 (kP _) h1.2.2;cases e:L.pos lo with
 | nil=>rw[e] at h2;cases h2
 | cons x l=>exact⟨x,l,rfl⟩
def dvs (L:bU):Nat->List Nat->Prop
 | lo,[]=>lo=L.n
 | lo,x::l=>x∈L.pos lo/\dvs L x l
def nxt (L:bU) (lo:Nat):Nat:=gg (L.w lo) L.m lo lo (L.pos lo)
theorem pos_asc {lo:Nat}:(L.pos lo).Pairwise (· < ·):=by
 unfold pos;split
 .exact EV _ _ _
 .exact List.Pairwise.nil
theorem nxt_mem (h:L.ok){lo:Nat}(hl:lo<L.n):L.nxt lo∈L.pos lo:=by
 obtain⟨x,l,e⟩:=pos_ne h hl;unfold nxt;rcases tR (w:=L.w lo) (n:=L.m) (lo:=lo) (l:=L.pos lo) (e:=lo) with⟨_,h1⟩|h1
 .rcases h1 with h1|h1
  .rw[e] at h1;cases h1
  .omega
 .exact h1
def lends (L:bU):Nat->Nat->List Nat
 | 0,_=>[]
 | f+1,lo=>if lo<L.n then L.nxt lo::lends L f (L.nxt lo) else []
theorem lends_ok (h:L.ok):∀ {f lo:Nat},lo<=L.n->L.n-lo<=f->L.dvs lo (L.lends f lo)
 | 0,lo,h0,h1=>show lo=L.n by omega
 | f+1,lo,h0,h1=>by
  simp only[lends];by_cases hl:lo<L.n
  .rw[if_pos hl];have h2:=nxt_mem h hl;have h4:=pos_lt h _ _ h2;exact⟨h2,lends_ok h h4.2 om⟩
  .rw[if_neg hl];show lo=L.n;omega
end bU
end
section
open Go Go.Am Classical
set_option maxRecDepth 100000
abbrev Tab:=List (Nat×Int)
def tg (T:Tab) (k:Nat):Nat×Int:=T.getD k (0,0)
namespace bU
def cc (L:bU) (lo x:Nat):Int:=L.cst lo x+(L.B x).2
def lstL (L:bU) (g:Nat->Tab->Tab) (lo:Nat):List Nat->Tab->Tab
 | [],T=>T
 | x::l,T=>if L.m<L.w lo x/\0<(tg T lo).1/\(tg T lo).2<L.cst lo x then T else lstL L g lo l ((g x T).set lo (I6 (L.cc lo) (tg T lo) x))
def lst (L:bU):Nat->Nat->Tab->Tab
 | 0,_,T=>T
 | f+1,lo,T=>if lo<L.n then(if 0<(tg T lo).1 then T else if L.w lo (L.last lo)<=L.m then(lst L f (L.last lo) T).set lo (L.B lo) else lstL L (lst L f) lo (L.pos lo) T) else T
variable {L:bU}
end bU
end
section
open Go Go.Am Classical
set_option maxRecDepth 100000
theorem qX (d:Db) (text:List Int):Chn 0 (jL d text) text.length:=by
 letI:=gtR;exact pd (A9 (e7 (p:=d.lin) (text:=text)))
noncomputable def dY (d:Db) (text:List Int) (m:Int):bU:=⟨text.length,mP (ut d text) (jL d text),cG (jL d text),mH d text,m⟩
theorem Hk {d:Db}{text:List Int}{m:Int}(hx:text.length<=40) (hm:1<=m/\m<=1000):(dY d text m).ok:=by
 have hc:=qX d text;refine⟨λ{k} hk=>?_,λ{k x} hk h1 h2=>?_,λ{a b} hb=>?_,λ{a b c} h=>tT d h,hm⟩
 .obtain⟨h1,h2,⟨r,h3,h4⟩,_⟩:=gk hc (Int.le_refl _) om (show(k:Int)<text.length from by have:k<text.length:=hk;omega);exact⟨h1,by show cG (jL d text) k<=text.length;omega,decide_eq_true (.inr ⟨r,h3,h4⟩)⟩
 .have hk':k<text.length:=hk;have h2':x<cG (jL d text) k:=h2;obtain⟨a1,a2,⟨r,a3,a4⟩,a5⟩:=gk hc (Int.le_refl _) om (show(k:Int)<text.length from om);obtain⟨b1,b2,⟨q,b3,b4⟩,b5⟩:=gk hc (Int.le_refl _) om (show(x:Int)<text.length from om);have c1:=b5 r a3 om;have c2:=a5 q b3 om;show cG (jL d text) x=cG (jL d text) k;omega
 .have:=zi d (text:=text) (a:=a) hb
  show 0<=mH d text a b/\mH d text a b<=80;omega
structure v8 (d:Db) (text:List Int) (m:Int) (L:bU) (O:List Int) (P:List Rng):Prop where
 n:L.n=text.length
 m:L.m=m
 can:∀ k,L.can k=mP O P k
 last:∀ k,L.last k=cG P k
 ok:L.ok
 len:text.length<=40
 lenO:O.length<=1000
 chk:@Pu gtR Tryz.prog 57 [dbD d] (i64 0)
 opp:@Pu gtR Tryz.prog 14 [dbD d,aD text] (.tup [aD O,i64 0])
 par:@Pu gtR Tryz.prog 15 [dbD d,aD text] (.tup [aq P,i64 0])
 chn:Chn 0 P text.length
 onl:∀ x∈O,0<=x/\x<=text.length
 wid:∀ a b,(a=0\/L.can a=true)->L.can b=true->a<b->b<=text.length->∃ e:Nat,a<=e/\e<=b/\@Pu gtR Tryz.prog 38 [dbD d,aD text,dK a b] (.tup [dK a e,i64 0])/\@Pu gtR Tryz.prog 39 [dbD d,aD (pce text a e)] (.tup [i64 (L.w a b),i64 0])
theorem zS {d:Db}{text:List Int}:∀ x∈ut d text,0<=x/\x<=text.length:=λx hx=>by
 letI:=gtR;obtain⟨i,rfl,h1,h2,h3,_⟩:=rB.1 hx;have:=e7 (p:=d.lin) (text:=text)
 omega
theorem Good.lay {d:Db}(g:Good d){text:List Int}{m:Int}(hx:text.length<=40) (hm:1<=m/\m<=1000):v8 d text m (dY d text m) (ut d text) (jL d text):=by
 letI:=gtR;refine⟨rfl,rfl,λ_=>rfl,λ_=>rfl,Hk hx hm,hx,?_,g.chk,Ap g.ok g.sm g.va om,HQ g.ok g.sm g.va om,qX d text,zS,λa b _ _ hab hb=>?_⟩
 .exact Nat.le_trans ix (by rw[e7];omega)
 .refine⟨b6 (nvL d text) a b,uS _ _ _ om,pH _ _ _,Gg g.ok g.sm g.va hx om hb,?_⟩;have h:=g.width (text:=pce text a (b6 (nvL d text) a b:Nat)) (by simp only[List.length_take,List.length_drop];omega);exact h
noncomputable def mQ (n:Nat) (O:List Int) (P:List Rng):List Bool:=(List.range (n+1)).map (mP O P)
def fC (n:Nat) (P:List Rng):List Int:=(List.range n).map λk=>(cG P k:Int)
theorem yI {n:Nat}{O:List Int}{P:List Rng}{k:Nat}(h:k<(mQ n O P).length):(mQ n O P)[k]=mP O P k:=by simp[mQ]
theorem n6 {n:Nat}{P:List Rng}{k:Nat}(h:k<(fC n P).length):(fC n P)[k]=(cG P k:Int):=by simp[fC]
theorem re (n:Nat) (O:List Int) (P:List Rng):(mQ n O P).length=n+1:=by simp[mQ]
theorem lG (n:Nat) (P:List Rng):(fC n P).length=n:=by simp[fC]
noncomputable abbrev sI (d:Db) (text:List Int) (m:Int) (O:List Int) (P:List Rng):List D:=dbC d++[aD text,i64 m,az (mQ text.length O P),aD (fC text.length P)]
def rgL:Nat->List Nat->List Rng
 | _,[]=>[]
 | s,x::l=>⟨s,x⟩::rgL x l
theorem I5 {p:Prop}{i:Decidable p}(h:p):@decide p i=true:=decide_eq_true h
theorem BN {p q:Prop}{i:Decidable p}{j:Decidable q}(h:p↔q):@decide p i=@decide q j:=decide_eq_decide.2 h
theorem jv {α:Type}{l:List α}{i:Nat}(h:i<l.length){x:α}:x∈l.take (i+1)↔x=l[i]\/x∈l.take i:=by
 rw[List.take_add_one,List.getElem?_eq_getElem h,List.mem_append];simp only[Option.toList_some,List.mem_singleton];exact Or.comm
theorem t5 {O:List Int}{P:List Rng}{i:Nat}(h:i<P.length){k:Nat}:decide ((k:Int)∈O\/∃ r∈P.take (i+1),r.hi=(k:Int))=if(k:Int)=P[i].hi then true else decide ((k:Int)∈O\/∃ r∈P.take i,r.hi=(k:Int)):=by
 by_cases hk:(k:Int)=P[i].hi
 .rw[if_pos hk];exact I5 (.inr ⟨P[i],(jv h).2 (.inl rfl),hk.symm⟩)
 .rw[if_neg hk];refine BN ⟨?_,?_⟩
  .rintro(h1|⟨r,hr,h1⟩)
   .exact .inl h1
   .rcases(jv h).1 hr with rfl|hr
    .exact absurd h1.symm hk
    .exact .inr ⟨r,hr,h1⟩
  .rintro(h1|⟨r,hr,h1⟩)
   .exact .inl h1
   .exact .inr ⟨r,(jv h).2 (.inr hr),h1⟩
theorem xD {O:List Int}{i:Nat}(h:i<O.length){k:Nat}:decide ((k:Int)∈O.take (i+1))=if(k:Int)=O[i] then true else decide ((k:Int)∈O.take i):=by
 by_cases hk:(k:Int)=O[i]
 .rw[if_pos hk];exact I5 ((jv h).2 (.inl hk))
 .rw[if_neg hk];exact BN ((jv h).trans (or_iff_right hk))
end
section
open Go Go.Am Classical
set_option maxRecDepth 100000
theorem FV [GT] {h:aA}{fz:Nat->Bool}{σ:Nat->Option Nat}{id n cap:Nat}{b:List Rng}{cs:List D}{ex bx:Bool}(hf:fz id=true) (hg:h.get id=some (.cells cs bx)) (ec:cs=b.flatMap bm) (e:n=b.length):Rd h fz σ (.sl id 0 n cap 2 ex) (aq b):=
 zq hf hg ec e
theorem bU.lends_fuel {L:bU}(h:L.ok):∀ {f g lo:Nat},lo<=L.n->L.n-lo<=f->L.n-lo<=g->L.lends f lo=L.lends g lo
 | 0,0,_,_,_,_=>rfl
 | 0,g+1,lo,h0,h1,_=>by simp only[lends];rw[if_neg om]
 | f+1,0,lo,h0,_,h1=>by simp only[lends];rw[if_neg om]
 | f+1,g+1,lo,h0,h1,h2=>by
  simp only[lends];split
  .have h3:=pos_lt h _ _ (nxt_mem h (lo:=lo) asm);rw[lends_fuel h (f:=f) (g:=g) (lo:=L.nxt lo) h3.2 om om]
  .rfl
def bU.lin (L:bU) (lo:Nat):List Nat:=L.lends (L.n-lo) lo
theorem bU.lin_eq {L:bU}(h:L.ok){lo:Nat}(hl:lo<L.n):L.lin lo=L.nxt lo::L.lin (L.nxt lo):=by
 have h3:=pos_lt h _ _ (nxt_mem h hl);unfold lin;rw[show L.n-lo=(L.n-lo-1)+1 by omega];simp only[lends];rw[if_pos hl,lends_fuel h (f:=L.n-lo-1) (g:=L.n-L.nxt lo) h3.2 om (kP _)]
theorem bU.lin_end {L:bU}:L.lin L.n=[]:=by unfold lin;simp[lends]
theorem vP {L:bU}(h:L.ok):∀ {l:List Nat}{lo:Nat},lo<=L.n->L.dvs lo l->l.length+lo<=L.n
 | [],lo,h0,hd=>by simp;exact h0
 | x::l,lo,h0,hd=>by
  have h1:=bU.pos_lt h _ _ hd.1;have h2:=vP h h1.2 hd.2;simp only[kO];omega
def gz (P:List Rng):List Int:=P.map (·.hi)
theorem qm {P:List Rng}{x:Int}:x∈gz P↔∃ r∈P,r.hi=x:=by simp[gz]
def up (l:List Nat):List Int:=l.map λx:Nat=>(x:Int)
theorem uQ (l:List Nat):(up l).length=l.length:=by simp[up]
theorem J1 {l:List Nat}{k:Nat}(h:k<l.length):(up l)[k]'(by rw[uQ];exact h)=(l[k]:Int):=by simp[up]
theorem wX:∀ (l:List Nat) (s x:Nat),rgL s (l++[x])=rgL s l++[⟨(l.getLastD s:Nat),x⟩]
 | [],s,x=>by simp[rgL]
 | y::l,s,x=>by simp only[List.cons_append,rgL,wX l y x,List.getLastD_cons]
theorem ug:∀ (l:List Nat) (s:Nat),(rgL s l).length=l.length
 | [],_=>rfl
 | x::l,s=>by simp only[rgL,kO,ug l x]
theorem Ca {l:List Nat}{k:Nat}(h:k<l.length):(l.take (k+1)).getLastD 0=l[k]:=by
 rw[List.getLastD_eq_getLast?,List.take_add_one,List.getElem?_eq_getElem h,Option.toList_some,List.getLast?_concat];rfl
noncomputable def mO (L:bU):Nat->List Int->Option Int
 | lo,[]=>if lo=L.n then some 0 else none
 | lo,x::l=>if lo<L.n/\(lo:Int)<x/\x<=(L.last lo:Int)/\L.can x.toNat=true then(mO L x.toNat l).map (L.cst lo x.toNat + ·) else none
theorem Fm {L:bU}{lo:Nat}{x:Int}{l:List Int}(h:lo<L.n/\(lo:Int)<x/\x<=(L.last lo:Int)/\L.can x.toNat=true) (s:Int):(mO L lo (x::l)).map (s + ·)=(mO L x.toNat l).map (s+L.cst lo x.toNat + ·):=by
 simp only[mO];rw[if_pos h,Option.map_map];congr 1;funext y;simp only[Function.comp];omega
theorem IF {L:bU}{lo:Nat}{x:Int}{l:List Int}(h:¬(lo<L.n/\(lo:Int)<x/\x<=(L.last lo:Int)/\L.can x.toNat=true)):mO L lo (x::l)=none:=by
 simp only[mO];rw[if_neg h]
end
end Go.Proofs.YtpgcjpcenaefpaaGreatDoor
