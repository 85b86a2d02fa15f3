/-
  The abstract machine: what Go code does to abstract values, and that it does so in the model. No condition beyond what each theorem says.
-/
import Derived.Test.YtjpgpihbhicinaaGreatDoorAmD
import Derived.Test.YtjpgpihbhicinaaGreatDoorAmB
import Derived.Test.YtjpgpihbhicinaaGreatDoorAmC
set_option linter.unusedSectionVars false
/-
 The abstract machine,part 40: a contract at a small heap serves at a great one: calls that borrow boxes,write them and hand them back.
-/
namespace Go.Am
variable [GT]
def kx (n:Nat):List (Nat×Nat)→Bool
 | []=>true
 | (a,b)::l=>Nat.blt a n&&l.all (fun p=>p.1 != a&&p.2 != b)&&kx n l
def dY (sl:List (Nat×Nat)) (N n:Nat) (j:Nat):Option Nat:=if j<N then lkN (sl.map fun p=>(p.2,p.1)) j else some (j-N+n)
theorem jj {n:Nat}:∀ {l:List (Nat×Nat)},kx n l=true→∀ a b,lkN l a=some b→a<n
 | [],_,a,b,h=>by simp[lkN] at h
 | (x,y)::l,hp,a,b,h=>by
  simp only[kx,kC] at hp;simp only[lkN] at h;split at h
  ·rename_i e;subst e;simpa [Nat.blt_eq] using hp.1.1
  ·exact jj hp.2 a b h
theorem iE:∀ {l:List (Nat×Nat)}{n a b:Nat},kx n l=true→lkN (l.map fun p=>(p.2,p.1)) b=some a→lkN l a=some b
 | [],_,a,b,_,h=>by simp[lkN] at h
 | (x,y)::l,n,a,b,hp,h=>by
  simp only[kx,kC,kL,bne_iff_ne] at hp;simp only[List.map_cons,lkN] at h ⊢;split at h
  ·rename_i e;injection h with h;subst e;subst h;simp
  ·have h':=iE hp.2 h
   have hne:¬x=a:=fun e=>by
    subst e;obtain⟨p,h1,h2⟩:=lkN_key h';exact(hp.1.2 p h1).1 h2
   rw[if_neg hne];exact h'
where
 lkN_key:∀ {l:List (Nat×Nat)} {j b:Nat},lkN l j=some b→∃ p∈l,p.1=j
  | [],j,b,h=>by simp[lkN] at h
  | (x,y)::l,j,b,h=>by
   simp only[lkN] at h;split at h
   ·rename_i e;exact⟨(x,y),by simp,e⟩
   ·obtain⟨p,h1,h2⟩:=lkN_key h;exact⟨p,by simp[h1],h2⟩
theorem rx {n:Nat}:∀ {l:List (Nat×Nat)},kx n l=true→∀ i j b,lkN l i=some b→lkN l j=some b→i=j
 | [],_,i,j,b,h,_=>by simp[lkN] at h
 | (x,y)::l,hp,i,j,b,hi,hj=>by
  simp only[kx,kC,kL,bne_iff_ne] at hp;simp only[lkN] at hi hj;split at hi<;>split at hj
  ·rename_i e1 e2;rw[←e1,←e2]
  ·injection hi with hi;subst hi;obtain⟨p,h1,h2⟩:=eG hj;exact absurd h2 (hp.1.2 p h1).2
  ·injection hj with hj;subst hj;obtain⟨p,h1,h2⟩:=eG hi;exact absurd h2 (hp.1.2 p h1).2
  ·exact rx hp.2 i j b hi hj
theorem AC1.embed {P:Program}{g:FuncId}{ds:List D}{n:Nat}{b0:List (Nat×Box)}{d:D}{n1:Nat}{b1:List (Nat×Box)}(hp:AC1 P g ds ⟨n,b0⟩ d ⟨n1,b1⟩)
  {H:aB} {DS:List D} (sl:List (Nat×Nat)) (fzl:List Nat) (hok:kx n sl=true) (hd:Rds H (fzn fzl) (lkN sl) DS ds) (hb:Bxs H (fzn fzl) (lkN sl) b0)
  {D':D} {B1 rest:List (Nat×Box)} (rd:Rd ⟨n1,b1⟩ (fun _=>false) (dY sl H.next n) d D') (rb:Bxs ⟨n1,b1⟩ (fun _=>false) (dY sl H.next n) B1)
  (hr:∀ j b,ag rest j=some b→H.get j=some b∧(∀ a bx,ag b0 a=some bx→lkN sl a≠some j)∧fzn fzl j=false):AC1 P g DS H D' ⟨H.next+(n1-n),B1++rest⟩:=by
 obtain⟨hent,hcall⟩:=hp;refine⟨hent,fun c vs R hvs=>?_⟩
 let c0:Ctx:={ S:=fun b=>c.S b∨∃ id o box,fzn fzl id=true∧H.get id=some box∧c.φ id=some (b,o),φ:=fun j=>(lkN sl j).bind c.φ,w:=c.w }
 have hφ:∀ a b,lkN sl a=some b→c0.φ a=c.φ b:=fun a b hs=>by show(lkN sl a).bind c.φ=c.φ b;rw[hs];rfl
 have T:qb c H (fzn fzl) (lkN sl) c0:=⟨R,rfl,fun b hb=>.inl hb,fun id b o box h1 h2 h3=>.inr ⟨id,o,box,h1,h2,h3⟩,hφ⟩
 have R0:Rel c0 ⟨n,b0⟩:=by
  refine⟨fun b hb=>?_,fun id hid=>?_,fun id' box' hg=>?_,fun i j bi bj b o o' h1 h2 h3 h4=>?_,GT.keep (c:=c) (fun _ h=>.inl h) (fun _ _=>rfl) R.inv⟩
  ·rcases hb with hb|⟨id,o,box,_,h2,h3⟩
   ·exact R.size b hb
   ·obtain⟨b',o',p1,_,p3⟩:=R.live id box h2;rw[p1] at h3;injection h3 with h3;injection h3 with e1 _;subst e1
    exact p3.lt
  ·show(lkN sl id).bind c.φ=none;cases hl:lkN sl id with
   | none=>rfl
   | some b=>have:=jj hok id b hl;have hid:n≤id:=hid;omega
  ·obtain⟨id,box,h1,h2,h3,h4⟩:=hb.get id' box' hg;obtain⟨b,o,p1,p2,p3⟩:=R.live id box h2;refine⟨b,o,by rw[hφ id' id h1];exact p1,?_,h4.sound T p3⟩;rintro(hs|⟨idf,of,bf,q1,q2,q3⟩)
   ·exact p2 hs
   ·have:=R.inj id idf box bf b o of h2 q2 p1 q3
    subst this;rw[h3] at q1;cases q1
  ·obtain⟨id1,b1',x1,x2,_,_⟩:=hb.get i bi h1;obtain⟨id2,b2',y1,y2,_,_⟩:=hb.get j bj h2;rw[hφ i id1 x1] at h3;rw[hφ j id2 y1] at h4;have:=R.inj id1 id2 b1' b2' b o o' x2 y2 h3 h4
   subst this;exact rx hok i j id1 x1 y1
 refine(hcall c0 vs R0 (hd.sound T vs hvs)).mono ?_;rintro e w' ⟨v,c1,rfl,rfl,v1,r1,g1,p1⟩;have hn1:n≤n1:=g1.next
 have own0:∀ b,bq c0 ⟨n,b0⟩ b→bq c H b∧∃ a bx0 big o,ag b0 a=some bx0∧lkN sl a=some big∧(∃ bx,H.get big=some bx)∧c.φ big=some (b,o)∧fzn fzl big=false:=fun b ⟨id,box,o,hg,hb'⟩=>by
  obtain⟨big,bx,h1,h2,h3,_⟩:=hb.get id box hg;rw[hφ id big h1] at hb';exact⟨⟨big,bx,o,h2,hb'⟩,id,box,big,o,hg,h1,⟨bx,h2⟩,hb',h3⟩
 have hfr:∀ b,b<c.w.heap.size→¬bq c0 ⟨n,b0⟩ b→c1.w.heap[b]?=c.w.heap[b]?:=fun b hb hno=>g1.frame b hb hno
 have hlt:∀ id x,c.φ id=some x→id<H.next:=fun id x hx=>Nat.lt_of_not_le fun hle=>by rw[R.fresh id hle] at hx;cases hx
 let c':Ctx:={ S:=c1.S,φ:=fun j=>if j<H.next then c.φ j else c1.φ (j-H.next+n),w:=c1.w }
 have hφ0:∀ j,j<H.next→c'.φ j=c.φ j:=fun j hj=>by show(if j<H.next then c.φ j else c1.φ (j-H.next+n))=c.φ j;rw[if_pos hj]
 have hφ1:∀ j a,dY sl H.next n j=some a→c'.φ j=c1.φ a:=fun j a hs=>by
  unfold dY at hs;show(if j<H.next then c.φ j else c1.φ (j-H.next+n))=c1.φ a;split at hs
  ·rename_i hj;have h1:=iE hok hs;rw[if_pos hj,p1 a (jj hok a j h1),hφ a j h1]
  ·rename_i hj;injection hs with hs;rw[if_neg hj,hs]
 have T1:qb c1 ⟨n1,b1⟩ (fun _=>false) (dY sl H.next n) c':=⟨r1,rfl,fun _ h=>h,fun id b o box h1=>(by cases h1),hφ1⟩;have K:bB c c':=⟨fun b hb=>g1.keeps.S b (.inl hb),fun id x hx=>(by rw[hφ0 id (hlt id x hx)];exact hx),fun b hb=>g1.keeps.cells b (.inl hb),fun b e z hz=>g1.keeps.shape b e z hz⟩
 have hrest:∀ j b k o,ag rest j=some b→c.φ j=some (k,o)→k<c.w.heap.size∧¬bq c0 ⟨n,b0⟩ k∧¬c1.S k:=fun j b k o hg hk=>by
  obtain⟨h1,h2,h3⟩:=hr j b hg;obtain⟨k',o',q1,q2,q3⟩:=R.live j b h1;rw[hk] at q1;injection q1 with q1;injection q1 with e1 e2;subst e1;subst e2
  have hno:¬bq c0 ⟨n,b0⟩ k:=fun ho=>by
   obtain⟨_,a,bx0,big,o2,y0,y1,⟨bx,y2⟩,y3,_⟩:=own0 k ho;have:=R.inj j big b bx k o o2 h1 y2 hk y3
   subst this;exact h2 a bx0 y0 y1
  refine⟨q3.lt,hno,fun hs=>?_⟩;rcases g1.stable k hs with h|h|h
  ·rcases h with h|⟨idf,of,bf,y1,y2,y3⟩
   ·exact q2 h
   ·have:=R.inj j idf b bf k o of h1 y2 hk y3
    subst this;rw[h3] at y1;cases y1
  ·have hsz:c0.w.heap.size≤k:=h;have:=q3.lt
   have hsz':c.w.heap.size≤k:=hsz;omega
  ·exact hno h
 have hget:∀ id box,ag (B1++rest) id=some box→(∃ i bx,dY sl H.next n id=some i∧ag b1 i=some bx∧Rb ⟨n1,b1⟩ (fun _=>false) (dY sl H.next n) bx box)∨ag rest id=some box:=fun id box hg=>by
  rw[c9] at hg;cases hl:ag B1 id with
  | none=>rw[hl] at hg;exact .inr (by simpa using hg)
  | some b=>
   rw[hl] at hg;simp only[Option.some_or,kA] at hg;subst hg;obtain⟨i,bx,q1,q2,_,q4⟩:=rb.get id b hl;exact .inl ⟨i,bx,q1,q2,q4⟩
 have inv_inj:∀ i j a,dY sl H.next n i=some a→dY sl H.next n j=some a→i=j:=fun i j a hi hj=>by
  unfold dY at hi hj;split at hi<;>split at hj
  ·have h1:=iE hok hi;have h2:=iE hok hj;rw[h1] at h2;injection h2
  ·have h1:=jj hok a i (iE hok hi);injection hj with hj;omega
  ·have h1:=jj hok a j (iE hok hj);injection hi with hi;omega
  ·injection hi with hi;injection hj with hj;omega
 have live1:∀ id i bx,dY sl H.next n id=some i→ag b1 i=some bx→∀ k o,c'.φ id=some (k,o)→c.w.heap.size≤k∨bq c0 ⟨n,b0⟩ k:=fun id i bx q1 q2 k o hk=>by
  rw[hφ1 id i q1] at hk;exact g1.own k ⟨i,bx,o,q2,hk⟩
 refine⟨v,c',rfl,rfl,rd.sound T1 v v1,⟨fun b hb=>r1.size b hb,fun id hid=>?_,fun id box hg=>?_,fun i j bi bj b o o' x1 x2 x3 x4=>?_,GT.kept K R.inv⟩,⟨K,g1.os,g1.tape,g1.output,g1.size,Nat.le_add_right _ _,fun b hb hno=>hfr b hb fun ho=>hno (own0 b ho).1,fun b ho=>?_,fun b hb=>?_⟩,hφ0⟩
 ·have hid:H.next+(n1-n)≤id:=hid;show(if id<H.next then c.φ id else c1.φ (id-H.next+n))=none;rw[if_neg (by omega)];exact r1.fresh _ (by show n1≤id-H.next+n;omega)
 ·rcases hget id box hg with⟨i,bx,q1,q2,q4⟩|hg
  ·obtain⟨b,o,y1,y2,y3⟩:=r1.live i bx q2;exact⟨b,o,by rw[hφ1 id i q1];exact y1,y2,q4.sound T1 y3⟩
  ·obtain⟨h1,_,_⟩:=hr id box hg;obtain⟨b,o,y1,y2,y3⟩:=R.live id box h1;obtain⟨z1,z2,z3⟩:=hrest id box b o hg y1;exact⟨b,o,by rw[hφ0 id (hlt id _ y1)];exact y1,z3,y3.keep K (hfr b z1 z2)⟩
 ·rcases hget i bi x1 with⟨i1,b1',q1,q2,_⟩|g1'<;>rcases hget j bj x2 with⟨i2,b2',y1,y2,_⟩|g2'
  ·rw[hφ1 i i1 q1] at x3;rw[hφ1 j i2 y1] at x4;have:=r1.inj i1 i2 b1' b2' b o o' q2 y2 x3 x4
   subst this;exact inv_inj i j i1 q1 y1
  ·obtain⟨h1,_,_⟩:=hr j bj g2';obtain⟨k,o2,z1,_,_⟩:=R.live j bj h1;rw[hφ0 j (hlt j _ z1),z1] at x4;injection x4 with x4;injection x4 with e1 e2;subst e1
   obtain⟨w1,w2,_⟩:=hrest j bj k o2 g2' z1;rcases live1 i i1 b1' q1 q2 k o x3 with h|h
   ·omega
   ·exact absurd h w2
  ·obtain⟨h1,_,_⟩:=hr i bi g1';obtain⟨k,o2,z1,_,_⟩:=R.live i bi h1;rw[hφ0 i (hlt i _ z1),z1] at x3;injection x3 with x3;injection x3 with e1 e2;subst e1
   obtain⟨w1,w2,_⟩:=hrest i bi k o2 g1' z1;rcases live1 j i2 b2' y1 y2 k o' x4 with h|h
   ·omega
   ·exact absurd h w2
  ·obtain⟨h1,_,_⟩:=hr i bi g1';obtain⟨h2,_,_⟩:=hr j bj g2';obtain⟨_,_,z1,_,_⟩:=R.live i bi h1;obtain⟨_,_,z2,_,_⟩:=R.live j bj h2;rw[hφ0 i (hlt i _ z1)] at x3;rw[hφ0 j (hlt j _ z2)] at x4;exact R.inj i j bi bj b o o' h1 h2 x3 x4
 ·obtain⟨id,box,o,hg,hb'⟩:=ho;rcases hget id box hg with⟨i,bx,q1,q2,_⟩|hg
  ·exact(live1 id i bx q1 q2 b o hb').imp (fun h=>h) fun h=>(own0 b h).1
  ·obtain⟨h1,_,_⟩:=hr id box hg;obtain⟨_,_,z1,_,_⟩:=R.live id box h1;rw[hφ0 id (hlt id _ z1)] at hb';exact .inr ⟨id,box,o,h1,hb'⟩
 ·rcases g1.stable b hb with h|h|h
  ·rcases h with h|⟨idf,of,bf,_,y2,y3⟩
   ·exact .inl h
   ·exact .inr (.inr ⟨idf,bf,of,y2,y3⟩)
  ·exact .inr (.inl h)
  ·exact .inr (.inr (own0 b h).1)
end Go.Am
/-
 The abstract machine,part 41: temporaries and heaps as trees,looked at and written in a way that the kernel reckons fast.
-/
namespace Go.Am
structure N16 (α:Type) where
 mk ::
 (a0 a1 a2 a3 a4 a5 a6 a7 a8 a9 a10 a11 a12 a13 a14 a15:α)
 deriving Inhabited
section
variable {α:Type}
def N16.get (t:N16 α) (i:Nat):α:=
 match i with
 | 0=>t.a0
 | 1=>t.a1
 | 2=>t.a2
 | 3=>t.a3
 | 4=>t.a4
 | 5=>t.a5
 | 6=>t.a6
 | 7=>t.a7
 | 8=>t.a8
 | 9=>t.a9
 | 10=>t.a10
 | 11=>t.a11
 | 12=>t.a12
 | 13=>t.a13
 | 14=>t.a14
 | _=>t.a15
def N16.set (t:N16 α) (i:Nat) (x:α):N16 α:=
 match t,i with
 | .mk _ a1 a2 a3 a4 a5 a6 a7 a8 a9 a10 a11 a12 a13 a14 a15,0=>.mk x a1 a2 a3 a4 a5 a6 a7 a8 a9 a10 a11 a12 a13 a14 a15
 | .mk a0 _ a2 a3 a4 a5 a6 a7 a8 a9 a10 a11 a12 a13 a14 a15,1=>.mk a0 x a2 a3 a4 a5 a6 a7 a8 a9 a10 a11 a12 a13 a14 a15
 | .mk a0 a1 _ a3 a4 a5 a6 a7 a8 a9 a10 a11 a12 a13 a14 a15,2=>.mk a0 a1 x a3 a4 a5 a6 a7 a8 a9 a10 a11 a12 a13 a14 a15
 | .mk a0 a1 a2 _ a4 a5 a6 a7 a8 a9 a10 a11 a12 a13 a14 a15,3=>.mk a0 a1 a2 x a4 a5 a6 a7 a8 a9 a10 a11 a12 a13 a14 a15
 | .mk a0 a1 a2 a3 _ a5 a6 a7 a8 a9 a10 a11 a12 a13 a14 a15,4=>.mk a0 a1 a2 a3 x a5 a6 a7 a8 a9 a10 a11 a12 a13 a14 a15
 | .mk a0 a1 a2 a3 a4 _ a6 a7 a8 a9 a10 a11 a12 a13 a14 a15,5=>.mk a0 a1 a2 a3 a4 x a6 a7 a8 a9 a10 a11 a12 a13 a14 a15
 | .mk a0 a1 a2 a3 a4 a5 _ a7 a8 a9 a10 a11 a12 a13 a14 a15,6=>.mk a0 a1 a2 a3 a4 a5 x a7 a8 a9 a10 a11 a12 a13 a14 a15
 | .mk a0 a1 a2 a3 a4 a5 a6 _ a8 a9 a10 a11 a12 a13 a14 a15,7=>.mk a0 a1 a2 a3 a4 a5 a6 x a8 a9 a10 a11 a12 a13 a14 a15
 | .mk a0 a1 a2 a3 a4 a5 a6 a7 _ a9 a10 a11 a12 a13 a14 a15,8=>.mk a0 a1 a2 a3 a4 a5 a6 a7 x a9 a10 a11 a12 a13 a14 a15
 | .mk a0 a1 a2 a3 a4 a5 a6 a7 a8 _ a10 a11 a12 a13 a14 a15,9=>.mk a0 a1 a2 a3 a4 a5 a6 a7 a8 x a10 a11 a12 a13 a14 a15
 | .mk a0 a1 a2 a3 a4 a5 a6 a7 a8 a9 _ a11 a12 a13 a14 a15,10=>.mk a0 a1 a2 a3 a4 a5 a6 a7 a8 a9 x a11 a12 a13 a14 a15
 | .mk a0 a1 a2 a3 a4 a5 a6 a7 a8 a9 a10 _ a12 a13 a14 a15,11=>.mk a0 a1 a2 a3 a4 a5 a6 a7 a8 a9 a10 x a12 a13 a14 a15
 | .mk a0 a1 a2 a3 a4 a5 a6 a7 a8 a9 a10 a11 _ a13 a14 a15,12=>.mk a0 a1 a2 a3 a4 a5 a6 a7 a8 a9 a10 a11 x a13 a14 a15
 | .mk a0 a1 a2 a3 a4 a5 a6 a7 a8 a9 a10 a11 a12 _ a14 a15,13=>.mk a0 a1 a2 a3 a4 a5 a6 a7 a8 a9 a10 a11 a12 x a14 a15
 | .mk a0 a1 a2 a3 a4 a5 a6 a7 a8 a9 a10 a11 a12 a13 _ a15,14=>.mk a0 a1 a2 a3 a4 a5 a6 a7 a8 a9 a10 a11 a12 a13 x a15
 | .mk a0 a1 a2 a3 a4 a5 a6 a7 a8 a9 a10 a11 a12 a13 a14 _,_=>.mk a0 a1 a2 a3 a4 a5 a6 a7 a8 a9 a10 a11 a12 a13 a14 x
theorem N16.get_set (t:N16 α) (x:α){i j:Nat}(hi:i<16) (hj:j<16):(t.set i x).get j=if i=j then x else t.get j:=by
 have h1:i=0∨i=1∨i=2∨i=3∨i=4∨i=5∨i=6∨i=7∨i=8∨i=9∨i=10∨i=11∨i=12∨i=13∨i=14∨i=15:=by omega
 have h2:j=0∨j=1∨j=2∨j=3∨j=4∨j=5∨j=6∨j=7∨j=8∨j=9∨j=10∨j=11∨j=12∨j=13∨j=14∨j=15:=by omega
 obtain⟨a0,a1,a2,a3,a4,a5,a6,a7,a8,a9,a10,a11,a12,a13,a14,a15⟩:=t;rcases h1 with rfl|rfl|rfl|rfl|rfl|rfl|rfl|rfl|rfl|rfl|rfl|rfl|rfl|rfl|rfl|rfl<;>rcases h2 with rfl|rfl|rfl|rfl|rfl|rfl|rfl|rfl|rfl|rfl|rfl|rfl|rfl|rfl|rfl|rfl<;>rfl
noncomputable def gAt (i:Nat):N16 α→(α→Bool)→Bool:=
 match i with
 | 0=>fun t K=>@N16.rec α (fun _=>Bool) (fun a0 _ _ _ _ _ _ _ _ _ _ _ _ _ _ _=>K a0) t
 | 1=>fun t K=>@N16.rec α (fun _=>Bool) (fun _ a1 _ _ _ _ _ _ _ _ _ _ _ _ _ _=>K a1) t
 | 2=>fun t K=>@N16.rec α (fun _=>Bool) (fun _ _ a2 _ _ _ _ _ _ _ _ _ _ _ _ _=>K a2) t
 | 3=>fun t K=>@N16.rec α (fun _=>Bool) (fun _ _ _ a3 _ _ _ _ _ _ _ _ _ _ _ _=>K a3) t
 | 4=>fun t K=>@N16.rec α (fun _=>Bool) (fun _ _ _ _ a4 _ _ _ _ _ _ _ _ _ _ _=>K a4) t
 | 5=>fun t K=>@N16.rec α (fun _=>Bool) (fun _ _ _ _ _ a5 _ _ _ _ _ _ _ _ _ _=>K a5) t
 | 6=>fun t K=>@N16.rec α (fun _=>Bool) (fun _ _ _ _ _ _ a6 _ _ _ _ _ _ _ _ _=>K a6) t
 | 7=>fun t K=>@N16.rec α (fun _=>Bool) (fun _ _ _ _ _ _ _ a7 _ _ _ _ _ _ _ _=>K a7) t
 | 8=>fun t K=>@N16.rec α (fun _=>Bool) (fun _ _ _ _ _ _ _ _ a8 _ _ _ _ _ _ _=>K a8) t
 | 9=>fun t K=>@N16.rec α (fun _=>Bool) (fun _ _ _ _ _ _ _ _ _ a9 _ _ _ _ _ _=>K a9) t
 | 10=>fun t K=>@N16.rec α (fun _=>Bool) (fun _ _ _ _ _ _ _ _ _ _ a10 _ _ _ _ _=>K a10) t
 | 11=>fun t K=>@N16.rec α (fun _=>Bool) (fun _ _ _ _ _ _ _ _ _ _ _ a11 _ _ _ _=>K a11) t
 | 12=>fun t K=>@N16.rec α (fun _=>Bool) (fun _ _ _ _ _ _ _ _ _ _ _ _ a12 _ _ _=>K a12) t
 | 13=>fun t K=>@N16.rec α (fun _=>Bool) (fun _ _ _ _ _ _ _ _ _ _ _ _ _ a13 _ _=>K a13) t
 | 14=>fun t K=>@N16.rec α (fun _=>Bool) (fun _ _ _ _ _ _ _ _ _ _ _ _ _ _ a14 _=>K a14) t
 | _=>fun t K=>@N16.rec α (fun _=>Bool) (fun _ _ _ _ _ _ _ _ _ _ _ _ _ _ _ a15=>K a15) t
noncomputable def sAt (i:Nat):N16 α→α→(N16 α→Bool)→Bool:=
 match i with
 | 0=>fun t x K=>@N16.rec α (fun _=>Bool) (fun _ a1 a2 a3 a4 a5 a6 a7 a8 a9 a10 a11 a12 a13 a14 a15=>K (N16.mk x a1 a2 a3 a4 a5 a6 a7 a8 a9 a10 a11 a12 a13 a14 a15)) t
 | 1=>fun t x K=>@N16.rec α (fun _=>Bool) (fun a0 _ a2 a3 a4 a5 a6 a7 a8 a9 a10 a11 a12 a13 a14 a15=>K (N16.mk a0 x a2 a3 a4 a5 a6 a7 a8 a9 a10 a11 a12 a13 a14 a15)) t
 | 2=>fun t x K=>@N16.rec α (fun _=>Bool) (fun a0 a1 _ a3 a4 a5 a6 a7 a8 a9 a10 a11 a12 a13 a14 a15=>K (N16.mk a0 a1 x a3 a4 a5 a6 a7 a8 a9 a10 a11 a12 a13 a14 a15)) t
 | 3=>fun t x K=>@N16.rec α (fun _=>Bool) (fun a0 a1 a2 _ a4 a5 a6 a7 a8 a9 a10 a11 a12 a13 a14 a15=>K (N16.mk a0 a1 a2 x a4 a5 a6 a7 a8 a9 a10 a11 a12 a13 a14 a15)) t
 | 4=>fun t x K=>@N16.rec α (fun _=>Bool) (fun a0 a1 a2 a3 _ a5 a6 a7 a8 a9 a10 a11 a12 a13 a14 a15=>K (N16.mk a0 a1 a2 a3 x a5 a6 a7 a8 a9 a10 a11 a12 a13 a14 a15)) t
 | 5=>fun t x K=>@N16.rec α (fun _=>Bool) (fun a0 a1 a2 a3 a4 _ a6 a7 a8 a9 a10 a11 a12 a13 a14 a15=>K (N16.mk a0 a1 a2 a3 a4 x a6 a7 a8 a9 a10 a11 a12 a13 a14 a15)) t
 | 6=>fun t x K=>@N16.rec α (fun _=>Bool) (fun a0 a1 a2 a3 a4 a5 _ a7 a8 a9 a10 a11 a12 a13 a14 a15=>K (N16.mk a0 a1 a2 a3 a4 a5 x a7 a8 a9 a10 a11 a12 a13 a14 a15)) t
 | 7=>fun t x K=>@N16.rec α (fun _=>Bool) (fun a0 a1 a2 a3 a4 a5 a6 _ a8 a9 a10 a11 a12 a13 a14 a15=>K (N16.mk a0 a1 a2 a3 a4 a5 a6 x a8 a9 a10 a11 a12 a13 a14 a15)) t
 | 8=>fun t x K=>@N16.rec α (fun _=>Bool) (fun a0 a1 a2 a3 a4 a5 a6 a7 _ a9 a10 a11 a12 a13 a14 a15=>K (N16.mk a0 a1 a2 a3 a4 a5 a6 a7 x a9 a10 a11 a12 a13 a14 a15)) t
 | 9=>fun t x K=>@N16.rec α (fun _=>Bool) (fun a0 a1 a2 a3 a4 a5 a6 a7 a8 _ a10 a11 a12 a13 a14 a15=>K (N16.mk a0 a1 a2 a3 a4 a5 a6 a7 a8 x a10 a11 a12 a13 a14 a15)) t
 | 10=>fun t x K=>@N16.rec α (fun _=>Bool) (fun a0 a1 a2 a3 a4 a5 a6 a7 a8 a9 _ a11 a12 a13 a14 a15=>K (N16.mk a0 a1 a2 a3 a4 a5 a6 a7 a8 a9 x a11 a12 a13 a14 a15)) t
 | 11=>fun t x K=>@N16.rec α (fun _=>Bool) (fun a0 a1 a2 a3 a4 a5 a6 a7 a8 a9 a10 _ a12 a13 a14 a15=>K (N16.mk a0 a1 a2 a3 a4 a5 a6 a7 a8 a9 a10 x a12 a13 a14 a15)) t
 | 12=>fun t x K=>@N16.rec α (fun _=>Bool) (fun a0 a1 a2 a3 a4 a5 a6 a7 a8 a9 a10 a11 _ a13 a14 a15=>K (N16.mk a0 a1 a2 a3 a4 a5 a6 a7 a8 a9 a10 a11 x a13 a14 a15)) t
 | 13=>fun t x K=>@N16.rec α (fun _=>Bool) (fun a0 a1 a2 a3 a4 a5 a6 a7 a8 a9 a10 a11 a12 _ a14 a15=>K (N16.mk a0 a1 a2 a3 a4 a5 a6 a7 a8 a9 a10 a11 a12 x a14 a15)) t
 | 14=>fun t x K=>@N16.rec α (fun _=>Bool) (fun a0 a1 a2 a3 a4 a5 a6 a7 a8 a9 a10 a11 a12 a13 _ a15=>K (N16.mk a0 a1 a2 a3 a4 a5 a6 a7 a8 a9 a10 a11 a12 a13 x a15)) t
 | _=>fun t x K=>@N16.rec α (fun _=>Bool) (fun a0 a1 a2 a3 a4 a5 a6 a7 a8 a9 a10 a11 a12 a13 a14 _=>K (N16.mk a0 a1 a2 a3 a4 a5 a6 a7 a8 a9 a10 a11 a12 a13 a14 x)) t
theorem wR (t:N16 α) (K:α→Bool) (i:Nat):gAt i t K=K (t.get i):=by
 unfold gAt N16.get;split<;>rfl
theorem AR (t:N16 α) (x:α) (K:N16 α→Bool) (i:Nat):sAt i t x K=K (t.set i x):=by
 obtain⟨a0,a1,a2,a3,a4,a5,a6,a7,a8,a9,a10,a11,a12,a13,a14,a15⟩:=t
 match i with
 | 0=>rfl
 | 1=>rfl
 | 2=>rfl
 | 3=>rfl
 | 4=>rfl
 | 5=>rfl
 | 6=>rfl
 | 7=>rfl
 | 8=>rfl
 | 9=>rfl
 | 10=>rfl
 | 11=>rfl
 | 12=>rfl
 | 13=>rfl
 | 14=>rfl
 | _+15=>rfl
end
abbrev Tr:=N16 (N16 D)
def Tr.get (t:Tr) (i:Nat):D:=(N16.get t (i / 16)).get (i % 16)
def Tr.set (t:Tr) (i:Nat) (d:D):Tr:=N16.set t (i / 16) ((N16.get t (i / 16)).set (i % 16) d)
def Tr.perf (k:Nat) (_:Tr):Prop:=k≤8
def N16.all {α:Type}(d:α):N16 α:=.mk d d d d d d d d d d d d d d d d
def Tr.full (d:D) (_:Nat):Tr:=N16.all (N16.all d)
theorem N16.get_all {α:Type}(d:α) (i:Nat):(N16.all d).get i=d:=by
 unfold N16.get N16.all;split<;>rfl
theorem Tr.perf_set {d:D}{k:Nat}{t:Tr}{i:Nat}(h:Tr.perf k t):Tr.perf k (Tr.set t i d):=h
theorem Tr.get_set {d:D}{k:Nat}{t:Tr}{i j:Nat}(h:Tr.perf k t) (hi:i<2 ^ k) (hj:j<2 ^ k):Tr.get (Tr.set t i d) j=if i=j then d else Tr.get t j:=by
 have h8:2 ^ k≤256:=Nat.pow_le_pow_right (by omega) (show k≤8 from h);unfold Tr.get Tr.set;rw[N16.get_set _ _ (by omega) (by omega)];by_cases e:i / 16=j / 16
 ·rw[if_pos e,N16.get_set _ _ (by omega) (by omega)];by_cases e2:i % 16=j % 16
  ·rw[if_pos e2,if_pos (by omega)]
  ·rw[if_neg e2,if_neg (by omega),e]
 ·rw[if_neg e,if_neg (by omega)]
theorem Tr.perf_full {d:D}{k:Nat}(h:k≤8):Tr.perf k (Tr.full d k):=h
theorem Tr.get_full {d:D}(k i:Nat):Tr.get (Tr.full d k) i=d:=by
 unfold Tr.get Tr.full;rw[N16.get_all,N16.get_all]
inductive GB (α:Type) where
 | mk (f:N16 α→(α→Bool)→Bool)
inductive SB (α:Type) where
 | mk (f:N16 α→α→(N16 α→Bool)→Bool)
section
variable {α:Type}
noncomputable def sel {β:Type}(l:List β) (d:β):Nat→β:=@List.rec β (fun _=>Nat→β) (fun _=>d) (fun x _ ih i=>@Nat.rec (fun _=>β) x (fun m _=>ih m) i) l
noncomputable def gBox:Nat→GB α:=sel [.mk (fun t K=>@N16.rec α (fun _=>Bool) (fun a0 _ _ _ _ _ _ _ _ _ _ _ _ _ _ _=>K a0) t),
 .mk (fun t K=>@N16.rec α (fun _=>Bool) (fun _ a1 _ _ _ _ _ _ _ _ _ _ _ _ _ _=>K a1) t),
 .mk (fun t K=>@N16.rec α (fun _=>Bool) (fun _ _ a2 _ _ _ _ _ _ _ _ _ _ _ _ _=>K a2) t),
 .mk (fun t K=>@N16.rec α (fun _=>Bool) (fun _ _ _ a3 _ _ _ _ _ _ _ _ _ _ _ _=>K a3) t),
 .mk (fun t K=>@N16.rec α (fun _=>Bool) (fun _ _ _ _ a4 _ _ _ _ _ _ _ _ _ _ _=>K a4) t),
 .mk (fun t K=>@N16.rec α (fun _=>Bool) (fun _ _ _ _ _ a5 _ _ _ _ _ _ _ _ _ _=>K a5) t),
 .mk (fun t K=>@N16.rec α (fun _=>Bool) (fun _ _ _ _ _ _ a6 _ _ _ _ _ _ _ _ _=>K a6) t),
 .mk (fun t K=>@N16.rec α (fun _=>Bool) (fun _ _ _ _ _ _ _ a7 _ _ _ _ _ _ _ _=>K a7) t),
 .mk (fun t K=>@N16.rec α (fun _=>Bool) (fun _ _ _ _ _ _ _ _ a8 _ _ _ _ _ _ _=>K a8) t),
 .mk (fun t K=>@N16.rec α (fun _=>Bool) (fun _ _ _ _ _ _ _ _ _ a9 _ _ _ _ _ _=>K a9) t),
 .mk (fun t K=>@N16.rec α (fun _=>Bool) (fun _ _ _ _ _ _ _ _ _ _ a10 _ _ _ _ _=>K a10) t),
 .mk (fun t K=>@N16.rec α (fun _=>Bool) (fun _ _ _ _ _ _ _ _ _ _ _ a11 _ _ _ _=>K a11) t),
 .mk (fun t K=>@N16.rec α (fun _=>Bool) (fun _ _ _ _ _ _ _ _ _ _ _ _ a12 _ _ _=>K a12) t),
 .mk (fun t K=>@N16.rec α (fun _=>Bool) (fun _ _ _ _ _ _ _ _ _ _ _ _ _ a13 _ _=>K a13) t),
 .mk (fun t K=>@N16.rec α (fun _=>Bool) (fun _ _ _ _ _ _ _ _ _ _ _ _ _ _ a14 _=>K a14) t)] (.mk (fun t K=>@N16.rec α (fun _=>Bool) (fun _ _ _ _ _ _ _ _ _ _ _ _ _ _ _ a15=>K a15) t))
noncomputable def sBox:Nat→SB α:=sel [.mk (fun t x K=>@N16.rec α (fun _=>Bool) (fun _ a1 a2 a3 a4 a5 a6 a7 a8 a9 a10 a11 a12 a13 a14 a15=>K (N16.mk x a1 a2 a3 a4 a5 a6 a7 a8 a9 a10 a11 a12 a13 a14 a15)) t),
 .mk (fun t x K=>@N16.rec α (fun _=>Bool) (fun a0 _ a2 a3 a4 a5 a6 a7 a8 a9 a10 a11 a12 a13 a14 a15=>K (N16.mk a0 x a2 a3 a4 a5 a6 a7 a8 a9 a10 a11 a12 a13 a14 a15)) t),
 .mk (fun t x K=>@N16.rec α (fun _=>Bool) (fun a0 a1 _ a3 a4 a5 a6 a7 a8 a9 a10 a11 a12 a13 a14 a15=>K (N16.mk a0 a1 x a3 a4 a5 a6 a7 a8 a9 a10 a11 a12 a13 a14 a15)) t),
 .mk (fun t x K=>@N16.rec α (fun _=>Bool) (fun a0 a1 a2 _ a4 a5 a6 a7 a8 a9 a10 a11 a12 a13 a14 a15=>K (N16.mk a0 a1 a2 x a4 a5 a6 a7 a8 a9 a10 a11 a12 a13 a14 a15)) t),
 .mk (fun t x K=>@N16.rec α (fun _=>Bool) (fun a0 a1 a2 a3 _ a5 a6 a7 a8 a9 a10 a11 a12 a13 a14 a15=>K (N16.mk a0 a1 a2 a3 x a5 a6 a7 a8 a9 a10 a11 a12 a13 a14 a15)) t),
 .mk (fun t x K=>@N16.rec α (fun _=>Bool) (fun a0 a1 a2 a3 a4 _ a6 a7 a8 a9 a10 a11 a12 a13 a14 a15=>K (N16.mk a0 a1 a2 a3 a4 x a6 a7 a8 a9 a10 a11 a12 a13 a14 a15)) t),
 .mk (fun t x K=>@N16.rec α (fun _=>Bool) (fun a0 a1 a2 a3 a4 a5 _ a7 a8 a9 a10 a11 a12 a13 a14 a15=>K (N16.mk a0 a1 a2 a3 a4 a5 x a7 a8 a9 a10 a11 a12 a13 a14 a15)) t),
 .mk (fun t x K=>@N16.rec α (fun _=>Bool) (fun a0 a1 a2 a3 a4 a5 a6 _ a8 a9 a10 a11 a12 a13 a14 a15=>K (N16.mk a0 a1 a2 a3 a4 a5 a6 x a8 a9 a10 a11 a12 a13 a14 a15)) t),
 .mk (fun t x K=>@N16.rec α (fun _=>Bool) (fun a0 a1 a2 a3 a4 a5 a6 a7 _ a9 a10 a11 a12 a13 a14 a15=>K (N16.mk a0 a1 a2 a3 a4 a5 a6 a7 x a9 a10 a11 a12 a13 a14 a15)) t),
 .mk (fun t x K=>@N16.rec α (fun _=>Bool) (fun a0 a1 a2 a3 a4 a5 a6 a7 a8 _ a10 a11 a12 a13 a14 a15=>K (N16.mk a0 a1 a2 a3 a4 a5 a6 a7 a8 x a10 a11 a12 a13 a14 a15)) t),
 .mk (fun t x K=>@N16.rec α (fun _=>Bool) (fun a0 a1 a2 a3 a4 a5 a6 a7 a8 a9 _ a11 a12 a13 a14 a15=>K (N16.mk a0 a1 a2 a3 a4 a5 a6 a7 a8 a9 x a11 a12 a13 a14 a15)) t),
 .mk (fun t x K=>@N16.rec α (fun _=>Bool) (fun a0 a1 a2 a3 a4 a5 a6 a7 a8 a9 a10 _ a12 a13 a14 a15=>K (N16.mk a0 a1 a2 a3 a4 a5 a6 a7 a8 a9 a10 x a12 a13 a14 a15)) t),
 .mk (fun t x K=>@N16.rec α (fun _=>Bool) (fun a0 a1 a2 a3 a4 a5 a6 a7 a8 a9 a10 a11 _ a13 a14 a15=>K (N16.mk a0 a1 a2 a3 a4 a5 a6 a7 a8 a9 a10 a11 x a13 a14 a15)) t),
 .mk (fun t x K=>@N16.rec α (fun _=>Bool) (fun a0 a1 a2 a3 a4 a5 a6 a7 a8 a9 a10 a11 a12 _ a14 a15=>K (N16.mk a0 a1 a2 a3 a4 a5 a6 a7 a8 a9 a10 a11 a12 x a14 a15)) t),
 .mk (fun t x K=>@N16.rec α (fun _=>Bool) (fun a0 a1 a2 a3 a4 a5 a6 a7 a8 a9 a10 a11 a12 a13 _ a15=>K (N16.mk a0 a1 a2 a3 a4 a5 a6 a7 a8 a9 a10 a11 a12 a13 x a15)) t)] (.mk (fun t x K=>@N16.rec α (fun _=>Bool) (fun a0 a1 a2 a3 a4 a5 a6 a7 a8 a9 a10 a11 a12 a13 a14 _=>K (N16.mk a0 a1 a2 a3 a4 a5 a6 a7 a8 a9 a10 a11 a12 a13 a14 x)) t))
theorem xf (i:Nat):(gBox i:GB α)=.mk (gAt i):=by
 match i with
 | 0=>rfl
 | 1=>rfl
 | 2=>rfl
 | 3=>rfl
 | 4=>rfl
 | 5=>rfl
 | 6=>rfl
 | 7=>rfl
 | 8=>rfl
 | 9=>rfl
 | 10=>rfl
 | 11=>rfl
 | 12=>rfl
 | 13=>rfl
 | 14=>rfl
 | _+15=>rfl
theorem xE (i:Nat):(sBox i:SB α)=.mk (sAt i):=by
 match i with
 | 0=>rfl
 | 1=>rfl
 | 2=>rfl
 | 3=>rfl
 | 4=>rfl
 | 5=>rfl
 | 6=>rfl
 | 7=>rfl
 | 8=>rfl
 | 9=>rfl
 | 10=>rfl
 | 11=>rfl
 | 12=>rfl
 | 13=>rfl
 | 14=>rfl
 | _+15=>rfl
end
inductive Acc where
 | mk (g:Tr→(D→Bool)→Bool) (s:Tr→D→(Tr→Bool)→Bool)
noncomputable def sD (i:Nat):Acc:=
 @GB.rec (N16 D) (fun _=>Acc) (fun rg=>@GB.rec D (fun _=>Acc) (fun cg=>@SB.rec (N16 D) (fun _=>Acc) (fun rs=>@SB.rec D (fun _=>Acc) (fun cs=>.mk (fun t K=>rg t fun r=>cg r K) (fun t d K=>rg t fun r=>cs r d fun r'=>rs t r' K)) (sBox (i % 16))) (sBox (i / 16))) (gBox (i % 16))) (gBox (i / 16))
theorem vL (i:Nat):sD i=.mk (fun t K=>gAt (i / 16) t fun r=>gAt (i % 16) r K) (fun t d K=>gAt (i / 16) t fun r=>sAt (i % 16) r d fun r'=>sAt (i / 16) t r' K):=by
 unfold sD;rw[xf,xf,xE,xE]
noncomputable def getA (i:Nat) (t:Tr) (K:D→Bool):Bool:=@Acc.rec (fun _=>Bool) (fun g _=>g t K) (sD i)
noncomputable def setA (i:Nat) (t:Tr) (d:D) (K:Tr→Bool):Bool:=@Acc.rec (fun _=>Bool) (fun _ s=>s t d K) (sD i)
noncomputable def Tr.getK (t:Tr) (i:Nat) (K:D→Bool):Bool:=@Acc.rec (fun _=>Bool) (fun g _=>g t K) (sD i)
noncomputable def Tr.setK (t:Tr) (i:Nat) (d:D) (K:Tr→Bool):Bool:=@Acc.rec (fun _=>Bool) (fun _ s=>s t d K) (sD i)
theorem Da {i:Nat}{t:Tr}{K:D→Bool}:getA i t K=Tr.getK t i K:=rfl
theorem Co {i:Nat}{t:Tr}{d:D}{K:Tr→Bool}:setA i t d K=Tr.setK t i d K:=rfl
theorem Tr.getK_eq {t:Tr}{i:Nat}{K:D→Bool}:Tr.getK t i K=K (Tr.get t i):=by
 unfold Tr.getK;rw[vL];show gAt (i / 16) t (fun r=>gAt (i % 16) r K)=_;rw[wR,wR];rfl
theorem Tr.setK_eq {t:Tr}{i:Nat}{d:D}{K:Tr→Bool}:Tr.setK t i d K=K (Tr.set t i d):=by
 unfold Tr.setK;rw[vL];show gAt (i / 16) t (fun r=>sAt (i % 16) r d fun r'=>sAt (i / 16) t r' K)=_;rw[wR,AR,AR];rfl
variable [GT]
inductive HT where
 | emp
 | lf (k:Nat) (b:Box)
 | nd (l r:HT)
 deriving Inhabited
def HT.get:HT→Nat→Option Box
 | .emp,_=>none
 | .lf k b,i=>if k=i then some b else none
 | .nd l r,i=>if i % 2=0 then l.get (i / 2) else r.get (i / 2)
def HT.two:Nat→Nat→Box→Nat→Box→HT
 | 0,i,b,_,_=>.lf i b
 | f+1,i,b,j,c=>if i % 2=j % 2 then(if i % 2=0 then .nd (two f (i / 2) b (j / 2) c) .emp else .nd .emp (two f (i / 2) b (j / 2) c)) else if i % 2=0 then .nd (.lf (i / 2) b) (.lf (j / 2) c) else .nd (.lf (j / 2) c) (.lf (i / 2) b)
def HT.put:HT→Nat→Box→HT
 | .emp,i,b=>.lf i b
 | .lf k c,i,b=>if k=i then .lf i b else HT.two (i+k+1) i b k c
 | .nd l r,i,b=>if i % 2=0 then .nd (l.put (i / 2) b) r else .nd l (r.put (i / 2) b)
def HT.del:HT→Nat→HT
 | .emp,_=>.emp
 | .lf k c,i=>if k=i then .emp else .lf k c
 | .nd l r,i=>if i % 2=0 then .nd (l.del (i / 2)) r else .nd l (r.del (i / 2))
theorem dS {i j:Nat}(h:i % 2=j % 2):(i / 2=j / 2)=(i=j):=propext ⟨fun e=>by omega,fun e=>by rw[e]⟩
theorem HT.get_two {b c:Box}:∀ {f i j x:Nat},i≠j→i+j<f→(HT.two f i b j c).get x=if i=x then some b else if j=x then some c else none
 | 0,_,_,_,_,h=>by omega
 | f+1,i,j,x,hne,hf=>by
  simp only[HT.two];rcases Nat.mod_two_eq_zero_or_one i with hi|hi<;>rcases Nat.mod_two_eq_zero_or_one j with hj|hj<;>rcases Nat.mod_two_eq_zero_or_one x with hx|hx<;>simp only[hi,hj,hx,HT.get,if_true,if_false,Nat.zero_ne_one,Nat.one_ne_zero]
  ·rw[get_two (by omega) (by omega)];simp only[dS (show i % 2=x % 2 by omega),dS (show j % 2=x % 2 by omega)]
  ·rw[if_neg (by omega),if_neg (by omega)]
  ·simp only[dS (show i % 2=x % 2 by omega)];rw[if_neg (show ¬j=x by omega)]
  ·simp only[dS (show j % 2=x % 2 by omega)];rw[if_neg (show ¬i=x by omega)]
  ·simp only[dS (show j % 2=x % 2 by omega)];rw[if_neg (show ¬i=x by omega)]
  ·simp only[dS (show i % 2=x % 2 by omega)];rw[if_neg (show ¬j=x by omega)]
  ·rw[if_neg (by omega),if_neg (by omega)]
  ·rw[get_two (by omega) (by omega)];simp only[dS (show i % 2=x % 2 by omega),dS (show j % 2=x % 2 by omega)]
theorem HT.get_put {b:Box}:∀ {t:HT}{i x:Nat},(t.put i b).get x=if i=x then some b else t.get x
 | .emp,i,x=>by simp[HT.put,HT.get]
 | .lf k c,i,x=>by
  simp only[HT.put];split
  ·rename_i e;subst e;simp only[HT.get];split<;>simp
  ·rename_i e;rw[get_two (fun h=>e h.symm) (by omega)];simp only[HT.get]
 | .nd l r,i,x=>by
  simp only[HT.put];rcases Nat.mod_two_eq_zero_or_one i with hi|hi<;>rcases Nat.mod_two_eq_zero_or_one x with hx|hx<;>simp only[hi,hx,HT.get,if_true,if_false,Nat.one_ne_zero]
  ·rw[get_put];simp only[dS (show i % 2=x % 2 by omega)]
  ·rw[if_neg (show ¬i=x by omega)]
  ·rw[if_neg (show ¬i=x by omega)]
  ·rw[get_put];simp only[dS (show i % 2=x % 2 by omega)]
theorem HT.get_del:∀ {t:HT}{i x:Nat},(t.del i).get x=if i=x then none else t.get x
 | .emp,i,x=>by simp[HT.del,HT.get]
 | .lf k c,i,x=>by
  simp only[HT.del];split
  ·rename_i e;subst e;simp only[HT.get];split<;>simp
  ·rename_i e;simp only[HT.get];by_cases h:i=x
   ·subst h;rw[if_neg e,if_pos rfl]
   ·rw[if_neg h]
 | .nd l r,i,x=>by
  simp only[HT.del];rcases Nat.mod_two_eq_zero_or_one i with hi|hi<;>rcases Nat.mod_two_eq_zero_or_one x with hx|hx<;>simp only[hi,hx,HT.get,if_true,if_false,Nat.one_ne_zero]
  ·rw[get_del];simp only[dS (show i % 2=x % 2 by omega)]
  ·rw[if_neg (show ¬i=x by omega)]
  ·rw[if_neg (show ¬i=x by omega)]
  ·rw[get_del];simp only[dS (show i % 2=x % 2 by omega)]
def HT.toL:HT→List (Nat×Box)
 | .emp=>[]
 | .lf k b=>[(k,b)]
 | .nd l r=>l.toL.map (fun p=>(2*p.1,p.2))++r.toL.map (fun p=>(2*p.1+1,p.2))
theorem BQ:∀ (a b:List (Nat×Box)) (id:Nat),ag (a++b) id=(ag a id).or (ag b id):=c9
theorem ri:∀ {l:List (Nat×Box)}{i:Nat},ag (l.map fun p=>(2*p.1,p.2)) i=if i % 2=0 then ag l (i / 2) else none
 | [],i=>by simp[ag]
 | (k,b)::l,i=>by
  simp only[List.map_cons,ag,ri (l:=l)];by_cases h:i % 2=0
  ·have e:(2*k=i)=(k=i / 2):=propext ⟨fun h=>by omega,fun h=>by omega⟩;simp only[h,if_true,e]
  ·have e:¬2*k=i:=by omega
   simp only[h,if_false,if_neg e]
theorem ur:∀ {l:List (Nat×Box)}{i:Nat},ag (l.map fun p=>(2*p.1+1,p.2)) i=if i % 2=0 then none else ag l (i / 2)
 | [],i=>by simp[ag]
 | (k,b)::l,i=>by
  simp only[List.map_cons,ag,ur (l:=l)];by_cases h:i % 2=0
  ·have e:¬2*k+1=i:=by omega
   simp only[h,if_true,if_neg e]
  ·have e:(2*k+1=i)=(k=i / 2):=propext ⟨fun h=>by omega,fun h=>by omega⟩;simp only[h,if_false,e]
theorem HT.get_toL:∀ {t:HT}{i:Nat},ag t.toL i=t.get i
 | .emp,_=>rfl
 | .lf k b,i=>by simp only[HT.toL,ag,HT.get]
 | .nd l r,i=>by
  rw[HT.toL,BQ,ri,ur,get_toL,get_toL,HT.get];by_cases h:i % 2=0<;>simp[h]
noncomputable def HT.getK (t:HT):Nat→(Box→Bool)→Bool:=
 HT.rec (motive:=fun _=>Nat→(Box→Bool)→Bool) (fun _ _=>false) (fun k b i K=>Bool.rec (motive:=fun _=>Bool) false (K b) (Nat.beq k i)) (fun _ _ il ir i K=>Nat.rec (motive:=fun _=>Bool) (il (i / 2) K) (fun _ _=>ir (i / 2) K) (i % 2)) t
theorem HT.getK_some:∀ {t:HT}{i:Nat}{K:Box→Bool},t.getK i K=true→∃ b,t.get i=some b∧K b=true
 | .emp,_,_,h=>by cases h
 | .lf k b,i,K,h=>by
  replace h:Bool.rec (motive:=fun _=>Bool) false (K b) (Nat.beq k i)=true:=h
  cases hb:Nat.beq k i with
  | false=>rw[hb] at h;cases h
  | true=>rw[hb] at h;exact⟨b,by simp[HT.get,Nat.eq_of_beq_eq_true hb],h⟩
 | .nd l r,i,K,h=>by
  replace h:Nat.rec (motive:=fun _=>Bool) (l.getK (i / 2) K) (fun _ _=>r.getK (i / 2) K) (i % 2)=true:=h
  rw[HT.get];rcases Nat.mod_two_eq_zero_or_one i with hm|hm
  ·rw[hm] at h;rw[if_pos hm];exact getK_some h
  ·rw[hm] at h;rw[if_neg (by omega)];exact getK_some h
noncomputable def HT.putK (t:HT):Nat→Box→(HT→Bool)→Bool:=
 HT.rec (motive:=fun _=>Nat→Box→(HT→Bool)→Bool) (fun i b K=>K (.lf i b)) (fun k c i b K=>Bool.rec (motive:=fun _=>Bool) (K (HT.two (i+k+1) i b k c)) (K (.lf i b)) (Nat.beq k i))
  (fun l r il ir i b K=>Nat.rec (motive:=fun _=>Bool) (il (i / 2) b (fun l'=>K (.nd l' r))) (fun _ _=>ir (i / 2) b (fun r'=>K (.nd l r'))) (i % 2)) t
theorem HT.putK_eq:∀ {t:HT}{i:Nat}{b:Box}{K:HT→Bool},t.putK i b K=K (t.put i b)
 | .emp,_,_,_=>rfl
 | .lf k c,i,b,K=>by
  show Bool.rec (motive:=fun _=>Bool) (K (HT.two (i+k+1) i b k c)) (K (.lf i b)) (Nat.beq k i)=_;rw[HT.put];cases hb:Nat.beq k i with
  | false=>rw[if_neg (fun e=>by subst e;simp at hb)]
  | true=>rw[if_pos (Nat.eq_of_beq_eq_true hb)]
 | .nd l r,i,b,K=>by
  show Nat.rec (motive:=fun _=>Bool) (l.putK (i / 2) b (fun l'=>K (.nd l' r))) (fun _ _=>r.putK (i / 2) b (fun r'=>K (.nd l r'))) (i % 2)=_;rw[HT.put];rcases Nat.mod_two_eq_zero_or_one i with h|h
  ·rw[h,if_pos rfl];exact putK_eq
  ·rw[h,if_neg (by decide)];exact putK_eq
noncomputable def HT.delK (t:HT):Nat→(HT→Bool)→Bool:=
 HT.rec (motive:=fun _=>Nat→(HT→Bool)→Bool) (fun _ K=>K .emp) (fun k c i K=>Bool.rec (motive:=fun _=>Bool) (K (.lf k c)) (K .emp) (Nat.beq k i))
  (fun l r il ir i K=>Nat.rec (motive:=fun _=>Bool) (il (i / 2) (fun l'=>K (.nd l' r))) (fun _ _=>ir (i / 2) (fun r'=>K (.nd l r'))) (i % 2)) t
theorem HT.delK_eq:∀ {t:HT}{i:Nat}{K:HT→Bool},t.delK i K=K (t.del i)
 | .emp,_,_=>rfl
 | .lf k c,i,K=>by
  show Bool.rec (motive:=fun _=>Bool) (K (.lf k c)) (K .emp) (Nat.beq k i)=_;rw[HT.del];cases hb:Nat.beq k i with
  | false=>rw[if_neg (fun e=>by subst e;simp at hb)]
  | true=>rw[if_pos (Nat.eq_of_beq_eq_true hb)]
 | .nd l r,i,K=>by
  show Nat.rec (motive:=fun _=>Bool) (l.delK (i / 2) (fun l'=>K (.nd l' r))) (fun _ _=>r.delK (i / 2) (fun r'=>K (.nd l r'))) (i % 2)=_;rw[HT.del];rcases Nat.mod_two_eq_zero_or_one i with h|h
  ·rw[h,if_pos rfl];exact delK_eq
  ·rw[h,if_neg (by decide)];exact delK_eq
def HT.heap (t:HT) (n:Nat):aB:=⟨n,t.toL⟩
theorem HT.heap_get {t:HT}{n i:Nat}:(t.heap n).get i=t.get i:=HT.get_toL
structure Heq (h h':aB):Prop where
 next:h.next=h'.next
 get:∀ i,h.get i=h'.get i
theorem Heq.refl (h:aB):Heq h h:=⟨rfl,fun _=>rfl⟩
theorem Heq.symm {h h':aB}(e:Heq h h'):Heq h' h:=⟨e.next.symm,fun i=>(e.get i).symm⟩
theorem Heq.trans {a b c:aB}(e:Heq a b) (f:Heq b c):Heq a c:=⟨e.next.trans f.next,fun i=>(e.get i).trans (f.get i)⟩
theorem bq.congr {c:Ctx}{h h':aB}(e:Heq h h'){b:Nat}(ho:bq c h b):bq c h' b:=by
 obtain⟨id,box,o,h1,h2⟩:=ho;exact⟨id,box,o,by rw[←e.get];exact h1,h2⟩
theorem Rel.congr {c:Ctx}{h h':aB}(e:Heq h h') (R:Rel c h):Rel c h':=
 ⟨R.size,fun id hid=>R.fresh id (by rw[e.next];exact hid),fun id box hg=>R.live id box (by rw[e.get];exact hg),fun i j bi bj b o o' h1 h2=>R.inj i j bi bj b o o' (by rw[e.get];exact h1) (by rw[e.get];exact h2),R.inv⟩
theorem ak.congr {c c':Ctx}{h h' k k':aB}(e:Heq h h') (f:Heq k k') (g:ak c h c' k):ak c h' c' k':=
 ⟨g.keeps,g.os,g.tape,g.output,g.size,by rw[←e.next,←f.next];exact g.next,fun b hb hn=>g.frame b hb (fun ho=>hn (ho.congr e)),fun b ho=>(g.own b (ho.congr f.symm)).imp (fun h=>h) (fun h=>h.congr e),fun b hb=>(g.stable b hb).imp (fun h=>h) (fun h=>h.imp (fun h=>h) (fun h=>h.congr e))⟩
end Go.Am
/-
 The abstract machine,part 42: operations over trees,in a way that the kernel reckons fast.
-/
namespace Go.Am
variable [GT]
def tmL (n:Nat) (t:Tr):List D:=(List.range n).map t.get
theorem lm {n i:Nat}{t:Tr}(h:i<n):(tmL n t)[i]?=some (t.get i):=by simp[tmL,h]
theorem iR {n:Nat}{t:Tr}:(tmL n t).length=n:=by simp[tmL]
theorem ww {n k i:Nat}{t:Tr}{d:D}(hp:t.perf k) (hn:n≤2 ^ k) (hi:i<n):(tmL n t).set i d=tmL n (t.set i d):=by
 apply List.ext_getElem?;intro j;rw[List.getElem?_set];by_cases hj:j<n
 ·rw[lm hj,lm hj,Tr.get_set hp (by omega) (by omega),iR];by_cases e:i=j
  ·subst e;simp[hj]
  ·simp[e]
 ·rw[List.getElem?_eq_none (by rw[iR];omega),List.getElem?_eq_none (by rw[iR];omega)];split
  ·rename_i e;subst e;omega
  ·rfl
def bE {α:Type}(o:Option α) (K:α→Bool):Bool:=
 match o with
 | some d=>K d
 | none=>false
theorem ai {α:Type}{o:Option α}{K:α→Bool}(h:bE o K=true):∃ d,o=some d∧K d=true:=by
 unfold bE at h;split at h
 ·exact⟨_,rfl,h⟩
 ·cases h
def mv (d:D) (K:D→Bool):Bool:=
 match d with
 | .any=>false
 | d=>K d
noncomputable def xev (n:Nat) (t:Tr) (o:Operand) (K:D→Bool):Bool:=
 match o with
 | .tmp i=>Bool.rec (motive:=fun _=>Bool) false (t.getK i (fun d=>mv d K)) (Nat.blt i n)
 | .const v=>bE (ofV v) K
 | .func f=>K (.fn (.func f) [] [])
 | .global g=>bE ((GT.tab g).map .iptr) K
theorem ax {n:Nat}{t:Tr}{o:Operand}{K:D→Bool}(h:xev n t o K=true):∃ d,ev (tmL n t) o=some d∧K d=true:=by
 cases o with
 | tmp i=>
  replace h:Bool.rec (motive:=fun _=>Bool) false (t.getK i (fun d=>mv d K)) (Nat.blt i n)=true:=h
  cases hb:Nat.blt i n with
  | false=>rw[hb] at h;cases h
  | true=>
   rw[hb] at h
   replace h:t.getK i (fun d=>mv d K)=true:=h
   rw[Tr.getK_eq] at h;have hi:i<n:=by simpa [Nat.blt_eq] using hb
   unfold mv at h;split at h
   ·cases h
   ·exact⟨t.get i,by simp only[ev,List.getD,lm hi,Option.getD_some],h⟩
 | const v=>exact ai h
 | func f=>exact⟨_,rfl,h⟩
 | global g=>exact ai h
noncomputable def oK (n:Nat) (t:Tr) (xs:List Operand):(List D→Bool)→Bool:=
 List.rec (motive:=fun _=>(List D→Bool)→Bool) (fun K=>K []) (fun x _ ih K=>xev n t x (fun d=>ih (fun ds=>K (d::ds)))) xs
theorem fA {n:Nat}{t:Tr}:∀ {xs:List Operand}{K:List D→Bool},oK n t xs K=true→∃ ds,evs (tmL n t) xs=some ds∧K ds=true
 | [],_,h=>⟨[],rfl,h⟩
 | x::xs,K,h=>by
  obtain⟨d,h1,h2⟩:=ax (show xev n t x (fun d=>oK n t xs (fun ds=>K (d::ds)))=true from h);obtain⟨ds,h3,h4⟩:=fA h2;exact⟨d::ds,by simp only[evs,h1,h3],h4⟩
noncomputable def mW (n:Nat) (t:Tr) (ps:List (Nat×Operand)):(List (Nat×D)→Bool)→Bool:=
 List.rec (motive:=fun _=>(List (Nat×D)→Bool)→Bool) (fun K=>K []) (fun p _ ih K=>xev n t p.2 (fun d=>ih (fun ds=>K ((p.1,d)::ds)))) ps
theorem iP {n:Nat}{t:Tr}:∀ {ps:List (Nat×Operand)}{K:List (Nat×D)→Bool},mW n t ps K=true→∃ ds,fv (tmL n t) ps=some ds∧K ds=true
 | [],_,h=>⟨[],rfl,h⟩
 | (i,x)::xs,K,h=>by
  obtain⟨d,h1,h2⟩:=ax (show xev n t x (fun d=>mW n t xs (fun ds=>K ((i,d)::ds)))=true from h);obtain⟨ds,h3,h4⟩:=iP h2;exact⟨(i,d)::ds,by simp only[fv,h1,h3],h4⟩
noncomputable def zi (n:Nat) (t:Tr) (o:Option Operand) (K:Option D→Bool):Bool:=
 match o with
 | some y=>xev n t y (fun d=>K (some d))
 | none=>K none
theorem o7 {n:Nat}{t:Tr}{o:Option Operand}{K:Option D→Bool}(h:zi n t o K=true):∃ d,evO (tmL n t) o=some d∧K d=true:=by
 cases o with
 | none=>exact⟨none,rfl,h⟩
 | some y=>
  obtain⟨d,h1,h2⟩:=ax (show xev n t y (fun d=>K (some d))=true from h);exact⟨some d,by simp only[evO,h1,kF],h2⟩
def ibl (m n:Int):Bool:=
 match m,n with
 | .ofNat a,.ofNat b=>Nat.blt a b
 | .ofNat _,.negSucc _=>false
 | .negSucc _,.ofNat _=>true
 | .negSucc a,.negSucc b=>Nat.blt b a
theorem gT {m n:Int}:ibl m n=true↔m<n:=by
 cases m with
 | ofNat a=>
  cases n with
  | ofNat b=>simp only[ibl,Nat.blt_eq,Int.ofNat_eq_natCast];omega
  | negSucc b=>exact⟨fun h=>(by cases h),fun h=>(by simp only[Int.ofNat_eq_natCast] at h;omega)⟩
 | negSucc a=>
  cases n with
  | ofNat b=>exact⟨fun _=>(by simp only[Int.ofNat_eq_natCast];omega),fun _=>rfl⟩
  | negSucc b=>simp only[ibl,Nat.blt_eq];omega
def ibe (m n:Int):Bool:=
 match m,n with
 | .ofNat a,.ofNat b=>Nat.beq a b
 | .negSucc a,.negSucc b=>Nat.beq a b
 | _,_=>false
theorem oh {m n:Int}:ibe m n=true↔m=n:=by
 cases m<;>cases n<;>simp[ibe,Nat.beq_eq]<;>omega
def mz (m:Int) (K:Int→Bool):Bool:=
 match m with
 | .ofNat a=>(match a with|0=>K (.ofNat 0)|p+1=>K (.ofNat (p+1)))
 | .negSucc a=>(match a with|0=>K (.negSucc 0)|p+1=>K (.negSucc (p+1)))
theorem rk {m:Int}{K:Int→Bool}:mz m K=K m:=by
 unfold mz;split
 ·split<;>rfl
 ·split<;>rfl
def y9 (m:Int):Bool:=match m with|.ofNat a=>Nat.ble a 9223372036854775807|.negSucc a=>Nat.ble a 9223372036854775807
theorem uq {m:Int}(h:y9 m=true):-9223372036854775808≤m∧m≤9223372036854775807:=by
 cases m<;>simp only[y9,Nat.ble_eq,Int.ofNat_eq_natCast] at h ⊢<;>omega
def gg:List UInt8→List UInt8→Bool
 | [],[]=>true
 | a::l,b::m=>Nat.beq a.toNat b.toNat&&gg l m
 | _,_=>false
theorem cI:∀ {u v:List UInt8},gg u v=true↔u=v
 | [],[]=>by simp[gg]
 | [],_::_=>by simp[gg]
 | _::_,[]=>by simp[gg]
 | a::l,b::m=>by
  simp only[gg,kC,Nat.beq_eq,cI (u:=l) (v:=m),List.cons.injEq,UInt8.toNat_inj]
def ifB (c:Bool) (x y:Bool):Bool:=match c with|true=>x|false=>y
def fg (P:Program) (op:BinOp) (t:TypeId) (ox oy:Operand) (a b:D) (K:D→Bool):Bool:=
 match a,b with
 | .v (.int .i64 m),.v (.int .i64 n)=>
  match op with
  | .lss=>ifB (ibl m n) (K (boo true)) (K (boo false))
  | .leq=>ifB (ibl n m) (K (boo false)) (K (boo true))
  | .gtr=>ifB (ibl n m) (K (boo true)) (K (boo false))
  | .geq=>ifB (ibl m n) (K (boo false)) (K (boo true))
  | .eql=>ifB (ibe m n) (K (boo true)) (K (boo false))
  | .neq=>ifB (ibe m n) (K (boo false)) (K (boo true))
  | .add=>mz (m+n) fun r=>ifB (y9 r) (K (.v (.int .i64 r))) false
  | .sub=>mz (m-n) fun r=>ifB (y9 r) (K (.v (.int .i64 r))) false
  | _=>bE (cV P op t ox oy a b) K
 | .str u,.str v=>
  match op with
  | .eql=>ifB (gg u v) (K (boo true)) (K (boo false))
  | .neq=>ifB (gg u v) (K (boo false)) (K (boo true))
  | _=>bE (cV P op t ox oy a b) K
 | _,_=>bE (cV P op t ox oy a b) K
theorem ae {c x y:Bool}(h:ifB c x y=true):(c=true∧x=true)∨(c=false∧y=true):=by
 cases c
 ·exact .inr ⟨rfl,h⟩
 ·exact .inl ⟨rfl,h⟩
theorem zl {P:Program}{op:BinOp}{t:TypeId}{ox oy:Operand}{a b:D}{K:D→Bool}(h:fg P op t ox oy a b K=true):∃ d,cV P op t ox oy a b=some d∧K d=true:=by
 unfold fg at h;split at h
 ·rename_i m n;have go:∀ (op:BinOp),lk P op t ox oy (.v (.int .i64 m)) (.v (.int .i64 n)) (fun d=>K d=true)→∃ d,cV P op t ox oy (.v (.int .i64 m)) (.v (.int .i64 n))=some d∧K d=true:=fun op hv=>lh hv
  split at h
  ·refine go _ ?_;simp only[lk,if_true];rcases ae h with⟨h1,h2⟩|⟨h1,h2⟩
   ·exact⟨fun _=>h2,fun hn=>absurd (gT.1 h1) hn⟩
   ·exact⟨fun hy=>absurd (gT.2 hy) (by simp[h1]),fun _=>h2⟩
  ·refine go _ ?_;simp only[lk,if_true];rcases ae h with⟨h1,h2⟩|⟨h1,h2⟩
   ·exact⟨fun hy=>by have:=gT.1 h1;omega,fun _=>h2⟩
   ·exact⟨fun _=>h2,fun hn=>absurd (gT.2 (show n<m by omega)) (by simp[h1])⟩
  ·refine go _ ?_;simp only[lk,if_true];rcases ae h with⟨h1,h2⟩|⟨h1,h2⟩
   ·exact⟨fun _=>h2,fun hn=>absurd (gT.1 h1) hn⟩
   ·exact⟨fun hy=>absurd (gT.2 hy) (by simp[h1]),fun _=>h2⟩
  ·refine go _ ?_;simp only[lk,if_true];rcases ae h with⟨h1,h2⟩|⟨h1,h2⟩
   ·exact⟨fun hy=>by have:=gT.1 h1;omega,fun _=>h2⟩
   ·exact⟨fun _=>h2,fun hn=>absurd (gT.2 (show m<n by omega)) (by simp[h1])⟩
  ·refine go _ ?_;simp only[lk,if_true];rcases ae h with⟨h1,h2⟩|⟨h1,h2⟩
   ·exact⟨fun _=>h2,fun hn=>absurd (oh.1 h1) hn⟩
   ·exact⟨fun hy=>absurd (oh.2 hy) (by simp[h1]),fun _=>h2⟩
  ·refine go _ ?_;simp only[lk,if_true];rcases ae h with⟨h1,h2⟩|⟨h1,h2⟩
   ·exact⟨fun _=>h2,fun hn=>absurd (oh.1 h1) hn⟩
   ·exact⟨fun hy=>absurd (oh.2 hy) (by simp[h1]),fun _=>h2⟩
  ·refine go _ ?_;rw[rk] at h;simp only[lk,if_true];rcases ae h with⟨h1,h2⟩|⟨_,h2⟩
   ·exact⟨uq h1,h2⟩
   ·cases h2
  ·refine go _ ?_;rw[rk] at h;simp only[lk,if_true];rcases ae h with⟨h1,h2⟩|⟨_,h2⟩
   ·exact⟨uq h1,h2⟩
   ·cases h2
  ·exact ai h
 ·rename_i u v;have go:∀ (op:BinOp),lk P op t ox oy (.str u) (.str v) (fun d=>K d=true)→∃ d,cV P op t ox oy (.str u) (.str v)=some d∧K d=true:=fun op hv=>lh hv
  split at h
  ·refine go _ ?_;simp only[lk];rcases ae h with⟨h1,h2⟩|⟨h1,h2⟩
   ·exact⟨fun _=>h2,fun hn=>absurd (cI.1 h1) hn⟩
   ·exact⟨fun hy=>absurd (cI.2 hy) (by simp[h1]),fun _=>h2⟩
  ·refine go _ ?_;simp only[lk];rcases ae h with⟨h1,h2⟩|⟨h1,h2⟩
   ·exact⟨fun _=>h2,fun hn=>absurd (cI.1 h1) hn⟩
   ·exact⟨fun hy=>absurd (cI.2 hy) (by simp[h1]),fun _=>h2⟩
  ·exact ai h
 ·exact ai h
noncomputable def zx (l:List D):Nat→(List D→Bool)→Bool:=
 List.rec (motive:=fun _=>Nat→(List D→Bool)→Bool) (fun n K=>Nat.rec (motive:=fun _=>Bool) (K []) (fun _ _=>false) n)
  (fun x _ ih n K=>Nat.rec (motive:=fun _=>Bool) (K []) (fun m _=>ih m (fun ds=>K (x::ds))) n) l
theorem pD:∀ {l:List D}{n:Nat}{K:List D→Bool},zx l n K=true→n≤l.length∧K (l.take n)=true
 | [],0,K,h=>⟨by simp,h⟩
 | [],n+1,K,h=>by cases h
 | x::l,0,K,h=>⟨by simp,h⟩
 | x::l,n+1,K,h=>by
  obtain⟨h1,h2⟩:=pD (l:=l) (n:=n) (K:=fun ds=>K (x::ds)) h;exact⟨by simpa using h1,h2⟩
noncomputable def gv (l:List D):Nat→Nat→(List D→Bool)→Bool:=
 List.rec (motive:=fun _=>Nat→Nat→(List D→Bool)→Bool) (fun off n K=>Nat.rec (motive:=fun _=>Bool) (Nat.rec (motive:=fun _=>Bool) (K []) (fun _ _=>false) n) (fun _ _=>false) off)
  (fun x l ih off n K=>Nat.rec (motive:=fun _=>Bool) (zx (x::l) n K) (fun m _=>ih m n K) off) l
theorem iH:∀ {l:List D}{off n:Nat}{K:List D→Bool},gv l off n K=true→off+n≤l.length∧K ((l.drop off).take n)=true
 | [],0,0,K,h=>⟨by simp,h⟩
 | [],0,n+1,K,h=>by cases h
 | [],off+1,n,K,h=>by cases h
 | x::l,0,n,K,h=>by
  obtain⟨h1,h2⟩:=pD (show zx (x::l) n K=true from h);exact⟨by simpa using h1,by simpa using h2⟩
 | x::l,off+1,n,K,h=>by
  obtain⟨h1,h2⟩:=iH (l:=l) (off:=off) (n:=n) (K:=K) h;exact⟨by simp only[kO];omega,by simpa using h2⟩
noncomputable def q0 (ti:TI) (h:HT) (t:TypeId) (a:D) (K:D→Bool):Bool:=
 match ti t with
 | some x=>
  match a with
  | .ptr id off=>h.getK id fun b=>
   match b with
   | .cells cs _=>gv cs off x.size fun ds=>bE (cd x.u ds) K
   | _=>false
  | .iptr cs=>gv cs 0 x.size fun ds=>bE (cd x.u ds) K
  | _=>false
 | none=>false
theorem o6 {ti:TI}{h:HT}{n:Nat}{t:TypeId}{a:D}{K:D→Bool}(hs:q0 ti h t a K=true):∃ d,gc ti (h.heap n) t a=some d∧K d=true:=by
 unfold q0 at hs;split at hs
 ·rename_i x hx;split at hs
  ·rename_i id off;obtain⟨b,hb,hs⟩:=HT.getK_some hs;split at hs
   ·rename_i cs ex;obtain⟨h1,h2⟩:=iH hs;obtain⟨d,h3,h4⟩:=ai h2;exact⟨d,by unfold gc;simp only[hx,HT.heap_get,hb];rw[if_pos h1];exact h3,h4⟩
   ·cases hs
  ·rename_i cs;obtain⟨h1,h2⟩:=iH hs;obtain⟨d,h3,h4⟩:=ai h2;exact⟨d,by unfold gc;simp only[hx];rw[if_pos (by omega)];simpa using h3,h4⟩
  ·cases hs
 ·cases hs
noncomputable def t9 (new:List D):List D→(List D→Bool)→Bool:=
 List.rec (motive:=fun _=>List D→(List D→Bool)→Bool) (fun l K=>K l) (fun y _ ih l K=>List.rec (motive:=fun _=>Bool) false (fun _ l _=>ih l (fun r=>K (y::r))) l) new
theorem pG:∀ {new l:List D}{K:List D→Bool},t9 new l K=true→new.length≤l.length∧K (new++l.drop new.length)=true
 | [],l,K,h=>⟨by simp,by have h':K l=true:=h;simpa using h'⟩
 | y::new,[],K,h=>by cases h
 | y::new,x::l,K,h=>by
  obtain⟨h1,h2⟩:=pG (new:=new) (l:=l) (K:=fun r=>K (y::r)) h;exact⟨by simpa using h1,by simpa using h2⟩
noncomputable def splK (l:List D):Nat→List D→(List D→Bool)→Bool:=
 List.rec (motive:=fun _=>Nat→List D→(List D→Bool)→Bool) (fun off new K=>Nat.rec (motive:=fun _=>Bool) (t9 new [] K) (fun _ _=>false) off)
  (fun x l ih off new K=>Nat.rec (motive:=fun _=>Bool) (t9 new (x::l) K) (fun m _=>ih m new (fun r=>K (x::r))) off) l
theorem w9:∀ {l:List D}{off:Nat}{new:List D}{K:List D→Bool},splK l off new K=true→off+new.length≤l.length∧K (splice l off new)=true
 | [],0,new,K,h=>by
  obtain⟨h1,h2⟩:=pG (show t9 new [] K=true from h);exact⟨by simpa using h1,by simpa [splice] using h2⟩
 | [],off+1,new,K,h=>by cases h
 | x::l,0,new,K,h=>by
  obtain⟨h1,h2⟩:=pG (show t9 new (x::l) K=true from h);exact⟨by simpa using h1,by simpa [splice] using h2⟩
 | x::l,off+1,new,K,h=>by
  obtain⟨h1,h2⟩:=w9 (l:=l) (off:=off) (new:=new) (K:=fun r=>K (x::r)) h;refine⟨by simp only[kO];omega,?_⟩
  have e:splice (x::l) (off+1) new=x::splice l off new:=by
   simp only[splice,List.take_succ_cons,List.cons_append,List.cons.injEq,true_and];rw[show off+1+new.length=(off+new.length)+1 from by omega,List.drop_succ_cons]
  rw[e];exact h2
theorem Heq.put {h:HT}{n i:Nat}{b:Box}:Heq ((h.heap n).put i b) ((h.put i b).heap n):=⟨rfl,fun j=>by rw[aB.get_put,HT.heap_get,HT.heap_get,HT.get_put]⟩
theorem Heq.set {h:HT}{n i:Nat}{b b0:Box}(hg:h.get i=some b0):Heq ((h.heap n).set i b) ((h.put i b).heap n):=⟨rfl,fun j=>by rw[aB.get_set,HT.heap_get,HT.heap_get,HT.heap_get,HT.get_put,hg];rfl⟩
theorem Heq.delput {h:HT}{n i k:Nat}{b:Box}:Heq (((h.heap n).del i).put k b) (((h.del i).put k b).heap n):=⟨rfl,fun j=>by rw[aB.get_put,aB.get_del,HT.heap_get,HT.heap_get,HT.get_put,HT.get_del]⟩
noncomputable def ou (ti:TI) (h:HT) (t:TypeId) (a d:D) (K:HT→Bool):Bool:=
 match ti t with
 | some x=>
  match a with
  | .ptr id off=>h.getK id fun b=>
   match b with
   | .cells cs ex=>ifB (Nat.beq (cL d).length x.size&&eP (cL d)) (splK cs off (cL d) fun cs'=>h.putK id (.cells cs' ex) K) false
   | _=>false
  | _=>false
 | none=>false
theorem sI {ti:TI}{h:HT}{n:Nat}{t:TypeId}{a d:D}{K:HT→Bool}(hs:ou ti h t a d K=true):∃ h1 h',gw ti (h.heap n) t a d=some h1∧Heq h1 (h'.heap n)∧K h'=true:=by
 unfold ou at hs;split at hs
 ·rename_i x hx;split at hs
  ·rename_i id off;obtain⟨b,hb,hs⟩:=HT.getK_some hs;split at hs
   ·rename_i cs ex;rcases ae hs with⟨h1,hs⟩|⟨_,h2⟩
    ·simp only[kC,Nat.beq_eq] at h1;obtain⟨h3,h4⟩:=w9 hs;rw[HT.putK_eq] at h4;refine⟨_,_,?_,Heq.set hb,h4⟩;unfold gw;simp only[hx,HT.heap_get,hb];rw[if_pos ⟨h1.1,by rw[←h1.1];exact h3,h1.2⟩]
    ·cases h2
   ·cases hs
  ·cases hs
 ·cases hs
def rZ (h:HT) (i:Nat):Bool:=match h.get i with|some (.cells _ _)=>true|_=>false
def xD (live:Nat→Bool) (k k':D):Option Bool:=
 match k,k' with
 | .str a,.str b=>some (gg a b)
 | .v (.int k a),.v (.int k' b)=>if k=k' then some (a == b) else none
 | .ptr i o,.ptr i' o'=>if live i&&live i' then some (i == i' && o == o') else none
 | .agg as,.agg bs=>fk as bs
 | _,_=>none
noncomputable def xj (live:Nat→Bool) (k:D) (es:List (D×D)):Nat→(Option (Nat×D)→Bool)→Bool:=
 List.rec (motive:=fun _=>Nat→(Option (Nat×D)→Bool)→Bool) (fun _ K=>K none) (fun p _ ih i K=>bE (xD live k p.1) fun b=>ifB b (K (some (i,p.2))) (ih (i+1) K)) es
theorem A9 {h:HT}{n i:Nat}:cX (h.heap n) i=rZ h i:=by
 unfold cX rZ;rw[HT.heap_get];rfl
theorem AQ {h:HT}{n:Nat}{k k':D}:bg (h.heap n) k k'=xD (rZ h) k k':=by
 cases k with
 | str a=>
  cases k' with
  | str b=>
   show some (a == b)=some (gg a b);congr 1;cases hs:gg a b with
   | true=>rw[cI.1 hs];simp
   | false=>
    have:¬a=b:=fun e=>by rw[cI.2 e] at hs;cases hs
    simpa using this
  | _=>first|rfl|(rename_i y;cases y<;>rfl)
 | v x=>
  cases k' with
  | v y=>cases x<;>cases y<;>rfl
  | _=>cases x<;>rfl
 | ptr i o=>
  cases k' with
  | ptr i' o'=>simp only[bg,xD,A9]
  | _=>first|rfl|(rename_i y;cases y<;>rfl)
 | _=>cases k'<;>first|rfl|(rename_i y;cases y<;>rfl)
theorem qI {h:HT}{n:Nat}{k:D}:∀ {es:List (D×D)}{i:Nat}{K:Option (Nat×D)→Bool},xj (rZ h) k es i K=true→∃ r,cY (h.heap n) k es i=some r∧K r=true
 | [],_,_,h=>⟨none,rfl,h⟩
 | (k',x)::es,i,K,h=>by
  obtain⟨b,h1,h2⟩:=ai (show bE (xD _ k k') (fun b=>ifB b (K (some (i,x))) (xj _ k es (i+1) K))=true from h);simp only[cY,AQ,h1];cases b with
  | true=>exact⟨_,rfl,h2⟩
  | false=>exact qI h2
noncomputable def mapK (h:HT) (m:D) (K:List (D×D)→Bool):Bool:=
 match m with
 | .v (.map none)=>K []
 | .map id=>h.getK id fun b=>match b with|.map es=>K es|_=>false
 | _=>false
theorem DJ {h:HT}{n:Nat}{m:D}{K:List (D×D)→Bool}(hs:mapK h m K=true):∃ es,mE (h.heap n) m=some es∧K es=true:=by
 unfold mapK at hs;split at hs
 ·exact⟨[],rfl,hs⟩
 ·obtain⟨b,hb,hs⟩:=HT.getK_some hs;split at hs
  ·rename_i es;exact⟨es,by simp only[mE,HT.heap_get,hb],hs⟩
  ·cases hs
 ·cases hs
noncomputable def wp (ti:TI) (h:HT) (t:TypeId) (m k:D) (ok:Bool) (K:D→Bool):Bool:=
 match ti t with
 | some a=>
  match a.u with
  | .map kt e=>
   match ti kt,ti e with
   | some ka,some ea=>mapK h m fun es=>ifB (mw ti ka k) (xj (rZ h) k es 0 fun r=>
     match r with
     | some (_,x)=>(match ok with|true=>K (.tup [x,.v (.bool true)])|false=>K x)
     | none=>(match ok with|true=>K (.tup [ea.zeroD,.v (.bool false)])|false=>K ea.zeroD)) false
   | _,_=>false
  | _=>false
 | none=>false
theorem vT {ti:TI}{h:HT}{n:Nat}{t:TypeId}{m k:D}{ok:Bool}{K:D→Bool}(hs:wp ti h t m k ok K=true):∃ d,e8 ti (h.heap n) t m k ok=some d∧K d=true:=by
 unfold wp at hs;split at hs
 ·rename_i a ha;split at hs
  ·rename_i kt e hu;split at hs
   ·rename_i ka ea h1 h2;obtain⟨es,h3,hs⟩:=DJ (n:=n) hs;rcases ae hs with⟨hk,hs⟩|⟨_,h0⟩
    ·obtain⟨r,hr,hK⟩:=qI (n:=n) hs;unfold e8;simp only[ha,hu,h1,h2,h3,hk,if_true,hr];cases r with
     | none=>cases ok<;>exact⟨_,rfl,hK⟩
     | some p=>cases ok<;>exact⟨_,rfl,hK⟩
    ·cases h0
   ·cases hs
  ·cases hs
 ·cases hs
noncomputable def qz (ti:TI) (h:HT) (t:TypeId) (m k x:D) (K:HT→Bool):Bool:=
 match ti t with
 | some a=>
  match a.u with
  | .map kt _=>
   match ti kt,m with
   | some ka,.map id=>h.getK id fun b=>
    match b with
    | .map es=>ifB (mw ti ka k) (xj (rZ h) k es 0 fun r=>
      match r with
      | some (i,_)=>h.putK id (.map (es.set i (k,x))) K
      | none=>h.putK id (.map (es++[(k,x)])) K) false
    | _=>false
   | _,_=>false
  | _=>false
 | none=>false
theorem o5 {ti:TI}{h:HT}{n:Nat}{t:TypeId}{m k x:D}{K:HT→Bool}(hs:qz ti h t m k x K=true):∃ h1 h',e7 ti (h.heap n) t m k x=some h1∧Heq h1 (h'.heap n)∧K h'=true:=by
 unfold qz at hs;split at hs
 ·rename_i a ha;split at hs
  ·rename_i kt e hu;split at hs
   ·rename_i ka id h1;obtain⟨b,hb,hs⟩:=HT.getK_some hs;split at hs
    ·rename_i es;rcases ae hs with⟨hk,hs⟩|⟨_,h0⟩
     ·obtain⟨r,hr,hK⟩:=qI (n:=n) hs;unfold e7;simp only[ha,hu,h1,HT.heap_get,hb,hk,if_true,hr];cases r with
      | none=>
       replace hK:h.putK id (.map (es++[(k,x)])) K=true:=hK
       rw[HT.putK_eq] at hK;exact⟨_,_,rfl,Heq.set hb,hK⟩
      | some p=>
       replace hK:h.putK id (.map (es.set p.1 (k,x))) K=true:=hK
       rw[HT.putK_eq] at hK;exact⟨_,_,rfl,Heq.set hb,hK⟩
     ·cases h0
    ·cases hs
   ·cases hs
  ·cases hs
 ·cases hs
noncomputable def srcK (h:HT) (es:Nat) (x:D) (K:Nat→List D→Bool):Bool:=
 match x with
 | .v (.slice none 0 0)=>K 0 []
 | .e0=>K 0 []
 | .imm n cs=>ifB (Nat.beq cs.length (n*es)) (K n cs) false
 | .sl id off n _ es' _=>ifB (Nat.beq es' es) (h.getK id fun b=>match b with|.cells cs _=>gv cs off (n*es) fun ds=>K n ds|_=>false) false
 | .str s=>ifB (Nat.beq es 1) (K s.length (ld s)) false
 | _=>false
theorem Ch {h:HT}{m es:Nat}{x:D}{K:Nat→List D→Bool}(hs:srcK h es x K=true):∃ n xs,bw (h.heap m) es x=some (n,xs)∧K n xs=true:=by
 unfold srcK at hs;split at hs
 ·exact⟨0,[],rfl,hs⟩
 ·exact⟨0,[],rfl,hs⟩
 ·rename_i n cs;rcases ae hs with⟨h1,hs⟩|⟨_,h0⟩
  ·exact⟨n,cs,by simp only[bw];rw[if_pos (by simpa using h1)],hs⟩
  ·cases h0
 ·rename_i id off n cap es' ex;rcases ae hs with⟨h1,hs⟩|⟨_,h0⟩
  ·obtain⟨b,hb,hs⟩:=HT.getK_some hs;split at hs
   ·rename_i cs bx;obtain⟨h2,h3⟩:=iH hs;exact⟨n,_,by simp only[bw,HT.heap_get,hb];rw[if_pos (by simpa using h1),if_pos h2],h3⟩
   ·cases hs
  ·cases h0
 ·rename_i s;rcases ae hs with⟨h1,hs⟩|⟨_,h0⟩
  ·exact⟨_,_,by simp only[bw];rw[if_pos (by simpa using h1)],hs⟩
  ·cases h0
 ·cases hs
noncomputable def Cb (ti:TI) (h:HT) (id:Nat) (ts:List TypeId) (s x:D) (K:D→HT→Bool):Bool:=
 match ts with
 | st::xt::_=>
  match ti st,ti xt with
  | some a,some b=>
   match a.u with
   | .slice e=>
    match ti e with
    | some ei=>ifB (yb b.u) (srcK h ei.size x fun n xs=>
      match s with
      | .v (.slice none 0 0)=>ifB (Nat.beq n 0) (K s h) (ifB (Nat.ble (n*ei.bytes) aq&&Nat.ble n aq) (h.putK id (.cells xs false) (K (.sl id 0 n n ei.size false))) false)
      | .e0=>ifB (Nat.beq n 0) (K .e0 h) (ifB (Nat.ble (n*ei.bytes) aq&&Nat.ble n aq) (h.putK id (.cells xs false) (K (.sl id 0 n n ei.size false))) false)
      | .sl i off m cap es ex=>ifB (Nat.beq es ei.size&&eP xs) (h.getK i fun b=>
        match b with
        | .cells cs bx=>
         ifB (Nat.ble (m+n) cap) (ifB (Nat.ble (off+(m+n)*es) cs.length) (h.putK i (.cells (splice cs (off+m*es) xs) bx) (K (.sl i off (m+n) cap es ex))) false)
          (ifB (Nat.ble ((m+n)*ei.bytes) aq&&(Nat.ble (m+n) aq&&Nat.ble (off+m*es) cs.length))
           (match ex with
           | true=>h.putK id (.cells ((cs.drop off).take (m*es)++xs) false) (K (.sl id 0 (m+n) (m+n) es false))
           | false=>h.delK i fun h'=>h'.putK id (.cells ((cs.drop off).take (m*es)++xs) false) (K (.sl id 0 (m+n) (m+n) es false))) false)
        | _=>false) false
      | _=>false) false
    | none=>false
   | _=>false
  | _,_=>false
 | _=>false
theorem zm {ti:TI}{h:HT}{k id:Nat}{ts:List TypeId}{s x:D}{K:D→HT→Bool}(hs:Cb ti h id ts s x K=true):∃ d h1 h',e9 ti (h.heap k) id ts s x=some (d,h1)∧Heq h1 (h'.heap k)∧K d h'=true:=by
 unfold Cb at hs;split at hs
 ·rename_i st xt _;split at hs
  ·rename_i a b ha hb;split at hs
   ·rename_i e hu;split at hs
    ·rename_i ei hei;rcases ae hs with⟨hsu,hs⟩|⟨_,h0⟩
     ·obtain⟨n,xs,hsrc,hs⟩:=Ch (m:=k) hs;unfold e9;have hsu':(yb b.u=false)=False:=by rw[hsu];simp
      simp only[ha,hb,hu,hei,hsu',if_false,hsrc];split at hs
      ·rcases ae hs with⟨h1,hs⟩|⟨h1,hs⟩
       ·exact⟨_,_,_,by simp only;rw[if_pos (by simpa using h1)],Heq.refl _,hs⟩
       ·rcases ae hs with⟨h2,hs⟩|⟨_,h0⟩
        ·rw[HT.putK_eq] at hs;simp only[kC,Nat.ble_eq] at h2;exact⟨_,_,_,by simp only;rw[if_neg (by intro hc;subst hc;simp at h1),if_pos h2],Heq.put,hs⟩
        ·cases h0
      ·rcases ae hs with⟨h1,hs⟩|⟨h1,hs⟩
       ·exact⟨_,_,_,by simp only;rw[if_pos (by simpa using h1)],Heq.refl _,hs⟩
       ·rcases ae hs with⟨h2,hs⟩|⟨_,h0⟩
        ·rw[HT.putK_eq] at hs;simp only[kC,Nat.ble_eq] at h2;exact⟨_,_,_,by simp only;rw[if_neg (by intro hc;subst hc;simp at h1),if_pos h2],Heq.put,hs⟩
        ·cases h0
      ·rename_i i off m cap es ex _ _;rcases ae hs with⟨h1,hs⟩|⟨_,h0⟩
       ·simp only[kC,Nat.beq_eq] at h1;obtain⟨bb,hbb,hs⟩:=HT.getK_some hs;split at hs
        ·rename_i cs bx;simp only[h1.1,h1.2,and_self,if_true,HT.heap_get,hbb];rcases ae hs with⟨h2,hs⟩|⟨h2,hs⟩
         ·simp only[Nat.ble_eq] at h2;rcases ae hs with⟨h3,hs⟩|⟨_,h0⟩
          ·rw[HT.putK_eq] at hs;simp only[Nat.ble_eq] at h3;refine⟨_,_,_,?_,Heq.set hbb,hs⟩;rw[if_pos h2,if_pos (by rw[←h1.1];exact h3),h1.1]
          ·cases h0
         ·have h2':¬m+n≤cap:=fun hc=>(show Nat.ble (m+n) cap≠true by rw[h2];simp) (by rw[Nat.ble_eq];exact hc)
          rcases ae hs with⟨h3,hs⟩|⟨_,h0⟩
          ·simp only[kC,Nat.ble_eq] at h3;cases ex with
           | true=>
            simp only at hs;rw[HT.putK_eq] at hs;refine⟨_,_,_,?_,Heq.put,hs⟩;rw[if_neg h2',if_pos (by rw[←h1.1];exact h3),h1.1];rfl
           | false=>
            simp only at hs;rw[HT.delK_eq,HT.putK_eq] at hs;refine⟨_,_,_,?_,Heq.delput,hs⟩;rw[if_neg h2',if_pos (by rw[←h1.1];exact h3),h1.1];rfl
          ·cases h0
        ·cases hs
       ·cases h0
      ·cases hs
     ·cases h0
    ·cases hs
   ·cases hs
  ·cases hs
 ·cases hs
end Go.Am
/-
 The abstract machine,part 43: operations over trees,all of them.
-/
namespace Go.Am
variable [GT]
def mi (l:List (Nat×Box)) (K:Box→Bool):Bool:=
 match l with
 | [(_,b)]=>K b
 | _=>false
theorem nl {l:List (Nat×Box)}{K:Box→Bool}(h:mi l K=true):∃ i b,l=[(i,b)]∧K b=true:=by
 unfold mi at h;split at h
 ·exact⟨_,_,rfl,h⟩
 ·cases h
def xun (P:Program) (op:UnOp) (d:D) (K:D→Bool):Bool:=
 match toV d with
 | some a=>bE (cF P (Op.unary op a)) fun r=>bE (ofV r) fun d'=>(match d' with|.v (.bool true)=>K (.v (.bool true))|.v (.bool false)=>K (.v (.bool false))|d'=>K d')
 | none=>false
noncomputable def wq (P:Program) (ti:TI) (h:HT) (src dst:TypeId) (x:D) (K:D→Bool):Bool:=
 match x with
 | .sl i off m _ es _=>
  match ti src,ti dst with
  | some a,some b=>
   match a.u,b.u with
   | .slice e,.string=>
    match ti e with
    | some ei=>
     match ei.u with
     | .int .u8=>ifB (Nat.beq es 1) (h.getK i fun bx=>
      match bx with
      | .cells cs _=>gv cs off m fun ds=>bE (co ds) fun l=>K (.str l)
      | _=>false) false
     | _=>false
    | none=>false
   | _,_=>false
  | _,_=>false
 | .v (.int k v)=>bE (cG P ti ⟨0,[]⟩ src dst (.v (.int k v))) fun r=>K r.1
 | _=>false
theorem tf {P:Program}{ti:TI}{h:aB}{src dst:TypeId}{k:IntKind}{v:Int}{r:D×aB}(hr:cG P ti ⟨0,[]⟩ src dst (.v (.int k v))=some r):cG P ti h src dst (.v (.int k v))=some (r.1,h):=by
 cases ha:ti src with
 | none=>simp[cG,ha] at hr
 | some a=>
  cases hb:ti dst with
  | none=>simp[cG,ha,hb] at hr
  | some b=>
   simp only[cG,ha,hb] at hr ⊢;generalize a.u=au at hr ⊢;generalize b.u=bu at hr ⊢;cases bu with
   | int k'=>
    simp only at hr ⊢;split at hr
    ·obtain⟨d,h1,rfl⟩:=Option.map_eq_some_iff.1 hr;simp[h1]
    ·cases hr
   | string=>
    cases au<;>simp only at hr ⊢<;>first|cases hr|skip
    rename_i e;cases he:ti e with
    | none=>simp[he] at hr
    | some ei=>
     simp only[he,fe] at hr;generalize ei.u=eu at hr;cases eu<;>simp only at hr<;>first|(cases hr;done)|(rename_i q;cases q<;>simp at hr;done)|skip
   | _=>cases au<;>simp at hr
theorem vV {P:Program}{ti:TI}{h:HT}{n:Nat}{src dst:TypeId}{x:D}{K:D→Bool}(hs:wq P ti h src dst x K=true):∃ d,cG P ti (h.heap n) src dst x=some (d,h.heap n)∧K d=true:=by
 unfold wq at hs;split at hs
 ·rename_i i off m cap es ex;split at hs
  ·rename_i a b ha hb;split at hs
   ·rename_i e hau hbu;split at hs
    ·rename_i ei hei;split at hs
     ·rename_i heu;rcases ae hs with⟨h1,hs⟩|⟨_,h0⟩
      ·simp only[Nat.beq_eq] at h1;obtain⟨bx,hbx,hs⟩:=HT.getK_some hs;split at hs
       ·rename_i cs ex';obtain⟨h2,h3⟩:=iH hs;obtain⟨l,h4,h5⟩:=ai h3;refine⟨.str l,?_,h5⟩;simp only[cG,ha,hb,hau,hbu,hei,fe,heu,h1,if_true,HT.heap_get,hbx];rw[if_pos h2,h4];rfl
       ·cases hs
      ·cases h0
     ·cases hs
    ·cases hs
   ·cases hs
  ·cases hs
 ·obtain⟨r,h1,h2⟩:=ai hs;exact⟨r.1,tf h1,h2⟩
 ·cases hs
noncomputable def Ca (P:Program) (ti:TI) (h:HT) (id:Nat) (b:Builtin) (ts:List TypeId) (type:TypeId) (args:List D) (K:D→HT→Bool):Bool:=
 match b,args with
 | .append,[s,x]=>Cb ti h id ts s x K
 | .len,[x]=>(match x with|.map _=>false|x=>bE (fK ti ⟨0,[]⟩ ts x) fun d=>K d h)
 | .min,args=>bE (az P ti ⟨0,[]⟩ id .min ts type args) fun r=>K r.1 h
 | .max,args=>bE (az P ti ⟨0,[]⟩ id .max ts type args) fun r=>K r.1 h
 | _,_=>false
theorem CG {ti:TI}{h:aB}{ts:List TypeId}{x:D}{d:D}(hm:∀ i,x≠.map i) (hr:fK ti ⟨0,[]⟩ ts x=some d):fK ti h ts x=some d:=by
 unfold fK at hr ⊢;split at hr
 ·rename_i t _;split at hr
  ·rename_i a ha;generalize a.u=au at hr ⊢;cases au<;>cases x<;>first|exact hr|exact absurd rfl (hm _)|(rename_i y;cases y<;>first|exact hr|(rename_i a1 a2 a3;cases a1<;>first|exact hr|(cases a2<;>first|exact hr|(cases a3<;>exact hr)))|(rename_i a1;cases a1<;>exact hr))
  ·cases hr
 ·cases hr
theorem zk {P:Program}{ti:TI}{h:HT}{n id:Nat}{b:Builtin}{ts:List TypeId}{type:TypeId}{args:List D}{K:D→HT→Bool}(hs:Ca P ti h id b ts type args K=true):∃ d h1 h',az P ti (h.heap n) id b ts type args=some (d,h1)∧Heq h1 (h'.heap n)∧K d h'=true:=by
 unfold Ca at hs;split at hs
 ·obtain⟨d,h1,h',e1,e2,e3⟩:=zm (k:=n) hs;exact⟨d,h1,h',by simp only[az,e1],e2,e3⟩
 ·rename_i x;split at hs
  ·cases hs
  ·rename_i hne;obtain⟨d,h1,h2⟩:=ai hs;exact⟨d,_,h,by simp only[az,CG (h:=h.heap n) (fun i e=>hne i e) h1,kF],Heq.refl _,h2⟩
 ·obtain⟨r,h1,h2⟩:=ai hs;refine⟨r.1,_,h,?_,Heq.refl _,h2⟩;simp only[az] at h1 ⊢;split at h1
  ·split at h1
   ·obtain⟨d,h3,rfl⟩:=Option.map_eq_some_iff.1 h1;simp[h3]
   ·cases h1
  ·cases h1
 ·obtain⟨r,h1,h2⟩:=ai hs;refine⟨r.1,_,h,?_,Heq.refl _,h2⟩;simp only[az] at h1 ⊢;split at h1
  ·split at h1
   ·obtain⟨d,h3,rfl⟩:=Option.map_eq_some_iff.1 h1;simp[h3]
   ·cases h1
  ·cases h1
 ·cases hs
noncomputable def xop (P:Program) (ti:TI) (n:Nat) (t:Tr) (h:HT) (id:Nat) (o:Oper) (K:D→HT→Bool):Bool:=
 match o.op with
 | .move x=>xev n t x fun d=>K d h
 | .assign x=>xev n t x fun d=>K d h
 | .pick c a b=>xev n t c fun d=>
  match d with
  | .v (.bool true)=>xev n t a fun d=>K d h
  | .v (.bool false)=>xev n t b fun d=>K d h
  | _=>false
 | .alloc ty=>bE (ti ty) fun x=>h.putK id (.cells x.zero true) (K (.ptr id 0))
 | .box _ x=>xev n t x fun d=>h.putK id (.cells (cL d) true) (K (.ptr id 0))
 | .build ty ps=>mW n t ps.toList fun l=>bE (qa ti ty l) fun d=>K d h
 | .buildSlice ty m ps=>mW n t ps.toList fun l=>bE (d6 ti ⟨0,[]⟩ id ty m l) fun r=>mi r.2.bs fun b=>h.putK id b (K r.1)
 | .load ty a=>xev n t a fun d=>q0 ti h ty d fun d=>K d h
 | .store ty a x=>xev n t a fun d=>xev n t x fun e=>ou ti h ty d e (K aX)
 | .nilCheck x=>xev n t x fun d=>bE (eZ d) fun d=>K d h
 | .binOp op ty x y _=>xev n t x fun a=>xev n t y fun b=>fg P op ty x y a b fun d=>K d h
 | .unOp op _ x=>xev n t x fun d=>xun P op d fun d=>K d h
 | .convert s e x=>xev n t x fun d=>wq P ti h s e d fun d=>K d h
 | .makeFunc fn f c=>oK n t f.toList fun a=>oK n t c.toList fun b=>K (.fn fn a b) h
 | .makeMap ty r=>
  match r with
  | none=>h.putK id (.map []) (K (.map id))
  | some x=>xev n t x fun d=>(match d with|.v (.int _ _)=>bE (ti ty) fun a=>(match a.u with|.map _ _=>h.putK id (.map []) (K (.map id))|_=>false)|_=>false)
 | .makeSlice ty l c=>xev n t l fun a=>xev n t c fun b=>bE (dF ti ⟨0,[]⟩ id ty a b) fun r=>mi r.2.bs fun b=>h.putK id b (K r.1)
 | .slice ty x lo hi mx=>xev n t x fun d=>zi n t lo fun l=>zi n t hi fun hh=>zi n t mx fun m=>bE (de ti ty d l hh m) fun d=>K d h
 | .fieldAddr ty x f=>xev n t x fun d=>bE (ee ti ty d f) fun d=>K d h
 | .field ty x f=>xev n t x fun d=>bE (nX ti ty d f) fun d=>K d h
 | .indexAddr ty x i=>xev n t x fun a=>xev n t i fun b=>bE (cf ti ty a b) fun d=>K d h
 | .index ty x i=>xev n t x fun a=>xev n t i fun b=>bE (jy ti ty a b) fun d=>K d h
 | .lookup ty x i ok=>xev n t x fun a=>xev n t i fun b=>wp ti h ty a b ok fun d=>K d h
 | .mapUpdate ty m k x=>xev n t m fun a=>xev n t k fun b=>xev n t x fun d=>qz ti h ty a b d (K aX)
 | .insert ty m k x=>xev n t m fun a=>xev n t k fun b=>xev n t x fun d=>qz ti h ty a b d (K aX)
 | .extract x i=>xev n t x fun d=>
  match d with
  | .tup cs=>bE (cs[i]?) fun d=>K d h
  | _=>false
 | .call c=>
  match c.callee with
  | .builtin b=>oK n t c.args.toList fun ds=>Ca P ti h id b c.argTypes.toList o.type ds K
  | _=>false
 | .makeInterface ty x=>xev n t x fun d=>bE (qZ ti ty d) fun d=>K d h
 | _=>false
theorem xun_un {P:Program}{op:UnOp}{d:D}{K:D→Bool}(h:xun P op d K=true):∃ a r d',toV d=some a∧cF P (Op.unary op a)=some r∧ofV r=some d'∧K d'=true:=by
 unfold xun at h;split at h
 ·rename_i a ha;obtain⟨r,h1,h2⟩:=ai h;obtain⟨d',h3,h4⟩:=ai h2;refine⟨a,r,d',ha,h1,h3,?_⟩;split at h4<;>exact h4
 ·cases h
theorem fU {P:Program}{ti:TI}{n m:Nat}{t:Tr}{h:HT}{id:Nat}{o:Oper}{K:D→HT→Bool}(hs:xop P ti n t h id o K=true) :
  bh P (tmL n t) o=none∧∃ d h1 h',aop P ti (tmL n t) (h.heap m) id o=some (d,h1)∧Heq h1 (h'.heap m)∧K d h'=true:=by
 have nocall:(∀ c,o.op=.call c→∃ b,c.callee=.builtin b)→bh P (tmL n t) o=none:=fun hn=>by
  unfold bh;split
  ·rename_i c hc;obtain⟨b,hb⟩:=hn c hc;rw[hb]
  ·rfl
 unfold xop at hs;split at hs
 case h_26 c ho=>
  split at hs
  ·rename_i b hcal;refine⟨nocall fun c' hc=>⟨b,by rw[ho] at hc;injection hc with hc;subst hc;exact hcal⟩,?_⟩;obtain⟨ds,hx,hs⟩:=fA hs;obtain⟨d,h1,h',e1,e2,e3⟩:=zk (n:=m) hs;exact⟨d,h1,h',by unfold aop;simp only[ho,hcal,hx,e1],e2,e3⟩
  ·cases hs
 case h_27 ty x ho=>
  refine⟨nocall fun c hc=>(by rw[ho] at hc;cases hc),?_⟩;obtain⟨d,h1,h2⟩:=ax hs;obtain⟨d',h3,h4⟩:=ai h2;exact⟨d',_,h,by unfold aop;simp only[ho,h1,h3,kF],Heq.refl _,h4⟩
 case h_1 x ho=>
  refine⟨nocall fun c hc=>(by rw[ho] at hc;cases hc),?_⟩;obtain⟨d,h1,h2⟩:=ax hs;exact⟨d,_,h,by unfold aop;simp only[ho,h1,kF],Heq.refl _,h2⟩
 case h_2 x ho=>
  refine⟨nocall fun c hc=>(by rw[ho] at hc;cases hc),?_⟩;obtain⟨d,h1,h2⟩:=ax hs;exact⟨d,_,h,by unfold aop;simp only[ho,h1,kF],Heq.refl _,h2⟩
 case h_3 c a b ho=>
  refine⟨nocall fun c hc=>(by rw[ho] at hc;cases hc),?_⟩;obtain⟨d,h1,h2⟩:=ax hs;split at h2
  ·obtain⟨d,h3,h4⟩:=ax h2;exact⟨d,_,h,by unfold aop;simp only[ho,h1,h3,if_true,kF],Heq.refl _,h4⟩
  ·obtain⟨d,h3,h4⟩:=ax h2;exact⟨d,_,h,by unfold aop;simp only[ho,h1,h3,Bool.false_eq_true,if_false,kF],Heq.refl _,h4⟩
  ·cases h2
 case h_4 ty ho=>
  refine⟨nocall fun c hc=>(by rw[ho] at hc;cases hc),?_⟩;obtain⟨x,h1,h2⟩:=ai hs;rw[HT.putK_eq] at h2;exact⟨_,_,_,by unfold aop;simp only[ho,h1,kF],Heq.put,h2⟩
 case h_5 ty x ho=>
  refine⟨nocall fun c hc=>(by rw[ho] at hc;cases hc),?_⟩;obtain⟨d,h1,h2⟩:=ax hs;rw[HT.putK_eq] at h2;exact⟨_,_,_,by unfold aop;simp only[ho,h1,kF],Heq.put,h2⟩
 case h_6 ty ps ho=>
  refine⟨nocall fun c hc=>(by rw[ho] at hc;cases hc),?_⟩;obtain⟨l,h1,h2⟩:=iP hs;obtain⟨d,h3,h4⟩:=ai h2;exact⟨d,_,h,by unfold aop;simp only[ho,h1,h3,kF],Heq.refl _,h4⟩
 case h_7 ty k ps ho=>
  refine⟨nocall fun c hc=>(by rw[ho] at hc;cases hc),?_⟩;obtain⟨l,h1,h2⟩:=iP hs;obtain⟨⟨d,h0⟩,h3,h4⟩:=ai h2;obtain⟨i,b,h5,h6⟩:=nl h4;rw[HT.putK_eq] at h6;have ha:aop P ti (tmL n t) ⟨0,[]⟩ id o=some (d,h0):=by unfold aop;simp only[ho,h1,h3]
  obtain⟨box,hb⟩:=ke (by simp[bU,ho]) ha;have e:=hb ⟨0,[]⟩;rw[ha] at e;simp only[kA,kB,true_and] at e;subst e;simp only[aB.put,List.cons.injEq,kB,and_true] at h5;obtain⟨_,rfl⟩:=h5;exact⟨d,_,_,hb _,Heq.put,h6⟩
 case h_8 ty a ho=>
  refine⟨nocall fun c hc=>(by rw[ho] at hc;cases hc),?_⟩;obtain⟨x,h1,h2⟩:=ax hs;obtain⟨d,h3,h4⟩:=o6 (n:=m) h2;exact⟨d,_,h,by unfold aop;simp only[ho,h1,h3,kF],Heq.refl _,h4⟩
 case h_9 ty a x ho=>
  refine⟨nocall fun c hc=>(by rw[ho] at hc;cases hc),?_⟩;obtain⟨d,h1,h2⟩:=ax hs;obtain⟨e,h3,h4⟩:=ax h2;obtain⟨h5,h',e1,e2,e3⟩:=sI (n:=m) h4;exact⟨_,_,h',by unfold aop;simp only[ho,h1,h3,e1,kF],e2,e3⟩
 case h_10 x ho=>
  refine⟨nocall fun c hc=>(by rw[ho] at hc;cases hc),?_⟩;obtain⟨x,h1,h2⟩:=ax hs;obtain⟨d,h3,h4⟩:=ai h2;exact⟨d,_,h,by unfold aop;simp only[ho,h1,h3,kF],Heq.refl _,h4⟩
 case h_11 op ty x y _ ho=>
  refine⟨nocall fun c hc=>(by rw[ho] at hc;cases hc),?_⟩;obtain⟨a,h1,h2⟩:=ax hs;obtain⟨b,h3,h4⟩:=ax h2;obtain⟨d,h5,h6⟩:=zl h4;exact⟨d,_,h,by unfold aop;simp only[ho,h1,h3,h5,kF],Heq.refl _,h6⟩
 case h_12 op _ x ho=>
  refine⟨nocall fun c hc=>(by rw[ho] at hc;cases hc),?_⟩;obtain⟨d,h1,h2⟩:=ax hs;obtain⟨a,r,d',h3,h4,h5,h6⟩:=xun_un h2;exact⟨d',_,h,by unfold aop;simp only[ho,h1,Option.bind_some,h3,h4,h5,kF],Heq.refl _,h6⟩
 case h_13 s e x ho=>
  refine⟨nocall fun c hc=>(by rw[ho] at hc;cases hc),?_⟩;obtain⟨x,h1,h2⟩:=ax hs;obtain⟨d,h3,h4⟩:=vV (n:=m) h2;exact⟨d,_,h,by unfold aop;simp only[ho,h1,h3],Heq.refl _,h4⟩
 case h_14 fn f c ho=>
  refine⟨nocall fun c hc=>(by rw[ho] at hc;cases hc),?_⟩;obtain⟨a,h1,h2⟩:=fA hs;obtain⟨b,h3,h4⟩:=fA h2;exact⟨_,_,h,by unfold aop;simp only[ho,h1,h3],Heq.refl _,h4⟩
 case h_15 ty r ho=>
  refine⟨nocall fun c hc=>(by rw[ho] at hc;cases hc),?_⟩;cases r with
  | none=>
   simp only at hs;rw[HT.putK_eq] at hs;exact⟨_,_,_,by unfold aop;simp only[ho],Heq.put,hs⟩
  | some x=>
   simp only at hs;obtain⟨d,h1,hs⟩:=ax hs;split at hs
   ·obtain⟨a,h2,hs⟩:=ai hs;split at hs
    ·rename_i hu;rw[HT.putK_eq] at hs;exact⟨_,_,_,by unfold aop;simp only[ho,h1,h2,hu],Heq.put,hs⟩
    ·cases hs
   ·cases hs
 case h_16 ty l c ho=>
  refine⟨nocall fun c hc=>(by rw[ho] at hc;cases hc),?_⟩;obtain⟨a,h1,h2⟩:=ax hs;obtain⟨b,h3,h4⟩:=ax h2;obtain⟨⟨d,h0⟩,h5,h6⟩:=ai h4;obtain⟨i,bx,h7,h8⟩:=nl h6;rw[HT.putK_eq] at h8;have ha:aop P ti (tmL n t) ⟨0,[]⟩ id o=some (d,h0):=by unfold aop;simp only[ho,h1,h3,h5]
  obtain⟨box,hb⟩:=ke (by simp[bU,ho]) ha;have e:=hb ⟨0,[]⟩;rw[ha] at e;simp only[kA,kB,true_and] at e;subst e;simp only[aB.put,List.cons.injEq,kB,and_true] at h7;obtain⟨_,rfl⟩:=h7;exact⟨d,_,_,hb _,Heq.put,h8⟩
 case h_17 ty x lo hi mx ho=>
  refine⟨nocall fun c hc=>(by rw[ho] at hc;cases hc),?_⟩;obtain⟨d,hx,hs⟩:=ax hs;obtain⟨l,hl,hs⟩:=o7 hs;obtain⟨hh,hhi,hs⟩:=o7 hs;obtain⟨mm,hm,hs⟩:=o7 hs;obtain⟨d',h1,h2⟩:=ai hs;refine⟨d',_,h,?_,Heq.refl _,h2⟩
  have e:aop P ti (tmL n t) (h.heap m) id o=(match ev (tmL n t) x,evO (tmL n t) lo,evO (tmL n t) hi,evO (tmL n t) mx with
   | some d,some l,some h',some mm=>(de ti ty d l h' mm).map (·,h.heap m)
   | _,_,_,_=>none):=by
   unfold aop;simp only[ho];cases lo<;>cases hi<;>cases mx<;>rfl
  rw[e,hx,hl,hhi,hm];simp only[h1,kF]
 case h_18 ty x f ho=>
  refine⟨nocall fun c hc=>(by rw[ho] at hc;cases hc),?_⟩;obtain⟨x,h1,h2⟩:=ax hs;obtain⟨d,h3,h4⟩:=ai h2;exact⟨d,_,h,by unfold aop;simp only[ho,h1,h3,kF],Heq.refl _,h4⟩
 case h_19 ty x f ho=>
  refine⟨nocall fun c hc=>(by rw[ho] at hc;cases hc),?_⟩;obtain⟨x,h1,h2⟩:=ax hs;obtain⟨d,h3,h4⟩:=ai h2;exact⟨d,_,h,by unfold aop;simp only[ho,h1,h3,kF],Heq.refl _,h4⟩
 case h_20 ty x i ho=>
  refine⟨nocall fun c hc=>(by rw[ho] at hc;cases hc),?_⟩;obtain⟨a,h1,h2⟩:=ax hs;obtain⟨b,h3,h4⟩:=ax h2;obtain⟨d,h5,h6⟩:=ai h4;exact⟨d,_,h,by unfold aop;simp only[ho,h1,h3,h5,kF],Heq.refl _,h6⟩
 case h_21 ty x i ho=>
  refine⟨nocall fun c hc=>(by rw[ho] at hc;cases hc),?_⟩;obtain⟨a,h1,h2⟩:=ax hs;obtain⟨b,h3,h4⟩:=ax h2;obtain⟨d,h5,h6⟩:=ai h4;exact⟨d,_,h,by unfold aop;simp only[ho,h1,h3,h5,kF],Heq.refl _,h6⟩
 case h_22 ty x i ok ho=>
  refine⟨nocall fun c hc=>(by rw[ho] at hc;cases hc),?_⟩;obtain⟨a,h1,h2⟩:=ax hs;obtain⟨b,h3,h4⟩:=ax h2;obtain⟨d,h5,h6⟩:=vT (n:=m) h4;exact⟨d,_,h,by unfold aop;simp only[ho,h1,h3,h5,kF],Heq.refl _,h6⟩
 case h_23 ty mp k x ho=>
  refine⟨nocall fun c hc=>(by rw[ho] at hc;cases hc),?_⟩;obtain⟨a,h1,h2⟩:=ax hs;obtain⟨b,h3,h4⟩:=ax h2;obtain⟨c,h5,h6⟩:=ax h4;obtain⟨h7,h',e1,e2,e3⟩:=o5 (n:=m) h6;exact⟨_,_,h',by unfold aop;simp only[ho,h1,h3,h5,e1,kF],e2,e3⟩
 case h_24 ty mp k x ho=>
  refine⟨nocall fun c hc=>(by rw[ho] at hc;cases hc),?_⟩;obtain⟨a,h1,h2⟩:=ax hs;obtain⟨b,h3,h4⟩:=ax h2;obtain⟨c,h5,h6⟩:=ax h4;obtain⟨h7,h',e1,e2,e3⟩:=o5 (n:=m) h6;exact⟨_,_,h',by unfold aop;simp only[ho,h1,h3,h5,e1,kF],e2,e3⟩
 case h_25 x i ho=>
  refine⟨nocall fun c hc=>(by rw[ho] at hc;cases hc),?_⟩;obtain⟨a,h1,h2⟩:=ax hs;split at h2
  ·obtain⟨d,h3,h4⟩:=ai h2;exact⟨d,_,h,by unfold aop;simp only[ho,h1,h3,kF],Heq.refl _,h4⟩
  ·cases h2
 case h_28=>cases hs
end Go.Am
/-
 The abstract machine,part 44: regions in the order of the text,over trees.
-/
namespace Go.Am
variable [GT]
theorem AC1.congr {P:Program}{g:FuncId}{ds:List D}{h h2 h1 h3:aB}{d:D}(e:Heq h h2) (f:Heq h1 h3) (hp:AC1 P g ds h d h1):AC1 P g ds h2 d h3:=by
 refine⟨hp.1,fun c vs R hvs=>(hp.2 c vs (R.congr e.symm) hvs).mono ?_⟩;rintro _ w' ⟨v,c',rfl,rfl,v1,r1,g1,p1⟩;exact⟨v,c',rfl,rfl,v1,r1.congr f,g1.congr e f,fun j hj=>p1 j (by rw[e.next];exact hj)⟩
theorem Y1.congr {P:Program}{id:Nat}{ds:List D}{h h2 h1 h3:aB}{d:D}(e:Heq h h2) (f:Heq h1 h3) (hp:Y1 P id ds h d h1):Y1 P id ds h2 d h3:=by
 intro c vs b R hvs hφ;obtain⟨fn,tmps,assign,body,k1,k2⟩:=hp c vs b (R.congr e.symm) hvs hφ;refine⟨fn,tmps,assign,body,k1,fun ro n=>?_⟩;have:=k2 ro n
 refine this.mono ?_;rintro _ w' ⟨v,c',rfl,rfl,v1,r1,g1,p1⟩;exact⟨v,c',rfl,rfl,v1,r1.congr f,g1.congr e f,fun j hj=>p1 j (by rw[e.next];exact hj)⟩
theorem CC.congr {P:Program}{k:Cal}{ds:List D}{h h2 h1 h3:aB}{d:D}(e:Heq h h2) (f:Heq h1 h3) (hp:CC P k ds h d h1):CC P k ds h2 d h3:=by
 cases k with
 | fn g=>exact AC1.congr e f hp
 | yf id=>exact Y1.congr e f hp
abbrev XC:=Cal→List D→HT→Nat→(D→HT→Nat→Bool)→Bool
def XOk (P:Program) (xc:XC):Prop:=∀ k ds h nx K,xc k ds h nx K=true→∃ d h' nx',CC P k ds (h.heap nx) d (h'.heap nx')∧K d h' nx'=true
def zo (want yes no:Bool) (d:D):Bool:=
 match d with
 | .v (.bool b)=>(match b,want with|true,true=>yes|false,false=>yes|true,false=>no|false,true=>no)
 | .any=>false
 | _=>no
noncomputable def iM (n:Nat) (t:Tr) (ops:Array Oper) (o:Oper) (yes no:Bool):Bool:=
 match o.guard with
 | none=>yes
 | some (j,want)=>
  match(ops[j]?).bind (·.dst) with
  | some i=>Bool.rec (motive:=fun _=>Bool) false (t.getK i (zo want yes no)) (Nat.blt i n)
  | none=>no
theorem qx {n:Nat}{t:Tr}{ops:Array Oper}{o:Oper}{yes no:Bool}(h:iM n t ops o yes no=true):(ao ops (tmL n t) o=some true∧yes=true)∨(ao ops (tmL n t) o=some false∧no=true):=by
 unfold iM at h;unfold ao;cases hg:o.guard with
 | none=>rw[hg] at h;exact .inl ⟨rfl,h⟩
 | some jw=>
  obtain⟨j,want⟩:=jw;rw[hg] at h;simp only at h ⊢;unfold jJ;cases hi:(ops[j]?).bind (·.dst) with
  | none=>rw[hi] at h;exact .inr ⟨rfl,h⟩
  | some i=>
   rw[hi] at h;simp only at h ⊢;cases hb:Nat.blt i n with
   | false=>rw[hb] at h;cases h
   | true=>
    rw[hb] at h;have hlt:i<n:=by simpa [Nat.blt_eq] using hb
    replace h:t.getK i (zo want yes no)=true:=h
    rw[Tr.getK_eq] at h;simp only[lm hlt];unfold zo at h;split at h
    ·rename_i b hb';rw[hb'];cases b<;>cases want
     ·exact .inl ⟨rfl,h⟩
     ·exact .inr ⟨rfl,h⟩
     ·exact .inr ⟨rfl,h⟩
     ·exact .inl ⟨rfl,h⟩
    ·cases h
    ·rename_i h1 h2;refine .inr ⟨?_,h⟩;split
     ·rename_i b hb';injection hb' with hb';exact absurd hb' (h1 b)
     ·rename_i hb';injection hb' with hb';exact absurd hb' h2
     ·rfl
noncomputable def d9 (n:Nat) (t:Tr) (dst:Option Tmp) (d:D) (K:Tr→Bool):Bool:=
 match dst with
 | some i=>Bool.rec (motive:=fun _=>Bool) false (t.setK i d K) (Nat.blt i n)
 | none=>K t
theorem d8 {n k:Nat}{t:Tr}{dst:Option Tmp}{d:D}{K:Tr→Bool}(hp:t.perf k) (hn:n≤2 ^ k) (h:d9 n t dst d K=true):∃ t',dV (tmL n t) dst d=tmL n t'∧t'.perf k∧K t'=true:=by
 cases dst with
 | none=>exact⟨t,rfl,hp,h⟩
 | some i=>
  replace h:Bool.rec (motive:=fun _=>Bool) false (t.setK i d K) (Nat.blt i n)=true:=h
  cases hb:Nat.blt i n with
  | false=>rw[hb] at h;cases h
  | true=>
   rw[hb] at h
   replace h:t.setK i d K=true:=h
   rw[Tr.setK_eq] at h;exact⟨_,ww hp hn (by simpa [Nat.blt_eq] using hb),Tr.perf_set hp,h⟩
noncomputable def eh (P:Program) (n:Nat) (t:Tr) (o:Oper) (Kc:Cal→List D→Bool) (Kn:Bool):Bool:=
 match o.op with
 | .call c=>
  match c.callee with
  | .value f=>xev n t f fun d=>
   match d with
   | .fn (.func g) first captured=>oK n t c.args.toList fun ds=>Kc (.fn g) (first++ds++captured)
   | .yf y=>oK n t c.args.toList fun ds=>Kc (.yf y) ds
   | _=>false
  | .invoke r nm=>xev n t r fun d=>
   match d with
   | .iface ty d=>oK n t c.args.toList fun ds=>bE (rX P ty nm) fun g=>Kc (.fn g) (d::ds)
   | _=>false
  | _=>Kn
 | _=>Kn
theorem o9 {P:Program}{n:Nat}{t:Tr}{o:Oper}{Kc:Cal→List D→Bool}{Kn:Bool}(h:eh P n t o Kc Kn=true):(∃ k ds,bh P (tmL n t) o=some (k,ds)∧Kc k ds=true)∨Kn=true:=by
 unfold eh at h;split at h
 ·rename_i c ho;split at h
  ·rename_i f hc;obtain⟨d,h1,h⟩:=ax h;split at h
   ·obtain⟨ds,h2,h⟩:=fA h;exact .inl ⟨_,_,by unfold bh;simp only[ho,hc,h1,h2],h⟩
   ·obtain⟨ds,h2,h⟩:=fA h;exact .inl ⟨_,_,by unfold bh;simp only[ho,hc,h1,h2],h⟩
   ·cases h
  ·rename_i r nm hc;obtain⟨d,h1,h⟩:=ax h;split at h
   ·obtain⟨ds,h2,h⟩:=fA h;obtain⟨g,h3,h⟩:=ai h;exact .inl ⟨_,_,by unfold bh;simp only[ho,hc,h1,h2,h3],h⟩
   ·cases h
  ·exact .inr h
 ·exact .inr h
def zh (P:Program) (k:Cal) (ds:List D) (yes:D→Bool) (no:Bool):Bool:=
 match k with
 | .fn g=>
  match P.funcs[g]? with
  | some fn=>
   match fn.body with
   | none=>bE (te P (.fn g) ds ⟨0,[]⟩) fun r=>yes r.1
   | some _=>no
  | none=>no
 | .yf _=>no
theorem CH {P:Program}{k:Cal}{ds:List D}{h:aB}{r:D×aB}(hr:te P k ds ⟨0,[]⟩=some r):te P k ds h=some (r.1,h):=by
 unfold te at hr ⊢;split at hr
 ·cases hr
 ·split at hr
  ·split at hr
   ·obtain⟨d,h1,rfl⟩:=Option.map_eq_some_iff.1 hr;simp[h1]
   ·cases hr
  ·cases hr
theorem CX {P:Program}{k:Cal}{ds:List D}{yes:D→Bool}{no:Bool}(h:zh P k ds yes no=true):(∃ d,(∀ h,te P k ds h=some (d,h))∧yes d=true)∨no=true:=by
 unfold zh at h;split at h
 ·split at h
  ·split at h
   ·obtain⟨r,h1,h2⟩:=ai h;exact .inl ⟨r.1,fun h=>CH h1,h2⟩
   ·exact .inr h
  ·exact .inr h
 ·exact .inr h
section
variable (P:Program) (ti:TI) (xc:XC) (n:Nat)
noncomputable def qy (ops:Array Oper) (o:Oper) (t:Tr) (h:HT) (nx:Nat) (K:Tr→HT→Nat→Bool):Bool:=
 iM n t ops o
  (eh P n t o (fun k ds=>zh P k ds (fun d=>d9 n t o.dst d fun t'=>K t' h (nx+1)) (xc k ds h (nx+1) fun d h' nx'=>d9 n t o.dst d fun t'=>K t' h' nx')) (xop P ti n t h nx o fun d h'=>d9 n t o.dst d fun t'=>K t' h' (nx+1)))
  (d9 n t o.dst aX fun t'=>K t' h nx)
noncomputable def qk (ops:Array Oper) (l:List Oper):Tr→HT→Nat→(Tr→HT→Nat→Bool)→Bool:=
 List.rec (motive:=fun _=>Tr→HT→Nat→(Tr→HT→Nat→Bool)→Bool) (fun t h nx K=>K t h nx) (fun o _ ih t h nx K=>qy P ti xc n ops o t h nx (fun t h nx=>ih t h nx K)) l
end
section
variable {P:Program}{ti:TI}{xc:XC}{n k:Nat}
theorem xone {o:Oper}{t:Tr}{h:HT}{nx:Nat}{K:Tr→HT→Nat→Bool}(X:XOk P xc) (hp:t.perf k) (hn:n≤2 ^ k)
  (hs:eh P n t o (fun k ds=>zh P k ds (fun d=>d9 n t o.dst d fun t'=>K t' h (nx+1)) (xc k ds h (nx+1) fun d h' nx'=>d9 n t o.dst d fun t'=>K t' h' nx')) (xop P ti n t h nx o fun d h'=>d9 n t o.dst d fun t'=>K t' h' (nx+1))=true) :
  ∃ cl:Cl,gI P cl∧∃ d h1 t' h' nx',bW P ti cl (tmL n t) (bump (h.heap nx) 1) nx o=some (d,h1)∧Heq h1 (h'.heap nx')∧dV (tmL n t) o.dst d=tmL n t'∧t'.perf k∧K t' h' nx'=true:=by
 rcases o9 hs with⟨q,ds,hac,hs⟩|hs
 ·rcases CX hs with⟨d,h1,h2⟩|hs
  ·obtain⟨t',e1,e2,e3⟩:=d8 hp hn h2;exact⟨fun _ _ _=>none,fun q ds h d h' hx=>by simp at hx,d,h.heap (nx+1),t',h,nx+1,by unfold bW;rw[hac];exact h1 _,Heq.refl _,e1,e2,e3⟩
  obtain⟨d,h',nx',h1,h2⟩:=X _ _ _ _ _ hs;obtain⟨t',e1,e2,e3⟩:=d8 hp hn h2;refine⟨fun q' ds' h0=>open Classical in if q'=q∧ds'=ds∧h0=h.heap (nx+1) then some (d,h'.heap nx') else none,fun q' ds' h0 d' h1' hx=>?_,d,h'.heap nx',t',h',nx',?_,Heq.refl _,e1,e2,e3⟩
  ·simp only at hx;split at hx
   ·rename_i e;obtain⟨rfl,rfl,rfl⟩:=e;simp only[kA,kB] at hx;obtain⟨rfl,rfl⟩:=hx;exact h1
   ·simp at hx
  ·unfold bW;rw[hac];simp[bump,HT.heap]
 ·obtain⟨hac,d,h1,h',e1,e2,e3⟩:=fU (m:=nx+1) hs;obtain⟨t',f1,f2,f3⟩:=d8 hp hn e3;exact⟨fun _ _ _=>none,fun q ds h d h' hx=>by simp at hx,d,h1,t',h',nx+1,by unfold bW;rw[hac];exact e1,e2,f1,f2,f3⟩
end
end Go.Am
/-
 The abstract machine,part 45: heaps that hold the same answer alike;regions that draw their order,over trees.
-/
namespace Go.Am
variable [GT]
section
variable {P:Program}{ti:TI}{h h':aB}
theorem sE (e:Heq h h'){t:TypeId}{a:D}:gc ti h t a=gc ti h' t a:=by simp only[gc,e.get]
theorem A8 (e:Heq h h'){i:Nat}:cX h i=cX h' i:=by simp only[cX,e.get]
theorem AN (e:Heq h h'){k k':D}:bg h k k'=bg h' k k':=by
 unfold bg;simp only[A8 e]
theorem qH (e:Heq h h'){k:D}:∀ {es:List (D×D)}{i:Nat},cY h k es i=cY h' k es i
 | [],_=>rfl
 | (k',x)::es,i=>by simp only[cY,AN e,qH e (es:=es)]
theorem yz (e:Heq h h'){m:D}:mE h m=mE h' m:=by simp only[mE,e.get]
theorem vN (e:Heq h h'){t:TypeId}{m k:D}{ok:Bool}:e8 ti h t m k ok=e8 ti h' t m k ok:=by simp only[e8,yz e,qH e]
theorem CF (e:Heq h h'){ts:List TypeId}{x:D}:fK ti h ts x=fK ti h' ts x:=by simp only[fK,e.get]
theorem Cg (e:Heq h h'){es:Nat}{x:D}:bw h es x=bw h' es x:=by simp only[bw,e.get]
theorem tg (e:Heq h h'){src dst:TypeId}{x r:D}{h1:aB}(hr:cG P ti h src dst x=some (r,h1)):∃ h2,cG P ti h' src dst x=some (r,h2)∧Heq h1 h2:=by
 unfold cG at hr ⊢;split at hr
 ·split at hr
  ·split at hr
   ·obtain⟨d,h2,h3⟩:=Option.map_eq_some_iff.1 hr;simp only[kB] at h3;obtain⟨rfl,rfl⟩:=h3;exact⟨h',by simp[h2],e⟩
   ·cases hr
  ·simp only[kA,kB] at hr;obtain⟨rfl,rfl⟩:=hr;exact⟨h',rfl,e⟩
  ·split at hr
   ·unfold fe at hr ⊢;split at hr
    ·simp only[kA,kB] at hr;obtain⟨rfl,rfl⟩:=hr;exact⟨h',rfl,e⟩
    ·simp only[kA,kB] at hr;obtain⟨rfl,rfl⟩:=hr;exact⟨h',rfl,e⟩
    ·split at hr
     ·obtain⟨d,h2,h3⟩:=Option.map_eq_some_iff.1 hr;simp only[kB] at h3;obtain⟨rfl,rfl⟩:=h3;rename_i hc;exact⟨h',by simp[hc,h2],e⟩
     ·cases hr
    ·split at hr
     ·rename_i hes;rw[e.get] at hr;split at hr
      ·split at hr
       ·rename_i hle;obtain⟨d,h2,h3⟩:=Option.map_eq_some_iff.1 hr;simp only[kB] at h3;obtain⟨rfl,rfl⟩:=h3;exact⟨h',by simp[hes,hle,h2],e⟩
       ·cases hr
      ·cases hr
     ·cases hr
    ·cases hr
   ·cases hr
  ·cases hr
 ·cases hr
theorem Heq.putL (e:Heq h h'){i:Nat}{b:Box}:Heq (h.put i b) (h'.put i b):=⟨e.next,fun j=>by rw[aB.get_put,aB.get_put,e.get]⟩
theorem Heq.setL (e:Heq h h'){i:Nat}{b:Box}:Heq (h.set i b) (h'.set i b):=⟨e.next,fun j=>by rw[aB.get_set,aB.get_set,e.get,e.get]⟩
theorem Heq.delL (e:Heq h h'){i:Nat}:Heq (h.del i) (h'.del i):=⟨e.next,fun j=>by rw[aB.get_del,aB.get_del,e.get]⟩
theorem wn (e:Heq h h'){t:TypeId}{a d:D}{h1:aB}(hr:gw ti h t a d=some h1):∃ h2,gw ti h' t a d=some h2∧Heq h1 h2:=by
 unfold gw at hr ⊢;split at hr
 ·split at hr
  ·rw[e.get] at hr;split at hr
   ·split at hr
    ·rename_i hc;simp only[kA] at hr;subst hr;exact⟨_,by rw[if_pos hc],e.setL⟩
    ·cases hr
   ·cases hr
  ·cases hr
 ·cases hr
theorem oF (e:Heq h h'){t:TypeId}{m k x:D}{h1:aB}(hr:e7 ti h t m k x=some h1):∃ h2,e7 ti h' t m k x=some h2∧Heq h1 h2:=by
 unfold e7 at hr ⊢;split at hr
 ·split at hr
  ·split at hr
   ·rw[e.get] at hr;split at hr
    ·split at hr
     ·rename_i hc;rw[qH e] at hr;split at hr
      ·simp only[kA] at hr;subst hr;exact⟨_,by simp only[hc,if_true],e.setL⟩
      ·simp only[kA] at hr;subst hr;exact⟨_,by simp only[hc,if_true],e.setL⟩
      ·cases hr
     ·cases hr
    ·cases hr
   ·cases hr
  ·cases hr
 ·cases hr
theorem vP (e:Heq h h'){id:Nat}{ts:List TypeId}{s x d:D}{h1:aB}(hr:e9 ti h id ts s x=some (d,h1)):∃ h2,e9 ti h' id ts s x=some (d,h2)∧Heq h1 h2:=by
 unfold e9 at hr ⊢;split at hr
 ·split at hr
  ·split at hr
   ·split at hr
    ·split at hr
     ·cases hr
     ·rename_i hsu;rw[Cg e] at hr;split at hr
      ·rename_i n xs _;rw[if_neg hsu];split at hr
       ·split at hr
        ·rename_i hn;simp only[kA,kB] at hr;obtain⟨rfl,rfl⟩:=hr;exact⟨h',by rw[if_pos hn],e⟩
        ·rename_i hn;split at hr
         ·rename_i hm;simp only[kA,kB] at hr;obtain⟨rfl,rfl⟩:=hr;exact⟨_,by rw[if_neg hn,if_pos hm],e.putL⟩
         ·cases hr
       ·split at hr
        ·rename_i hn;simp only[kA,kB] at hr;obtain⟨rfl,rfl⟩:=hr;exact⟨h',by rw[if_pos hn],e⟩
        ·rename_i hn;split at hr
         ·rename_i hm;simp only[kA,kB] at hr;obtain⟨rfl,rfl⟩:=hr;exact⟨_,by rw[if_neg hn,if_pos hm],e.putL⟩
         ·cases hr
       ·split at hr
        ·rename_i hes;rw[e.get] at hr;rw[if_pos hes];split at hr
         ·split at hr
          ·rename_i hm;split at hr
           ·rename_i hl;simp only[kA,kB] at hr;obtain⟨rfl,rfl⟩:=hr;exact⟨_,by rw[if_pos hm,if_pos hl],e.setL⟩
           ·cases hr
          ·rename_i hm;split at hr
           ·rename_i hl;simp only[kA,kB] at hr;obtain⟨rfl,rfl⟩:=hr;refine⟨_,by rw[if_neg hm,if_pos hl],?_⟩;split
            ·exact e.putL
            ·exact e.delL.putL
           ·cases hr
         ·cases hr
        ·cases hr
       ·cases hr
      ·cases hr
    ·cases hr
   ·cases hr
  ·cases hr
 ·cases hr
theorem tZ (e:Heq h h'){tm:List D}{id:Nat}{o:Oper}{d:D}{h1:aB}(hc:∀ c,o.op=.call c→c.callee≠.builtin .copy) (ha:aop P ti tm h id o=some (d,h1)):∃ h2,aop P ti tm h' id o=some (d,h2)∧Heq h1 h2:=by
 cases hk:bU o with
 | pure=>
  have h2:=qV hk ha;have h3:=h2 h id;rw[ha] at h3;simp only[kA,kB,true_and] at h3;subst h3;exact⟨h',h2 h' id,e⟩
 | alloc=>
  obtain⟨box,h2⟩:=ke hk ha;have h3:=h2 h;rw[ha] at h3;simp only[kA,kB,true_and] at h3;subst h3;exact⟨_,h2 h',e.putL⟩
 | read=>
  obtain⟨dst,op,type,pos,after,guard⟩:=o;cases op<;>simp only[bU,reduceCtorEq] at hk<;>simp only[aop] at ha ⊢
  case load t a=>
   cases hx:ev tm a with
   | none=>simp[hx] at ha
   | some x=>
    simp only[hx] at ha ⊢;obtain⟨y,h2,h3⟩:=Option.map_eq_some_iff.1 ha;simp only[kB] at h3;obtain⟨rfl,rfl⟩:=h3;exact⟨h',by rw[←sE e,h2];rfl,e⟩
  case lookup t x i ok=>
   cases hx:ev tm x with
   | none=>simp[hx] at ha
   | some a=>
    cases hy:ev tm i with
    | none=>simp[hx,hy] at ha
    | some b=>
     simp only[hx,hy] at ha ⊢;obtain⟨y,h2,h3⟩:=Option.map_eq_some_iff.1 ha;simp only[kB] at h3;obtain⟨rfl,rfl⟩:=h3;exact⟨h',by rw[←vN e,h2];rfl,e⟩
  case convert s t x=>
   cases hx:ev tm x with
   | none=>simp[hx] at ha
   | some a=>
    simp only[hx] at ha ⊢;exact tg e ha
  case call c=>
   cases hcal:c.callee with
   | builtin b=>
    rw[hcal] at hk;cases b<;>simp only[reduceCtorEq] at hk;simp only[hcal] at ha ⊢;cases hx:evs tm c.args.toList with
    | none=>simp[hx] at ha
    | some ds=>
     simp only[hx,az] at ha ⊢;split at ha<;>first|(cases ha;done)|skip
     all_goals first
      | (obtain⟨y,h2,h3⟩:=Option.map_eq_some_iff.1 ha
         simp only[kB] at h3;obtain⟨rfl,rfl⟩:=h3
         exact⟨h',by rw[←CF e,h2];rfl,e⟩)
      | simp_all
   | _=>rw[hcal] at hk;simp at hk
 | write=>
  obtain⟨dst,op,type,pos,after,guard⟩:=o;cases op<;>simp only[bU,reduceCtorEq] at hk<;>simp only[aop] at ha ⊢<;>first|(cases ha;done)|skip
  case store t a x=>
   cases hx:ev tm a with
   | none=>simp[hx] at ha
   | some q=>
    cases hy:ev tm x with
    | none=>simp[hx,hy] at ha
    | some b=>
     simp only[hx,hy] at ha ⊢;obtain⟨y,h2,h3⟩:=Option.map_eq_some_iff.1 ha;simp only[kB] at h3;obtain⟨rfl,rfl⟩:=h3;obtain⟨h4,h5,h6⟩:=wn e h2;exact⟨h4,by rw[h5];rfl,h6⟩
  case mapUpdate t m k x=>
   cases hx:ev tm m with
   | none=>simp[hx] at ha
   | some q=>
    cases hy:ev tm k with
    | none=>simp[hx,hy] at ha
    | some b=>
     cases hz:ev tm x with
     | none=>simp[hx,hy,hz] at ha
     | some r=>
      simp only[hx,hy,hz] at ha ⊢;obtain⟨y,h2,h3⟩:=Option.map_eq_some_iff.1 ha;simp only[kB] at h3;obtain⟨rfl,rfl⟩:=h3;obtain⟨h4,h5,h6⟩:=oF e h2;exact⟨h4,by rw[h5];rfl,h6⟩
  case insert t m k x=>
   cases hx:ev tm m with
   | none=>simp[hx] at ha
   | some q=>
    cases hy:ev tm k with
    | none=>simp[hx,hy] at ha
    | some b=>
     cases hz:ev tm x with
     | none=>simp[hx,hy,hz] at ha
     | some r=>
      simp only[hx,hy,hz] at ha ⊢;obtain⟨y,h2,h3⟩:=Option.map_eq_some_iff.1 ha;simp only[kB] at h3;obtain⟨rfl,rfl⟩:=h3;obtain⟨h4,h5,h6⟩:=oF e h2;exact⟨h4,by rw[h5];rfl,h6⟩
  case call c=>
   cases hcal:c.callee with
   | builtin b=>
    simp only[hcal] at ha ⊢;cases hx:evs tm c.args.toList with
    | none=>simp[hx] at ha
    | some ds=>
     simp only[hx] at ha ⊢;cases b with
     | append=>
      simp only[az] at ha ⊢;split at ha
      ·exact vP e (by assumption)
      all_goals first|(cases ha;done)|simp_all
     | copy=>exact absurd hcal (hc c rfl)
     | len=>rw[hcal] at hk;simp at hk
     | min=>rw[hcal] at hk;simp at hk
     | max=>rw[hcal] at hk;simp at hk
     | _=>simp[az] at ha
   | _=>simp[hcal] at ha
end
end Go.Am
/-
 The abstract machine,part 46: regions that draw their order,over trees.
-/
namespace Go.Am
variable [GT]
abbrev HL:=List (Nat×HT×Nat)
abbrev RL:=List (Nat×Oper×Tr×D)
section
variable (P:Program) (ti:TI) (xc:XC) (n:Nat)
noncomputable def oz (t:Tr) (o:Oper) (d:D) (h:HT):Bool:=xop P ti n t h 0 o fun d' _=>eqD d' d
noncomputable def j0 (m:Nat) (t:Tr) (o:Oper) (d:D) (l:HL):Bool:=
 List.rec (motive:=fun _=>Bool) true (fun p _ ih=>ifB (oz P ti n t o d p.2.1) (ifB (p.1 == 0 || m.testBit (p.1-1)) true ih) false) l
noncomputable def fN (h:HT) (m:Nat) (l:RL):Bool:=
 List.rec (motive:=fun _=>Bool) true (fun p _ ih=>ifB (m.testBit p.1) ih (ifB (oz P ti n p.2.2.1 p.2.1 p.2.2.2 h) ih false)) l
noncomputable def vY (base:Nat) (l:List (Nat×Box)) (h:HT):(HT→Bool)→Bool:=
 List.rec (motive:=fun _=>(HT→Bool)→Bool) (fun K=>K h) (fun p _ ih K=>ih fun h'=>h'.putK (base+p.1) p.2 K) l
def alB (M:List Nat) (m:Nat) (hist:List Nat) (al:List Nat):Bool:=
 al.all fun x=>!m.testBit x || hist.any fun p=>p != 0&&(M.getD (p-1) 0).testBit x&&m.testBit (p-1)
noncomputable def sL (ops:Array Oper) (base:Nat) (M:List Nat) (o:Oper) (ih:Tr→HL→List (Nat×Box)→List Nat→RL→Bool) (j:Nat) (t:Tr) (hist:HL) (pend:List (Nat×Box)) (al:List Nat) (rd:RL):Bool:=
 iM n t ops o
  (match bJ ops o with
  | .pure=>xop P ti n t .emp 0 o fun d _=>d9 n t o.dst d fun t'=>ih t' hist pend al rd
  | .read=>
   match hist with
   | (tt,h,nx)::r=>xop P ti n t h 0 o fun d _=>ifB (tt == 0 || (M.getD j 0).testBit (tt-1) || j0 P ti n (M.getD j 0) t o d r) (d9 n t o.dst d fun t'=>ih t' ((tt,h,nx)::r) pend al ((j,o,t,d)::rd)) false
   | []=>false
  | .alloc=>ifB (alB M (M.getD j 0) (hist.map (·.1)) al) (xop P ti n t .emp (base+j) o fun d h'=>h'.getK (base+j) fun box=>d9 n t o.dst d fun t'=>ih t' hist ((j,box)::pend) (j::al) rd) false
  | .write=>
   match hist with
   | (tt,h,nx)::r=>ifB (tt == 0 || (M.getD j 0).testBit (tt-1)) (vY base (pend.filter fun p=>(M.getD j 0).testBit p.1) h fun hv=>
     eh P n t o
      (fun k ds=>xc k ds hv nx fun d h' nx'=>ifB (Nat.blt nx nx') (ifB (fN P ti n h' (M.getD j 0) rd) (d9 n t o.dst d fun t'=>ih t' ((j+1,h',nx')::(tt,h,nx)::r) (pend.filter fun p=>!(M.getD j 0).testBit p.1) al rd) false) false)
      (ifB (match o.op with|.call c=>(match c.callee with|.builtin .copy=>false|_=>true)|_=>true) (xop P ti n t hv (base+j) o fun d h'=>ifB (fN P ti n h' (M.getD j 0) rd) (d9 n t o.dst d fun t'=>ih t' ((j+1,h',nx)::(tt,h,nx)::r) (pend.filter fun p=>!(M.getD j 0).testBit p.1) al rd) false) false)) false
   | []=>false)
  (d9 n t o.dst aX fun t'=>ih t' hist pend al rd)
noncomputable def xd (ops:Array Oper) (base:Nat) (M:List Nat) (l:List Oper):Nat→Tr→HL→List (Nat×Box)→List Nat→RL→(Tr→HL→List (Nat×Box)→Bool)→Bool:=
 List.rec (motive:=fun _=>Nat→Tr→HL→List (Nat×Box)→List Nat→RL→(Tr→HL→List (Nat×Box)→Bool)→Bool) (fun _ t hist pend _ _ K=>K t hist pend)
  (fun o _ ih j t hist pend al rd K=>sL P ti xc n ops base M o (fun t hist pend al rd=>ih (j+1) t hist pend al rd K) j t hist pend al rd) l
noncomputable def o8 (ops:Array Oper) (t:Tr) (h:HT) (nx:Nat) (K:Tr→HT→Nat→Bool):Bool:=
 ifB (cK ops) (xd P ti xc n ops nx (db ops.toList []) ops.toList 0 t [(0,h,nx+ops.size)] [] [] [] fun t' hist pend=>
  match hist with
  | (_,g,nx')::_=>vY nx pend g fun g'=>K t' g' nx'
  | []=>false) false
end
inductive HRs:List (Nat×aB)→HL→Prop
 | nil:HRs [] []
 | cons {t:Nat} {g:aB} {h:HT} {nx:Nat} {l:List (Nat×aB)} {l':HL} (e:Heq g (h.heap nx)) (hs:HRs l l'):HRs ((t,g)::l) ((t,h,nx)::l')
inductive RRs (n:Nat):List (Nat×Oper×List D×D)→RL→Prop
 | nil:RRs n [] []
 | cons {r:Nat} {o:Oper} {t:Tr} {d:D} {l:List (Nat×Oper×List D×D)} {l':RL} (hs:RRs n l l'):RRs n ((r,o,tmL n t,d)::l) ((r,o,t,d)::l')
section
variable {P:Program}{ti:TI}{xc:XC}{n k:Nat}
theorem wA {o:Oper}(h:bU o=.read):∀ c,o.op=.call c→c.callee≠.builtin .copy:=fun c hc hx=>by
 unfold bU at h;simp only[hc,hx] at h;cases h
theorem ov {t:Tr}{o:Oper}{d:D}{h:HT}{g:aB}{m:Nat}(hk:∀ c,o.op=.call c→c.callee≠.builtin .copy) (e:Heq g (h.heap m)) (hs:oz P ti n t o d h=true):cN P ti eqC (tmL n t) o d g=true:=by
 obtain⟨_,d',h1,h',e1,e2,e3⟩:=fU (m:=m) hs;rw[iq _ _ e3] at e1;obtain⟨h2,e4,_⟩:=tZ e.symm hk e1;exact eC e4
theorem o4 {m:Nat}{t:Tr}{o:Oper}{d:D}(hk:∀ c,o.op=.call c→c.callee≠.builtin .copy):∀ {l:List (Nat×aB)}{l':HL},HRs l l'→j0 P ti n m t o d l'=true→cH P ti eqC m (tmL n t) o d l=true
 | _,_,.nil,_=>rfl
 | _,_,.cons (t:=tt) (g:=g) (h:=h) (nx:=nx) (l':=l') e hs,hx=>by
  replace hx:ifB (oz P ti n t o d h) (ifB (tt == 0 || m.testBit (tt-1)) true (j0 P ti n m t o d l')) false=true:=hx
  rcases ae hx with⟨h1,h2⟩|⟨_,h2⟩
  ·simp only[cH,kC];refine⟨ov hk e h1,?_⟩;rcases ae h2 with⟨h3,_⟩|⟨_,h4⟩
   ·simp only[kN] at h3 ⊢;exact .inl h3
   ·simp only[kN];exact .inr (o4 hk hs h4)
  ·cases h2
def RdOk (l:RL):Prop:=∀ p∈l,∀ c,p.2.1.op=.call c→c.callee≠.builtin .copy
theorem iO {h:HT}{g:aB}{m nx:Nat}(e:Heq g (h.heap nx)):∀ {l:List (Nat×Oper×List D×D)}{l':RL},RRs n l l'→RdOk l'→fN P ti n h m l'=true→ft P ti eqC g m l=true
 | _,_,.nil,_,_=>rfl
 | _,_,.cons (r:=r) (o:=o) (t:=t) (d:=d) (l':=l') hs,hr,hx=>by
  replace hx:ifB (m.testBit r) (fN P ti n h m l') (ifB (oz P ti n t o d h) (fN P ti n h m l') false)=true:=hx
  have hr':RdOk l':=fun p hp=>hr p (by simp[hp])
  simp only[ft,kC,kN];rcases ae hx with⟨h1,h2⟩|⟨_,h2⟩
  ·exact⟨.inl h1,iO e hs hr' h2⟩
  ·rcases ae h2 with⟨h3,h4⟩|⟨_,h4⟩
   ·exact⟨.inr (ov (hr (r,o,t,d) (by simp)) e h3),iO e hs hr' h4⟩
   ·cases h4
theorem ll {base nx:Nat}{g:aB}{h:HT}(e:Heq g (h.heap nx)):∀ {l:List (Nat×Box)}{K:HT→Bool},vY base l h K=true→∃ h',Heq (cy base l g) (h'.heap nx)∧K h'=true
 | [],K,hs=>⟨h,e,hs⟩
 | p::l,K,hs=>by
  obtain⟨h',e1,e2⟩:=ll e (show vY base l h (fun h'=>h'.putK (base+p.1) p.2 K)=true from hs);rw[HT.putK_eq] at e2;rw[mY];exact⟨_,e1.putL.trans Heq.put,e2⟩
theorem alB_al {M:List Nat}{m:Nat}{al:List Nat}{l:List (Nat×aB)}{l':HL}(hr:HRs l l'):alB M m (l'.map (·.1)) al=tc M m l al:=by
 have:l'.map (·.1)=l.map (·.1):=by
  induction hr with
  | nil=>rfl
  | cons _ _ ih=>simp[ih]
 rw[this];unfold alB tc;simp[List.any_map,Function.comp_def]
structure CE where
 k:Cal
 ds:List D
 h:aB
 d:D
 h1:aB
def hdN:HL→Nat
 | (_,_,nx)::_=>nx
 | []=>0
theorem fB (X:XOk P xc) (hn:n≤2 ^ k) (ops:Array Oper) (base:Nat) (M:List Nat):∀ (l:List Oper) (j:Nat) (t:Tr) (hist:HL) (pend:List (Nat×Box)) (al:List Nat) (rd:RL) (K:Tr→HL→List (Nat×Box)→Bool) (hl:List (Nat×aB)) (rl:List (Nat×Oper×List D×D)),
  xd P ti xc n ops base M l j t hist pend al rd K=true→t.perf k→HRs hl hist→RRs n rl rd→RdOk rd →
  ∃ (tbl:List CE) (s':DS) (t':Tr) (hist':HL),K t' hist' s'.pend=true∧s'.tm=tmL n t'∧t'.perf k∧HRs s'.hist hist'∧(∀ e∈tbl,CC P e.k e.ds e.h e.d e.h1∧hdN hist≤e.h.next)∧tbl.Pairwise (fun a b=>a.h.next<b.h.next) ∧
   ∀ cl:Cl,(∀ e∈tbl,cl e.k e.ds e.h=some (e.d,e.h1))→cn P ti cl eqC ops base M l j ⟨tmL n t,hl,pend,al,rl⟩=some s'
 | [],j,t,hist,pend,al,rd,K,hl,rl,hs,hp,hh,hr,hro=>⟨[],⟨tmL n t,hl,pend,al,rl⟩,t,hist,hs,rfl,hp,hh,fun e he=>by simp at he,.nil,fun _ _=>rfl⟩
 | o::l,j,t,hist,pend,al,rd,K,hl,rl,hs,hp,hh,hr,hro=>by
  rcases qx (show iM n t ops o _ _=true from hs) with⟨hw,hs⟩|⟨hw,hs⟩
  ·cases hk:bJ ops o with
   | pure=>
    simp only[hk] at hs;obtain⟨hac,d,h1,h',e1,e2,e3⟩:=fU (m:=0) hs;obtain⟨t',f1,f2,f3⟩:=d8 hp hn e3;obtain⟨tbl,s',t2,hist',g1,g2,g3,g4,g5,g6,g7⟩:=fB X hn ops base M l (j+1) t' hist pend al rd K hl rl f3 f2 hh hr hro;refine⟨tbl,s',t2,hist',g1,g2,g3,g4,g5,g6,fun cl hcl=>?_⟩;have e1':aop P ti (tmL n t) ⟨0,[]⟩ 0 o=some (d,h1):=e1;simp only[cn,cR,hw,hk,e1',f1];exact g7 cl hcl
   | read=>
    simp only[hk] at hs;cases hh with
    | nil=>cases hs
    | @cons tt g h nx hl' hist0 e hhs=>
     simp only at hs;obtain⟨hac,d,h1,h',e1,e2,e3⟩:=fU (m:=nx) hs;rcases ae e3 with⟨q1,q2⟩|⟨_,q2⟩
     ·obtain⟨t',f1,f2,f3⟩:=d8 hp hn q2;obtain⟨h2,e4,_⟩:=tZ e.symm (wA (ij hk)) e1
      obtain⟨tbl,s',t2,hist',g1,g2,g3,g4,g5,g6,g7⟩:=fB X hn ops base M l (j+1) t' _ pend al _ K ((tt,g)::hl') ((j,o,tmL n t,d)::rl) f3 f2 (.cons e hhs) (.cons hr) (fun p hp'=>by
       rcases List.mem_cons.1 hp' with rfl|hp'
       ·exact wA (ij hk)
       ·exact hro p hp')
      have hro':cH P ti eqC (M.getD j 0) (tmL n t) o d ((tt,g)::hl')=true:=by
       simp only[cH,kC];refine⟨eC e4,?_⟩;simp only[kN] at q1 ⊢;rcases q1 with q1|q1
       ·exact .inl q1
       ·exact .inr (o4 (wA (ij hk)) hhs q1)
      refine⟨tbl,s',t2,hist',g1,g2,g3,g4,g5,g6,fun cl hcl=>?_⟩;simp only[cn,cR,hw,hk,e4,hro',if_true,f1];exact g7 cl hcl
     ·cases q2
   | alloc=>
    simp only[hk] at hs;rcases ae hs with⟨q1,q2⟩|⟨_,q2⟩
    ·rw[alB_al hh] at q1;obtain⟨hac,d,h1,h',e1,e2,e3⟩:=fU (m:=0) q2;obtain⟨box,hb,e3⟩:=HT.getK_some e3;obtain⟨t',f1,f2,f3⟩:=d8 hp hn e3;obtain⟨tbl,s',t2,hist',g1,g2,g3,g4,g5,g6,g7⟩:=fB X hn ops base M l (j+1) t' hist _ _ rd K hl rl f3 f2 hh hr hro;refine⟨tbl,s',t2,hist',g1,g2,g3,g4,g5,g6,fun cl hcl=>?_⟩;have e1':aop P ti (tmL n t) ⟨0,[]⟩ (base+j) o=some (d,h1):=e1;have hb':h1.get (base+j)=some box:=by rw[e2.get,HT.heap_get];exact hb
     simp only[cn,cR,hw,hk,e1',hb',q1,if_true,f1];exact g7 cl hcl
    ·cases q2
   | write=>
    simp only[hk] at hs;cases hh with
    | nil=>cases hs
    | @cons tt g h nx hl' hist0 e hhs=>
     simp only at hs;rcases ae hs with⟨q1,q2⟩|⟨_,q2⟩
     ·obtain⟨hv,ev1,q2⟩:=ll e q2;rcases o9 q2 with⟨q,ds,hac,q2⟩|q2
      ·obtain⟨d,h',nx',hcc,q2⟩:=X _ _ _ _ _ q2;rcases ae q2 with⟨q3,q2⟩|⟨_,q2⟩
       ·rcases ae q2 with⟨q4,q2⟩|⟨_,q2⟩
        ·obtain⟨t',f1,f2,f3⟩:=d8 hp hn q2;have hpm:=iO (P:=P) (ti:=ti) (Heq.refl (h'.heap nx')) hr hro q4;obtain⟨tbl,s',t2,hist',g1,g2,g3,g4,g5,g6,g7⟩:=fB X hn ops base M l (j+1) t' _ _ al rd K ((j+1,h'.heap nx')::(tt,g)::hl') rl f3 f2 (.cons (Heq.refl _) (.cons e hhs)) hr hro;have hlt:nx<nx':=by simpa [Nat.blt_eq] using q3
         have hvn:(cy base (pend.filter fun p=>(M.getD j 0).testBit p.1) g).next=nx:=ev1.next;refine⟨⟨q,ds,cy base (pend.filter fun p=>(M.getD j 0).testBit p.1) g,d,h'.heap nx'⟩::tbl,s',t2,hist',g1,g2,g3,g4,fun x hx=>?_,?_,fun cl hcl=>?_⟩
         ·rcases List.mem_cons.1 hx with rfl|hx
          ·exact⟨hcc.congr ev1.symm (Heq.refl _),by rw[hvn];exact kP _⟩
          ·exact⟨(g5 x hx).1,by have:=(g5 x hx).2;simp only[hdN] at this ⊢;omega⟩
         ·refine .cons (fun x hx=>?_) g6;have:=(g5 x hx).2
          simp only[hdN] at this;rw[hvn];omega
         ·have hc:=hcl _ (List.mem_cons_self ..)
          have hst:bW P ti cl (tmL n t) (cy base (pend.filter fun p=>(M.getD j 0).testBit p.1) g) (base+j) o=some (d,h'.heap nx'):=by
           unfold bW;rw[hac];simp only[hc]
          simp only[cn,cR,hw,hk,q1,if_true,hst,hpm,f1];exact g7 cl fun x hx=>hcl x (by simp[hx])
        ·cases q2
       ·cases q2
      ·rcases ae q2 with⟨q5,q2⟩|⟨_,q2⟩
       ·have hnc:∀ c,o.op=.call c→c.callee≠.builtin .copy:=fun c hc hx=>by simp only[hc,hx] at q5;cases q5
        obtain⟨hac,d,h1,h',e1,e2,e3⟩:=fU (m:=nx) q2;rcases ae e3 with⟨q4,q2⟩|⟨_,q2⟩
        ·obtain⟨t',f1,f2,f3⟩:=d8 hp hn q2;obtain⟨h2,e4,e5⟩:=tZ ev1.symm hnc e1;have e6:Heq h2 (h'.heap nx):=e5.symm.trans e2;have hpm:=iO (P:=P) (ti:=ti) e6 hr hro q4;obtain⟨tbl,s',t2,hist',g1,g2,g3,g4,g5,g6,g7⟩:=fB X hn ops base M l (j+1) t' _ _ al rd K ((j+1,h2)::(tt,g)::hl') rl f3 f2 (.cons e6 (.cons e hhs)) hr hro;refine⟨tbl,s',t2,hist',g1,g2,g3,g4,fun x hx=>⟨(g5 x hx).1,by have:=(g5 x hx).2;simpa only[hdN] using this⟩,g6,fun cl hcl=>?_⟩
         have hst:bW P ti cl (tmL n t) (cy base (pend.filter fun p=>(M.getD j 0).testBit p.1) g) (base+j) o=some (d,h2):=by
          unfold bW;rw[hac];exact e4
         simp only[cn,cR,hw,hk,q1,if_true,hst,hpm,f1];exact g7 cl hcl
        ·cases q2
       ·cases q2
     ·cases q2
  ·obtain⟨t',f1,f2,f3⟩:=d8 hp hn hs;obtain⟨tbl,s',t2,hist',g1,g2,g3,g4,g5,g6,g7⟩:=fB X hn ops base M l (j+1) t' hist pend al rd K hl rl f3 f2 hh hr hro;refine⟨tbl,s',t2,hist',g1,g2,g3,g4,g5,g6,fun cl hcl=>?_⟩;simp only[cn,cR,hw,f1];exact g7 cl hcl
end
end Go.Am
/-
 The abstract machine,part 47: code and calls over trees.
-/
namespace Go.Am
variable [GT]
noncomputable def clT (tbl:List CE):Cl:=fun k ds h=>open Classical in
 match tbl.find? (fun e=>decide (e.k=k∧e.ds=ds∧e.h=h)) with
 | some e=>some (e.d,e.h1)
 | none=>none
theorem Bz {P:Program}{tbl:List CE}(h:∀ e∈tbl,CC P e.k e.ds e.h e.d e.h1):gI P (clT tbl):=fun k ds h0 d h1 hx=>by
 unfold clT at hx;split at hx
 ·rename_i e he;have h1:=List.find?_some he;simp only[decide_eq_true_eq] at h1;simp only[kA,kB] at hx;obtain⟨rfl,rfl⟩:=hx;obtain⟨rfl,rfl,rfl⟩:=h1;exact h e (List.mem_of_find?_eq_some he)
 ·cases hx
theorem xH:∀ {l:List CE},l.Pairwise (fun a b=>a.h.next<b.h.next)→∀ a b,a∈l→b∈l→a.h.next=b.h.next→a=b
 | [],_,a,b,ha,_,_=>by simp at ha
 | x::l,hp,a,b,ha,hb,he=>by
  cases hp with
  | cons h1 h2=>
   rcases List.mem_cons.1 ha with ea|ma<;>rcases List.mem_cons.1 hb with eb|mb
   ·rw[ea,eb]
   ·have:=h1 b mb;rw[ea] at he;omega
   ·have:=h1 a ma;rw[eb] at he;omega
   ·exact xH h2 a b ma mb he
theorem xy {tbl:List CE}(hp:tbl.Pairwise (fun a b=>a.h.next<b.h.next)){e:CE}(he:e∈tbl):clT tbl e.k e.ds e.h=some (e.d,e.h1):=by
 unfold clT;split
 ·rename_i e' he';have h1:=List.find?_some he';simp only[decide_eq_true_eq] at h1;have:=xH hp e' e (List.mem_of_find?_eq_some he') he (by rw[h1.2.2])
  rw[this]
 ·rename_i hn;have:=List.find?_eq_none.1 hn e he
  simp at this
abbrev sT (n:Nat) (t:Tr) (h:HT) (nx:Nat):St:=⟨tmL n t,h.heap nx⟩
def CW (P:Program) (top:Bool) (code:Code) (s:St) (df:List DE) (e:Exit) (s':St) (df':List DE):Prop:=
 ∀ (ro:Option Nat) (m:Nat),(top=true→ro=none)→∀ (c:Ctx) (a:Act) (Q:Exit→Act→World→Prop),Fit c s a→DRs c df a.defers →
  (∀ c' a',Fit c' s' a'→ak c s.h c' s'.h→(∀ j,j<s.h.next→c'.φ j=c.φ j)→DRs c' df' a'.defers→Q e a' c'.w)→code.wpIn (WF ro) m P Q a c.w
def RW (P:Program) (top:Bool) (r:Nat) (code:Code) (s:St) (df:List DE) (e:Exit) (s':St) (df':List DE):Prop:=
 ∀ (ro:Option Nat) (m:Nat),(top=true→ro=none)→∀ (c:Ctx) (a:Act) (Q:Exit→Act→World→Prop),Fit c s a→DRs c df a.defers →
  (∀ c' a',Fit c' s' a'→ak c s.h c' s'.h→(∀ j,j<s.h.next→c'.φ j=c.φ j)→DRs c' df' a'.defers→Q e a' c'.w)→Code.roundsIn (WF ro) m P code Q r a c.w
section
variable {P:Program}{ti:TI}{xc:XC}{n k:Nat}{top:Bool}
theorem CW.seq {x y:Code}{s s1 s':St}{df df1 df':List DE}{e:Exit}(h1:CW P top x s df .normal s1 df1) (h2:CW P top y s1 df1 e s' df'):CW P top (.seq x y) s df e s' df':=fun ro m hro c a Q hf hd hQ=>by
 refine wpIn_seq (h1 ro m hro c a _ hf hd fun c1 a1 f1 g1 p1 d1=>h2 ro m hro c1 a1 Q f1 d1 fun c2 a2 f2 g2 p2 d2=>hQ c2 a2 f2 (g1.trans g2) (fun j hj=>?_) d2);have:=g1.next
 rw[p2 j (by omega),p1 j hj]
theorem CW.seqX {x y:Code}{s s1:St}{df df1:List DE}{e:Exit}(h1:CW P top x s df e s1 df1) (hne:e≠.normal):CW P top (.seq x y) s df e s1 df1:=fun ro m hro c a Q hf hd hQ=>by
 refine wpIn_seq (h1 ro m hro c a _ hf hd fun c1 a1 f1 g1 p1 d1=>?_);have:=hQ c1 a1 f1 g1 p1 d1
 cases e<;>first|exact absurd rfl hne|exact this
theorem CW.cond {o:Operand}{x y:Code}{b:Bool}{s s':St}{df df':List DE}{e:Exit}(hc:ev s.tmps o=some (.v (.bool b))) (h:CW P top (if b then x else y) s df e s' df'):CW P top (.cond o x y) s df e s' df':=fun ro m hro c a Q hf hd hQ=>by
 have hb:=aK hf.rel.inv hf.tmps hc;simp only[V] at hb;exact wpIn_cond hb.2 (h ro m hro c a Q hf hd hQ)
theorem CW.block {id:Nat}{x:Code}{s s':St}{df df':List DE}{e:Exit}(h:CW P top x s df e s' df'):CW P top (.block id x) s df (ju id e) s' df':=fun ro m hro c a Q hf hd hQ=>by
 refine wpIn_block (h ro m hro c a _ hf hd fun c1 a1 f1 g1 p1 d1=>?_);have:=hQ c1 a1 f1 g1 p1 d1
 cases e with
 | exit i=>
  simp only[Exit.inBlock];simp only[ju] at this;split
  ·rename_i hi;rwa [if_pos hi] at this
  ·rename_i hi;rwa [if_neg hi] at this
 | _=>exact this
theorem CW.loop {r:Nat}{x:Code}{s s':St}{df df':List DE}{e:Exit}(h:RW P top r x s df e s' df'):CW P top (.loop x) s df e s' df':=fun ro m hro c a Q hf hd hQ=>wpIn_loop_rounds _ (h ro m hro c a Q hf hd hQ)
theorem RW.next {r:Nat}{x:Code}{s s1 s':St}{df df1 df':List DE}{e:Exit}(h1:CW P top x s df .normal s1 df1) (h2:RW P top r x s1 df1 e s' df'):RW P top (r+1) x s df e s' df':=fun ro m hro c a Q hf hd hQ=>by
 refine h1 ro m hro c a _ hf hd fun c1 a1 f1 g1 p1 d1=>h2 ro m hro c1 a1 Q f1 d1 fun c2 a2 f2 g2 p2 d2=>hQ c2 a2 f2 (g1.trans g2) (fun j hj=>?_) d2
 have:=g1.next
 rw[p2 j (by omega),p1 j hj]
theorem RW.stop {r:Nat}{x:Code}{s s1:St}{df df1:List DE}{e:Exit}(h1:CW P top x s df e s1 df1) (hne:e≠.normal):RW P top (r+1) x s df e s1 df1:=fun ro m hro c a Q hf hd hQ=>by
 refine h1 ro m hro c a _ hf hd fun c1 a1 f1 g1 p1 d1=>?_
 have:=hQ c1 a1 f1 g1 p1 d1
 cases e<;>first|exact absurd rfl hne|exact this
theorem oV (T:TOk P ti) (X:XOk P xc) (hn:n≤2 ^ k) (ops:Array Oper):∀ (l:List Oper) (t:Tr) (h:HT) (nx:Nat) (K:Tr→HT→Nat→Bool),qk P ti xc n ops l t h nx K=true→t.perf k →
  ∃ t' h' nx',K t' h' nx'=true∧t'.perf k∧∀ (ro:Option Nat) (m:Nat) (l2:List Oper) (c:Ctx) (a:Act) (Q:Exit→Act→World→Prop),Fit c (sT n t h nx) a →
   (∀ c' a',Fit c' (sT n t' h' nx') a'→ak c (h.heap nx) c' (h'.heap nx')→(∀ j,j<nx→c'.φ j=c.φ j)→a'.defers=a.defers→wpListIn (WF ro) m P ops Q l2 a' c'.w)→wpListIn (WF ro) m P ops Q (l++l2) a c.w
 | [],t,h,nx,K,hr,hp=>⟨t,h,nx,hr,hp,fun ro m l2 c a Q hfit hQ=>hQ c a hfit (ak.refl _ _) (fun _ _=>rfl) rfl⟩
 | o::l,t,h,nx,K,hr,hp=>by
  replace hr:qy P ti xc n ops o t h nx (fun t h nx=>qk P ti xc n ops l t h nx K)=true:=hr
  unfold qy at hr;rcases qx hr with⟨hw,hs⟩|⟨hw,hs⟩
  ·obtain⟨cl,hcl,d,h1,t',h',nx',hd,he,e1,e2,hk⟩:=xone (K:=fun t h nx=>qk P ti xc n ops l t h nx K) X hp hn hs;obtain⟨t2,h2,nx2,k1,k2,k3⟩:=oV T X hn ops l t' h' nx' K hk e2;refine⟨t2,h2,nx2,k1,k2,fun ro m l2 c a Q hfit hQ=>?_⟩;simp only[List.cons_append,wpListIn];rw[bG hfit.tmps hw,if_pos rfl];refine fh T hcl (h:=bump (h.heap nx) 1) (id:=nx) hfit.rel.bump (hfit.rel.fresh _ (kP _)) (by simp[bump,HT.heap]) hfit.tmps hd fun v c' q1 q2 q3 q4=>?_
   have hput:=bm (dst:=o.dst) (VS.keep q3.keeps _ _ hfit.tmps) q1;rw[e1] at hput;refine k3 ro m l2 c' (a.put o.dst v) Q ⟨q2.congr he,hput⟩ fun c2 a2 f2 g2 p2 df2=>?_
   refine hQ c2 a2 f2 ((q3.bump.congr (Heq.refl _) he).trans g2) (fun j hj=>?_) (by rw[df2];cases o.dst<;>rfl);have hnx:nx+1≤nx':=by have:=q3.next;have:=he.next;simp only[bump,HT.heap] at *;omega
   rw[p2 j (by omega),q4 j (by simp only[bump,HT.heap];omega) (by omega)]
  ·obtain⟨t',e1,e2,hk⟩:=d8 hp hn hs;obtain⟨t2,h2,nx2,k1,k2,k3⟩:=oV T X hn ops l t' h nx K hk e2;refine⟨t2,h2,nx2,k1,k2,fun ro m l2 c a Q hfit hQ=>?_⟩;simp only[List.cons_append,wpListIn];rw[bG hfit.tmps hw,if_neg (by simp)];have hput:=bm (dst:=o.dst) hfit.tmps (V.undef (c:=c));rw[e1] at hput;refine⟨fun _ _=>trivial,k3 ro m l2 c (a.put o.dst undef) Q ⟨hfit.rel,hput⟩ fun c2 a2 f2 g2 p2 df2=>?_⟩;exact hQ c2 a2 f2 g2 p2 (by rw[df2];cases o.dst<;>rfl)
theorem CU (T:TOk P ti) (X:XOk P xc) (hn:n≤2 ^ k){id:Nat}{ops:Array Oper}{t:Tr}{h:HT}{nx:Nat}{K:Tr→HT→Nat→Bool}(df:List DE) (hs:qk P ti xc n ops ops.toList t h nx K=true) (hp:t.perf k) :
  ∃ t' h' nx',K t' h' nx'=true∧t'.perf k∧CW P top (.region id ops false) (sT n t h nx) df .normal (sT n t' h' nx') df:=by
 obtain⟨t',h',nx',k1,k2,k3⟩:=oV T X hn ops _ t h nx K hs hp;refine⟨t',h',nx',k1,k2,fun ro m hro c a Q hf hd hQ=>wpIn_region_list ?_⟩;have:=k3 ro m [] c a Q hf fun c' a' f1 g1 p1 d1=>hQ c' a' f1 g1 p1 (by rw[d1];exact DRs.keep g1.keeps _ _ hd)
 simpa using this
theorem zj (hm:P.follows .mixedOrders=true) (T:TOk P ti) (X:XOk P xc) (hn:n≤2 ^ k){id:Nat}{ops:Array Oper}{t:Tr}{h:HT}{nx:Nat}{K:Tr→HT→Nat→Bool}(df:List DE) (hs:o8 P ti xc n ops t h nx K=true) (hp:t.perf k) :
  ∃ t' h' nx',K t' h' nx'=true∧t'.perf k∧CW P top (.region id ops true) (sT n t h nx) df .normal (sT n t' h' nx') df:=by
 rcases ae hs with⟨hok,hs⟩|⟨_,h0⟩
 ·obtain⟨tbl,s',t',hist',g1,g2,g3,g4,g5,g6,g7⟩:=fB X hn ops nx _ _ 0 t _ _ _ _ _ [(0,bump (h.heap nx) ops.size)] [] hs hp (.cons (Heq.refl _) .nil) .nil (fun p hp=>by simp at hp);have hr:=g7 (clT tbl) fun e he=>xy g6 he
  obtain⟨stm,shist,spend,sal,srd⟩:=s';simp only at g1 g2 g4;cases g4 with
  | nil=>cases g1
  | @cons tt g hg nx' hl hl' e hs'=>
   simp only at g1;obtain⟨hv,e1,e2⟩:=ll e g1;refine⟨t',hv,nx',e2,g3,fun ro m hro c a Q hf hd hQ=>?_⟩
   have hd':cD P ti (clT tbl) eqC ops (sT n t h nx)=some ⟨stm,cy nx spend g⟩:=by
    unfold cD;have hr':cn P ti (clT tbl) eqC ops (sT n t h nx).h.next (db ops.toList []) ops.toList 0 ⟨(sT n t h nx).tmps,[(0,bump (sT n t h nx).h ops.size)],[],[],[]⟩=some ⟨stm,(tt,g)::hl,spend,sal,srd⟩:=hr;rw[hr'];rfl
   refine eY hm T (Bz fun e he=>(g5 e he).1) m9 hok hd' hf fun c' a' f1 g1' p1 d1=>?_
   refine hQ c' a' ⟨f1.rel.congr e1,by have:=f1.tmps;rw[g2] at this;exact this⟩ (g1'.congr (Heq.refl _) e1) p1 (by rw[d1];exact DRs.keep g1'.keeps _ _ hd)
 ·cases h0
end
end Go.Am
/-
 The abstract machine,part 60: regions over trees in which two writes may come in either order.
-/
namespace Go.Am
variable [GT]
def xk {α:Type}(f:α→α→Bool) (a b:N16 α):Bool:=
 match a,b with
 | .mk a0 a1 a2 a3 a4 a5 a6 a7 a8 a9 a10 a11 a12 a13 a14 a15,.mk b0 b1 b2 b3 b4 b5 b6 b7 b8 b9 b10 b11 b12 b13 b14 b15=>
  f a0 b0&&(f a1 b1&&(f a2 b2&&(f a3 b3&&(f a4 b4&&(f a5 b5&&(f a6 b6&&(f a7 b7&&(f a8 b8&&(f a9 b9&&(f a10 b10&&(f a11 b11&&(f a12 b12&&(f a13 b13&&(f a14 b14&&f a15 b15))))))))))))))
theorem uw {α:Type}{f:α→α→Bool}(hf:∀ a b,f a b=true→a=b):∀ {a b:N16 α},xk f a b=true→a=b
 | .mk ..,.mk ..,h=>by
  simp only[xk,kC] at h;obtain⟨h0,h1,h2,h3,h4,h5,h6,h7,h8,h9,h10,h11,h12,h13,h14,h15⟩:=h;rw[hf _ _ h0,hf _ _ h1,hf _ _ h2,hf _ _ h3,hf _ _ h4,hf _ _ h5,hf _ _ h6,hf _ _ h7,hf _ _ h8,hf _ _ h9,hf _ _ h10,hf _ _ h11,hf _ _ h12,hf _ _ h13,hf _ _ h14,hf _ _ h15]
def eqTr (a b:Tr):Bool:=xk (xk eqD) a b
theorem Di {a b:Tr}(h:eqTr a b=true):a=b:=uw (fun _ _ h=>uw iq h) h
def m8:HT→HT→Bool
 | .emp,.emp=>true
 | .lf k b,.lf j c=>Nat.beq k j&&eqB b c
 | .nd l r,.nd l2 r2=>m8 l l2&&m8 r r2
 | _,_=>false
theorem tJ:∀ {a b:HT},m8 a b=true→a=b
 | .emp,.emp,_=>rfl
 | .lf k b,.lf j c,h=>by
  simp only[m8,kC,Nat.beq_eq] at h;rw[h.1,Ba h.2]
 | .nd l r,.nd l2 r2,h=>by
  simp only[m8,kC] at h;rw[tJ h.1,tJ h.2]
 | .emp,.lf ..,h=>by simp[m8] at h
 | .emp,.nd ..,h=>by simp[m8] at h
 | .lf ..,.emp,h=>by simp[m8] at h
 | .lf ..,.nd ..,h=>by simp[m8] at h
 | .nd ..,.emp,h=>by simp[m8] at h
 | .nd ..,.lf ..,h=>by simp[m8] at h
def vo (ops:Array Oper) (x y:Nat):Bool:=Nat.blt x ops.size&&(Nat.blt y ops.size&&(!Nat.beq x y&&(s5 id id ops&&s5 (upP x y) (upQ x y) ops)))
section
variable (P:Program) (ti:TI) (xc:XC) (n:Nat)
noncomputable def mX (ops:Array Oper) (t:Tr) (h:HT) (nx:Nat) (K:Tr→HT→Nat→Bool):Bool:=
 match w0 ops with
 | none=>o8 P ti xc n ops t h nx K
 | some (x,y)=>ifB (vo ops x y) (o8 P ti xc n (jY id id x y ops) t h nx fun t1 h1 n1=>o8 P ti xc n (jY (upP x y) (upQ x y) y x ops) t h nx fun t2 h2 n2=>ifB (eqTr t1 t2&&(m8 h1 h2&&Nat.beq n1 n2)) (K t1 h1 n1) false) false
end
section
variable {P:Program}{ti:TI}{xc:XC}{n k:Nat}{top:Bool}
theorem q9 (X:XOk P xc) (hn:n≤2 ^ k){ops:Array Oper}{t:Tr}{h:HT}{nx:Nat}{K:Tr→HT→Nat→Bool}(hs:o8 P ti xc n ops t h nx K=true) (hp:t.perf k) :
  cK ops=true∧∃ (cl:Cl) (s':St) (t':Tr) (h':HT) (nx':Nat),gI P cl∧cD P ti cl eqC ops (sT n t h nx)=some s'∧s'.tmps=tmL n t'∧Heq s'.h (h'.heap nx')∧t'.perf k∧K t' h' nx'=true:=by
 rcases ae hs with⟨hok,hs⟩|⟨_,h0⟩
 ·obtain⟨tbl,s',t',hist',g1,g2,g3,g4,g5,g6,g7⟩:=fB X hn ops nx _ _ 0 t _ _ _ _ _ [(0,bump (h.heap nx) ops.size)] [] hs hp (.cons (Heq.refl _) .nil) .nil (fun p hp=>by simp at hp);have hr:=g7 (clT tbl) fun e he=>xy g6 he
  obtain⟨stm,shist,spend,sal,srd⟩:=s';simp only at g1 g2 g4;cases g4 with
  | nil=>cases g1
  | @cons tt g hg nx' hl hl' e hs'=>
   simp only at g1;obtain⟨hv,e1,e2⟩:=ll e g1;refine⟨hok,clT tbl,⟨stm,cy nx spend g⟩,t',hv,nx',Bz fun e he=>(g5 e he).1,?_,g2,e1,g3,e2⟩;unfold cD;have hr':cn P ti (clT tbl) eqC ops (sT n t h nx).h.next (db ops.toList []) ops.toList 0 ⟨(sT n t h nx).tmps,[(0,bump (sT n t h nx).h ops.size)],[],[],[]⟩=some ⟨stm,(tt,g)::hl,spend,sal,srd⟩:=hr;rw[hr'];rfl
 ·cases h0
theorem yT (hm:P.follows .mixedOrders=true) (T:TOk P ti) (X:XOk P xc) (hn:n≤2 ^ k){id':Nat}{ops:Array Oper}{t:Tr}{h:HT}{nx:Nat}{K:Tr→HT→Nat→Bool}(df:List DE) (hs:mX P ti xc n ops t h nx K=true) (hp:t.perf k) :
  ∃ t' h' nx',K t' h' nx'=true∧t'.perf k∧CW P top (.region id' ops true) (sT n t h nx) df .normal (sT n t' h' nx') df:=by
 unfold mX at hs;split at hs
 ·exact zj hm T X hn df hs hp
 ·rename_i x y hxy;rcases ae hs with⟨hb,hs⟩|⟨_,h0⟩
  ·simp only[vo,kC,Nat.blt_eq,Bool.not_eq_true'] at hb;obtain⟨b1,b2,b3,b4,b5⟩:=hb;obtain⟨o1,cl1,⟨tm1,hp1⟩,t1,h1,n1,c1,r1,e1,e2,e3,e4⟩:=q9 X hn hs hp;obtain⟨o2,cl2,⟨tm2,hp2⟩,t2,h2,n2,c2,r2,f1,f2,f3,f4⟩:=q9 X hn e4 hp;rcases ae f4 with⟨hq,hK⟩|⟨_,h0⟩
   ·simp only[kC,Nat.beq_eq] at hq;obtain⟨q1,q2,q3⟩:=hq;have q1:=Di q1;have q2:=tJ q2;subst q1 q2 q3;refine⟨t1,h1,n1,hK,e3,fun ro m hro c a Q hf hd hQ=>?_⟩
    exact Bd hm T c1 c2 m9 b1 b2 (fun e=>by subst e;simp at b3) b4 b5 o1 o2 r1 r2 hf
     (fun c' a' f1' g1' p1 d1=>hQ c' a' ⟨f1'.rel.congr e2,by have:=f1'.tmps;rw[e1] at this;exact this⟩ (g1'.congr (Heq.refl _) e2) p1 (by rw[d1];exact DRs.keep g1'.keeps _ _ hd))
     (fun c' a' f1' g1' p1 d1=>hQ c' a' ⟨f1'.rel.congr f2,by have:=f1'.tmps;rw[f1] at this;exact this⟩ (g1'.congr (Heq.refl _) f2) p1 (by rw[d1];exact DRs.keep g1'.keeps _ _ hd))
   ·cases h0
  ·cases h0
end
end Go.Am
/-
 The abstract machine,part 48: code and calls over trees,carried out.
-/
namespace Go.Am
variable [GT]
def qP (ops:Array Oper):Option (Oper×Call×Operand):=
 match ops.toList.getLast? with
 | some o=>
  match o.op with
  | .defer cc=>
   match cc.callee with
   | .value f=>(match o.guard with|none=>some (o,cc,f)|some _=>none)
   | _=>none
  | _=>none
 | none=>none
theorem Bf {ops:Array Oper}{o:Oper}{cc:Call}{f:Operand}(h:qP ops=some (o,cc,f)):ops.toList=ops.toList.dropLast++[o]∧o.op=.defer cc∧cc.callee=.value f∧o.guard=none:=by
 unfold qP at h;split at h
 ·rename_i o' hl;split at h
  ·rename_i cc' ho;split at h
   ·rename_i f' hc;split at h
    ·rename_i hg;simp only[kA,kB] at h;obtain⟨rfl,rfl,rfl⟩:=h;obtain⟨ys,hys⟩:=List.getLast?_eq_some_iff.1 hl;exact⟨by rw[hys,List.dropLast_concat],ho,hc,hg⟩
    ·cases h
   ·cases h
  ·cases h
 ·cases h
def Ag (pend:Option Code) (K:Exit→Bool):Bool:=
 match pend with
 | none=>K .normal
 | some .ret=>K .ret
 | some (.exit i)=>K (.exit i)
 | some _=>false
theorem Af {pend:Option Code}{K:Exit→Bool}(h:Ag pend K=true):(pend=none∧K .normal=true)∨(pend=some .ret∧K .ret=true)∨∃ i,pend=some (.exit i)∧K (.exit i)=true:=by
 unfold Ag at h;split at h
 ·exact .inl ⟨rfl,h⟩
 ·exact .inr (.inl ⟨rfl,h⟩)
 ·exact .inr (.inr ⟨_,rfl,h⟩)
 ·cases h
def stB (st:LoopState):Bool:=match st with|.busy=>false|_=>true
theorem stB_eq {st:LoopState}(h:stB st=true):st≠.busy:=fun e=>by subst e;cases h
abbrev KC:=Exit→Tr→HT→Nat→List DE→Bool
section
variable (P:Program) (ti:TI) (xc:XC) (n:Nat) (top:Bool)
noncomputable def CZ (ops:Array Oper) (o:Oper) (cc:Call) (f:Operand) (t:Tr) (h:HT) (nx:Nat) (df:List DE) (K:KC):Bool:=
 match top with
 | true=>qk P ti xc n ops ops.toList.dropLast t h nx fun t h nx=>xev n t f fun d=>
  match d with
  | .fn (.func g) first cap=>oK n t cc.args.toList fun as=>d9 n t o.dst aX fun t'=>K .normal t' h nx (.call g (first++as++cap)::df)
  | _=>false
 | false=>false
noncomputable def sJ (ops:Array Oper) (draw:Bool) (t:Tr) (h:HT) (nx:Nat) (df:List DE) (K:KC):Bool:=
 match draw with
 | true=>mX P ti xc n ops t h nx fun t h nx=>K .normal t h nx df
 | false=>
  match qP ops with
  | none=>qk P ti xc n ops ops.toList t h nx fun t h nx=>K .normal t h nx df
  | some (o,cc,f)=>CZ P ti xc n top ops o cc f t h nx df K
noncomputable def sK (g:Operand) (ps:Array Tmp) (assign body:Code) (t:Tr) (h:HT) (nx:Nat) (df:List DE) (K:KC):Bool:=
 match top with
 | true=>xev n t g fun d=>
  match d with
  | .fn (.func gf) first cap=>h.putK nx .dfr fun h0=>h0.putK (nx+1) (.loop .ready none (tmL n t) ps.toList assign body) fun h0=>xc (.fn gf) (first++[.yf (nx+1)]++cap) h0 (nx+2) fun _ h1 nx1=>h1.getK (nx+1) fun b=>
   match b with
   | .loop st pend _ _ _ _=>ifB (stB st) (h1.delK (nx+1) fun h2=>Ag pend fun e=>K e t h2 nx1 (.mark nx::df)) false
   | _=>false
  | _=>false
 | false=>false
noncomputable def oU (ih:Tr→HT→Nat→List DE→KC→Bool) (m:Nat):Tr→HT→Nat→List DE→KC→Bool:=
 Nat.rec (motive:=fun _=>Tr→HT→Nat→List DE→KC→Bool) (fun _ _ _ _ _=>false) (fun _ r t h nx df K=>ih t h nx df fun e t h nx df=>match e with|.normal=>r t h nx df K|e=>K e t h nx df) m
noncomputable def oJ (code:Code):Tr→HT→Nat→List DE→KC→Bool:=
 Code.rec (motive:=fun _=>Tr→HT→Nat→List DE→KC→Bool)
  (skip:=fun t h nx df K=>K .normal t h nx df)
  (region:=fun _ ops d=>sJ P ti xc n top ops d)
  (seq:=fun _ _ x y t h nx df K=>x t h nx df fun e t h nx df=>match e with|.normal=>y t h nx df K|e=>K e t h nx df)
  (cond:=fun o _ _ x y t h nx df K=>xev n t o fun d=>match d with|.v (.bool true)=>x t h nx df K|.v (.bool false)=>y t h nx df K|_=>false)
  (block:=fun id _ x t h nx df K=>x t h nx df fun e t h nx df=>K (ju id e) t h nx df)
  (loop:=fun _ x t h nx df K=>oU x 1000000000 t h nx df K)
  (rangeFunc:=fun g ps assign body _ _ t h nx df K=>sK xc n top g ps assign body t h nx df K)
  (exit:=fun id t h nx df K=>K (.exit id) t h nx df)
  (scope:=fun _ _ _ _ _ _ _=>false)
  (label:=fun _ t h nx df K=>K .normal t h nx df)
  (goto:=fun _ _ _ _ _ _=>false)
  (ret:=fun t h nx df K=>K .ret t h nx df)
  (refuse:=fun _ _ _ _ _ _=>false)
  code
end
section
variable {P:Program}{ti:TI}{xc:XC}{n k:Nat}{top:Bool}
theorem CY (T:TOk P ti) (X:XOk P xc) (hn:n≤2 ^ k){id:Nat}{ops:Array Oper}{o:Oper}{cc:Call}{f:Operand}(ho:qP ops=some (o,cc,f)){t:Tr}{h:HT}{nx:Nat}{df:List DE}{K:KC}(hs:CZ P ti xc n top ops o cc f t h nx df K=true) (hp:t.perf k) :
  ∃ e t' h' nx' df',K e t' h' nx' df'=true∧t'.perf k∧CW P top (.region id ops false) (sT n t h nx) df e (sT n t' h' nx') df':=by
 obtain⟨hops,hop,hcal,hg⟩:=Bf ho;cases top with
 | false=>cases hs
 | true=>
  replace hs:qk P ti xc n ops ops.toList.dropLast t h nx (fun t h nx=>xev n t f fun d=>
   match d with
   | .fn (.func g) first cap=>oK n t cc.args.toList fun as=>d9 n t o.dst aX fun t'=>K .normal t' h nx (.call g (first++as++cap)::df)
   | _=>false)=true:=hs
  obtain⟨t1,h1,nx1,k1,k2,k3⟩:=oV T X hn ops _ t h nx _ hs hp;obtain⟨d,e1,k1⟩:=ax k1;split at k1
  ·rename_i g first cap;obtain⟨as,e2,k1⟩:=fA k1;obtain⟨t',e3,e4,e5⟩:=d8 k2 hn k1;refine⟨.normal,t',h1,nx1,_,e5,e4,fun ro m hro c a Q hf hd hQ=>?_⟩;have hr0:=hro rfl;subst hr0;refine wpIn_region_list ?_;rw[hops];refine k3 none m [o] c a Q hf fun c' a' f1 g1 p1 d1=>?_
   simp only[wpListIn];have hw:Region.wanted o (yielded ops a'.tmps)=true:=by unfold Region.wanted;simp[hg]
   rw[hw,if_pos rfl];have hv:=aK f1.rel.inv f1.tmps e1;simp only[V] at hv;obtain⟨xs,ys,hv,v1,v2⟩:=hv;have hargs:=cC f1.rel.inv f1.tmps e2
   have hrun:(o.semAt none a'.eval).run P c'.w=.ok (.defer ⟨.fn (.func g) ys.toArray,(xs++cc.args.toList.map a'.eval).toArray⟩) c'.w:=by
    show(execOp a'.eval o).run P c'.w=_;unfold execOp;simp only[hop,resolve,hcal,Sem.run_bind,hv,Deferred.ofValue,Sem.run_pure,Result.andThen];congr 3;apply Array.ext';simp
   refine⟨fun _ _=>trivial,?_⟩;show o.uponIn (WF none) m P a' _ Q ((o.semAt none a'.eval).run P c'.w);rw[hrun];have hput:=bm (a:={ a' with defers:=⟨.fn (.func g) ys.toArray,(xs++cc.args.toList.map a'.eval).toArray⟩::a'.defers }) (dst:=o.dst) f1.tmps (V.undef (c:=c'));rw[e3] at hput;refine hQ c' _ ⟨f1.rel,hput⟩ g1 p1 ?_
   have:({ a' with defers:=⟨.fn (.func g) ys.toArray,(xs++cc.args.toList.map a'.eval).toArray⟩::a'.defers }:Act).put o.dst undef={ (a'.put o.dst undef) with defers:=⟨.fn (.func g) ys.toArray,(xs++cc.args.toList.map a'.eval).toArray⟩::a'.defers }:=by cases o.dst<;>rfl
   rw[this];exact⟨_,_,rfl,⟨_,_,rfl,(v1.append hargs).append v2⟩,by rw[d1];exact DRs.keep g1.keeps _ _ hd⟩
  ·cases k1
theorem yQ (X:XOk P xc){g:Operand}{ps:Array Tmp}{assign body:Code}{t:Tr}{h:HT}{nx:Nat}{df:List DE}{K:KC}(hs:sK xc n top g ps assign body t h nx df K=true) (hp:t.perf k) :
  ∃ e t' h' nx' df',K e t' h' nx' df'=true∧t'.perf k∧CW P top (.rangeFunc g ps assign body) (sT n t h nx) df e (sT n t' h' nx') df':=by
 cases top with
 | false=>cases hs
 | true=>
  unfold sK at hs;simp only at hs;obtain⟨d,e1,hs⟩:=ax hs;split at hs
  ·rename_i gf first cap;rw[HT.putK_eq,HT.putK_eq] at hs;obtain⟨d1,h1,nx1,hcc,hs⟩:=X _ _ _ _ _ hs;obtain⟨b,hb,hs⟩:=HT.getK_some hs
   have hcc':CC P (.fn gf) (first++[.yf (nx+1)]++cap) (dQ (sT n t h nx) ps assign body) d1 (h1.heap nx1):=by
    refine hcc.congr ?_ (Heq.refl _);have e2:Heq (((h.put nx .dfr).heap (nx+2)).put (nx+1) (.loop .ready none (tmL n t) ps.toList assign body)) (((h.put nx .dfr).put (nx+1) (.loop .ready none (tmL n t) ps.toList assign body)).heap (nx+2)):=Heq.put;have e3:Heq (((h.heap (nx+2)).put nx .dfr).put (nx+1) (.loop .ready none (tmL n t) ps.toList assign body)) (((h.put nx .dfr).heap (nx+2)).put (nx+1) (.loop .ready none (tmL n t) ps.toList assign body)):=Heq.put.putL;exact(e3.trans e2).symm
   have C:gI P (fun q ds' h0=>open Classical in if q=.fn gf∧ds'=first++[.yf (nx+1)]++cap∧h0=dQ (sT n t h nx) ps assign body then some (d1,h1.heap nx1) else none):=fun q ds' h0 d' h1' hx=>by
    simp only at hx;split at hx
    ·rename_i e;obtain⟨rfl,rfl,rfl⟩:=e;simp only[kA,kB] at hx;obtain⟨rfl,rfl⟩:=hx;exact hcc'
    ·simp at hx
   split at hs
   ·rename_i st pend tm' ps' a' b';rcases ae hs with⟨hst,hs⟩|⟨_,h0⟩
    ·have hst:=stB_eq hst;rw[HT.delK_eq] at hs;have hl:(h1.heap nx1).get ((sT n t h nx).h.next+1)=some (.loop st pend tm' ps' a' b'):=by rw[HT.heap_get];exact hb
     have hdel:Heq ((h1.heap nx1).del (nx+1)) ((h1.del (nx+1)).heap nx1):=⟨rfl,fun j=>by rw[aB.get_del,HT.heap_get,HT.heap_get,HT.get_del]⟩;rcases Af hs with⟨rfl,hs⟩|⟨rfl,hs⟩|⟨i,rfl,hs⟩
     ·refine⟨.normal,t,_,nx1,_,hs,hp,fun ro m hro c a Q hf hd hQ=>?_⟩;have hr0:=hro rfl;subst hr0;refine hO C (d:=d1) (h1:=h1.heap nx1) hf e1 (by simp[HT.heap]) hl hst fun c1 dm f1 g1 p1 dr1=>?_
      exact hQ c1 _ ⟨f1.rel.congr hdel,f1.tmps⟩ (g1.congr (Heq.refl _) hdel) p1 ⟨_,_,rfl,dr1,DRs.keep g1.keeps _ _ hd⟩
     ·refine⟨.ret,t,_,nx1,_,hs,hp,fun ro m hro c a Q hf hd hQ=>?_⟩;have hr0:=hro rfl;subst hr0;refine hO C (d:=d1) (h1:=h1.heap nx1) hf e1 (by simp[HT.heap]) hl hst fun c1 dm f1 g1 p1 dr1=>?_
      exact wpIn_ret (hQ c1 _ ⟨f1.rel.congr hdel,f1.tmps⟩ (g1.congr (Heq.refl _) hdel) p1 ⟨_,_,rfl,dr1,DRs.keep g1.keeps _ _ hd⟩)
     ·refine⟨.exit i,t,_,nx1,_,hs,hp,fun ro m hro c a Q hf hd hQ=>?_⟩;have hr0:=hro rfl;subst hr0;refine hO C (d:=d1) (h1:=h1.heap nx1) hf e1 (by simp[HT.heap]) hl hst fun c1 dm f1 g1 p1 dr1=>?_
      exact wpIn_exit (hQ c1 _ ⟨f1.rel.congr hdel,f1.tmps⟩ (g1.congr (Heq.refl _) hdel) p1 ⟨_,_,rfl,dr1,DRs.keep g1.keeps _ _ hd⟩)
    ·cases h0
   ·cases hs
  ·cases hs
theorem iN (hm:P.follows .mixedOrders=true) (T:TOk P ti) (X:XOk P xc) (hn:n≤2 ^ k):∀ (code:Code) (t:Tr) (h:HT) (nx:Nat) (df:List DE) (K:KC),oJ P ti xc n top code t h nx df K=true→t.perf k →
  ∃ e t' h' nx' df',K e t' h' nx' df'=true∧t'.perf k∧CW P top code (sT n t h nx) df e (sT n t' h' nx') df'
 | .skip,t,h,nx,df,K,hs,hp=>⟨_,_,_,_,_,hs,hp,fun ro m _ c a Q hf hd hQ=>wpIn_skip (hQ c a hf (ak.refl _ _) (fun _ _=>rfl) hd)⟩
 | .region id ops true,t,h,nx,df,K,hs,hp=>by
  obtain⟨t',h',nx',k1,k2,k3⟩:=yT hm T X hn df (show mX P ti xc n ops t h nx (fun t h nx=>K .normal t h nx df)=true from hs) hp;exact⟨_,_,_,_,_,k1,k2,k3⟩
 | .region id ops false,t,h,nx,df,K,hs,hp=>by
  replace hs:(match qP ops with
   | none=>qk P ti xc n ops ops.toList t h nx fun t h nx=>K .normal t h nx df
   | some (o,cc,f)=>CZ P ti xc n top ops o cc f t h nx df K)=true:=hs
  split at hs
  ·obtain⟨t',h',nx',k1,k2,k3⟩:=CU T X hn df hs hp;exact⟨_,_,_,_,_,k1,k2,k3⟩
  ·rename_i hdf;exact CY T X hn hdf hs hp
 | .seq x y,t,h,nx,df,K,hs,hp=>by
  obtain⟨e,t1,h1,nx1,df1,k1,k2,k3⟩:=iN hm T X hn x t h nx df _ (show oJ P ti xc n top x t h nx df (fun e t h nx df=>match e with|.normal=>oJ P ti xc n top y t h nx df K|e=>K e t h nx df)=true from hs) hp;cases e with
  | normal=>
   obtain⟨e2,t2,h2,nx2,df2,q1,q2,q3⟩:=iN hm T X hn y t1 h1 nx1 df1 K k1 k2;exact⟨e2,t2,h2,nx2,df2,q1,q2,k3.seq q3⟩
  | _=>exact⟨_,_,_,_,_,k1,k2,k3.seqX (by simp)⟩
 | .cond o x y,t,h,nx,df,K,hs,hp=>by
  obtain⟨d,e1,hs⟩:=ax (show xev n t o (fun d=>match d with|.v (.bool true)=>oJ P ti xc n top x t h nx df K|.v (.bool false)=>oJ P ti xc n top y t h nx df K|_=>false)=true from hs);split at hs
  ·obtain⟨e,t1,h1,nx1,df1,k1,k2,k3⟩:=iN hm T X hn x t h nx df K hs hp;exact⟨e,t1,h1,nx1,df1,k1,k2,.cond (b:=true) e1 k3⟩
  ·obtain⟨e,t1,h1,nx1,df1,k1,k2,k3⟩:=iN hm T X hn y t h nx df K hs hp;exact⟨e,t1,h1,nx1,df1,k1,k2,.cond (b:=false) e1 k3⟩
  ·cases hs
 | .block id x,t,h,nx,df,K,hs,hp=>by
  obtain⟨e,t1,h1,nx1,df1,k1,k2,k3⟩:=iN hm T X hn x t h nx df _ (show oJ P ti xc n top x t h nx df (fun e t h nx df=>K (ju id e) t h nx df)=true from hs) hp;exact⟨_,t1,h1,nx1,df1,k1,k2,k3.block⟩
 | .loop x,t,h,nx,df,K,hs,hp=>by
  have key:∀ (m:Nat) (t:Tr) (h:HT) (nx:Nat) (df:List DE),oU (oJ P ti xc n top x) m t h nx df K=true→t.perf k→∃ e t' h' nx' df',K e t' h' nx' df'=true∧t'.perf k∧RW P top m x (sT n t h nx) df e (sT n t' h' nx') df':=by
   intro m
   induction m with
   | zero=>intro t h nx df hs;cases hs
   | succ m ih=>
    intro t h nx df hs hp;obtain⟨e,t1,h1,nx1,df1,k1,k2,k3⟩:=iN hm T X hn x t h nx df _ (show oJ P ti xc n top x t h nx df (fun e t h nx df=>match e with|.normal=>oU (oJ P ti xc n top x) m t h nx df K|e=>K e t h nx df)=true from hs) hp;cases e with
    | normal=>
     obtain⟨e2,t2,h2,nx2,df2,q1,q2,q3⟩:=ih t1 h1 nx1 df1 k1 k2;exact⟨e2,t2,h2,nx2,df2,q1,q2,.next k3 q3⟩
    | _=>exact⟨_,_,_,_,_,k1,k2,.stop k3 (by simp)⟩
  obtain⟨e,t1,h1,nx1,df1,k1,k2,k3⟩:=key 1000000000 t h nx df hs hp;exact⟨e,t1,h1,nx1,df1,k1,k2,.loop k3⟩
 | .rangeFunc g ps assign body,t,h,nx,df,K,hs,hp=>yQ X hs hp
 | .exit id,t,h,nx,df,K,hs,hp=>⟨_,_,_,_,_,hs,hp,fun ro m _ c a Q hf hd hQ=>wpIn_exit (hQ c a hf (ak.refl _ _) (fun _ _=>rfl) hd)⟩
 | .ret,t,h,nx,df,K,hs,hp=>⟨_,_,_,_,_,hs,hp,fun ro m _ c a Q hf hd hQ=>wpIn_ret (hQ c a hf (ak.refl _ _) (fun _ _=>rfl) hd)⟩
 | .label _,t,h,nx,df,K,hs,hp=>⟨_,_,_,_,_,hs,hp,fun ro m _ c a Q hf hd hQ=>wpIn_label (hQ c a hf (ak.refl _ _) (fun _ _=>rfl) hd)⟩
 | .scope _,t,h,nx,df,K,hs,hp=>by cases hs
 | .goto _,t,h,nx,df,K,hs,hp=>by cases hs
 | .refuse _,t,h,nx,df,K,hs,hp=>by cases hs
end
end Go.Am
/-
 The abstract machine,part 49: calls over trees,carried out;contracts out of closed runs.
-/
namespace Go.Am
variable [GT]
noncomputable def wr (ds:List D):Nat→Tr→(Tr→Bool)→Bool:=
 List.rec (motive:=fun _=>Nat→Tr→(Tr→Bool)→Bool) (fun _ t K=>K t) (fun d _ ih i t K=>t.setK i d fun t'=>ih (i+1) t' K) ds
theorem tn {n k:Nat}(hn:n≤2 ^ k):∀ {ds p:List D}{t:Tr}{K:Tr→Bool},t.perf k→p.length+ds.length≤n→tmL n t=p++List.replicate (n-p.length) aX→wr ds p.length t K=true →
  ∃ t',tmL n t'=p++ds++List.replicate (n-(p.length+ds.length)) aX∧t'.perf k∧K t'=true
 | [],p,t,K,hp,hl,ht,hs=>⟨t,by simpa using ht,hp,hs⟩
 | d::ds,p,t,K,hp,hl,ht,hs=>by
  replace hs:t.setK p.length d (fun t'=>wr ds (p.length+1) t' K)=true:=hs
  rw[Tr.setK_eq] at hs;have hlt:p.length<n:=by simp only[kO] at hl;omega
  have h1:tmL n (t.set p.length d)=(p++[d])++List.replicate (n-(p++[d]).length) aX:=by
   rw[←ww hp hn hlt,ht,List.set_append_right _ _ (kP _),Nat.sub_self];rw[show n-p.length=(n-(p.length+1))+1 from by omega,List.replicate_succ,List.set_cons_zero];simp
  have e:(p++[d]).length=p.length+1:=by simp
  obtain⟨t',q1,q2,q3⟩:=tn hn (ds:=ds) (p:=p++[d]) (Tr.perf_set hp) (by simp only[kO] at hl;rw[e];omega) h1 (by rw[e];exact hs);refine⟨t',?_,q2,q3⟩;rw[q1,e];simp only[List.append_assoc,List.cons_append,List.nil_append,kO];rw[show p.length+1+ds.length=p.length+(ds.length+1) from by omega]
def dep (n:Nat):Nat:=if Nat.ble n 16 then 4 else if Nat.ble n 32 then 5 else if Nat.ble n 64 then 6 else if Nat.ble n 128 then 7 else 8
theorem dep_le (n:Nat):dep n≤8:=by
 unfold dep;repeat' split
 all_goals omega
section
variable (P:Program) (ti:TI)
noncomputable def EB (n:Nat) (t:Tr) (h:HT) (r:ResultVar) (K:D→Bool):Bool:=
 match r with
 | .tmp i=>xev n t (.tmp i) K
 | .cell a ty=>xev n t (.tmp a) fun d=>q0 ti h ty d K
noncomputable def na (n:Nat) (t:Tr) (h:HT) (rs:List ResultVar):(List D→Bool)→Bool:=
 List.rec (motive:=fun _=>(List D→Bool)→Bool) (fun K=>K []) (fun r _ ih K=>EB ti n t h r fun d=>ih fun ds=>K (d::ds)) rs
def DA:List (Nat×Box)→HT
 | []=>.emp
 | (i,b)::l=>(DA l).put i b
noncomputable def lC (df:List DE) (h:HT) (nx:Nat) (K:HT→Nat→Bool):Bool:=
 match df with
 | []=>K h nx
 | [.mark id]=>h.getK id fun b=>(match b with|.dfr=>h.delK id fun h'=>K h' nx|_=>false)
 | [.call g ds]=>bE (pM P ti 100 g ds (h.heap nx)) fun h1=>K (DA h1.bs) h1.next
 | _=>false
noncomputable def vU (xc:XC) (g:FuncId) (ds:List D) (h:HT) (nx:Nat) (K:D→HT→Nat→Bool):Bool:=
 match P.funcs[g]? with
 | some fn=>
  match fn.body with
  | some code=>ifB (Nat.ble ds.length fn.ntmps&&Nat.ble fn.ntmps (2 ^ dep fn.ntmps)&&!(fn.name == "runtime.NumGoroutine")) (wr ds 0 (Tr.full aX (dep fn.ntmps)) fun t=>oJ P ti xc fn.ntmps true code t h nx [] fun e t h nx df=>
   match e with
   | .normal=>lC P ti df h nx fun h nx=>na ti fn.ntmps t h fn.results.toList fun rs=>bE (pK rs) fun d=>K d h nx
   | .ret=>lC P ti df h nx fun h nx=>na ti fn.ntmps t h fn.results.toList fun rs=>bE (pK rs) fun d=>K d h nx
   | _=>false) false
  | none=>false
 | none=>false
noncomputable def lD (sp:FuncId→List D→Option D) (f:Nat):XC:=
 Nat.rec (motive:=fun _=>XC) (fun _ _ _ _ _=>false) (fun _ ih k ds h nx K=>
  match k with
  | .fn g=>(match sp g ds with|some d=>K d h (nx+1)|none=>vU P ti ih g ds h nx K)
  | .yf _=>false) f
end
section
variable {P:Program}{ti:TI}{n k:Nat}
theorem tk {t:Tr}{h:HT}{nx:Nat}:∀ {rs:List ResultVar}{K:List D→Bool},na ti n t h rs K=true→∃ ds,eE ti (sT n t h nx) rs=some ds∧K ds=true
 | [],K,hs=>⟨[],rfl,hs⟩
 | r::rs,K,hs=>by
  replace hs:EB ti n t h r (fun d=>na ti n t h rs fun ds=>K (d::ds))=true:=hs
  have h1:∃ d,jU ti (sT n t h nx) r=some d∧na ti n t h rs (fun ds=>K (d::ds))=true:=by
   cases r with
   | tmp i=>exact ax (show xev n t (.tmp i) _=true from hs)
   | cell a ty=>
    obtain⟨x,e1,hs⟩:=ax (show xev n t (.tmp a) _=true from hs);obtain⟨d,e2,hs⟩:=o6 (n:=nx) hs;exact⟨d,by simp only[jU,e1,e2],hs⟩
  obtain⟨d,e1,hs⟩:=h1;obtain⟨ds,e2,hs⟩:=tk (nx:=nx) hs;exact⟨d::ds,by simp only[eE,e1,e2],hs⟩
theorem uN:∀ {l:List (Nat×Box)}{i:Nat},(DA l).get i=ag l i
 | [],_=>rfl
 | (j,b)::l,i=>by simp only[DA,HT.get_put,ag,uN]
theorem yS {df:List DE}{h:HT}{nx:Nat}{K:HT→Nat→Bool}(hs:lC P ti df h nx K=true):∃ h1 h' nx',fx (pM P ti 100) df (h.heap nx)=some h1∧Heq h1 (h'.heap nx')∧K h' nx'=true:=by
 unfold lC at hs;split at hs
 ·exact⟨_,h,nx,rfl,Heq.refl _,hs⟩
 ·rename_i id;obtain⟨b,hb,hs⟩:=HT.getK_some hs;split at hs
  ·rw[HT.delK_eq] at hs;refine⟨(h.heap nx).del id,_,nx,?_,⟨rfl,fun j=>by rw[aB.get_del,HT.heap_get,HT.heap_get,HT.get_del]⟩,hs⟩;simp only[fx,HT.heap_get,hb]
  ·cases hs
 ·rename_i g ds;obtain⟨h1,e1,hs⟩:=ai hs;exact⟨h1,_,_,by simp only[fx,e1],⟨rfl,fun j=>by rw[HT.heap_get,uN];rfl⟩,hs⟩
 ·cases hs
theorem AC1.of_cw (T:TOk P ti){dl:Dl}(DL:D6 P dl){g:FuncId}{fn:Func}{code:Code}{ds:List D}{h h':aB}{e:Exit}{s':St}{df:List DE}{d:D}
  (hg:P.funcs[g]?=some fn) (hb:fn.body=some code) (hn:(fn.name == "runtime.NumGoroutine")=false) (hex:CW P true code (jv fn ds h) [] e s' df) (he:e=.normal∨e=.ret)
  (hl:fx dl df s'.h=some h') (hr:iV ti fn ⟨s'.tmps,h'⟩=some d):AC1 P g ds h d h':=by
 refine⟨by unfold eK;rw[hg];simp[hb,hn],fun c vs R hvs=>?_⟩;refine(callsIn_wide (n:=0)).1 (callsIn_of_wp_marks hg hb trivial ?_)
 have hfit:Fit c (jv fn ds h) { tmps:=vs.toArray++Array.replicate (fn.ntmps-vs.toArray.size) undef,defers:=[] }:=by
  refine⟨R,?_⟩;simp only[jv,Array.toList_append,Array.toList_replicate,List.size_toArray];rw[hvs.length];exact hvs.append (VS.replicate V.undef _)
 refine hex none 0 (fun _=>rfl) c _ _ hfit (by simp[DRs]) fun c' a' f1 g1 p1 d1=>?_
 have key:LeavesInM (WF none) 0 P fn a'.tmps (fun e w'=>∃ v c',e=.returned v∧c'.w=w'∧V c' d v∧Rel c' h'∧ak c h c' h'∧∀ j,j<h.next→c'.φ j=c.φ j) a'.defers .returning c'.w:=by
  refine gR DL df a'.defers c' s'.h h' hl f1.rel d1 fun c2 r2 g2 p2=>?_
  obtain⟨v,e1,v1⟩:=dU (P:=P) T (a:=a') (⟨r2,VS.keep g2.keeps _ _ f1.tmps⟩:Fit c2 ⟨s'.tmps,h'⟩ a') hr;refine⟨v,e1,v,c2,rfl,rfl,v1,r2,g1.trans g2,fun j hj=>?_⟩;have:=g1.next
  have hn0:(jv fn ds h).h.next=h.next:=rfl;rw[p2 j (by omega),p1 j hj]
 rcases he with rfl|rfl
 ·exact key
 ·exact key
theorem CV {xc:XC}(hm:P.follows .mixedOrders=true) (T:TOk P ti) (X:XOk P xc){g:FuncId}{ds:List D}{h:HT}{nx:Nat}{K:D→HT→Nat→Bool}(hs:vU P ti xc g ds h nx K=true):∃ d h' nx',AC1 P g ds (h.heap nx) d (h'.heap nx')∧K d h' nx'=true:=by
 unfold vU at hs;split at hs
 ·rename_i fn hfn;split at hs
  ·rename_i code hb;rcases ae hs with⟨hc,hs⟩|⟨_,h0⟩
   ·simp only[kC,Nat.ble_eq,Bool.not_eq_true'] at hc;obtain⟨⟨hc1,hc2⟩,hc3⟩:=hc
    obtain⟨t,t1,t2,hs⟩:=tn (n:=fn.ntmps) (k:=dep fn.ntmps) hc2 (ds:=ds) (p:=[]) (Tr.perf_full (dep_le _)) (by simpa using hc1) (by
     apply List.ext_getElem?;intro i;by_cases hi:i<fn.ntmps
     ·rw[lm hi,Tr.get_full];simp[hi]
     ·rw[List.getElem?_eq_none (by rw[iR];omega),List.getElem?_eq_none (by simp;omega)]) hs
    obtain⟨e,t',h',nx',df',k1,k2,k3⟩:=iN hm T X hc2 code t h nx [] _ hs t2
    have hbegin:sT fn.ntmps t h nx=jv fn ds (h.heap nx):=by
     simp only[sT,jv,t1,List.nil_append,List.length_nil,Nat.zero_add]
    rw[hbegin] at k3;have DL:D6 P (pM P ti 100):=yi hm T 100
    have key:(e=.normal∨e=.ret)→lC P ti df' h' nx' (fun h nx=>na ti fn.ntmps t' h fn.results.toList fun rs=>bE (pK rs) fun d=>K d h nx)=true→∃ d h' nx',AC1 P g ds (h.heap nx) d (h'.heap nx')∧K d h' nx'=true:=fun he k1=>by
     obtain⟨h1,h2,nx2,q1,q2,q3⟩:=yS k1;obtain⟨rs,q4,q5⟩:=tk (nx:=nx2) q3;obtain⟨d,q6,q7⟩:=ai q5
     have hres:iV ti fn ⟨(sT fn.ntmps t' h' nx').tmps,h1⟩=some d:=by
      have hq:eE ti ⟨tmL fn.ntmps t',h1⟩ fn.results.toList=some rs:=by
       rw[←q4]
       have:∀ l:List ResultVar,eE ti ⟨tmL fn.ntmps t',h1⟩ l=eE ti (sT fn.ntmps t' h2 nx2) l:=by
        intro l
        induction l with
        | nil=>rfl
        | cons r l ih=>
         have:jU ti ⟨tmL fn.ntmps t',h1⟩ r=jU ti (sT fn.ntmps t' h2 nx2) r:=by
          cases r with
          | tmp i=>rfl
          | cell a ty=>
           simp only[jU];split
           ·exact sE q2
           ·rfl
         simp only[eE,this,ih]
       exact this _
      unfold iV;rw[hq];exact q6
     have:=AC1.of_cw T DL hfn hb hc3 k3 he q1 hres
     exact⟨d,h2,nx2,this.congr (Heq.refl _) q2,q7⟩
    split at k1
    ·exact key (.inl rfl) k1
    ·exact key (.inr rfl) k1
    ·cases k1
   ·cases h0
  ·cases hs
 ·cases hs
theorem AC1.bump {P:Program}{g:FuncId}{ds:List D}{h:aB}{d:D}{n1:Nat}{bs:List (Nat×Box)}(hp:AC1 P g ds h d ⟨n1,bs⟩):AC1 P g ds h d ⟨n1+1,bs⟩:=by
 obtain⟨hent,hcall⟩:=hp;refine⟨hent,fun c vs R hvs=>(hcall c vs R hvs).mono ?_⟩;rintro e w' ⟨v,c1,rfl,rfl,v1,r1,g1,p1⟩;exact⟨v,c1,rfl,rfl,v1,⟨r1.size,fun id hid=>r1.fresh id (Nat.le_trans (Nat.le_succ n1) hid),r1.live,r1.inj,r1.inv⟩,⟨g1.keeps,g1.os,g1.tape,g1.output,g1.size,Nat.le_trans g1.next (Nat.le_succ n1),g1.frame,g1.own,g1.stable⟩,p1⟩
def oT (P:Program) (sp:FuncId→List D→Option D):Prop:=∀ g ds d,sp g ds=some d→Pu P g ds d
theorem j1 {sp:FuncId→List D→Option D}(hm:P.follows .mixedOrders=true) (T:TOk P ti) (S:oT P sp):∀ f,XOk P (lD P ti sp f)
 | 0=>fun k ds h nx K hs=>by cases hs
 | f+1=>fun k ds h nx K hs=>by
  cases k with
  | yf id=>cases hs
  | fn g=>
   replace hs:(match sp g ds with|some d=>K d h (nx+1)|none=>vU P ti (lD P ti sp f) g ds h nx K)=true:=hs
   split at hs
   ·rename_i d hd;exact⟨d,h,nx+1,AC1.bump (S g ds d hd _),hs⟩
   ·exact CV hm T (j1 hm T S f) hs
mutual
def gk (h:HT):Nat→D→D→Bool
 | 0,_,_=>false
 | f+1,d,d'=>
  match d,d' with
  | .v (.slice none 0 0),.imm 0 []=>true
  | .e0,.imm 0 []=>true
  | .v x,.v y=>eqV x y
  | .str a,.str b=>gg a b
  | .imm n cs,.imm m cs'=>Nat.beq n m&&ko h f cs cs'
  | .agg cs,.agg cs'=>ko h f cs cs'
  | .tup cs,.tup cs'=>ko h f cs cs'
  | .sl id off n _ es _,.imm m cs'=>Nat.beq n m&&(match h.get id with|some (.cells cs _)=>Nat.ble (off+n*es) cs.length&&ko h f ((cs.drop off).take (n*es)) cs'|_=>false)
  | _,_=>false
def ko (h:HT):Nat→List D→List D→Bool
 | 0,_,_=>false
 | _+1,[],[]=>true
 | f+1,d::ds,d' :: ds'=>gk h f d d' && ko h f ds ds'
 | _+1,_,_=>false
end
mutual
theorem j4 {h:HT}{m:Nat}:∀ (f:Nat) (d d':D),gk h f d d'=true→Rd (h.heap m) (fun _=>true) (fun _=>none) d d'
 | 0,d,d',hs=>by simp[gk] at hs
 | f+1,d,d',hs=>by
  unfold gk at hs;split at hs
  ·exact .nil
  ·exact .e0
  ·rw[BZ _ _ hs];exact .same rfl
  ·rw[cI.1 hs];exact .same rfl
  ·simp only[kC,Nat.beq_eq] at hs;rw[hs.1];exact .imm (jT f _ _ hs.2)
  ·exact .agg (jT f _ _ hs)
  ·exact .tup (jT f _ _ hs)
  ·simp only[kC,Nat.beq_eq] at hs;obtain⟨h1,h2⟩:=hs;split at h2
   ·rename_i cs ex hg;simp only[kC,Nat.ble_eq] at h2;rw[←h1];exact .frz rfl (by rw[HT.heap_get];exact hg) h2.1 (jT f _ _ h2.2)
   ·cases h2
  ·cases hs
theorem jT {h:HT}{m:Nat}:∀ (f:Nat) (ds ds':List D),ko h f ds ds'=true→Rds (h.heap m) (fun _=>true) (fun _=>none) ds ds'
 | 0,ds,ds',hs=>by simp[ko] at hs
 | f+1,[],[],hs=>.nil
 | f+1,d::ds,d' :: ds',hs=>by
  simp only[ko,kC] at hs;exact .cons (j4 f d d' hs.1) (jT f ds ds' hs.2)
 | f+1,[],_::_,hs=>by simp[ko] at hs
 | f+1,_::_,[],hs=>by simp[ko] at hs
end
theorem Pu.of_ac {g:FuncId}{ds:List D}{d0 d:D}{h1:aB}(hn:aC ds=true) (hp:AC1 P g ds ⟨0,[]⟩ d0 h1) (hr:Rd h1 (fun _=>true) (fun _=>none) d0 d):Pu P g ds d:=fun h0=>by
 obtain⟨hent,hcall⟩:=hp;refine⟨hent,fun c vs R hvs=>?_⟩;have R0:Rel { c with φ:=fun _=>none } ⟨0,[]⟩:=⟨R.size,fun _ _=>rfl,fun id box hg=>by simp[aB.get,ag] at hg,fun id id' box box' b o o' hg=>by simp[aB.get,ag] at hg,GT.keep (c:=c) (fun _ h=>h) (fun _ _=>rfl) R.inv⟩;have hvs0:VS { c with φ:=fun _=>none } ds vs:=VS.move (c:=c) (c':={ c with φ:=fun _=>none }) (fun b hb=>⟨hb,rfl⟩) ds vs hn hvs;refine(hcall _ vs R0 hvs0).mono ?_;rintro e w' ⟨v,c1,rfl,rfl,v1,r1,g1,_⟩;obtain⟨c',k1,k2,k3,k4,k5⟩:=sb R r1 g1 ⟨hr⟩ v1;exact⟨v,c',rfl,k1,k2,k3,k4,k5⟩
theorem Pu.of_x {sp:FuncId→List D→Option D}(hm:P.follows .mixedOrders=true) (T:TOk P ti) (S:oT P sp){f:Nat}{g:FuncId}{ds:List D}{d:D}(hn:aC ds=true) (hr:lD P ti sp f (.fn g) ds .emp 0 (fun d1 h1 _=>gk h1 100000 d1 d)=true):Pu P g ds d:=by
 obtain⟨d1,h1,nx1,k1,k2⟩:=j1 hm T S f _ _ _ _ _ hr;exact Pu.of_ac hn k1 (j4 _ _ _ k2)
end
end Go.Am
/-
 The abstract machine,part 50: the same runs,written so that the kernel copies little: what an operation does is looked up in a closed table.
-/
namespace Go.Am
noncomputable def BI (d:D):Bool:=@D.casesOn (fun _=>Bool) d (fun _=>false) (fun _=>false) (fun _ _=>false) (fun _=>false) (fun _ _ _ _ _ _=>false) (fun _ _=>false) (fun _=>false) (fun _=>false) (fun _ _ _=>false) (fun _=>false) (fun _ _=>false) false true (fun _=>false) (fun _=>false)
theorem BG {d:D}{K:D→Bool}:Bool.rec (motive:=fun _=>Bool) (K d) false (BI d)=mv d K:=by cases d<;>rfl
noncomputable def evT:Operand→GT→Nat→Tr→(D→Bool)→Bool:=
 @Operand.rec (fun _=>GT→Nat→Tr→(D→Bool)→Bool)
  (fun i _ n t K=>Bool.rec (motive:=fun _=>Bool) false (getA i t (fun d=>Bool.rec (motive:=fun _=>Bool) (K d) false (BI d))) (Nat.blt i n))
  (fun v _ _ _ K=>bE (ofV v) K)
  (fun g G _ _ K=>bE ((G.tab g).map .iptr) K)
  (fun f _ _ _ K=>K (.fn (.func f) [] []))
theorem jg {G:GT}{n:Nat}{t:Tr}{o:Operand}{K:D→Bool}:evT o G n t K=@xev G n t o K:=by
 cases o with
 | tmp i=>
  show Bool.rec (motive:=fun _=>Bool) false (getA i t (fun d=>Bool.rec (motive:=fun _=>Bool) (K d) false (BI d))) (Nat.blt i n)=Bool.rec (motive:=fun _=>Bool) false (t.getK i (fun d=>mv d K)) (Nat.blt i n);rw[Da];simp only[BG]
 | const v=>rfl
 | global g=>rfl
 | func f=>rfl
noncomputable def zH:List Operand→GT→Nat→Tr→(List D→Bool)→Bool:=
 @List.rec Operand (fun _=>GT→Nat→Tr→(List D→Bool)→Bool) (fun _ _ _ K=>K []) (fun x _ ih G n t K=>evT x G n t fun d=>ih G n t fun ds=>K (d::ds))
theorem tI {G:GT}{n:Nat}{t:Tr}:∀ {xs:List Operand}{K:List D→Bool},zH xs G n t K=@oK G n t xs K
 | [],_=>rfl
 | x::xs,K=>by
  show evT x G n t (fun d=>zH xs G n t fun ds=>K (d::ds))=@xev G n t x (fun d=>@oK G n t xs fun ds=>K (d::ds));simp only[jg,tI (xs:=xs)]
noncomputable def sf:List (Nat×Operand)→GT→Nat→Tr→(List (Nat×D)→Bool)→Bool:=
 @List.rec (Nat×Operand) (fun _=>GT→Nat→Tr→(List (Nat×D)→Bool)→Bool) (fun _ _ _ K=>K []) (fun p _ ih G n t K=>evT p.2 G n t fun d=>ih G n t fun ds=>K ((p.1,d)::ds))
theorem rM {G:GT}{n:Nat}{t:Tr}:∀ {xs:List (Nat×Operand)}{K:List (Nat×D)→Bool},sf xs G n t K=@mW G n t xs K
 | [],_=>rfl
 | x::xs,K=>by
  show evT x.2 G n t (fun d=>sf xs G n t fun ds=>K ((x.1,d)::ds))=@xev G n t x.2 (fun d=>@mW G n t xs fun ds=>K ((x.1,d)::ds));simp only[jg,rM (xs:=xs)]
noncomputable def Dh:Option Operand→GT→Nat→Tr→(Option D→Bool)→Bool:=
 @Option.rec Operand (fun _=>GT→Nat→Tr→(Option D→Bool)→Bool) (fun _ _ _ K=>K none) (fun y G n t K=>evT y G n t fun d=>K (some d))
theorem Dg {G:GT}{n:Nat}{t:Tr}{o:Option Operand}{K:Option D→Bool}:Dh o G n t K=@zi G n t o K:=by
 cases o with
 | none=>rfl
 | some y=>exact jg
noncomputable def yj:Option Tmp→Nat→Tr→D→(Tr→Bool)→Bool:=
 @Option.rec Tmp (fun _=>Nat→Tr→D→(Tr→Bool)→Bool) (fun _ t _ K=>K t) (fun i n t d K=>Bool.rec (motive:=fun _=>Bool) false (setA i t d K) (Nat.blt i n))
theorem oY {dst:Option Tmp}{n:Nat}{t:Tr}{d:D}{K:Tr→Bool}:yj dst n t d K=d9 n t dst d K:=by
 cases dst with
 | none=>rfl
 | some i=>
  show Bool.rec (motive:=fun _=>Bool) false (setA i t d K) (Nat.blt i n)=_;rw[Co];rfl
noncomputable def yA (d:D):Bool→Bool→Bool:=
 @D.casesOn (fun _=>Bool→Bool→Bool) d
  (fun x=>@Value.casesOn (fun _=>Bool→Bool→Bool) x (fun b yes no=>Bool.rec (motive:=fun _=>Bool) no yes b) (fun _ _ _ _=>false) (fun _ _ _ _=>false) (fun _ _ _ _ _=>false) (fun _ _ _=>false) (fun _ _ _=>false) (fun _ _ _ _ _=>false) (fun _ _ _=>false) (fun _ _ _=>false) (fun _ _ _ _ _=>false) (fun _ _=>false) (fun _ _ _ _=>false) (fun _ _=>false) (fun _ _ _=>false) (fun _ _ _=>false))
  (fun _ _ _=>false) (fun _ _ _ _=>false) (fun _ _ _=>false) (fun _ _ _ _ _ _ _ _=>false) (fun _ _ _ _=>false) (fun _ _ _=>false) (fun _ _ _=>false) (fun _ _ _ _ _=>false) (fun _ _ _=>false) (fun _ _ _ _=>false) (fun _ _=>false) (fun _ _=>false) (fun _ _ _=>false) (fun _ _ _=>false)
theorem vE {d:D}{yes no:Bool}:yA d yes no=(match d with|.v (.bool true)=>yes|.v (.bool false)=>no|_=>false):=by
 cases d with
 | v x=>
  cases x with
  | bool b=>cases b<;>rfl
  | _=>rfl
 | _=>rfl
noncomputable def wN (d:D):(Int→Bool)→Bool→Bool:=
 @D.casesOn (fun _=>(Int→Bool)→Bool→Bool) d
  (fun x=>@Value.casesOn (fun _=>(Int→Bool)→Bool→Bool) x (fun _ _ no=>no) (fun k m=>@IntKind.casesOn (fun _=>(Int→Bool)→Bool→Bool) k (fun _ no=>no) (fun _ no=>no) (fun _ no=>no) (fun yes _=>yes m) (fun _ no=>no) (fun _ no=>no) (fun _ no=>no) (fun _ no=>no))
   (fun _ _ _ no=>no) (fun _ _ _ _ no=>no) (fun _ _ no=>no) (fun _ _ no=>no) (fun _ _ _ _ no=>no) (fun _ _ no=>no) (fun _ _ no=>no) (fun _ _ _ _ no=>no) (fun _ no=>no) (fun _ _ _ no=>no) (fun _ no=>no) (fun _ _ no=>no) (fun _ _ no=>no))
  (fun _ _ no=>no) (fun _ _ _ no=>no) (fun _ _ no=>no) (fun _ _ _ _ _ _ _ no=>no) (fun _ _ _ no=>no) (fun _ _ no=>no) (fun _ _ no=>no) (fun _ _ _ _ no=>no) (fun _ _ no=>no) (fun _ _ _ no=>no) (fun _ no=>no) (fun _ no=>no) (fun _ _ no=>no) (fun _ _ no=>no)
theorem io (d:D):(∃ m,d=.v (.int .i64 m))∨∀ yes no,wN d yes no=no:=by
 cases d with
 | v x=>
  cases x with
  | int k m=>
   cases k with
   | i64=>exact .inl ⟨m,rfl⟩
   | _=>exact .inr fun _ _=>rfl
  | _=>exact .inr fun _ _=>rfl
 | _=>exact .inr fun _ _=>rfl
noncomputable def strT (d:D):(List UInt8→Bool)→Bool→Bool:=
 @D.casesOn (fun _=>(List UInt8→Bool)→Bool→Bool) d (fun _ _ no=>no) (fun s yes _=>yes s) (fun _ _ _ no=>no) (fun _ _ no=>no) (fun _ _ _ _ _ _ _ no=>no) (fun _ _ _ no=>no) (fun _ _ no=>no) (fun _ _ no=>no) (fun _ _ _ _ no=>no) (fun _ _ no=>no) (fun _ _ _ no=>no) (fun _ no=>no) (fun _ no=>no) (fun _ _ no=>no) (fun _ _ no=>no)
theorem pE (d:D):(∃ s,d=.str s)∨∀ yes no,strT d yes no=no:=by
 cases d with
 | str s=>exact .inl ⟨s,rfl⟩
 | _=>exact .inr fun _ _=>rfl
abbrev BH:=Program→TypeId→Operand→Operand→D→D→(D→Bool)→Bool
noncomputable def uQ (op:BinOp) (f:Int→Int→(D→Bool)→Bool):BH:=fun P t ox oy a b K=>wN a (fun m=>wN b (fun n=>f m n K) (fg P op t ox oy a b K)) (fg P op t ox oy a b K)
noncomputable def DC (op:BinOp) (f:Int→Int→(D→Bool)→Bool) (g:List UInt8→List UInt8→(D→Bool)→Bool):BH:=fun P t ox oy a b K=>
 wN a (fun m=>wN b (fun n=>f m n K) (fg P op t ox oy a b K)) (strT a (fun u=>strT b (fun v=>g u v K) (fg P op t ox oy a b K)) (fg P op t ox oy a b K))
theorem kR {op:BinOp}{f:Int→Int→(D→Bool)→Bool}{P:Program}{t:TypeId}{ox oy:Operand}{a b:D}{K:D→Bool}(h:∀ m n,f m n K=fg P op t ox oy (.v (.int .i64 m)) (.v (.int .i64 n)) K):uQ op f P t ox oy a b K=fg P op t ox oy a b K:=by
 unfold uQ;rcases io a with⟨m,rfl⟩|ha
 ·rcases io b with⟨n,rfl⟩|hb
  ·exact h m n
  ·show wN b _ _=_;rw[hb]
 ·rw[ha]
theorem xQ {op:BinOp}{f:Int→Int→(D→Bool)→Bool}{g:List UInt8→List UInt8→(D→Bool)→Bool}{P:Program}{t:TypeId}{ox oy:Operand}{a b:D}{K:D→Bool}(h:∀ m n,f m n K=fg P op t ox oy (.v (.int .i64 m)) (.v (.int .i64 n)) K) (h2:∀ u v,g u v K=fg P op t ox oy (.str u) (.str v) K):DC op f g P t ox oy a b K=fg P op t ox oy a b K:=by
 unfold DC;rcases io a with⟨m,rfl⟩|ha
 ·rcases io b with⟨n,rfl⟩|hb
  ·exact h m n
  ·show wN b _ _=_;rw[hb]
 ·rw[ha];rcases pE a with⟨u,rfl⟩|ha
  ·rcases pE b with⟨v,rfl⟩|hb
   ·exact h2 u v
   ·show strT b _ _=_;rw[hb]
  ·rw[ha]
def fAdd (m n:Int) (K:D→Bool):Bool:=mz (m+n) fun r=>ifB (y9 r) (K (.v (.int .i64 r))) false
def fSub (m n:Int) (K:D→Bool):Bool:=mz (m-n) fun r=>ifB (y9 r) (K (.v (.int .i64 r))) false
def fEql (m n:Int) (K:D→Bool):Bool:=ifB (ibe m n) (K (boo true)) (K (boo false))
def fNeq (m n:Int) (K:D→Bool):Bool:=ifB (ibe m n) (K (boo false)) (K (boo true))
def gEql (u v:List UInt8) (K:D→Bool):Bool:=ifB (gg u v) (K (boo true)) (K (boo false))
def gNeq (u v:List UInt8) (K:D→Bool):Bool:=ifB (gg u v) (K (boo false)) (K (boo true))
def fLss (m n:Int) (K:D→Bool):Bool:=ifB (ibl m n) (K (boo true)) (K (boo false))
def fLeq (m n:Int) (K:D→Bool):Bool:=ifB (ibl n m) (K (boo false)) (K (boo true))
def fGtr (m n:Int) (K:D→Bool):Bool:=ifB (ibl n m) (K (boo true)) (K (boo false))
def fGeq (m n:Int) (K:D→Bool):Bool:=ifB (ibl m n) (K (boo false)) (K (boo true))
noncomputable def binT:BinOp→BH:=
 @BinOp.rec (fun _=>BH) (uQ .add fAdd) (uQ .sub fSub) (fun P=>fg P .mul) (fun P=>fg P .quo) (fun P=>fg P .rem) (fun P=>fg P .and) (fun P=>fg P .or) (fun P=>fg P .xor) (fun P=>fg P .shl) (fun P=>fg P .shr) (fun P=>fg P .andNot)
  (DC .eql fEql gEql) (DC .neq fNeq gNeq) (uQ .lss fLss) (uQ .leq fLeq) (uQ .gtr fGtr) (uQ .geq fGeq)
theorem Dw {op:BinOp}{P:Program}{t:TypeId}{ox oy:Operand}{a b:D}{K:D→Bool}:binT op P t ox oy a b K=fg P op t ox oy a b K:=by
 cases op
 case add=>exact kR (f:=fAdd) fun _ _=>rfl
 case sub=>exact kR (f:=fSub) fun _ _=>rfl
 case eql=>exact xQ (f:=fEql) (g:=gEql) (fun _ _=>rfl) (fun _ _=>rfl)
 case neq=>exact xQ (f:=fNeq) (g:=gNeq) (fun _ _=>rfl) (fun _ _=>rfl)
 case lss=>exact kR (f:=fLss) fun _ _=>rfl
 case leq=>exact kR (f:=fLeq) fun _ _=>rfl
 case gtr=>exact kR (f:=fGtr) fun _ _=>rfl
 case geq=>exact kR (f:=fGeq) fun _ _=>rfl
 all_goals rfl
noncomputable def oneT (cs:List D) (K:D→Bool):Bool:=@List.casesOn D (fun _=>Bool) cs false (fun d r=>@List.casesOn D (fun _=>Bool) r (K d) (fun _ _=>false))
noncomputable def iB (u:TypeDesc) (cs:List D) (K:D→Bool):Bool:=Bool.rec (motive:=fun _=>Bool) (oneT cs K) (K (.agg cs)) (qY u)
theorem nn {u:TypeDesc}{cs:List D}{K:D→Bool}:iB u cs K=bE (cd u cs) K:=by
 unfold iB cd;cases qY u with
 | true=>rfl
 | false=>
  cases cs with
  | nil=>rfl
  | cons d r=>cases r<;>rfl
noncomputable def B7 (b:Box):Nat→fE→(D→Bool)→Bool:=
 @Box.casesOn (fun _=>Nat→fE→(D→Bool)→Bool) b (fun cs _ off x K=>gv cs off x.size fun ds=>iB x.u ds K) (fun _ _ _ _=>false) (fun _ _ _ _ _ _ _ _ _=>false) (fun _ _ _=>false)
noncomputable def ldT (d:D):fE→HT→(D→Bool)→Bool:=
 @D.casesOn (fun _=>fE→HT→(D→Bool)→Bool) d (fun _ _ _ _=>false) (fun _ _ _ _=>false) (fun _ _ _ _ _=>false) (fun cs x _ K=>gv cs 0 x.size fun ds=>iB x.u ds K) (fun _ _ _ _ _ _ _ _ _=>false) (fun id off x h K=>h.getK id fun b=>B7 b off x K)
  (fun _ _ _ _=>false) (fun _ _ _ _=>false) (fun _ _ _ _ _ _=>false) (fun _ _ _ _=>false) (fun _ _ _ _ _=>false) (fun _ _ _=>false) (fun _ _ _=>false) (fun _ _ _ _=>false) (fun _ _ _ _=>false)
noncomputable def A7 (ti:TI) (h:HT) (t:TypeId) (a:D) (K:D→Bool):Bool:=@Option.rec fE (fun _=>Bool) false (fun x=>ldT a x h K) (ti t)
theorem B6 {b:Box}{off:Nat}{x:fE}{K:D→Bool}:B7 b off x K=(match b with|.cells cs _=>gv cs off x.size fun ds=>bE (cd x.u ds) K|_=>false):=by
 cases b with
 | cells cs ex=>
  show gv cs off x.size (fun ds=>iB x.u ds K)=_;simp only[nn]
 | _=>rfl
theorem A6 {ti:TI}{h:HT}{t:TypeId}{a:D}{K:D→Bool}:A7 ti h t a K=q0 ti h t a K:=by
 unfold A7 q0;cases ti t with
 | none=>rfl
 | some x=>
  cases a with
  | ptr id off=>
   show h.getK id (fun b=>B7 b off x K)=_;simp only[B6];all_goals congr 1
  | iptr cs=>
   show gv cs 0 x.size (fun ds=>iB x.u ds K)=_;simp only[nn]
  | _=>rfl
noncomputable def EQ (b:Box):Nat→fE→List D→HT→Nat→(HT→Bool)→Bool:=
 @Box.casesOn (fun _=>Nat→fE→List D→HT→Nat→(HT→Bool)→Bool) b (fun cs ex off x l h id K=>ifB (Nat.beq l.length x.size&&eP l) (splK cs off l fun cs'=>h.putK id (.cells cs' ex) K) false) (fun _ _ _ _ _ _ _=>false) (fun _ _ _ _ _ _ _ _ _ _ _ _=>false) (fun _ _ _ _ _ _=>false)
noncomputable def stT (d:D):fE→HT→List D→(HT→Bool)→Bool:=
 @D.casesOn (fun _=>fE→HT→List D→(HT→Bool)→Bool) d (fun _ _ _ _ _=>false) (fun _ _ _ _ _=>false) (fun _ _ _ _ _ _=>false) (fun _ _ _ _ _=>false) (fun _ _ _ _ _ _ _ _ _ _=>false) (fun id off x h l K=>h.getK id fun b=>EQ b off x l h id K)
  (fun _ _ _ _ _=>false) (fun _ _ _ _ _=>false) (fun _ _ _ _ _ _ _=>false) (fun _ _ _ _ _=>false) (fun _ _ _ _ _ _=>false) (fun _ _ _ _=>false) (fun _ _ _ _=>false) (fun _ _ _ _ _=>false) (fun _ _ _ _ _=>false)
noncomputable def vf (ti:TI) (h:HT) (t:TypeId) (a d:D) (K:HT→Bool):Bool:=@Option.rec fE (fun _=>Bool) false (fun x=>stT a x h (cL d) K) (ti t)
theorem ya {ti:TI}{h:HT}{t:TypeId}{a d:D}{K:HT→Bool}:vf ti h t a d K=ou ti h t a d K:=by
 unfold vf ou;cases ti t with
 | none=>rfl
 | some x=>
  cases a with
  | ptr id off=>
   show h.getK id (fun b=>EQ b off x (cL d) h id K)=_;congr 1;funext b;cases b<;>rfl
  | _=>rfl
noncomputable def lenT (x:D):TI→List TypeId→(D→Bool)→Bool:=
 @D.casesOn (fun _=>TI→List TypeId→(D→Bool)→Bool) x (fun v ti ts K=>bE (fK ti ⟨0,[]⟩ ts (.v v)) K) (fun v ti ts K=>bE (fK ti ⟨0,[]⟩ ts (.str v)) K) (fun a b ti ts K=>bE (fK ti ⟨0,[]⟩ ts (.imm a b)) K) (fun a ti ts K=>bE (fK ti ⟨0,[]⟩ ts (.iptr a)) K)
  (fun a b c d e f ti ts K=>bE (fK ti ⟨0,[]⟩ ts (.sl a b c d e f)) K) (fun a b ti ts K=>bE (fK ti ⟨0,[]⟩ ts (.ptr a b)) K) (fun a ti ts K=>bE (fK ti ⟨0,[]⟩ ts (.agg a)) K) (fun a ti ts K=>bE (fK ti ⟨0,[]⟩ ts (.tup a)) K) (fun a b c ti ts K=>bE (fK ti ⟨0,[]⟩ ts (.fn a b c)) K)
  (fun _ _ _ _=>false) (fun a b ti ts K=>bE (fK ti ⟨0,[]⟩ ts (.iface a b)) K) (fun ti ts K=>bE (fK ti ⟨0,[]⟩ ts .e0) K) (fun ti ts K=>bE (fK ti ⟨0,[]⟩ ts .any) K) (fun a ti ts K=>bE (fK ti ⟨0,[]⟩ ts (.yf a)) K) (fun a ti ts K=>bE (fK ti ⟨0,[]⟩ ts (.zs a)) K)
abbrev LH:=Program→TI→HT→Nat→List TypeId→TypeId→List D→(D→HT→Bool)→Bool
noncomputable def l2T (l:List D) (K:D→D→Bool):Bool:=@List.casesOn D (fun _=>Bool) l false (fun a r=>@List.casesOn D (fun _=>Bool) r false (fun b r=>@List.casesOn D (fun _=>Bool) r (K a b) (fun _ _=>false)))
noncomputable def l1T (l:List D) (K:D→Bool):Bool:=@List.casesOn D (fun _=>Bool) l false (fun a r=>@List.casesOn D (fun _=>Bool) r (K a) (fun _ _=>false))
noncomputable def noL:LH:=fun _ _ _ _ _ _ _ _=>false
noncomputable def bltT:Builtin→LH:=
 @Builtin.rec (fun _=>LH) (fun _ ti h id ts _ l K=>l2T l fun s x=>Cb ti h id ts s x K) noL noL noL noL noL noL noL (fun _ ti h _ ts _ l K=>l1T l fun x=>lenT x ti ts fun d=>K d h) noL
  (fun P ti h id ts ty l K=>bE (az P ti ⟨0,[]⟩ id .max ts ty l) fun r=>K r.1 h) (fun P ti h id ts ty l K=>bE (az P ti ⟨0,[]⟩ id .min ts ty l) fun r=>K r.1 h) noL noL noL noL noL noL noL noL noL noL noL noL noL noL
theorem Dv {P:Program}{ti:TI}{h:HT}{id:Nat}{b:Builtin}{ts:List TypeId}{ty:TypeId}{l:List D}{K:D→HT→Bool}:bltT b P ti h id ts ty l K=Ca P ti h id b ts ty l K:=by
 cases b
 case append=>
  cases l with
  | nil=>rfl
  | cons a r=>
   cases r with
   | nil=>rfl
   | cons b r=>cases r<;>rfl
 case len=>
  cases l with
  | nil=>rfl
  | cons a r=>
   cases r with
   | nil=>cases a<;>rfl
   | cons b r=>rfl
 all_goals rfl
noncomputable def nthT:List D→Nat→(D→Bool)→Bool:=
 @List.rec D (fun _=>Nat→(D→Bool)→Bool) (fun _ _=>false) (fun x _ ih i K=>Nat.rec (motive:=fun _=>Bool) (K x) (fun m _=>ih m K) i)
theorem xP:∀ {l:List D}{i:Nat}{K:D→Bool},nthT l i K=bE (l[i]?) K
 | [],_,_=>rfl
 | _::_,0,_=>rfl
 | _::l,i+1,_=>xP (l:=l) (i:=i)
noncomputable def tupT (d:D):(List D→Bool)→Bool:=
 @D.casesOn (fun _=>(List D→Bool)→Bool) d (fun _ _=>false) (fun _ _=>false) (fun _ _ _=>false) (fun _ _=>false) (fun _ _ _ _ _ _ _=>false) (fun _ _ _=>false) (fun _ _=>false) (fun l K=>K l) (fun _ _ _ _=>false) (fun _ _=>false) (fun _ _ _=>false) (fun _=>false) (fun _=>false) (fun _ _=>false) (fun _ _=>false)
abbrev XH:=GT→Program→TI→Nat→TypeId→Tr→HT→Nat→(D→HT→Bool)→Bool
noncomputable def noH:XH:=fun _ _ _ _ _ _ _ _ _=>false
noncomputable def blcT (c:Call):XH:=
 @Callee.casesOn (fun _=>XH) c.callee (fun _=>noH) (fun _ _=>noH) (fun b G P ti n ty t h id K=>zH c.args.toList G n t fun ds=>bltT b P ti h id c.argTypes.toList ty ds K)
noncomputable def opT:Op→XH:=
 @Op.rec (fun _=>XH)
  (fun x G _ _ n _ t h _ K=>evT x G n t fun d=>K d h)
  (fun x G _ _ n _ t h _ K=>evT x G n t fun d=>K d h)
  (fun c a b G _ _ n _ t h _ K=>evT c G n t fun d=>yA d (evT a G n t fun d=>K d h) (evT b G n t fun d=>K d h))
  (fun ty _ _ ti _ _ _ h id K=>bE (ti ty) fun x=>h.putK id (.cells x.zero true) (K (.ptr id 0)))
  (fun _ x G _ _ n _ t h id K=>evT x G n t fun d=>h.putK id (.cells (cL d) true) (K (.ptr id 0)))
  (fun ty ps G _ ti n _ t h _ K=>sf ps.toList G n t fun l=>bE (qa ti ty l) fun d=>K d h)
  (fun ty m ps G _ ti n _ t h id K=>sf ps.toList G n t fun l=>bE (d6 ti ⟨0,[]⟩ id ty m l) fun r=>mi r.2.bs fun b=>h.putK id b (K r.1))
  (fun ty m k x G _ ti n _ t h _ K=>evT m G n t fun a=>evT k G n t fun b=>evT x G n t fun d=>qz ti h ty a b d (K aX))
  (fun ty a G _ ti n _ t h _ K=>evT a G n t fun d=>A7 ti h ty d fun d=>K d h)
  (fun ty a x G _ ti n _ t h _ K=>evT a G n t fun d=>evT x G n t fun e=>vf ti h ty d e (K aX))
  (fun _=>noH) (fun _=>noH)
  (fun x G _ _ n _ t h _ K=>evT x G n t fun d=>bE (eZ d) fun d=>K d h)
  (fun op ty x y _ G P _ n _ t h _ K=>evT x G n t fun a=>evT y G n t fun b=>binT op P ty x y a b fun d=>K d h)
  (fun op _ x G P _ n _ t h _ K=>evT x G n t fun d=>xun P op d fun d=>K d h)
  (fun s e x G P ti n _ t h _ K=>evT x G n t fun d=>wq P ti h s e d fun d=>K d h)
  (fun _ _=>noH) (fun ty x G _ ti n _ t h _ K=>evT x G n t fun d=>bE (qZ ti ty d) fun d=>K d h)
  (fun fn f c G _ _ n _ t h _ K=>zH f.toList G n t fun a=>zH c.toList G n t fun b=>K (.fn fn a b) h)
  (fun ty r G _ ti n _ t h id K=>match r with
   | none=>h.putK id (.map []) (K (.map id))
   | some x=>evT x G n t fun d=>(match d with|.v (.int _ _)=>bE (ti ty) fun a=>(match a.u with|.map _ _=>h.putK id (.map []) (K (.map id))|_=>false)|_=>false))
  (fun _ _=>noH)
  (fun ty l c G _ ti n _ t h id K=>evT l G n t fun a=>evT c G n t fun b=>bE (dF ti ⟨0,[]⟩ id ty a b) fun r=>mi r.2.bs fun b=>h.putK id b (K r.1))
  (fun ty x lo hi mx G _ ti n _ t h _ K=>evT x G n t fun d=>Dh lo G n t fun l=>Dh hi G n t fun hh=>Dh mx G n t fun m=>bE (de ti ty d l hh m) fun d=>K d h)
  (fun ty x f G _ ti n _ t h _ K=>evT x G n t fun d=>bE (ee ti ty d f) fun d=>K d h)
  (fun ty x f G _ ti n _ t h _ K=>evT x G n t fun d=>bE (nX ti ty d f) fun d=>K d h)
  (fun ty x i G _ ti n _ t h _ K=>evT x G n t fun a=>evT i G n t fun b=>bE (cf ti ty a b) fun d=>K d h)
  (fun ty x i G _ ti n _ t h _ K=>evT x G n t fun a=>evT i G n t fun b=>bE (jy ti ty a b) fun d=>K d h)
  (fun ty x i ok G _ ti n _ t h _ K=>evT x G n t fun a=>evT i G n t fun b=>wp ti h ty a b ok fun d=>K d h)
  (fun ty m k x G _ ti n _ t h _ K=>evT m G n t fun a=>evT k G n t fun b=>evT x G n t fun d=>qz ti h ty a b d (K aX))
  (fun _ _ _=>noH) (fun _ _ _ _=>noH) (fun _ _=>noH) (fun _ _=>noH) (fun _=>noH) (fun _ _ _ _=>noH)
  (fun x i G _ _ n _ t h _ K=>evT x G n t fun d=>tupT d fun cs=>nthT cs i fun d=>K d h)
  (fun c=>blcT c)
  (fun _=>noH) (fun _=>noH) (fun _=>noH) (fun _ _=>noH) (fun _ _ _=>noH) (fun _ _=>noH)
theorem mh {G:GT}{P:Program}{ti:TI}{n:Nat}{t:Tr}{h:HT}{id:Nat}{o:Oper}{K:D→HT→Bool}:opT o.op G P ti n o.type t h id K=@xop G P ti n t h id o K:=by
 unfold xop;cases o.op
 case pick c a b=>
  show evT c G n t (fun d=>yA d (evT a G n t fun d=>K d h) (evT b G n t fun d=>K d h))=_;simp only[jg,vE];all_goals congr 1
 case extract x i=>
  show evT x G n t (fun d=>tupT d fun cs=>nthT cs i fun d=>K d h)=_;simp only[jg,xP];congr 1;funext d;cases d<;>rfl
 case makeMap ty r=>
  cases r with
  | none=>rfl
  | some x=>exact jg
 case call c=>
  obtain⟨callee,args,tys⟩:=c;cases callee with
  | value f=>rfl
  | invoke r m=>rfl
  | builtin b=>
   show zH args.toList G n t (fun ds=>bltT b P ti h id tys.toList o.type ds K)=_;simp only[tI,Dv]
 all_goals first
  | rfl
  | (simp only[opT,jg,tI,rM,Dg,A6,ya,Dw];done)
noncomputable def wJ:Op→Bool:=
 @Op.rec (fun _=>Bool) (fun _=>false) (fun _=>false) (fun _ _ _=>false) (fun _=>false) (fun _ _=>false) (fun _ _=>false) (fun _ _ _=>false) (fun _ _ _ _=>false) (fun _ _=>false) (fun _ _ _=>false) (fun _=>false) (fun _=>false) (fun _=>false) (fun _ _ _ _ _=>false) (fun _ _ _=>false) (fun _ _ _=>false)
  (fun _ _=>false) (fun _ _=>false) (fun _ _ _=>false) (fun _ _=>false) (fun _ _=>false) (fun _ _ _=>false) (fun _ _ _ _ _=>false) (fun _ _ _=>false) (fun _ _ _=>false) (fun _ _ _=>false) (fun _ _ _=>false) (fun _ _ _ _=>false) (fun _ _ _ _=>false) (fun _ _ _=>false) (fun _ _ _ _=>false) (fun _ _=>false) (fun _ _=>false) (fun _=>false) (fun _ _ _ _=>false) (fun _ _=>false)
  (fun c=>@Callee.casesOn (fun _=>Bool) c.callee (fun _=>true) (fun _ _=>true) (fun _=>false)) (fun _=>false) (fun _=>false) (fun _=>false) (fun _ _=>false) (fun _ _ _=>false) (fun _ _=>false)
theorem y6 {G:GT}{P:Program}{n:Nat}{t:Tr}{o:Oper}{Kc:Cal→List D→Bool}{Kn:Bool}(h:wJ o.op=false):@eh G P n t o Kc Kn=Kn:=by
 unfold eh;split
 ·rename_i c ho;rw[ho] at h;split
  ·rename_i f hc
   replace h:@Callee.casesOn (fun _=>Bool) c.callee (fun _=>true) (fun _ _=>true) (fun _=>false)=false:=h
   rw[hc] at h;cases h
  ·rename_i r m hc
   replace h:@Callee.casesOn (fun _=>Bool) c.callee (fun _=>true) (fun _ _=>true) (fun _=>false)=false:=h
   rw[hc] at h;cases h
  ·rfl
 ·rfl
section
variable (G:GT) (P:Program) (ti:TI) (xc:XC) (n:Nat)
noncomputable def goC (o:Oper) (t:Tr) (h:HT) (nx:Nat) (K:Tr→HT→Nat→Bool):Bool:=
 @eh G P n t o (fun k ds=>zh P k ds (fun d=>d9 n t o.dst d fun t'=>K t' h (nx+1)) (xc k ds h (nx+1) fun d h' nx'=>d9 n t o.dst d fun t'=>K t' h' nx')) (@xop G P ti n t h nx o fun d h'=>d9 n t o.dst d fun t'=>K t' h' (nx+1))
noncomputable def goT (o:Oper) (t:Tr) (h:HT) (nx:Nat) (K:Tr→HT→Nat→Bool):Bool:=
 Bool.rec (motive:=fun _=>Bool) (opT o.op G P ti n o.type t h nx fun d h'=>yj o.dst n t d fun t'=>K t' h' (nx+1)) (goC G P ti xc n o t h nx K) (wJ o.op)
noncomputable def wz (ops:Array Oper) (o:Oper) (t:Tr) (h:HT) (nx:Nat) (K:Tr→HT→Nat→Bool):Bool:=
 @Option.rec (Nat×Bool) (fun _=>Bool) (goT G P ti xc n o t h nx K) (fun _=>iM n t ops o (goT G P ti xc n o t h nx K) (d9 n t o.dst aX fun t'=>K t' h nx)) o.guard
noncomputable def opsT (ops:Array Oper) (l:List Oper):Tr→HT→Nat→(Tr→HT→Nat→Bool)→Bool:=
 List.rec (motive:=fun _=>Tr→HT→Nat→(Tr→HT→Nat→Bool)→Bool) (fun t h nx K=>K t h nx) (fun o _ ih t h nx K=>wz G P ti xc n ops o t h nx (fun t h nx=>ih t h nx K)) l
end
section
variable {G:GT}{P:Program}{ti:TI}{xc:XC}{n:Nat}
theorem goT_eq {o:Oper}{t:Tr}{h:HT}{nx:Nat}{K:Tr→HT→Nat→Bool}:goT G P ti xc n o t h nx K=goC G P ti xc n o t h nx K:=by
 unfold goT;cases hc:wJ o.op with
 | true=>rfl
 | false=>
  show opT o.op G P ti n o.type t h nx (fun d h'=>yj o.dst n t d fun t'=>K t' h' (nx+1))=_;unfold goC;rw[y6 hc,mh];simp only[oY]
theorem AA {ops:Array Oper}{o:Oper}{t:Tr}{h:HT}{nx:Nat}{K:Tr→HT→Nat→Bool}:wz G P ti xc n ops o t h nx K=@qy G P ti xc n ops o t h nx K:=by
 unfold wz qy;simp only[goT_eq];cases hg:o.guard with
 | none=>unfold iM;rw[hg];rfl
 | some jw=>rfl
theorem xI {ops:Array Oper}:∀ {l:List Oper}{t:Tr}{h:HT}{nx:Nat}{K:Tr→HT→Nat→Bool},opsT G P ti xc n ops l t h nx K=@qk G P ti xc n ops l t h nx K
 | [],_,_,_,_=>rfl
 | o::l,t,h,nx,K=>by
  show wz G P ti xc n ops o t h nx (fun t h nx=>opsT G P ti xc n ops l t h nx K)=@qy G P ti xc n ops o t h nx (fun t h nx=>@qk G P ti xc n ops l t h nx K);simp only[xI (l:=l),AA]
end
section
variable (G:GT) (P:Program) (ti:TI) (xc:XC) (n:Nat)
noncomputable def AP (t:Tr) (o:Oper) (d:D) (h:HT):Bool:=opT o.op G P ti n o.type t h 0 fun d' _=>eqD d' d
noncomputable def sZ (m:Nat) (t:Tr) (o:Oper) (d:D) (l:HL):Bool:=
 List.rec (motive:=fun _=>Bool) true (fun p _ ih=>ifB (AP G P ti n t o d p.2.1) (ifB (p.1 == 0 || m.testBit (p.1-1)) true ih) false) l
abbrev DI:=Tr→HL→List (Nat×Box)→List Nat→RL→Bool
abbrev DH:=GT→Program→TI→XC→Nat→Nat→List Nat→Oper→DI→Nat→Tr→HL→List (Nat×Box)→List Nat→RL→Bool
end
noncomputable def Bk:DH:=fun G P ti _ n _ _ o ih _ t hist pend al rd=>opT o.op G P ti n o.type t .emp 0 fun d _=>yj o.dst n t d fun t'=>ih t' hist pend al rd
noncomputable def Bj:DH:=fun G P ti _ n _ M o ih j t hist pend al rd=>
 @List.casesOn (Nat×HT×Nat) (fun _=>Bool) hist false fun p r=>opT o.op G P ti n o.type t p.2.1 0 fun d _=>ifB (p.1 == 0 || (M.getD j 0).testBit (p.1-1) || sZ G P ti n (M.getD j 0) t o d r) (yj o.dst n t d fun t'=>ih t' (p::r) pend al ((j,o,t,d)::rd)) false
noncomputable def wZ:DH:=fun G P ti _ n base M o ih j t hist pend al rd=>
 ifB (alB M (M.getD j 0) (hist.map (·.1)) al) (opT o.op G P ti n o.type t .emp (base+j) fun d h'=>h'.getK (base+j) fun box=>yj o.dst n t d fun t'=>ih t' hist ((j,box)::pend) (j::al) rd) false
noncomputable def wY:DH:=fun G P ti xc n base M o ih j t hist pend al rd=>
 @List.casesOn (Nat×HT×Nat) (fun _=>Bool) hist false fun p r=>ifB (p.1 == 0 || (M.getD j 0).testBit (p.1-1)) (vY base (pend.filter fun p=>(M.getD j 0).testBit p.1) p.2.1 fun hv=>
  @eh G P n t o
   (fun k ds=>xc k ds hv p.2.2 fun d h' nx'=>ifB (Nat.blt p.2.2 nx') (ifB (@fN G P ti n h' (M.getD j 0) rd) (d9 n t o.dst d fun t'=>ih t' ((j+1,h',nx')::p::r) (pend.filter fun p=>!(M.getD j 0).testBit p.1) al rd) false) false)
   (ifB (match o.op with|.call c=>(match c.callee with|.builtin .copy=>false|_=>true)|_=>true) (opT o.op G P ti n o.type t hv (base+j) fun d h'=>ifB (@fN G P ti n h' (M.getD j 0) rd) (d9 n t o.dst d fun t'=>ih t' ((j+1,h',p.2.2)::p::r) (pend.filter fun p=>!(M.getD j 0).testBit p.1) al rd) false) false)) false
noncomputable def kdT:Kd→DH:=@Kd.rec (fun _=>DH) Bk Bj wZ wY
section
variable (G:GT) (P:Program) (ti:TI) (xc:XC) (n:Nat)
noncomputable def tL (ops:Array Oper) (base:Nat) (M:List Nat) (o:Oper) (ih:DI) (j:Nat) (t:Tr) (hist:HL) (pend:List (Nat×Box)) (al:List Nat) (rd:RL):Bool:=
 @Option.rec (Nat×Bool) (fun _=>Bool) (kdT (bJ ops o) G P ti xc n base M o ih j t hist pend al rd) (fun _=>iM n t ops o (kdT (bJ ops o) G P ti xc n base M o ih j t hist pend al rd) (d9 n t o.dst aX fun t'=>ih t' hist pend al rd)) o.guard
noncomputable def dT (ops:Array Oper) (base:Nat) (M:List Nat) (l:List Oper):Nat→Tr→HL→List (Nat×Box)→List Nat→RL→(Tr→HL→List (Nat×Box)→Bool)→Bool:=
 List.rec (motive:=fun _=>Nat→Tr→HL→List (Nat×Box)→List Nat→RL→(Tr→HL→List (Nat×Box)→Bool)→Bool) (fun _ t hist pend _ _ K=>K t hist pend)
  (fun o _ ih j t hist pend al rd K=>tL G P ti xc n ops base M o (fun t hist pend al rd=>ih (j+1) t hist pend al rd K) j t hist pend al rd) l
noncomputable def u5 (ops:Array Oper) (t:Tr) (h:HT) (nx:Nat) (K:Tr→HT→Nat→Bool):Bool:=
 ifB (cK ops) (dT G P ti xc n ops nx (db ops.toList []) ops.toList 0 t [(0,h,nx+ops.size)] [] [] [] fun t' hist pend=>
  match hist with
  | (_,g,nx')::_=>vY nx pend g fun g'=>K t' g' nx'
  | []=>false) false
noncomputable def wW (ops:Array Oper) (t:Tr) (h:HT) (nx:Nat) (K:Tr→HT→Nat→Bool):Bool:=
 match w0 ops with
 | none=>u5 G P ti xc n ops t h nx K
 | some (x,y)=>ifB (vo ops x y) (u5 G P ti xc n (jY id id x y ops) t h nx fun t1 h1 n1=>u5 G P ti xc n (jY (upP x y) (upQ x y) y x ops) t h nx fun t2 h2 n2=>ifB (eqTr t1 t2&&(m8 h1 h2&&Nat.beq n1 n2)) (K t1 h1 n1) false) false
noncomputable def sY (top:Bool) (ops:Array Oper) (draw:Bool) (t:Tr) (h:HT) (nx:Nat) (df:List DE) (K:KC):Bool:=
 match draw with
 | true=>wW G P ti xc n ops t h nx fun t h nx=>K .normal t h nx df
 | false=>
  match qP ops with
  | none=>opsT G P ti xc n ops ops.toList t h nx fun t h nx=>K .normal t h nx df
  | some (o,cc,f)=>@CZ G P ti xc n top ops o cc f t h nx df K
noncomputable def runT (top:Bool) (code:Code):Tr→HT→Nat→List DE→KC→Bool:=
 Code.rec (motive:=fun _=>Tr→HT→Nat→List DE→KC→Bool)
  (skip:=fun t h nx df K=>K .normal t h nx df)
  (region:=fun _ ops d=>sY G P ti xc n top ops d)
  (seq:=fun _ _ x y t h nx df K=>x t h nx df fun e t h nx df=>match e with|.normal=>y t h nx df K|e=>K e t h nx df)
  (cond:=fun o _ _ x y t h nx df K=>evT o G n t fun d=>yA d (x t h nx df K) (y t h nx df K))
  (block:=fun id _ x t h nx df K=>x t h nx df fun e t h nx df=>K (ju id e) t h nx df)
  (loop:=fun _ x t h nx df K=>oU x 1000000000 t h nx df K)
  (rangeFunc:=fun g ps assign body _ _ t h nx df K=>@sK G xc n top g ps assign body t h nx df K)
  (exit:=fun id t h nx df K=>K (.exit id) t h nx df)
  (scope:=fun _ _ _ _ _ _ _=>false)
  (label:=fun _ t h nx df K=>K .normal t h nx df)
  (goto:=fun _ _ _ _ _ _=>false)
  (ret:=fun t h nx df K=>K .ret t h nx df)
  (refuse:=fun _ _ _ _ _ _=>false)
  code
noncomputable def Dd (g:FuncId) (ds:List D) (h:HT) (nx:Nat) (K:D→HT→Nat→Bool):Bool:=
 match P.funcs[g]? with
 | some fn=>
  match fn.body with
  | some code=>ifB (Nat.ble ds.length fn.ntmps&&Nat.ble fn.ntmps (2 ^ dep fn.ntmps)&&!(fn.name == "runtime.NumGoroutine")) (wr ds 0 (Tr.full aX (dep fn.ntmps)) fun t=>runT G P ti xc fn.ntmps true code t h nx [] fun e t h nx df=>
   match e with
   | .normal=>@lC G P ti df h nx fun h nx=>@na G ti fn.ntmps t h fn.results.toList fun rs=>bE (pK rs) fun d=>K d h nx
   | .ret=>@lC G P ti df h nx fun h nx=>@na G ti fn.ntmps t h fn.results.toList fun rs=>bE (pK rs) fun d=>K d h nx
   | _=>false) false
  | none=>false
 | none=>false
end
noncomputable def jB (G:GT) (P:Program) (ti:TI) (sp:FuncId→List D→Option D) (f:Nat):XC:=
 Nat.rec (motive:=fun _=>XC) (fun _ _ _ _ _=>false) (fun _ ih k ds h nx K=>
  match k with
  | .fn g=>(match sp g ds with|some d=>K d h (nx+1)|none=>Dd G P ti ih g ds h nx K)
  | .yf _=>false) f
section
variable {G:GT}{P:Program}{ti:TI}{xc:XC}{n:Nat}
theorem AO {t:Tr}{o:Oper}{d:D}{h:HT}:AP G P ti n t o d h=@oz G P ti n t o d h:=by
 unfold AP oz;rw[mh]
theorem vz {m:Nat}{t:Tr}{o:Oper}{d:D}{l:HL}:sZ G P ti n m t o d l=@j0 G P ti n m t o d l:=by
 unfold sZ j0;simp only[AO]
theorem zM {ops:Array Oper}{base:Nat}{M:List Nat}{o:Oper}{ih:DI}{j:Nat}{t:Tr}{hist:HL}{pend:List (Nat×Box)}{al:List Nat}{rd:RL}:tL G P ti xc n ops base M o ih j t hist pend al rd=@sL G P ti xc n ops base M o ih j t hist pend al rd:=by
 have key:kdT (bJ ops o) G P ti xc n base M o ih j t hist pend al rd=(match bJ ops o with
  | .pure=>@xop G P ti n t .emp 0 o fun d _=>d9 n t o.dst d fun t'=>ih t' hist pend al rd
  | .read=>
   match hist with
   | (tt,h,nx)::r=>@xop G P ti n t h 0 o fun d _=>ifB (tt == 0 || (M.getD j 0).testBit (tt-1) || @j0 G P ti n (M.getD j 0) t o d r) (d9 n t o.dst d fun t'=>ih t' ((tt,h,nx)::r) pend al ((j,o,t,d)::rd)) false
   | []=>false
  | .alloc=>ifB (alB M (M.getD j 0) (hist.map (·.1)) al) (@xop G P ti n t .emp (base+j) o fun d h'=>h'.getK (base+j) fun box=>d9 n t o.dst d fun t'=>ih t' hist ((j,box)::pend) (j::al) rd) false
  | .write=>
   match hist with
   | (tt,h,nx)::r=>ifB (tt == 0 || (M.getD j 0).testBit (tt-1)) (vY base (pend.filter fun p=>(M.getD j 0).testBit p.1) h fun hv=>
     @eh G P n t o
      (fun k ds=>xc k ds hv nx fun d h' nx'=>ifB (Nat.blt nx nx') (ifB (@fN G P ti n h' (M.getD j 0) rd) (d9 n t o.dst d fun t'=>ih t' ((j+1,h',nx')::(tt,h,nx)::r) (pend.filter fun p=>!(M.getD j 0).testBit p.1) al rd) false) false)
      (ifB (match o.op with|.call c=>(match c.callee with|.builtin .copy=>false|_=>true)|_=>true) (@xop G P ti n t hv (base+j) o fun d h'=>ifB (@fN G P ti n h' (M.getD j 0) rd) (d9 n t o.dst d fun t'=>ih t' ((j+1,h',nx)::(tt,h,nx)::r) (pend.filter fun p=>!(M.getD j 0).testBit p.1) al rd) false) false)) false
   | []=>false):=by
  cases bJ ops o
  ·show Bk G P ti xc n base M o ih j t hist pend al rd=_;unfold Bk;simp only[mh,oY]
  ·show Bj G P ti xc n base M o ih j t hist pend al rd=_;unfold Bj;cases hist with
   | nil=>rfl
   | cons p r=>
    simp only[mh,oY,vz]
  ·show wZ G P ti xc n base M o ih j t hist pend al rd=_;unfold wZ;simp only[mh,oY]
  ·show wY G P ti xc n base M o ih j t hist pend al rd=_;unfold wY;cases hist with
   | nil=>rfl
   | cons p r=>
    simp only[mh]
 unfold tL sL;rw[key];cases hg:o.guard with
 | none=>
  unfold iM;rw[hg];all_goals rfl
 | some jw=>rfl
theorem EP {ops:Array Oper}{base:Nat}{M:List Nat}:∀ {l:List Oper}{j:Nat}{t:Tr}{hist:HL}{pend:List (Nat×Box)}{al:List Nat}{rd:RL}{K:Tr→HL→List (Nat×Box)→Bool},dT G P ti xc n ops base M l j t hist pend al rd K=@xd G P ti xc n ops base M l j t hist pend al rd K
 | [],_,_,_,_,_,_,_=>rfl
 | o::l,j,t,hist,pend,al,rd,K=>by
  show tL G P ti xc n ops base M o (fun t hist pend al rd=>dT G P ti xc n ops base M l (j+1) t hist pend al rd K) j t hist pend al rd=@sL G P ti xc n ops base M o (fun t hist pend al rd=>@xd G P ti xc n ops base M l (j+1) t hist pend al rd K) j t hist pend al rd;simp only[EP (l:=l),zM]
theorem Bc {ops:Array Oper}{t:Tr}{h:HT}{nx:Nat}{K:Tr→HT→Nat→Bool}:u5 G P ti xc n ops t h nx K=@o8 G P ti xc n ops t h nx K:=by
 unfold u5 o8;rw[EP];all_goals rfl
theorem zN {ops:Array Oper}{t:Tr}{h:HT}{nx:Nat}{K:Tr→HT→Nat→Bool}:wW G P ti xc n ops t h nx K=@mX G P ti xc n ops t h nx K:=by
 unfold wW mX;simp only[Bc];all_goals rfl
theorem vw {top:Bool}{ops:Array Oper}{draw:Bool}{t:Tr}{h:HT}{nx:Nat}{df:List DE}{K:KC}:sY G P ti xc n top ops draw t h nx df K=@sJ G P ti xc n top ops draw t h nx df K:=by
 unfold sY sJ;cases draw with
 | true=>exact zN
 | false=>
  simp only[];cases qP ops with
  | none=>exact xI
  | some p=>rfl
theorem Cq {top:Bool}:∀ {code:Code},runT G P ti xc n top code=@oJ G P ti xc n top code:=by
 intro code;unfold runT oJ;congr 1
 ·funext _ ops d t h nx df K;exact vw
 ·funext o _ _ x y t h nx df K;simp only[jg,vE];all_goals rfl
theorem Dc {g:FuncId}{ds:List D}{h:HT}{nx:Nat}{K:D→HT→Nat→Bool}:Dd G P ti xc g ds h nx K=@vU G P ti xc g ds h nx K:=by
 unfold Dd vU;simp only[Cq];all_goals rfl
theorem mS {sp:FuncId→List D→Option D}:∀ {f:Nat},jB G P ti sp f=@lD G P ti sp f
 | 0=>rfl
 | f+1=>by
  funext k ds h nx K;cases k with
  | yf i=>rfl
  | fn g=>
   show(match sp g ds with|some d=>K d h (nx+1)|none=>Dd G P ti (jB G P ti sp f) g ds h nx K)=(match sp g ds with|some d=>K d h (nx+1)|none=>@vU G P ti (@lD G P ti sp f) g ds h nx K);rw[mS (f:=f)];simp only[Dc]
end
theorem Pu.of_t {G:GT}{P:Program}{ti:TI}{sp:FuncId→List D→Option D}(hm:P.follows .mixedOrders=true) (T:TOk P ti) (S:@oT G P sp){f:Nat}{g:FuncId}{ds:List D}{d:D}(hn:aC ds=true) (hr:jB G P ti sp f (.fn g) ds .emp 0 (fun d1 h1 _=>gk h1 100000 d1 d)=true):@Pu G P g ds d:=by
 rw[mS] at hr;exact @Pu.of_x G P ti sp hm T S f g ds d hn hr
end Go.Am
