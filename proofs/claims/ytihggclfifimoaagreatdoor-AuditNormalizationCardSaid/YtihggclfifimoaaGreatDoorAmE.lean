/-
  The abstract machine: what Go code does to abstract values, and that it does so in the model. No condition beyond what each theorem says.
-/
import Derived.Test.YtihggclfifimoaaGreatDoorAmD
set_option linter.unusedSectionVars false
/-
 The abstract machine,part 40: a contract at a small heap serves at a great one: calls that borrow boxes,write them and hand them back.
-/
namespace Go.Am
variable [GT]
def nR (n:Nat):List (Nat×Nat)->Bool
 | []=>true
 | (a,b)::l=>Nat.blt a n&&l.all (λp=>p.1 != a&&p.2 != b)&&nR n l
def fN (sl:List (Nat×Nat)) (N n:Nat) (j:Nat):Option Nat:=if j<N then lkN (sl.map λp=>(p.2,p.1)) j else some (j-N+n)
theorem kq {n:Nat}:∀ {l:List (Nat×Nat)},nR n l=true->∀ a b,lkN l a=some b->a<n
 | [],_,a,b,h=>by simp[lkN] at h
 | (x,y)::l,hp,a,b,h=>by
  simp only[nR,kC] at hp;simp only[lkN] at h;split at h
  ·rename_i e;subst e;simpa [Nat.blt_eq] using hp.1.1
  ·exact kq hp.2 a b h
theorem ip:∀ {l:List (Nat×Nat)}{n a b:Nat},nR n l=true->lkN (l.map λp=>(p.2,p.1)) b=some a->lkN l a=some b
 | [],_,a,b,_,h=>by simp[lkN] at h
 | (x,y)::l,n,a,b,hp,h=>by
  simp only[nR,kC,kL,bne_iff_ne] at hp;simp only[List.map_cons,lkN] at h ⊢;split at h
  ·rename_i e;injection h with h;subst e;subst h;simp
  ·have h':=ip hp.2 h
   have hne:¬x=a:=λe=>by
    subst e;obtain⟨p,h1,h2⟩:=lkN_key h';exact(hp.1.2 p h1).1 h2
   rw[if_neg hne];exact h'
where
 lkN_key:∀ {l:List (Nat×Nat)} {j b:Nat},lkN l j=some b->∃ p∈l,p.1=j
  | [],j,b,h=>by simp[lkN] at h
  | (x,y)::l,j,b,h=>by
   simp only[lkN] at h;split at h
   ·rename_i e;exact⟨(x,y),by simp,e⟩
   ·obtain⟨p,h1,h2⟩:=lkN_key h;exact⟨p,by simp[h1],h2⟩
theorem s8 {n:Nat}:∀ {l:List (Nat×Nat)},nR n l=true->∀ i j b,lkN l i=some b->lkN l j=some b->i=j
 | [],_,i,j,b,h,_=>by simp[lkN] at h
 | (x,y)::l,hp,i,j,b,hi,hj=>by
  simp only[nR,kC,kL,bne_iff_ne] at hp;simp only[lkN] at hi hj;split at hi<;>split at hj
  ·rename_i e1 e2;rw[<-e1,<-e2]
  ·injection hi with hi;subst hi;obtain⟨p,h1,h2⟩:=nE hj;exact absurd h2 (hp.1.2 p h1).2
  ·injection hj with hj;subst hj;obtain⟨p,h1,h2⟩:=nE hi;exact absurd h2 (hp.1.2 p h1).2
  ·exact s8 hp.2 i j b hi hj
theorem AC1.embed {P:Program}{g:FuncId}{ds:List D}{n:Nat}{b0:List (Nat×Box)}{d:D}{n1:Nat}{b1:List (Nat×Box)}(hp:AC1 P g ds ⟨n,b0⟩ d ⟨n1,b1⟩)
  {H:aB} {DS:List D} (sl:List (Nat×Nat)) (fzl:List Nat) (hok:nR n sl=true) (hd:Rds H (fzn fzl) (lkN sl) DS ds) (hb:Bxs H (fzn fzl) (lkN sl) b0)
  {D':D} {B1 rest:List (Nat×Box)} (rd:Rd ⟨n1,b1⟩ (λ_=>false) (fN sl H.next n) d D') (rb:Bxs ⟨n1,b1⟩ (λ_=>false) (fN sl H.next n) B1)
  (hr:∀ j b,ac rest j=some b->H.get j=some b∧(∀ a bx,ac b0 a=some bx->lkN sl a≠some j)∧fzn fzl j=false):AC1 P g DS H D' ⟨H.next+(n1-n),B1++rest⟩:=by
 obtain⟨hent,hcall⟩:=hp;refine⟨hent,λc vs R hvs=>?_⟩
 let c0:Ctx:={ S:=λb=>c.S b∨∃ id o box,fzn fzl id=true∧H.get id=some box∧c.φ id=some (b,o),φ:=λj=>(lkN sl j).bind c.φ,w:=c.w }
 have hφ:∀ a b,lkN sl a=some b->c0.φ a=c.φ b:=λa b hs=>by show(lkN sl a).bind c.φ=c.φ b;rw[hs];rfl
 have T:ri c H (fzn fzl) (lkN sl) c0:=⟨R,rfl,λb hb=>.inl hb,λid b o box h1 h2 h3=>.inr ⟨id,o,box,h1,h2,h3⟩,hφ⟩
 have R0:Rel c0 ⟨n,b0⟩:=by
  refine⟨λb hb=>?_,λid hid=>?_,λid' box' hg=>?_,λi j bi bj b o o' h1 h2 h3 h4=>?_,GT.keep (c:=c) (λ_ h=>.inl h) (λ_ _=>rfl) R.inv⟩
  ·rcases hb with hb|⟨id,o,box,_,h2,h3⟩
   ·exact R.size b hb
   ·obtain⟨b',o',p1,_,p3⟩:=R.live id box h2;rw[p1] at h3;injection h3 with h3;injection h3 with e1 _;subst e1
    exact p3.lt
  ·show(lkN sl id).bind c.φ=none;cases hl:lkN sl id with
   | none=>rfl
   | some b=>have:=kq hok id b hl;have hid:n<=id:=hid;omega
  ·obtain⟨id,box,h1,h2,h3,h4⟩:=hb.get id' box' hg;obtain⟨b,o,p1,p2,p3⟩:=R.live id box h2;refine⟨b,o,by rw[hφ id' id h1];exact p1,?_,h4.sound T p3⟩;rintro(hs|⟨idf,of,bf,q1,q2,q3⟩)
   ·exact p2 hs
   ·have:=R.inj id idf box bf b o of h2 q2 p1 q3
    subst this;rw[h3] at q1;cases q1
  ·obtain⟨id1,b1',x1,x2,_,_⟩:=hb.get i bi h1;obtain⟨id2,b2',y1,y2,_,_⟩:=hb.get j bj h2;rw[hφ i id1 x1] at h3;rw[hφ j id2 y1] at h4;have:=R.inj id1 id2 b1' b2' b o o' x2 y2 h3 h4
   subst this;exact s8 hok i j id1 x1 y1
 refine(hcall c0 vs R0 (hd.sound T vs hvs)).mono ?_;rintro e w' ⟨v,c1,rfl,rfl,v1,r1,g1,p1⟩;have hn1:n<=n1:=g1.next
 have own0:∀ b,bG c0 ⟨n,b0⟩ b->bG c H b∧∃ a bx0 big o,ac b0 a=some bx0∧lkN sl a=some big∧(∃ bx,H.get big=some bx)∧c.φ big=some (b,o)∧fzn fzl big=false:=λb ⟨id,box,o,hg,hb'⟩=>by
  obtain⟨big,bx,h1,h2,h3,_⟩:=hb.get id box hg;rw[hφ id big h1] at hb';exact⟨⟨big,bx,o,h2,hb'⟩,id,box,big,o,hg,h1,⟨bx,h2⟩,hb',h3⟩
 have hfr:∀ b,b<c.w.heap.size->¬bG c0 ⟨n,b0⟩ b->c1.w.heap[b]?=c.w.heap[b]?:=λb hb hno=>g1.frame b hb hno
 have hlt:∀ id x,c.φ id=some x->id<H.next:=λid x hx=>Nat.lt_of_not_le λhle=>by rw[R.fresh id hle] at hx;cases hx
 let c':Ctx:={ S:=c1.S,φ:=λj=>if j<H.next then c.φ j else c1.φ (j-H.next+n),w:=c1.w }
 have hφ0:∀ j,j<H.next->c'.φ j=c.φ j:=λj hj=>by show(if j<H.next then c.φ j else c1.φ (j-H.next+n))=c.φ j;rw[if_pos hj]
 have hφ1:∀ j a,fN sl H.next n j=some a->c'.φ j=c1.φ a:=λj a hs=>by
  unfold fN at hs;show(if j<H.next then c.φ j else c1.φ (j-H.next+n))=c1.φ a;split at hs
  ·rename_i hj;have h1:=ip hok hs;rw[if_pos hj,p1 a (kq hok a j h1),hφ a j h1]
  ·rename_i hj;injection hs with hs;rw[if_neg hj,hs]
 have T1:ri c1 ⟨n1,b1⟩ (λ_=>false) (fN sl H.next n) c':=⟨r1,rfl,λ_ h=>h,λid b o box h1=>(by cases h1),hφ1⟩;have K:am c c':=⟨λb hb=>g1.keeps.S b (.inl hb),λid x hx=>(by rw[hφ0 id (hlt id x hx)];exact hx),λb hb=>g1.keeps.cells b (.inl hb),λb e z hz=>g1.keeps.shape b e z hz⟩
 have hrest:∀ j b k o,ac rest j=some b->c.φ j=some (k,o)->k<c.w.heap.size∧¬bG c0 ⟨n,b0⟩ k∧¬c1.S k:=λj b k o hg hk=>by
  obtain⟨h1,h2,h3⟩:=hr j b hg;obtain⟨k',o',q1,q2,q3⟩:=R.live j b h1;rw[hk] at q1;injection q1 with q1;injection q1 with e1 e2;subst e1;subst e2
  have hno:¬bG c0 ⟨n,b0⟩ k:=λho=>by
   obtain⟨_,a,bx0,big,o2,y0,y1,⟨bx,y2⟩,y3,_⟩:=own0 k ho;have:=R.inj j big b bx k o o2 h1 y2 hk y3
   subst this;exact h2 a bx0 y0 y1
  refine⟨q3.lt,hno,λhs=>?_⟩;rcases g1.stable k hs with h|h|h
  ·rcases h with h|⟨idf,of,bf,y1,y2,y3⟩
   ·exact q2 h
   ·have:=R.inj j idf b bf k o of h1 y2 hk y3
    subst this;rw[h3] at y1;cases y1
  ·have hsz:c0.w.heap.size<=k:=h;have:=q3.lt
   have hsz':c.w.heap.size<=k:=hsz;omega
  ·exact hno h
 have hget:∀ id box,ac (B1++rest) id=some box->(∃ i bx,fN sl H.next n id=some i∧ac b1 i=some bx∧Rb ⟨n1,b1⟩ (λ_=>false) (fN sl H.next n) bx box)∨ac rest id=some box:=λid box hg=>by
  rw[dQ] at hg;cases hl:ac B1 id with
  | none=>rw[hl] at hg;exact .inr (by simpa using hg)
  | some b=>
   rw[hl] at hg;simp only[Option.some_or,kA] at hg;subst hg;obtain⟨i,bx,q1,q2,_,q4⟩:=rb.get id b hl;exact .inl ⟨i,bx,q1,q2,q4⟩
 have inv_inj:∀ i j a,fN sl H.next n i=some a->fN sl H.next n j=some a->i=j:=λi j a hi hj=>by
  unfold fN at hi hj;split at hi<;>split at hj
  ·have h1:=ip hok hi;have h2:=ip hok hj;rw[h1] at h2;injection h2
  ·have h1:=kq hok a i (ip hok hi);injection hj with hj;omega
  ·have h1:=kq hok a j (ip hok hj);injection hi with hi;omega
  ·injection hi with hi;injection hj with hj;omega
 have live1:∀ id i bx,fN sl H.next n id=some i->ac b1 i=some bx->∀ k o,c'.φ id=some (k,o)->c.w.heap.size<=k∨bG c0 ⟨n,b0⟩ k:=λid i bx q1 q2 k o hk=>by
  rw[hφ1 id i q1] at hk;exact g1.own k ⟨i,bx,o,q2,hk⟩
 refine⟨v,c',rfl,rfl,rd.sound T1 v v1,⟨λb hb=>r1.size b hb,λid hid=>?_,λid box hg=>?_,λi j bi bj b o o' x1 x2 x3 x4=>?_,GT.kept K R.inv⟩,⟨K,g1.os,g1.tape,g1.output,g1.size,Nat.le_add_right _ _,λb hb hno=>hfr b hb λho=>hno (own0 b ho).1,λb ho=>?_,λb hb=>?_⟩,hφ0⟩
 ·have hid:H.next+(n1-n)<=id:=hid;show(if id<H.next then c.φ id else c1.φ (id-H.next+n))=none;rw[if_neg om];exact r1.fresh _ (by show n1<=id-H.next+n;omega)
 ·rcases hget id box hg with⟨i,bx,q1,q2,q4⟩|hg
  ·obtain⟨b,o,y1,y2,y3⟩:=r1.live i bx q2;exact⟨b,o,by rw[hφ1 id i q1];exact y1,y2,q4.sound T1 y3⟩
  ·obtain⟨h1,_,_⟩:=hr id box hg;obtain⟨b,o,y1,y2,y3⟩:=R.live id box h1;obtain⟨z1,z2,z3⟩:=hrest id box b o hg y1;exact⟨b,o,by rw[hφ0 id (hlt id _ y1)];exact y1,z3,y3.keep K (hfr b z1 z2)⟩
 ·rcases hget i bi x1 with⟨i1,b1',q1,q2,_⟩|g1'<;>rcases hget j bj x2 with⟨i2,b2',y1,y2,_⟩|g2'
  ·rw[hφ1 i i1 q1] at x3;rw[hφ1 j i2 y1] at x4;have:=r1.inj i1 i2 b1' b2' b o o' q2 y2 x3 x4
   subst this;exact inv_inj i j i1 q1 y1
  ·obtain⟨h1,_,_⟩:=hr j bj g2';obtain⟨k,o2,z1,_,_⟩:=R.live j bj h1;rw[hφ0 j (hlt j _ z1),z1] at x4;injection x4 with x4;injection x4 with e1 e2;subst e1
   obtain⟨w1,w2,_⟩:=hrest j bj k o2 g2' z1;rcases live1 i i1 b1' q1 q2 k o x3 with h|h
   ·omega
   ·exact absurd h w2
  ·obtain⟨h1,_,_⟩:=hr i bi g1';obtain⟨k,o2,z1,_,_⟩:=R.live i bi h1;rw[hφ0 i (hlt i _ z1),z1] at x3;injection x3 with x3;injection x3 with e1 e2;subst e1
   obtain⟨w1,w2,_⟩:=hrest i bi k o2 g1' z1;rcases live1 j i2 b2' y1 y2 k o' x4 with h|h
   ·omega
   ·exact absurd h w2
  ·obtain⟨h1,_,_⟩:=hr i bi g1';obtain⟨h2,_,_⟩:=hr j bj g2';obtain⟨_,_,z1,_,_⟩:=R.live i bi h1;obtain⟨_,_,z2,_,_⟩:=R.live j bj h2;rw[hφ0 i (hlt i _ z1)] at x3;rw[hφ0 j (hlt j _ z2)] at x4;exact R.inj i j bi bj b o o' h1 h2 x3 x4
 ·obtain⟨id,box,o,hg,hb'⟩:=ho;rcases hget id box hg with⟨i,bx,q1,q2,_⟩|hg
  ·exact(live1 id i bx q1 q2 b o hb').imp (λh=>h) λh=>(own0 b h).1
  ·obtain⟨h1,_,_⟩:=hr id box hg;obtain⟨_,_,z1,_,_⟩:=R.live id box h1;rw[hφ0 id (hlt id _ z1)] at hb';exact .inr ⟨id,box,o,h1,hb'⟩
 ·rcases g1.stable b hb with h|h|h
  ·rcases h with h|⟨idf,of,bf,_,y2,y3⟩
   ·exact .inl h
   ·exact .inr (.inr ⟨idf,bf,of,y2,y3⟩)
  ·exact .inr (.inl h)
  ·exact .inr (.inr (own0 b h).1)
end Go.Am
/-
 The abstract machine,part 41: temporaries and heaps as trees,looked at and written in a way that the kernel reckons fast.
-/
namespace Go.Am
structure N4 (α:Type) where
 mk ::
 (a b c d:α)
 deriving Inhabited
abbrev N16 (α:Type):=N4 (N4 α)
inductive Acc (τ β:Type) where
 | mk (g:τ->(β->Bool)->Bool) (s:τ->β->(τ->Bool)->Bool)
def Acc.pur {τ β:Type}(g:τ->β) (s:τ->β->τ):Acc τ β:=.mk (λt K=>K (g t)) (λt d K=>K (s t d))
noncomputable def Acc.comp {τ σ β:Type}(A:Acc τ σ) (B:Acc σ β):Acc τ β:=
 @Acc.rec τ σ (λ_=>Acc τ β) (λg s=>@Acc.rec σ β (λ_=>Acc τ β) (λg' s'=>.mk (λt K=>g t λr=>g' r K) (λt d K=>g t λr=>s' r d λr'=>s t r' K)) B) A
section
variable {α:Type}
def N4.get (t:N4 α) (i:Nat):α:=
 match i with
 | 0=>t.a
 | 1=>t.b
 | 2=>t.c
 | _=>t.d
def N4.set (t:N4 α) (i:Nat) (x:α):N4 α:=
 match i with
 | 0=>⟨x,t.b,t.c,t.d⟩
 | 1=>⟨t.a,x,t.c,t.d⟩
 | 2=>⟨t.a,t.b,x,t.d⟩
 | _=>⟨t.a,t.b,t.c,x⟩
theorem N4.get_set (t:N4 α) (x:α){i j:Nat}(hi:i<4) (hj:j<4):(t.set i x).get j=if i=j then x else t.get j:=by
 have h1:i=0∨i=1∨i=2∨i=3:=by omega
 have h2:j=0∨j=1∨j=2∨j=3:=by omega
 rcases h1 with rfl|rfl|rfl|rfl<;>rcases h2 with rfl|rfl|rfl|rfl<;>rfl
noncomputable def sel {β:Type}(l:List β) (d:β):Nat->β:=@List.rec β (λ_=>Nat->β) (λ_=>d) (λx _ ih i=>@Nat.rec (λ_=>β) x (λm _=>ih m) i) l
noncomputable def Em:Nat->Acc (N4 α) α:=sel [.mk (λt K=>@N4.rec α (λ_=>Bool) (λa _ _ _=>K a) t) (λt x K=>@N4.rec α (λ_=>Bool) (λ_ b c d=>K (.mk x b c d)) t),
 .mk (λt K=>@N4.rec α (λ_=>Bool) (λ_ b _ _=>K b) t) (λt x K=>@N4.rec α (λ_=>Bool) (λa _ c d=>K (.mk a x c d)) t),
 .mk (λt K=>@N4.rec α (λ_=>Bool) (λ_ _ c _=>K c) t) (λt x K=>@N4.rec α (λ_=>Bool) (λa b _ d=>K (.mk a b x d)) t)] (.mk (λt K=>@N4.rec α (λ_=>Bool) (λ_ _ _ d=>K d) t) (λt x K=>@N4.rec α (λ_=>Bool) (λa b c _=>K (.mk a b c x)) t))
theorem Gs (i:Nat):(Em i:Acc (N4 α) α)=.pur (·.get i) (·.set i):=by
 match i with
 | 0=>rfl
 | 1=>rfl
 | 2=>rfl
 | _+3=>rfl
def N16.get (t:N16 α) (i:Nat):α:=(N4.get t (i / 4)).get (i % 4)
def N16.set (t:N16 α) (i:Nat) (x:α):N16 α:=N4.set t (i / 4) ((N4.get t (i / 4)).set (i % 4) x)
theorem N16.get_set (t:N16 α) (x:α){i j:Nat}(hi:i<16) (hj:j<16):N16.get (N16.set t i x) j=if i=j then x else N16.get t j:=by
 unfold N16.get N16.set;rw[N4.get_set _ _ om om];by_cases e:i / 4=j / 4
 ·rw[if_pos e,N4.get_set _ _ om om];by_cases e2:i % 4=j % 4
  ·rw[if_pos e2,if_pos om]
  ·rw[if_neg e2,if_neg om,e]
 ·rw[if_neg e,if_neg om]
def N4.all (d:α):N4 α:=⟨d,d,d,d⟩
theorem N4.get_all (d:α) (i:Nat):(N4.all d).get i=d:=by
 unfold N4.get;split<;>rfl
end
abbrev Tr:=N16 (N16 D)
def Tr.get (t:Tr) (i:Nat):D:=(N16.get t (i / 16)).get (i % 16)
def Tr.set (t:Tr) (i:Nat) (d:D):Tr:=N16.set t (i / 16) ((N16.get t (i / 16)).set (i % 16) d)
def Tr.perf (k:Nat) (_:Tr):Prop:=k<=8
def Tr.full (d:D) (_:Nat):Tr:=N4.all (N4.all (N4.all (N4.all d)))
theorem Tr.perf_set {d:D}{k:Nat}{t:Tr}{i:Nat}(h:Tr.perf k t):Tr.perf k (Tr.set t i d):=h
theorem Tr.get_set {d:D}{k:Nat}{t:Tr}{i j:Nat}(h:Tr.perf k t) (hi:i<2 ^ k) (hj:j<2 ^ k):Tr.get (Tr.set t i d) j=if i=j then d else Tr.get t j:=by
 have h8:2 ^ k<=256:=Nat.pow_le_pow_right om (show k<=8 from h);unfold Tr.get Tr.set;rw[N16.get_set _ _ om om];by_cases e:i / 16=j / 16
 ·rw[if_pos e,N16.get_set _ _ om om];by_cases e2:i % 16=j % 16
  ·rw[if_pos e2,if_pos om]
  ·rw[if_neg e2,if_neg om,e]
 ·rw[if_neg e,if_neg om]
theorem Tr.perf_full {d:D}{k:Nat}(h:k<=8):Tr.perf k (Tr.full d k):=h
theorem Tr.get_full {d:D}(k i:Nat):Tr.get (Tr.full d k) i=d:=by
 simp only[Tr.get,Tr.full,N16.get,N4.get_all]
noncomputable def tM (i:Nat):Acc Tr D:=(Em (i / 16 / 4)).comp ((Em (i / 16 % 4)).comp ((Em (i % 16 / 4)).comp (Em (i % 16 % 4))))
theorem xl (i:Nat):tM i=.pur (Tr.get · i) (Tr.set · i):=by
 unfold tM;simp only[Gs];rfl
noncomputable def getA (i:Nat) (t:Tr) (K:D->Bool):Bool:=@Acc.rec Tr D (λ_=>Bool) (λg _=>g t K) (tM i)
noncomputable def setA (i:Nat) (t:Tr) (d:D) (K:Tr->Bool):Bool:=@Acc.rec Tr D (λ_=>Bool) (λ_ s=>s t d K) (tM i)
noncomputable def Tr.getK (t:Tr) (i:Nat) (K:D->Bool):Bool:=@Acc.rec Tr D (λ_=>Bool) (λg _=>g t K) (tM i)
noncomputable def Tr.setK (t:Tr) (i:Nat) (d:D) (K:Tr->Bool):Bool:=@Acc.rec Tr D (λ_=>Bool) (λ_ s=>s t d K) (tM i)
theorem Tr.getK_eq {t:Tr}{i:Nat}{K:D->Bool}:Tr.getK t i K=K (Tr.get t i):=by
 unfold Tr.getK;rw[xl];rfl
theorem Tr.setK_eq {t:Tr}{i:Nat}{d:D}{K:Tr->Bool}:Tr.setK t i d K=K (Tr.set t i d):=by
 unfold Tr.setK;rw[xl];rfl
variable [GT]
inductive HT where
 | emp
 | lf (k:Nat) (b:Box)
 | nd (l r:HT)
 deriving Inhabited
def HT.get:HT->Nat->Option Box
 | .emp,_=>none
 | .lf k b,i=>if k=i then some b else none
 | .nd l r,i=>if i % 2=0 then l.get (i / 2) else r.get (i / 2)
def HT.two:Nat->Nat->Box->Nat->Box->HT
 | 0,i,b,_,_=>.lf i b
 | f+1,i,b,j,c=>if i % 2=j % 2 then(if i % 2=0 then .nd (two f (i / 2) b (j / 2) c) .emp else .nd .emp (two f (i / 2) b (j / 2) c)) else if i % 2=0 then .nd (.lf (i / 2) b) (.lf (j / 2) c) else .nd (.lf (j / 2) c) (.lf (i / 2) b)
def HT.put:HT->Nat->Box->HT
 | .emp,i,b=>.lf i b
 | .lf k c,i,b=>if k=i then .lf i b else HT.two (i+k+1) i b k c
 | .nd l r,i,b=>if i % 2=0 then .nd (l.put (i / 2) b) r else .nd l (r.put (i / 2) b)
def HT.del:HT->Nat->HT
 | .emp,_=>.emp
 | .lf k c,i=>if k=i then .emp else .lf k c
 | .nd l r,i=>if i % 2=0 then .nd (l.del (i / 2)) r else .nd l (r.del (i / 2))
theorem d6 {i j:Nat}(h:i % 2=j % 2):(i / 2=j / 2)=(i=j):=propext ⟨λe=>by omega,λe=>by rw[e]⟩
theorem HT.get_two {b c:Box}:∀ {f i j x:Nat},i≠j->i+j<f->(HT.two f i b j c).get x=if i=x then some b else if j=x then some c else none
 | 0,_,_,_,_,h=>by omega
 | f+1,i,j,x,hne,hf=>by
  simp only[HT.two];rcases Nat.mod_two_eq_zero_or_one i with hi|hi<;>rcases Nat.mod_two_eq_zero_or_one j with hj|hj<;>rcases Nat.mod_two_eq_zero_or_one x with hx|hx<;>simp only[hi,hj,hx,HT.get,if_true,if_false,Nat.zero_ne_one,Nat.one_ne_zero]
  ·rw[get_two om om];simp only[d6 (show i % 2=x % 2 by omega),d6 (show j % 2=x % 2 by omega)]
  ·rw[if_neg om,if_neg om]
  ·simp only[d6 (show i % 2=x % 2 by omega)];rw[if_neg (show ¬j=x by omega)]
  ·simp only[d6 (show j % 2=x % 2 by omega)];rw[if_neg (show ¬i=x by omega)]
  ·simp only[d6 (show j % 2=x % 2 by omega)];rw[if_neg (show ¬i=x by omega)]
  ·simp only[d6 (show i % 2=x % 2 by omega)];rw[if_neg (show ¬j=x by omega)]
  ·rw[if_neg om,if_neg om]
  ·rw[get_two om om];simp only[d6 (show i % 2=x % 2 by omega),d6 (show j % 2=x % 2 by omega)]
theorem HT.get_put {b:Box}:∀ {t:HT}{i x:Nat},(t.put i b).get x=if i=x then some b else t.get x
 | .emp,i,x=>by simp[HT.put,HT.get]
 | .lf k c,i,x=>by
  simp only[HT.put];split
  ·rename_i e;subst e;simp only[HT.get];split<;>simp
  ·rename_i e;rw[get_two (λh=>e h.symm) om];simp only[HT.get]
 | .nd l r,i,x=>by
  simp only[HT.put];rcases Nat.mod_two_eq_zero_or_one i with hi|hi<;>rcases Nat.mod_two_eq_zero_or_one x with hx|hx<;>simp only[hi,hx,HT.get,if_true,if_false,Nat.one_ne_zero]
  ·rw[get_put];simp only[d6 (show i % 2=x % 2 by omega)]
  ·rw[if_neg (show ¬i=x by omega)]
  ·rw[if_neg (show ¬i=x by omega)]
  ·rw[get_put];simp only[d6 (show i % 2=x % 2 by omega)]
theorem HT.get_del:∀ {t:HT}{i x:Nat},(t.del i).get x=if i=x then none else t.get x
 | .emp,i,x=>by simp[HT.del,HT.get]
 | .lf k c,i,x=>by
  simp only[HT.del];split
  ·rename_i e;subst e;simp only[HT.get];split<;>simp
  ·rename_i e;simp only[HT.get];by_cases h:i=x
   ·subst h;rw[if_neg e,if_pos rfl]
   ·rw[if_neg h]
 | .nd l r,i,x=>by
  simp only[HT.del];rcases Nat.mod_two_eq_zero_or_one i with hi|hi<;>rcases Nat.mod_two_eq_zero_or_one x with hx|hx<;>simp only[hi,hx,HT.get,if_true,if_false,Nat.one_ne_zero]
  ·rw[get_del];simp only[d6 (show i % 2=x % 2 by omega)]
  ·rw[if_neg (show ¬i=x by omega)]
  ·rw[if_neg (show ¬i=x by omega)]
  ·rw[get_del];simp only[d6 (show i % 2=x % 2 by omega)]
def HT.toL:HT->List (Nat×Box)
 | .emp=>[]
 | .lf k b=>[(k,b)]
 | .nd l r=>l.toL.map (λp=>(2*p.1,p.2))++r.toL.map (λp=>(2*p.1+1,p.2))
theorem rC:∀ (a b:List (Nat×Box)) (id:Nat),ac (a++b) id=(ac a id).or (ac b id):=dQ
theorem ss:∀ {l:List (Nat×Box)}{i:Nat},ac (l.map λp=>(2*p.1,p.2)) i=if i % 2=0 then ac l (i / 2) else none
 | [],i=>by simp[ac]
 | (k,b)::l,i=>by
  simp only[List.map_cons,ac,ss (l:=l)];by_cases h:i % 2=0
  ·have e:(2*k=i)=(k=i / 2):=propext ⟨λh=>by omega,λh=>by omega⟩;simp only[h,if_true,e]
  ·have e:¬2*k=i:=by omega
   simp only[h,if_false,if_neg e]
theorem wx:∀ {l:List (Nat×Box)}{i:Nat},ac (l.map λp=>(2*p.1+1,p.2)) i=if i % 2=0 then none else ac l (i / 2)
 | [],i=>by simp[ac]
 | (k,b)::l,i=>by
  simp only[List.map_cons,ac,wx (l:=l)];by_cases h:i % 2=0
  ·have e:¬2*k+1=i:=by omega
   simp only[h,if_true,if_neg e]
  ·have e:(2*k+1=i)=(k=i / 2):=propext ⟨λh=>by omega,λh=>by omega⟩;simp only[h,if_false,e]
theorem HT.get_toL:∀ {t:HT}{i:Nat},ac t.toL i=t.get i
 | .emp,_=>rfl
 | .lf k b,i=>by simp only[HT.toL,ac,HT.get]
 | .nd l r,i=>by
  rw[HT.toL,rC,ss,wx,get_toL,get_toL,HT.get];by_cases h:i % 2=0<;>simp[h]
noncomputable def HT.getK (t:HT):Nat->(Box->Bool)->Bool:=
 HT.rec (motive:=λ_=>Nat->(Box->Bool)->Bool) (λ_ _=>false) (λk b i K=>Bool.rec (motive:=λ_=>Bool) false (K b) (Nat.beq k i)) (λ_ _ il ir i K=>Nat.rec (motive:=λ_=>Bool) (il (i / 2) K) (λ_ _=>ir (i / 2) K) (i % 2)) t
theorem HT.getK_some:∀ {t:HT}{i:Nat}{K:Box->Bool},t.getK i K=true->∃ b,t.get i=some b∧K b=true
 | .emp,_,_,h=>by cases h
 | .lf k b,i,K,h=>by
  replace h:Bool.rec (motive:=λ_=>Bool) false (K b) (Nat.beq k i)=true:=h
  cases hb:Nat.beq k i with
  | false=>rw[hb] at h;cases h
  | true=>rw[hb] at h;exact⟨b,by simp[HT.get,Nat.eq_of_beq_eq_true hb],h⟩
 | .nd l r,i,K,h=>by
  replace h:Nat.rec (motive:=λ_=>Bool) (l.getK (i / 2) K) (λ_ _=>r.getK (i / 2) K) (i % 2)=true:=h
  rw[HT.get];rcases Nat.mod_two_eq_zero_or_one i with hm|hm
  ·rw[hm] at h;rw[if_pos hm];exact getK_some h
  ·rw[hm] at h;rw[if_neg om];exact getK_some h
noncomputable def HT.putK (t:HT):Nat->Box->(HT->Bool)->Bool:=
 HT.rec (motive:=λ_=>Nat->Box->(HT->Bool)->Bool) (λi b K=>K (.lf i b)) (λk c i b K=>Bool.rec (motive:=λ_=>Bool) (K (HT.two (i+k+1) i b k c)) (K (.lf i b)) (Nat.beq k i))
  (λl r il ir i b K=>Nat.rec (motive:=λ_=>Bool) (il (i / 2) b (λl'=>K (.nd l' r))) (λ_ _=>ir (i / 2) b (λr'=>K (.nd l r'))) (i % 2)) t
theorem HT.putK_eq:∀ {t:HT}{i:Nat}{b:Box}{K:HT->Bool},t.putK i b K=K (t.put i b)
 | .emp,_,_,_=>rfl
 | .lf k c,i,b,K=>by
  show Bool.rec (motive:=λ_=>Bool) (K (HT.two (i+k+1) i b k c)) (K (.lf i b)) (Nat.beq k i)=_;rw[HT.put];cases hb:Nat.beq k i with
  | false=>rw[if_neg (λe=>by subst e;simp at hb)]
  | true=>rw[if_pos (Nat.eq_of_beq_eq_true hb)]
 | .nd l r,i,b,K=>by
  show Nat.rec (motive:=λ_=>Bool) (l.putK (i / 2) b (λl'=>K (.nd l' r))) (λ_ _=>r.putK (i / 2) b (λr'=>K (.nd l r'))) (i % 2)=_;rw[HT.put];rcases Nat.mod_two_eq_zero_or_one i with h|h
  ·rw[h,if_pos rfl];exact putK_eq
  ·rw[h,if_neg (by decide)];exact putK_eq
noncomputable def HT.delK (t:HT):Nat->(HT->Bool)->Bool:=
 HT.rec (motive:=λ_=>Nat->(HT->Bool)->Bool) (λ_ K=>K .emp) (λk c i K=>Bool.rec (motive:=λ_=>Bool) (K (.lf k c)) (K .emp) (Nat.beq k i))
  (λl r il ir i K=>Nat.rec (motive:=λ_=>Bool) (il (i / 2) (λl'=>K (.nd l' r))) (λ_ _=>ir (i / 2) (λr'=>K (.nd l r'))) (i % 2)) t
theorem HT.delK_eq:∀ {t:HT}{i:Nat}{K:HT->Bool},t.delK i K=K (t.del i)
 | .emp,_,_=>rfl
 | .lf k c,i,K=>by
  show Bool.rec (motive:=λ_=>Bool) (K (.lf k c)) (K .emp) (Nat.beq k i)=_;rw[HT.del];cases hb:Nat.beq k i with
  | false=>rw[if_neg (λe=>by subst e;simp at hb)]
  | true=>rw[if_pos (Nat.eq_of_beq_eq_true hb)]
 | .nd l r,i,K=>by
  show Nat.rec (motive:=λ_=>Bool) (l.delK (i / 2) (λl'=>K (.nd l' r))) (λ_ _=>r.delK (i / 2) (λr'=>K (.nd l r'))) (i % 2)=_;rw[HT.del];rcases Nat.mod_two_eq_zero_or_one i with h|h
  ·rw[h,if_pos rfl];exact delK_eq
  ·rw[h,if_neg (by decide)];exact delK_eq
def HT.heap (t:HT) (n:Nat):aB:=⟨n,t.toL⟩
theorem HT.heap_get {t:HT}{n i:Nat}:(t.heap n).get i=t.get i:=HT.get_toL
structure Heq (h h':aB):Prop where
 next:h.next=h'.next
 get:∀ i,h.get i=h'.get i
theorem Heq.refl (h:aB):Heq h h:=⟨rfl,λ_=>rfl⟩
theorem Heq.symm {h h':aB}(e:Heq h h'):Heq h' h:=⟨e.next.symm,λi=>(e.get i).symm⟩
theorem Heq.trans {a b c:aB}(e:Heq a b) (f:Heq b c):Heq a c:=⟨e.next.trans f.next,λi=>(e.get i).trans (f.get i)⟩
theorem bG.congr {c:Ctx}{h h':aB}(e:Heq h h'){b:Nat}(ho:bG c h b):bG c h' b:=by
 obtain⟨id,box,o,h1,h2⟩:=ho;exact⟨id,box,o,by rw[<-e.get];exact h1,h2⟩
theorem Rel.congr {c:Ctx}{h h':aB}(e:Heq h h') (R:Rel c h):Rel c h':=
 ⟨R.size,λid hid=>R.fresh id (by rw[e.next];exact hid),λid box hg=>R.live id box (by rw[e.get];exact hg),λi j bi bj b o o' h1 h2=>R.inj i j bi bj b o o' (by rw[e.get];exact h1) (by rw[e.get];exact h2),R.inv⟩
theorem aZ.congr {c c':Ctx}{h h' k k':aB}(e:Heq h h') (f:Heq k k') (g:aZ c h c' k):aZ c h' c' k':=
 ⟨g.keeps,g.os,g.tape,g.output,g.size,by rw[<-e.next,<-f.next];exact g.next,λb hb hn=>g.frame b hb (λho=>hn (ho.congr e)),λb ho=>(g.own b (ho.congr f.symm)).imp (λh=>h) (λh=>h.congr e),λb hb=>(g.stable b hb).imp (λh=>h) (λh=>h.imp (λh=>h) (λh=>h.congr e))⟩
end Go.Am
/-
 The abstract machine,part 42: operations over trees,in a way that the kernel reckons fast.
-/
namespace Go.Am
variable [GT]
def tmL (n:Nat) (t:Tr):List D:=(List.range n).map t.get
theorem jD {n i:Nat}{t:Tr}(h:i<n):(tmL n t)[i]?=some (t.get i):=by simp[tmL,h]
theorem fH {n:Nat}{t:Tr}:(tmL n t).length=n:=by simp[tmL]
theorem zh {n k i:Nat}{t:Tr}{d:D}(hp:t.perf k) (hn:n<=2 ^ k) (hi:i<n):(tmL n t).set i d=tmL n (t.set i d):=by
 apply List.ext_getElem?;intro j;rw[List.getElem?_set];by_cases hj:j<n
 ·rw[jD hj,jD hj,Tr.get_set hp om om,fH];by_cases e:i=j
  ·subst e;simp[hj]
  ·simp[e]
 ·rw[List.getElem?_eq_none (by rw[fH];omega),List.getElem?_eq_none (by rw[fH];omega)];split
  ·rename_i e;subst e;omega
  ·rfl
def a8 {α:Type}(o:Option α) (K:α->Bool):Bool:=
 match o with
 | some d=>K d
 | none=>false
theorem aT {α:Type}{o:Option α}{K:α->Bool}(h:a8 o K=true):∃ d,o=some d∧K d=true:=by
 unfold a8 at h;split at h
 ·exact⟨_,rfl,h⟩
 ·cases h
def uV (d:D) (K:D->Bool):Bool:=
 match d with
 | .any=>false
 | d=>K d
noncomputable def xev (n:Nat) (t:Tr) (o:Operand) (K:D->Bool):Bool:=
 match o with
 | .tmp i=>Bool.rec (motive:=λ_=>Bool) false (t.getK i (λd=>uV d K)) (Nat.blt i n)
 | .const v=>a8 (ofV v) K
 | .func f=>K (.fn (.func f) [] [])
 | .global g=>a8 ((GT.tab g).map .iptr) K
theorem ah {n:Nat}{t:Tr}{o:Operand}{K:D->Bool}(h:xev n t o K=true):∃ d,ev (tmL n t) o=some d∧K d=true:=by
 cases o with
 | tmp i=>
  replace h:Bool.rec (motive:=λ_=>Bool) false (t.getK i (λd=>uV d K)) (Nat.blt i n)=true:=h
  cases hb:Nat.blt i n with
  | false=>rw[hb] at h;cases h
  | true=>
   rw[hb] at h
   replace h:t.getK i (λd=>uV d K)=true:=h
   rw[Tr.getK_eq] at h;have hi:i<n:=by simpa [Nat.blt_eq] using hb
   unfold uV at h;split at h
   ·cases h
   ·exact⟨t.get i,by simp only[ev,List.getD,jD hi,Option.getD_some],h⟩
 | const v=>exact aT h
 | func f=>exact⟨_,rfl,h⟩
 | global g=>exact aT h
noncomputable def px (n:Nat) (t:Tr) (xs:List Operand):(List D->Bool)->Bool:=
 List.rec (motive:=λ_=>(List D->Bool)->Bool) (λK=>K []) (λx _ ih K=>xev n t x (λd=>ih (λds=>K (d::ds)))) xs
theorem eV {n:Nat}{t:Tr}:∀ {xs:List Operand}{K:List D->Bool},px n t xs K=true->∃ ds,evs (tmL n t) xs=some ds∧K ds=true
 | [],_,h=>⟨[],rfl,h⟩
 | x::xs,K,h=>by
  obtain⟨d,h1,h2⟩:=ah (show xev n t x (λd=>px n t xs (λds=>K (d::ds)))=true from h);obtain⟨ds,h3,h4⟩:=eV h2;exact⟨d::ds,by simp only[evs,h1,h3],h4⟩
noncomputable def tR (n:Nat) (t:Tr) (ps:List (Nat×Operand)):(List (Nat×D)->Bool)->Bool:=
 List.rec (motive:=λ_=>(List (Nat×D)->Bool)->Bool) (λK=>K []) (λp _ ih K=>xev n t p.2 (λd=>ih (λds=>K ((p.1,d)::ds)))) ps
theorem jB {n:Nat}{t:Tr}:∀ {ps:List (Nat×Operand)}{K:List (Nat×D)->Bool},tR n t ps K=true->∃ ds,gU (tmL n t) ps=some ds∧K ds=true
 | [],_,h=>⟨[],rfl,h⟩
 | (i,x)::xs,K,h=>by
  obtain⟨d,h1,h2⟩:=ah (show xev n t x (λd=>tR n t xs (λds=>K ((i,d)::ds)))=true from h);obtain⟨ds,h3,h4⟩:=jB h2;exact⟨(i,d)::ds,by simp only[gU,h1,h3],h4⟩
noncomputable def FG (n:Nat) (t:Tr) (o:Option Operand) (K:Option D->Bool):Bool:=
 match o with
 | some y=>xev n t y (λd=>K (some d))
 | none=>K none
theorem py {n:Nat}{t:Tr}{o:Option Operand}{K:Option D->Bool}(h:FG n t o K=true):∃ d,evO (tmL n t) o=some d∧K d=true:=by
 cases o with
 | none=>exact⟨none,rfl,h⟩
 | some y=>
  obtain⟨d,h1,h2⟩:=ah (show xev n t y (λd=>K (some d))=true from h);exact⟨some d,by simp only[evO,h1,kF],h2⟩
def ibl (m n:Int):Bool:=
 match m,n with
 | .ofNat a,.ofNat b=>Nat.blt a b
 | .ofNat _,.negSucc _=>false
 | .negSucc _,.ofNat _=>true
 | .negSucc a,.negSucc b=>Nat.blt b a
theorem iD {m n:Int}:ibl m n=true↔m<n:=by
 cases m with
 | ofNat a=>
  cases n with
  | ofNat b=>simp only[ibl,Nat.blt_eq,Int.ofNat_eq_natCast];omega
  | negSucc b=>exact⟨λh=>(by cases h),λh=>(by simp only[Int.ofNat_eq_natCast] at h;omega)⟩
 | negSucc a=>
  cases n with
  | ofNat b=>exact⟨λ_=>(by simp only[Int.ofNat_eq_natCast];omega),λ_=>rfl⟩
  | negSucc b=>simp only[ibl,Nat.blt_eq];omega
def ibe (m n:Int):Bool:=
 match m,n with
 | .ofNat a,.ofNat b=>Nat.beq a b
 | .negSucc a,.negSucc b=>Nat.beq a b
 | _,_=>false
theorem pY {m n:Int}:ibe m n=true↔m=n:=by
 cases m<;>cases n<;>simp[ibe,Nat.beq_eq]<;>omega
def oI (m:Int) (K:Int->Bool):Bool:=
 match m with
 | .ofNat a=>(match a with|0=>K (.ofNat 0)|p+1=>K (.ofNat (p+1)))
 | .negSucc a=>(match a with|0=>K (.negSucc 0)|p+1=>K (.negSucc (p+1)))
theorem sw {m:Int}{K:Int->Bool}:oI m K=K m:=by
 unfold oI;split
 ·split<;>rfl
 ·split<;>rfl
def Bo (m:Int):Bool:=match m with|.ofNat a=>Nat.ble a 9223372036854775807|.negSucc a=>Nat.ble a 9223372036854775807
theorem wv {m:Int}(h:Bo m=true):-9223372036854775808<=m∧m<=9223372036854775807:=by
 cases m<;>simp only[Bo,Nat.ble_eq,Int.ofNat_eq_natCast] at h ⊢<;>omega
def me:List UInt8->List UInt8->Bool
 | [],[]=>true
 | a::l,b::m=>Nat.beq a.toNat b.toNat&&me l m
 | _,_=>false
theorem fb:∀ {u v:List UInt8},me u v=true↔u=v
 | [],[]=>by simp[me]
 | [],_::_=>by simp[me]
 | _::_,[]=>by simp[me]
 | a::l,b::m=>by
  simp only[me,kC,Nat.beq_eq,fb (u:=l) (v:=m),List.cons.injEq,UInt8.toNat_inj]
def ifB (c:Bool) (x y:Bool):Bool:=match c with|true=>x|false=>y
def jv (P:Program) (op:BinOp) (t:TypeId) (ox oy:Operand) (a b:D) (K:D->Bool):Bool:=
 match a,b with
 | .v (.int .i64 m),.v (.int .i64 n)=>
  match op with
  | .lss=>ifB (ibl m n) (K (boo true)) (K (boo false))
  | .leq=>ifB (ibl n m) (K (boo false)) (K (boo true))
  | .gtr=>ifB (ibl n m) (K (boo true)) (K (boo false))
  | .geq=>ifB (ibl m n) (K (boo false)) (K (boo true))
  | .eql=>ifB (ibe m n) (K (boo true)) (K (boo false))
  | .neq=>ifB (ibe m n) (K (boo false)) (K (boo true))
  | .add=>oI (m+n) λr=>ifB (Bo r) (K (.v (.int .i64 r))) false
  | .sub=>oI (m-n) λr=>ifB (Bo r) (K (.v (.int .i64 r))) false
  | _=>a8 (ba P op t ox oy a b) K
 | .str u,.str v=>
  match op with
  | .eql=>ifB (me u v) (K (boo true)) (K (boo false))
  | .neq=>ifB (me u v) (K (boo false)) (K (boo true))
  | _=>a8 (ba P op t ox oy a b) K
 | _,_=>a8 (ba P op t ox oy a b) K
theorem aP {c x y:Bool}(h:ifB c x y=true):(c=true∧x=true)∨(c=false∧y=true):=by
 cases c
 ·exact .inr ⟨rfl,h⟩
 ·exact .inl ⟨rfl,h⟩
theorem Cf {P:Program}{op:BinOp}{t:TypeId}{ox oy:Operand}{a b:D}{K:D->Bool}(h:jv P op t ox oy a b K=true):∃ d,ba P op t ox oy a b=some d∧K d=true:=by
 unfold jv at h;split at h
 ·rename_i m n;have go:∀ (op:BinOp),mR P op t ox oy (.v (.int .i64 m)) (.v (.int .i64 n)) (λd=>K d=true)->∃ d,ba P op t ox oy (.v (.int .i64 m)) (.v (.int .i64 n))=some d∧K d=true:=λop hv=>mQ hv
  split at h
  ·refine go _ ?_;simp only[mR,if_true];rcases aP h with⟨h1,h2⟩|⟨h1,h2⟩
   ·exact⟨λ_=>h2,λhn=>absurd (iD.1 h1) hn⟩
   ·exact⟨λhy=>absurd (iD.2 hy) (by simp[h1]),λ_=>h2⟩
  ·refine go _ ?_;simp only[mR,if_true];rcases aP h with⟨h1,h2⟩|⟨h1,h2⟩
   ·exact⟨λhy=>by have:=iD.1 h1;omega,λ_=>h2⟩
   ·exact⟨λ_=>h2,λhn=>absurd (iD.2 (show n<m by omega)) (by simp[h1])⟩
  ·refine go _ ?_;simp only[mR,if_true];rcases aP h with⟨h1,h2⟩|⟨h1,h2⟩
   ·exact⟨λ_=>h2,λhn=>absurd (iD.1 h1) hn⟩
   ·exact⟨λhy=>absurd (iD.2 hy) (by simp[h1]),λ_=>h2⟩
  ·refine go _ ?_;simp only[mR,if_true];rcases aP h with⟨h1,h2⟩|⟨h1,h2⟩
   ·exact⟨λhy=>by have:=iD.1 h1;omega,λ_=>h2⟩
   ·exact⟨λ_=>h2,λhn=>absurd (iD.2 (show m<n by omega)) (by simp[h1])⟩
  ·refine go _ ?_;simp only[mR,if_true];rcases aP h with⟨h1,h2⟩|⟨h1,h2⟩
   ·exact⟨λ_=>h2,λhn=>absurd (pY.1 h1) hn⟩
   ·exact⟨λhy=>absurd (pY.2 hy) (by simp[h1]),λ_=>h2⟩
  ·refine go _ ?_;simp only[mR,if_true];rcases aP h with⟨h1,h2⟩|⟨h1,h2⟩
   ·exact⟨λ_=>h2,λhn=>absurd (pY.1 h1) hn⟩
   ·exact⟨λhy=>absurd (pY.2 hy) (by simp[h1]),λ_=>h2⟩
  ·refine go _ ?_;rw[sw] at h;simp only[mR,if_true];rcases aP h with⟨h1,h2⟩|⟨_,h2⟩
   ·exact⟨wv h1,h2⟩
   ·cases h2
  ·refine go _ ?_;rw[sw] at h;simp only[mR,if_true];rcases aP h with⟨h1,h2⟩|⟨_,h2⟩
   ·exact⟨wv h1,h2⟩
   ·cases h2
  ·exact aT h
 ·rename_i u v;have go:∀ (op:BinOp),mR P op t ox oy (.str u) (.str v) (λd=>K d=true)->∃ d,ba P op t ox oy (.str u) (.str v)=some d∧K d=true:=λop hv=>mQ hv
  split at h
  ·refine go _ ?_;simp only[mR];rcases aP h with⟨h1,h2⟩|⟨h1,h2⟩
   ·exact⟨λ_=>h2,λhn=>absurd (fb.1 h1) hn⟩
   ·exact⟨λhy=>absurd (fb.2 hy) (by simp[h1]),λ_=>h2⟩
  ·refine go _ ?_;simp only[mR];rcases aP h with⟨h1,h2⟩|⟨h1,h2⟩
   ·exact⟨λ_=>h2,λhn=>absurd (fb.1 h1) hn⟩
   ·exact⟨λhy=>absurd (fb.2 hy) (by simp[h1]),λ_=>h2⟩
  ·exact aT h
 ·exact aT h
noncomputable def Cr (l:List D):Nat->(List D->Bool)->Bool:=
 List.rec (motive:=λ_=>Nat->(List D->Bool)->Bool) (λn K=>Nat.rec (motive:=λ_=>Bool) (K []) (λ_ _=>false) n)
  (λx _ ih n K=>Nat.rec (motive:=λ_=>Bool) (K []) (λm _=>ih m (λds=>K (x::ds))) n) l
theorem qH:∀ {l:List D}{n:Nat}{K:List D->Bool},Cr l n K=true->n<=l.length∧K (l.take n)=true
 | [],0,K,h=>⟨by simp,h⟩
 | [],n+1,K,h=>by cases h
 | x::l,0,K,h=>⟨by simp,h⟩
 | x::l,n+1,K,h=>by
  obtain⟨h1,h2⟩:=qH (l:=l) (n:=n) (K:=λds=>K (x::ds)) h;exact⟨by simpa using h1,h2⟩
noncomputable def mM (l:List D):Nat->Nat->(List D->Bool)->Bool:=
 List.rec (motive:=λ_=>Nat->Nat->(List D->Bool)->Bool) (λoff n K=>Nat.rec (motive:=λ_=>Bool) (Nat.rec (motive:=λ_=>Bool) (K []) (λ_ _=>false) n) (λ_ _=>false) off)
  (λx l ih off n K=>Nat.rec (motive:=λ_=>Bool) (Cr (x::l) n K) (λm _=>ih m n K) off) l
theorem i0:∀ {l:List D}{off n:Nat}{K:List D->Bool},mM l off n K=true->off+n<=l.length∧K ((l.drop off).take n)=true
 | [],0,0,K,h=>⟨by simp,h⟩
 | [],0,n+1,K,h=>by cases h
 | [],off+1,n,K,h=>by cases h
 | x::l,0,n,K,h=>by
  obtain⟨h1,h2⟩:=qH (show Cr (x::l) n K=true from h);exact⟨by simpa using h1,by simpa using h2⟩
 | x::l,off+1,n,K,h=>by
  obtain⟨h1,h2⟩:=i0 (l:=l) (off:=off) (n:=n) (K:=K) h;exact⟨by simp only[kO];omega,by simpa using h2⟩
noncomputable def zX (ti:TI) (h:HT) (t:TypeId) (a:D) (K:D->Bool):Bool:=
 match ti t with
 | some x=>
  match a with
  | .ptr id off=>h.getK id λb=>
   match b with
   | .cells cs _=>mM cs off x.size λds=>a8 (d5 x.u ds) K
   | _=>false
  | .iptr cs=>mM cs 0 x.size λds=>a8 (d5 x.u ds) K
  | _=>false
 | none=>false
theorem pr {ti:TI}{h:HT}{n:Nat}{t:TypeId}{a:D}{K:D->Bool}(hs:zX ti h t a K=true):∃ d,iH ti (h.heap n) t a=some d∧K d=true:=by
 unfold zX at hs;split at hs
 ·rename_i x hx;split at hs
  ·rename_i id off;obtain⟨b,hb,hs⟩:=HT.getK_some hs;split at hs
   ·rename_i cs ex;obtain⟨h1,h2⟩:=i0 hs;obtain⟨d,h3,h4⟩:=aT h2;exact⟨d,by unfold iH;simp only[hx,HT.heap_get,hb];rw[if_pos h1];exact h3,h4⟩
   ·cases hs
  ·rename_i cs;obtain⟨h1,h2⟩:=i0 hs;obtain⟨d,h3,h4⟩:=aT h2;exact⟨d,by unfold iH;simp only[hx];rw[if_pos om];simpa using h3,h4⟩
  ·cases hs
 ·cases hs
noncomputable def vZ (new:List D):List D->(List D->Bool)->Bool:=
 List.rec (motive:=λ_=>List D->(List D->Bool)->Bool) (λl K=>K l) (λy _ ih l K=>List.rec (motive:=λ_=>Bool) false (λ_ l _=>ih l (λr=>K (y::r))) l) new
theorem qO:∀ {new l:List D}{K:List D->Bool},vZ new l K=true->new.length<=l.length∧K (new++l.drop new.length)=true
 | [],l,K,h=>⟨by simp,by have h':K l=true:=h;simpa using h'⟩
 | y::new,[],K,h=>by cases h
 | y::new,x::l,K,h=>by
  obtain⟨h1,h2⟩:=qO (new:=new) (l:=l) (K:=λr=>K (y::r)) h;exact⟨by simpa using h1,by simpa using h2⟩
noncomputable def splK (l:List D):Nat->List D->(List D->Bool)->Bool:=
 List.rec (motive:=λ_=>Nat->List D->(List D->Bool)->Bool) (λoff new K=>Nat.rec (motive:=λ_=>Bool) (vZ new [] K) (λ_ _=>false) off)
  (λx l ih off new K=>Nat.rec (motive:=λ_=>Bool) (vZ new (x::l) K) (λm _=>ih m new (λr=>K (x::r))) off) l
theorem zk:∀ {l:List D}{off:Nat}{new:List D}{K:List D->Bool},splK l off new K=true->off+new.length<=l.length∧K (splice l off new)=true
 | [],0,new,K,h=>by
  obtain⟨h1,h2⟩:=qO (show vZ new [] K=true from h);exact⟨by simpa using h1,by simpa [splice] using h2⟩
 | [],off+1,new,K,h=>by cases h
 | x::l,0,new,K,h=>by
  obtain⟨h1,h2⟩:=qO (show vZ new (x::l) K=true from h);exact⟨by simpa using h1,by simpa [splice] using h2⟩
 | x::l,off+1,new,K,h=>by
  obtain⟨h1,h2⟩:=zk (l:=l) (off:=off) (new:=new) (K:=λr=>K (x::r)) h;refine⟨by simp only[kO];omega,?_⟩
  have e:splice (x::l) (off+1) new=x::splice l off new:=by
   simp only[splice,List.take_succ_cons,List.cons_append,List.cons.injEq,true_and];rw[show off+1+new.length=(off+new.length)+1 from by omega,List.drop_succ_cons]
  rw[e];exact h2
theorem Heq.put {h:HT}{n i:Nat}{b:Box}:Heq ((h.heap n).put i b) ((h.put i b).heap n):=⟨rfl,λj=>by rw[aB.get_put,HT.heap_get,HT.heap_get,HT.get_put]⟩
theorem Heq.set {h:HT}{n i:Nat}{b b0:Box}(hg:h.get i=some b0):Heq ((h.heap n).set i b) ((h.put i b).heap n):=⟨rfl,λj=>by rw[aB.get_set,HT.heap_get,HT.heap_get,HT.heap_get,HT.get_put,hg];rfl⟩
theorem Heq.delput {h:HT}{n i k:Nat}{b:Box}:Heq (((h.heap n).del i).put k b) (((h.del i).put k b).heap n):=⟨rfl,λj=>by rw[aB.get_put,aB.get_del,HT.heap_get,HT.heap_get,HT.get_put,HT.get_del]⟩
noncomputable def xy (ti:TI) (h:HT) (t:TypeId) (a d:D) (K:HT->Bool):Bool:=
 match ti t with
 | some x=>
  match a with
  | .ptr id off=>h.getK id λb=>
   match b with
   | .cells cs ex=>ifB (Nat.beq (cU d).length x.size&&gW (cU d)) (splK cs off (cU d) λcs'=>h.putK id (.cells cs' ex) K) false
   | _=>false
  | _=>false
 | none=>false
theorem tO {ti:TI}{h:HT}{n:Nat}{t:TypeId}{a d:D}{K:HT->Bool}(hs:xy ti h t a d K=true):∃ h1 h',iO ti (h.heap n) t a d=some h1∧Heq h1 (h'.heap n)∧K h'=true:=by
 unfold xy at hs;split at hs
 ·rename_i x hx;split at hs
  ·rename_i id off;obtain⟨b,hb,hs⟩:=HT.getK_some hs;split at hs
   ·rename_i cs ex;rcases aP hs with⟨h1,hs⟩|⟨_,h2⟩
    ·simp only[kC,Nat.beq_eq] at h1;obtain⟨h3,h4⟩:=zk hs;rw[HT.putK_eq] at h4;refine⟨_,_,?_,Heq.set hb,h4⟩;unfold iO;simp only[hx,HT.heap_get,hb];rw[if_pos ⟨h1.1,by rw[<-h1.1];exact h3,h1.2⟩]
    ·cases h2
   ·cases hs
  ·cases hs
 ·cases hs
def sb (h:HT) (i:Nat):Bool:=match h.get i with|some (.cells _ _)=>true|_=>false
def zm (live:Nat->Bool) (k k':D):Option Bool:=
 match k,k' with
 | .str a,.str b=>some (me a b)
 | .v (.int k a),.v (.int k' b)=>if k=k' then some (a == b) else none
 | .ptr i o,.ptr i' o'=>if live i&&live i' then some (i == i' && o == o') else none
 | .agg as,.agg bs=>f9 as bs
 | _,_=>none
noncomputable def AO (live:Nat->Bool) (k:D) (es:List (D×D)):Nat->(Option (Nat×D)->Bool)->Bool:=
 List.rec (motive:=λ_=>Nat->(Option (Nat×D)->Bool)->Bool) (λ_ K=>K none) (λp _ ih i K=>a8 (zm live k p.1) λb=>ifB b (K (some (i,p.2))) (ih (i+1) K)) es
theorem D4 {h:HT}{n i:Nat}:cg (h.heap n) i=sb h i:=by
 unfold cg sb;rw[HT.heap_get];rfl
theorem DB {h:HT}{n:Nat}{k k':D}:az (h.heap n) k k'=zm (sb h) k k':=by
 cases k with
 | str a=>
  cases k' with
  | str b=>
   show some (a == b)=some (me a b);congr 1;cases hs:me a b with
   | true=>rw[fb.1 hs];simp
   | false=>
    have:¬a=b:=λe=>by rw[fb.2 e] at hs;cases hs
    simpa using this
  | _=>first|rfl|(rename_i y;cases y<;>rfl)
 | v x=>
  cases k' with
  | v y=>cases x<;>cases y<;>rfl
  | _=>cases x<;>rfl
 | ptr i o=>
  cases k' with
  | ptr i' o'=>simp only[az,zm,D4]
  | _=>first|rfl|(rename_i y;cases y<;>rfl)
 | _=>cases k'<;>first|rfl|(rename_i y;cases y<;>rfl)
theorem rJ {h:HT}{n:Nat}{k:D}:∀ {es:List (D×D)}{i:Nat}{K:Option (Nat×D)->Bool},AO (sb h) k es i K=true->∃ r,bo (h.heap n) k es i=some r∧K r=true
 | [],_,_,h=>⟨none,rfl,h⟩
 | (k',x)::es,i,K,h=>by
  obtain⟨b,h1,h2⟩:=aT (show a8 (zm _ k k') (λb=>ifB b (K (some (i,x))) (AO _ k es (i+1) K))=true from h);simp only[bo,DB,h1];cases b with
  | true=>exact⟨_,rfl,h2⟩
  | false=>exact rJ h2
noncomputable def mapK (h:HT) (m:D) (K:List (D×D)->Bool):Bool:=
 match m with
 | .v (.map none)=>K []
 | .map id=>h.getK id λb=>match b with|.map es=>K es|_=>false
 | _=>false
theorem Fz {h:HT}{n:Nat}{m:D}{K:List (D×D)->Bool}(hs:mapK h m K=true):∃ es,nC (h.heap n) m=some es∧K es=true:=by
 unfold mapK at hs;split at hs
 ·exact⟨[],rfl,hs⟩
 ·obtain⟨b,hb,hs⟩:=HT.getK_some hs;split at hs
  ·rename_i es;exact⟨es,by simp only[nC,HT.heap_get,hb],hs⟩
  ·cases hs
 ·cases hs
noncomputable def zW (ti:TI) (h:HT) (t:TypeId) (m k:D) (ok:Bool) (K:D->Bool):Bool:=
 match ti t with
 | some a=>
  match a.u with
  | .map kt e=>
   match ti kt,ti e with
   | some ka,some ea=>mapK h m λes=>ifB (oH ti ka k) (AO (sb h) k es 0 λr=>
     match r with
     | some (_,x)=>(match ok with|true=>K (.tup [x,.v (.bool true)])|false=>K x)
     | none=>(match ok with|true=>K (.tup [ea.zeroD,.v (.bool false)])|false=>K ea.zeroD)) false
   | _,_=>false
  | _=>false
 | none=>false
theorem x7 {ti:TI}{h:HT}{n:Nat}{t:TypeId}{m k:D}{ok:Bool}{K:D->Bool}(hs:zW ti h t m k ok K=true):∃ d,fZ ti (h.heap n) t m k ok=some d∧K d=true:=by
 unfold zW at hs;split at hs
 ·rename_i a ha;split at hs
  ·rename_i kt e hu;split at hs
   ·rename_i ka ea h1 h2;obtain⟨es,h3,hs⟩:=Fz (n:=n) hs;rcases aP hs with⟨hk,hs⟩|⟨_,h0⟩
    ·obtain⟨r,hr,hK⟩:=rJ (n:=n) hs;unfold fZ;simp only[ha,hu,h1,h2,h3,hk,if_true,hr];cases r with
     | none=>cases ok<;>exact⟨_,rfl,hK⟩
     | some p=>cases ok<;>exact⟨_,rfl,hK⟩
    ·cases h0
   ·cases hs
  ·cases hs
 ·cases hs
noncomputable def sH (ti:TI) (h:HT) (t:TypeId) (m k x:D) (K:HT->Bool):Bool:=
 match ti t with
 | some a=>
  match a.u with
  | .map kt _=>
   match ti kt,m with
   | some ka,.map id=>h.getK id λb=>
    match b with
    | .map es=>ifB (oH ti ka k) (AO (sb h) k es 0 λr=>
      match r with
      | some (i,_)=>h.putK id (.map (es.set i (k,x))) K
      | none=>h.putK id (.map (es++[(k,x)])) K) false
    | _=>false
   | _,_=>false
  | _=>false
 | none=>false
theorem pq {ti:TI}{h:HT}{n:Nat}{t:TypeId}{m k x:D}{K:HT->Bool}(hs:sH ti h t m k x K=true):∃ h1 h',fY ti (h.heap n) t m k x=some h1∧Heq h1 (h'.heap n)∧K h'=true:=by
 unfold sH at hs;split at hs
 ·rename_i a ha;split at hs
  ·rename_i kt e hu;split at hs
   ·rename_i ka id h1;obtain⟨b,hb,hs⟩:=HT.getK_some hs;split at hs
    ·rename_i es;rcases aP hs with⟨hk,hs⟩|⟨_,h0⟩
     ·obtain⟨r,hr,hK⟩:=rJ (n:=n) hs;unfold fY;simp only[ha,hu,h1,HT.heap_get,hb,hk,if_true,hr];cases r with
      | none=>
       replace hK:h.putK id (.map (es++[(k,x)])) K=true:=hK
       rw[HT.putK_eq] at hK;exact⟨_,_,rfl,Heq.set hb,hK⟩
      | some p=>
       replace hK:h.putK id (.map (es.set p.1 (k,x))) K=true:=hK
       rw[HT.putK_eq] at hK;exact⟨_,_,rfl,Heq.set hb,hK⟩
     ·cases h0
    ·cases hs
   ·cases hs
  ·cases hs
 ·cases hs
noncomputable def srcK (h:HT) (es:Nat) (x:D) (K:Nat->List D->Bool):Bool:=
 match x with
 | .v (.slice none 0 0)=>K 0 []
 | .e0=>K 0 []
 | .imm n cs=>ifB (Nat.beq cs.length (n*es)) (K n cs) false
 | .sl id off n _ es' _=>ifB (Nat.beq es' es) (h.getK id λb=>match b with|.cells cs _=>mM cs off (n*es) λds=>K n ds|_=>false) false
 | .str s=>ifB (Nat.beq es 1) (K s.length (rV s)) false
 | _=>false
theorem FV {h:HT}{m es:Nat}{x:D}{K:Nat->List D->Bool}(hs:srcK h es x K=true):∃ n xs,cE (h.heap m) es x=some (n,xs)∧K n xs=true:=by
 unfold srcK at hs;split at hs
 ·exact⟨0,[],rfl,hs⟩
 ·exact⟨0,[],rfl,hs⟩
 ·rename_i n cs;rcases aP hs with⟨h1,hs⟩|⟨_,h0⟩
  ·exact⟨n,cs,by simp only[cE];rw[if_pos (by simpa using h1)],hs⟩
  ·cases h0
 ·rename_i id off n cap es' ex;rcases aP hs with⟨h1,hs⟩|⟨_,h0⟩
  ·obtain⟨b,hb,hs⟩:=HT.getK_some hs;split at hs
   ·rename_i cs bx;obtain⟨h2,h3⟩:=i0 hs;exact⟨n,_,by simp only[cE,HT.heap_get,hb];rw[if_pos (by simpa using h1),if_pos h2],h3⟩
   ·cases hs
  ·cases h0
 ·rename_i s;rcases aP hs with⟨h1,hs⟩|⟨_,h0⟩
  ·exact⟨_,_,by simp only[cE];rw[if_pos (by simpa using h1)],hs⟩
  ·cases h0
 ·cases hs
noncomputable def FI (ti:TI) (h:HT) (id:Nat) (ts:List TypeId) (s x:D) (K:D->HT->Bool):Bool:=
 match ts with
 | st::xt::_=>
  match ti st,ti xt with
  | some a,some b=>
   match a.u with
   | .slice e=>
    match ti e with
    | some ei=>ifB (A5 b.u) (srcK h ei.size x λn xs=>
      match s with
      | .v (.slice none 0 0)=>ifB (Nat.beq n 0) (K s h) (ifB (Nat.ble (n*ei.bytes) ab&&Nat.ble n ab) (h.putK id (.cells xs false) (K (.sl id 0 n n ei.size false))) false)
      | .e0=>ifB (Nat.beq n 0) (K .e0 h) (ifB (Nat.ble (n*ei.bytes) ab&&Nat.ble n ab) (h.putK id (.cells xs false) (K (.sl id 0 n n ei.size false))) false)
      | .sl i off m cap es ex=>ifB (Nat.beq es ei.size&&gW xs) (h.getK i λb=>
        match b with
        | .cells cs bx=>
         ifB (Nat.ble (m+n) cap) (ifB (Nat.ble (off+(m+n)*es) cs.length) (h.putK i (.cells (splice cs (off+m*es) xs) bx) (K (.sl i off (m+n) cap es ex))) false)
          (ifB (Nat.ble ((m+n)*ei.bytes) ab&&(Nat.ble (m+n) ab&&Nat.ble (off+m*es) cs.length))
           (match ex with
           | true=>h.putK id (.cells ((cs.drop off).take (m*es)++xs) false) (K (.sl id 0 (m+n) (m+n) es false))
           | false=>h.delK i λh'=>h'.putK id (.cells ((cs.drop off).take (m*es)++xs) false) (K (.sl id 0 (m+n) (m+n) es false))) false)
        | _=>false) false
      | _=>false) false
    | none=>false
   | _=>false
  | _,_=>false
 | _=>false
theorem Cg {ti:TI}{h:HT}{k id:Nat}{ts:List TypeId}{s x:D}{K:D->HT->Bool}(hs:FI ti h id ts s x K=true):∃ d h1 h',e9 ti (h.heap k) id ts s x=some (d,h1)∧Heq h1 (h'.heap k)∧K d h'=true:=by
 unfold FI at hs;split at hs
 ·rename_i st xt _;split at hs
  ·rename_i a b ha hb;split at hs
   ·rename_i e hu;split at hs
    ·rename_i ei hei;rcases aP hs with⟨hsu,hs⟩|⟨_,h0⟩
     ·obtain⟨n,xs,hsrc,hs⟩:=FV (m:=k) hs;unfold e9;have hsu':(A5 b.u=false)=False:=by rw[hsu];simp
      simp only[ha,hb,hu,hei,hsu',if_false,hsrc];split at hs
      ·rcases aP hs with⟨h1,hs⟩|⟨h1,hs⟩
       ·exact⟨_,_,_,by simp only;rw[if_pos (by simpa using h1)],Heq.refl _,hs⟩
       ·rcases aP hs with⟨h2,hs⟩|⟨_,h0⟩
        ·rw[HT.putK_eq] at hs;simp only[kC,Nat.ble_eq] at h2;exact⟨_,_,_,by simp only;rw[if_neg (by intro hc;subst hc;simp at h1),if_pos h2],Heq.put,hs⟩
        ·cases h0
      ·rcases aP hs with⟨h1,hs⟩|⟨h1,hs⟩
       ·exact⟨_,_,_,by simp only;rw[if_pos (by simpa using h1)],Heq.refl _,hs⟩
       ·rcases aP hs with⟨h2,hs⟩|⟨_,h0⟩
        ·rw[HT.putK_eq] at hs;simp only[kC,Nat.ble_eq] at h2;exact⟨_,_,_,by simp only;rw[if_neg (by intro hc;subst hc;simp at h1),if_pos h2],Heq.put,hs⟩
        ·cases h0
      ·rename_i i off m cap es ex _ _;rcases aP hs with⟨h1,hs⟩|⟨_,h0⟩
       ·simp only[kC,Nat.beq_eq] at h1;obtain⟨bb,hbb,hs⟩:=HT.getK_some hs;split at hs
        ·rename_i cs bx;simp only[h1.1,h1.2,and_self,if_true,HT.heap_get,hbb];rcases aP hs with⟨h2,hs⟩|⟨h2,hs⟩
         ·simp only[Nat.ble_eq] at h2;rcases aP hs with⟨h3,hs⟩|⟨_,h0⟩
          ·rw[HT.putK_eq] at hs;simp only[Nat.ble_eq] at h3;refine⟨_,_,_,?_,Heq.set hbb,hs⟩;rw[if_pos h2,if_pos (by rw[<-h1.1];exact h3),h1.1]
          ·cases h0
         ·have h2':¬m+n<=cap:=λhc=>(show Nat.ble (m+n) cap≠true by rw[h2];simp) (by rw[Nat.ble_eq];exact hc)
          rcases aP hs with⟨h3,hs⟩|⟨_,h0⟩
          ·simp only[kC,Nat.ble_eq] at h3;cases ex with
           | true=>
            simp only at hs;rw[HT.putK_eq] at hs;refine⟨_,_,_,?_,Heq.put,hs⟩;rw[if_neg h2',if_pos (by rw[<-h1.1];exact h3),h1.1];rfl
           | false=>
            simp only at hs;rw[HT.delK_eq,HT.putK_eq] at hs;refine⟨_,_,_,?_,Heq.delput,hs⟩;rw[if_neg h2',if_pos (by rw[<-h1.1];exact h3),h1.1];rfl
          ·cases h0
        ·cases hs
       ·cases h0
      ·cases hs
     ·cases h0
    ·cases hs
   ·cases hs
  ·cases hs
 ·cases hs
end Go.Am
/-
 The abstract machine,part 43: operations over trees,all of them.
-/
namespace Go.Am
variable [GT]
def oA (l:List (Nat×Box)) (K:Box->Bool):Bool:=
 match l with
 | [(_,b)]=>K b
 | _=>false
theorem oh {l:List (Nat×Box)}{K:Box->Bool}(h:oA l K=true):∃ i b,l=[(i,b)]∧K b=true:=by
 unfold oA at h;split at h
 ·exact⟨_,_,rfl,h⟩
 ·cases h
def xun (P:Program) (op:UnOp) (d:D) (K:D->Bool):Bool:=
 match toV d with
 | some a=>a8 (av P (Op.unary op a)) λr=>a8 (ofV r) λd'=>(match d' with|.v (.bool true)=>K (.v (.bool true))|.v (.bool false)=>K (.v (.bool false))|d'=>K d')
 | none=>false
noncomputable def za (P:Program) (ti:TI) (h:HT) (src dst:TypeId) (x:D) (K:D->Bool):Bool:=
 match x with
 | .sl i off m _ es _=>
  match ti src,ti dst with
  | some a,some b=>
   match a.u,b.u with
   | .slice e,.string=>
    match ti e with
    | some ei=>
     match ei.u with
     | .int .u8=>ifB (Nat.beq es 1) (h.getK i λbx=>
      match bx with
      | .cells cs _=>mM cs off m λds=>a8 (dB ds) λl=>K (.str l)
      | _=>false) false
     | _=>false
    | none=>false
   | _,_=>false
  | _,_=>false
 | .v (.int k v)=>a8 (bt P ti ⟨0,[]⟩ src dst (.v (.int k v))) λr=>K r.1
 | _=>false
theorem u6 {P:Program}{ti:TI}{h:aB}{src dst:TypeId}{k:IntKind}{v:Int}{r:D×aB}(hr:bt P ti ⟨0,[]⟩ src dst (.v (.int k v))=some r):bt P ti h src dst (.v (.int k v))=some (r.1,h):=by
 cases ha:ti src with
 | none=>simp[bt,ha] at hr
 | some a=>
  cases hb:ti dst with
  | none=>simp[bt,ha,hb] at hr
  | some b=>
   simp only[bt,ha,hb] at hr ⊢;generalize a.u=au at hr ⊢;generalize b.u=bu at hr ⊢;cases bu with
   | int k'=>
    simp only at hr ⊢;split at hr
    ·obtain⟨d,h1,rfl⟩:=Option.map_eq_some_iff.1 hr;simp[h1]
    ·cases hr
   | string=>
    cases au<;>simp only at hr ⊢<;>first|cases hr|skip
    rename_i e;cases he:ti e with
    | none=>simp[he] at hr
    | some ei=>
     simp only[he,gN] at hr;generalize ei.u=eu at hr;cases eu<;>simp only at hr<;>first|(cases hr;done)|(rename_i q;cases q<;>simp at hr;done)|skip
   | _=>cases au<;>simp at hr
theorem x9 {P:Program}{ti:TI}{h:HT}{n:Nat}{src dst:TypeId}{x:D}{K:D->Bool}(hs:za P ti h src dst x K=true):∃ d,bt P ti (h.heap n) src dst x=some (d,h.heap n)∧K d=true:=by
 unfold za at hs;split at hs
 ·rename_i i off m cap es ex;split at hs
  ·rename_i a b ha hb;split at hs
   ·rename_i e hau hbu;split at hs
    ·rename_i ei hei;split at hs
     ·rename_i heu;rcases aP hs with⟨h1,hs⟩|⟨_,h0⟩
      ·simp only[Nat.beq_eq] at h1;obtain⟨bx,hbx,hs⟩:=HT.getK_some hs;split at hs
       ·rename_i cs ex';obtain⟨h2,h3⟩:=i0 hs;obtain⟨l,h4,h5⟩:=aT h3;refine⟨.str l,?_,h5⟩;simp only[bt,ha,hb,hau,hbu,hei,gN,heu,h1,if_true,HT.heap_get,hbx];rw[if_pos h2,h4];rfl
       ·cases hs
      ·cases h0
     ·cases hs
    ·cases hs
   ·cases hs
  ·cases hs
 ·obtain⟨r,h1,h2⟩:=aT hs;exact⟨r.1,u6 h1,h2⟩
 ·cases hs
noncomputable def xblt (P:Program) (ti:TI) (h:HT) (id:Nat) (b:Builtin) (ts:List TypeId) (type:TypeId) (args:List D) (K:D->HT->Bool):Bool:=
 match b,args with
 | .append,[s,x]=>FI ti h id ts s x K
 | .len,[x]=>(match x with|.map _=>false|x=>a8 (fw ti ⟨0,[]⟩ ts x) λd=>K d h)
 | .min,args=>a8 (ao P ti ⟨0,[]⟩ id .min ts type args) λr=>K r.1 h
 | .max,args=>a8 (ao P ti ⟨0,[]⟩ id .max ts type args) λr=>K r.1 h
 | _,_=>false
theorem Ez {ti:TI}{h:aB}{ts:List TypeId}{x:D}{d:D}(hm:∀ i,x≠.map i) (hr:fw ti ⟨0,[]⟩ ts x=some d):fw ti h ts x=some d:=by
 unfold fw at hr ⊢;split at hr
 ·rename_i t _;split at hr
  ·rename_i a ha;generalize a.u=au at hr ⊢;cases au<;>cases x<;>first|exact hr|exact absurd rfl (hm _)|(rename_i y;cases y<;>first|exact hr|(rename_i a1 a2 a3;cases a1<;>first|exact hr|(cases a2<;>first|exact hr|(cases a3<;>exact hr)))|(rename_i a1;cases a1<;>exact hr))
  ·cases hr
 ·cases hr
theorem Ce {P:Program}{ti:TI}{h:HT}{n id:Nat}{b:Builtin}{ts:List TypeId}{type:TypeId}{args:List D}{K:D->HT->Bool}(hs:xblt P ti h id b ts type args K=true):∃ d h1 h',ao P ti (h.heap n) id b ts type args=some (d,h1)∧Heq h1 (h'.heap n)∧K d h'=true:=by
 unfold xblt at hs;split at hs
 ·obtain⟨d,h1,h',e1,e2,e3⟩:=Cg (k:=n) hs;exact⟨d,h1,h',by simp only[ao,e1],e2,e3⟩
 ·rename_i x;split at hs
  ·cases hs
  ·rename_i hne;obtain⟨d,h1,h2⟩:=aT hs;exact⟨d,_,h,by simp only[ao,Ez (h:=h.heap n) (λi e=>hne i e) h1,kF],Heq.refl _,h2⟩
 ·obtain⟨r,h1,h2⟩:=aT hs;refine⟨r.1,_,h,?_,Heq.refl _,h2⟩;simp only[ao] at h1 ⊢;split at h1
  ·split at h1
   ·obtain⟨d,h3,rfl⟩:=Option.map_eq_some_iff.1 h1;simp[h3]
   ·cases h1
  ·cases h1
 ·obtain⟨r,h1,h2⟩:=aT hs;refine⟨r.1,_,h,?_,Heq.refl _,h2⟩;simp only[ao] at h1 ⊢;split at h1
  ·split at h1
   ·obtain⟨d,h3,rfl⟩:=Option.map_eq_some_iff.1 h1;simp[h3]
   ·cases h1
  ·cases h1
 ·cases hs
noncomputable def xop (P:Program) (ti:TI) (n:Nat) (t:Tr) (h:HT) (id:Nat) (o:Oper) (K:D->HT->Bool):Bool:=
 match o.op with
 | .move x=>xev n t x λd=>K d h
 | .assign x=>xev n t x λd=>K d h
 | .pick c a b=>xev n t c λd=>
  match d with
  | .v (.bool true)=>xev n t a λd=>K d h
  | .v (.bool false)=>xev n t b λd=>K d h
  | _=>false
 | .alloc ty=>a8 (ti ty) λx=>h.putK id (.cells x.zero true) (K (.ptr id 0))
 | .box _ x=>xev n t x λd=>h.putK id (.cells (cU d) true) (K (.ptr id 0))
 | .build ty ps=>tR n t ps.toList λl=>a8 (rh ti ty l) λd=>K d h
 | .buildSlice ty m ps=>tR n t ps.toList λl=>a8 (eS ti ⟨0,[]⟩ id ty m l) λr=>oA r.2.bs λb=>h.putK id b (K r.1)
 | .load ty a=>xev n t a λd=>zX ti h ty d λd=>K d h
 | .store ty a x=>xev n t a λd=>xev n t x λe=>xy ti h ty d e (K aM)
 | .nilCheck x=>xev n t x λd=>a8 (fP d) λd=>K d h
 | .binOp op ty x y _=>xev n t x λa=>xev n t y λb=>jv P op ty x y a b λd=>K d h
 | .unOp op _ x=>xev n t x λd=>xun P op d λd=>K d h
 | .convert s e x=>xev n t x λd=>za P ti h s e d λd=>K d h
 | .makeFunc fn f c=>px n t f.toList λa=>px n t c.toList λb=>K (.fn fn a b) h
 | .makeMap ty r=>
  match r with
  | none=>h.putK id (.map []) (K (.map id))
  | some x=>xev n t x λd=>(match d with|.v (.int _ _)=>a8 (ti ty) λa=>(match a.u with|.map _ _=>h.putK id (.map []) (K (.map id))|_=>false)|_=>false)
 | .makeSlice ty l c=>xev n t l λa=>xev n t c λb=>a8 (dU ti ⟨0,[]⟩ id ty a b) λr=>oA r.2.bs λb=>h.putK id b (K r.1)
 | .slice ty x lo hi mx=>xev n t x λd=>FG n t lo λl=>FG n t hi λhh=>FG n t mx λm=>a8 (dg ti ty d l hh m) λd=>K d h
 | .fieldAddr ty x f=>xev n t x λd=>a8 (fQ ti ty d f) λd=>K d h
 | .field ty x f=>xev n t x λd=>a8 (oV ti ty d f) λd=>K d h
 | .indexAddr ty x i=>xev n t x λa=>xev n t i λb=>a8 (cV ti ty a b) λd=>K d h
 | .index ty x i=>xev n t x λa=>xev n t i λb=>a8 (ky ti ty a b) λd=>K d h
 | .lookup ty x i ok=>xev n t x λa=>xev n t i λb=>zW ti h ty a b ok λd=>K d h
 | .mapUpdate ty m k x=>xev n t m λa=>xev n t k λb=>xev n t x λd=>sH ti h ty a b d (K aM)
 | .insert ty m k x=>xev n t m λa=>xev n t k λb=>xev n t x λd=>sH ti h ty a b d (K aM)
 | .extract x i=>xev n t x λd=>
  match d with
  | .tup cs=>a8 (cs[i]?) λd=>K d h
  | _=>false
 | .call c=>
  match c.callee with
  | .builtin b=>px n t c.args.toList λds=>xblt P ti h id b c.argTypes.toList o.type ds K
  | _=>false
 | .makeInterface ty x=>xev n t x λd=>a8 (re ti ty d) λd=>K d h
 | _=>false
theorem xun_un {P:Program}{op:UnOp}{d:D}{K:D->Bool}(h:xun P op d K=true):∃ a r d',toV d=some a∧av P (Op.unary op a)=some r∧ofV r=some d'∧K d'=true:=by
 unfold xun at h;split at h
 ·rename_i a ha;obtain⟨r,h1,h2⟩:=aT h;obtain⟨d',h3,h4⟩:=aT h2;refine⟨a,r,d',ha,h1,h3,?_⟩;split at h4<;>exact h4
 ·cases h
theorem gG {P:Program}{ti:TI}{n m:Nat}{t:Tr}{h:HT}{id:Nat}{o:Oper}{K:D->HT->Bool}(hs:xop P ti n t h id o K=true) :
  bc P (tmL n t) o=none∧∃ d h1 h',aop P ti (tmL n t) (h.heap m) id o=some (d,h1)∧Heq h1 (h'.heap m)∧K d h'=true:=by
 have nocall:(∀ c,o.op=.call c->∃ b,c.callee=.builtin b)->bc P (tmL n t) o=none:=λhn=>by
  unfold bc;split
  ·rename_i c hc;obtain⟨b,hb⟩:=hn c hc;rw[hb]
  ·rfl
 unfold xop at hs;split at hs
 case h_26 c ho=>
  split at hs
  ·rename_i b hcal;refine⟨nocall λc' hc=>⟨b,by rw[ho] at hc;injection hc with hc;subst hc;exact hcal⟩,?_⟩;obtain⟨ds,hx,hs⟩:=eV hs;obtain⟨d,h1,h',e1,e2,e3⟩:=Ce (n:=m) hs;exact⟨d,h1,h',by unfold aop;simp only[ho,hcal,hx,e1],e2,e3⟩
  ·cases hs
 case h_27 ty x ho=>
  refine⟨nocall λc hc=>(by rw[ho] at hc;cases hc),?_⟩;obtain⟨d,h1,h2⟩:=ah hs;obtain⟨d',h3,h4⟩:=aT h2;exact⟨d',_,h,by unfold aop;simp only[ho,h1,h3,kF],Heq.refl _,h4⟩
 case h_1 x ho=>
  refine⟨nocall λc hc=>(by rw[ho] at hc;cases hc),?_⟩;obtain⟨d,h1,h2⟩:=ah hs;exact⟨d,_,h,by unfold aop;simp only[ho,h1,kF],Heq.refl _,h2⟩
 case h_2 x ho=>
  refine⟨nocall λc hc=>(by rw[ho] at hc;cases hc),?_⟩;obtain⟨d,h1,h2⟩:=ah hs;exact⟨d,_,h,by unfold aop;simp only[ho,h1,kF],Heq.refl _,h2⟩
 case h_3 c a b ho=>
  refine⟨nocall λc hc=>(by rw[ho] at hc;cases hc),?_⟩;obtain⟨d,h1,h2⟩:=ah hs;split at h2
  ·obtain⟨d,h3,h4⟩:=ah h2;exact⟨d,_,h,by unfold aop;simp only[ho,h1,h3,if_true,kF],Heq.refl _,h4⟩
  ·obtain⟨d,h3,h4⟩:=ah h2;exact⟨d,_,h,by unfold aop;simp only[ho,h1,h3,Bool.false_eq_true,if_false,kF],Heq.refl _,h4⟩
  ·cases h2
 case h_4 ty ho=>
  refine⟨nocall λc hc=>(by rw[ho] at hc;cases hc),?_⟩;obtain⟨x,h1,h2⟩:=aT hs;rw[HT.putK_eq] at h2;exact⟨_,_,_,by unfold aop;simp only[ho,h1,kF],Heq.put,h2⟩
 case h_5 ty x ho=>
  refine⟨nocall λc hc=>(by rw[ho] at hc;cases hc),?_⟩;obtain⟨d,h1,h2⟩:=ah hs;rw[HT.putK_eq] at h2;exact⟨_,_,_,by unfold aop;simp only[ho,h1,kF],Heq.put,h2⟩
 case h_6 ty ps ho=>
  refine⟨nocall λc hc=>(by rw[ho] at hc;cases hc),?_⟩;obtain⟨l,h1,h2⟩:=jB hs;obtain⟨d,h3,h4⟩:=aT h2;exact⟨d,_,h,by unfold aop;simp only[ho,h1,h3,kF],Heq.refl _,h4⟩
 case h_7 ty k ps ho=>
  refine⟨nocall λc hc=>(by rw[ho] at hc;cases hc),?_⟩;obtain⟨l,h1,h2⟩:=jB hs;obtain⟨⟨d,h0⟩,h3,h4⟩:=aT h2;obtain⟨i,b,h5,h6⟩:=oh h4;rw[HT.putK_eq] at h6;have ha:aop P ti (tmL n t) ⟨0,[]⟩ id o=some (d,h0):=by unfold aop;simp only[ho,h1,h3]
  obtain⟨box,hb⟩:=lV (by simp[kind,ho]) ha;have e:=hb ⟨0,[]⟩;rw[ha] at e;simp only[kA,kB,true_and] at e;subst e;simp only[aB.put,List.cons.injEq,kB,and_true] at h5;obtain⟨_,rfl⟩:=h5;exact⟨d,_,_,hb _,Heq.put,h6⟩
 case h_8 ty a ho=>
  refine⟨nocall λc hc=>(by rw[ho] at hc;cases hc),?_⟩;obtain⟨x,h1,h2⟩:=ah hs;obtain⟨d,h3,h4⟩:=pr (n:=m) h2;exact⟨d,_,h,by unfold aop;simp only[ho,h1,h3,kF],Heq.refl _,h4⟩
 case h_9 ty a x ho=>
  refine⟨nocall λc hc=>(by rw[ho] at hc;cases hc),?_⟩;obtain⟨d,h1,h2⟩:=ah hs;obtain⟨e,h3,h4⟩:=ah h2;obtain⟨h5,h',e1,e2,e3⟩:=tO (n:=m) h4;exact⟨_,_,h',by unfold aop;simp only[ho,h1,h3,e1,kF],e2,e3⟩
 case h_10 x ho=>
  refine⟨nocall λc hc=>(by rw[ho] at hc;cases hc),?_⟩;obtain⟨x,h1,h2⟩:=ah hs;obtain⟨d,h3,h4⟩:=aT h2;exact⟨d,_,h,by unfold aop;simp only[ho,h1,h3,kF],Heq.refl _,h4⟩
 case h_11 op ty x y _ ho=>
  refine⟨nocall λc hc=>(by rw[ho] at hc;cases hc),?_⟩;obtain⟨a,h1,h2⟩:=ah hs;obtain⟨b,h3,h4⟩:=ah h2;obtain⟨d,h5,h6⟩:=Cf h4;exact⟨d,_,h,by unfold aop;simp only[ho,h1,h3,h5,kF],Heq.refl _,h6⟩
 case h_12 op _ x ho=>
  refine⟨nocall λc hc=>(by rw[ho] at hc;cases hc),?_⟩;obtain⟨d,h1,h2⟩:=ah hs;obtain⟨a,r,d',h3,h4,h5,h6⟩:=xun_un h2;exact⟨d',_,h,by unfold aop;simp only[ho,h1,Option.bind_some,h3,h4,h5,kF],Heq.refl _,h6⟩
 case h_13 s e x ho=>
  refine⟨nocall λc hc=>(by rw[ho] at hc;cases hc),?_⟩;obtain⟨x,h1,h2⟩:=ah hs;obtain⟨d,h3,h4⟩:=x9 (n:=m) h2;exact⟨d,_,h,by unfold aop;simp only[ho,h1,h3],Heq.refl _,h4⟩
 case h_14 fn f c ho=>
  refine⟨nocall λc hc=>(by rw[ho] at hc;cases hc),?_⟩;obtain⟨a,h1,h2⟩:=eV hs;obtain⟨b,h3,h4⟩:=eV h2;exact⟨_,_,h,by unfold aop;simp only[ho,h1,h3],Heq.refl _,h4⟩
 case h_15 ty r ho=>
  refine⟨nocall λc hc=>(by rw[ho] at hc;cases hc),?_⟩;cases r with
  | none=>
   simp only at hs;rw[HT.putK_eq] at hs;exact⟨_,_,_,by unfold aop;simp only[ho],Heq.put,hs⟩
  | some x=>
   simp only at hs;obtain⟨d,h1,hs⟩:=ah hs;split at hs
   ·obtain⟨a,h2,hs⟩:=aT hs;split at hs
    ·rename_i hu;rw[HT.putK_eq] at hs;exact⟨_,_,_,by unfold aop;simp only[ho,h1,h2,hu],Heq.put,hs⟩
    ·cases hs
   ·cases hs
 case h_16 ty l c ho=>
  refine⟨nocall λc hc=>(by rw[ho] at hc;cases hc),?_⟩;obtain⟨a,h1,h2⟩:=ah hs;obtain⟨b,h3,h4⟩:=ah h2;obtain⟨⟨d,h0⟩,h5,h6⟩:=aT h4;obtain⟨i,bx,h7,h8⟩:=oh h6;rw[HT.putK_eq] at h8;have ha:aop P ti (tmL n t) ⟨0,[]⟩ id o=some (d,h0):=by unfold aop;simp only[ho,h1,h3,h5]
  obtain⟨box,hb⟩:=lV (by simp[kind,ho]) ha;have e:=hb ⟨0,[]⟩;rw[ha] at e;simp only[kA,kB,true_and] at e;subst e;simp only[aB.put,List.cons.injEq,kB,and_true] at h7;obtain⟨_,rfl⟩:=h7;exact⟨d,_,_,hb _,Heq.put,h8⟩
 case h_17 ty x lo hi mx ho=>
  refine⟨nocall λc hc=>(by rw[ho] at hc;cases hc),?_⟩;obtain⟨d,hx,hs⟩:=ah hs;obtain⟨l,hl,hs⟩:=py hs;obtain⟨hh,hhi,hs⟩:=py hs;obtain⟨mm,hm,hs⟩:=py hs;obtain⟨d',h1,h2⟩:=aT hs;refine⟨d',_,h,?_,Heq.refl _,h2⟩
  have e:aop P ti (tmL n t) (h.heap m) id o=(match ev (tmL n t) x,evO (tmL n t) lo,evO (tmL n t) hi,evO (tmL n t) mx with
   | some d,some l,some h',some mm=>(dg ti ty d l h' mm).map (·,h.heap m)
   | _,_,_,_=>none):=by
   unfold aop;simp only[ho];cases lo<;>cases hi<;>cases mx<;>rfl
  rw[e,hx,hl,hhi,hm];simp only[h1,kF]
 case h_18 ty x f ho=>
  refine⟨nocall λc hc=>(by rw[ho] at hc;cases hc),?_⟩;obtain⟨x,h1,h2⟩:=ah hs;obtain⟨d,h3,h4⟩:=aT h2;exact⟨d,_,h,by unfold aop;simp only[ho,h1,h3,kF],Heq.refl _,h4⟩
 case h_19 ty x f ho=>
  refine⟨nocall λc hc=>(by rw[ho] at hc;cases hc),?_⟩;obtain⟨x,h1,h2⟩:=ah hs;obtain⟨d,h3,h4⟩:=aT h2;exact⟨d,_,h,by unfold aop;simp only[ho,h1,h3,kF],Heq.refl _,h4⟩
 case h_20 ty x i ho=>
  refine⟨nocall λc hc=>(by rw[ho] at hc;cases hc),?_⟩;obtain⟨a,h1,h2⟩:=ah hs;obtain⟨b,h3,h4⟩:=ah h2;obtain⟨d,h5,h6⟩:=aT h4;exact⟨d,_,h,by unfold aop;simp only[ho,h1,h3,h5,kF],Heq.refl _,h6⟩
 case h_21 ty x i ho=>
  refine⟨nocall λc hc=>(by rw[ho] at hc;cases hc),?_⟩;obtain⟨a,h1,h2⟩:=ah hs;obtain⟨b,h3,h4⟩:=ah h2;obtain⟨d,h5,h6⟩:=aT h4;exact⟨d,_,h,by unfold aop;simp only[ho,h1,h3,h5,kF],Heq.refl _,h6⟩
 case h_22 ty x i ok ho=>
  refine⟨nocall λc hc=>(by rw[ho] at hc;cases hc),?_⟩;obtain⟨a,h1,h2⟩:=ah hs;obtain⟨b,h3,h4⟩:=ah h2;obtain⟨d,h5,h6⟩:=x7 (n:=m) h4;exact⟨d,_,h,by unfold aop;simp only[ho,h1,h3,h5,kF],Heq.refl _,h6⟩
 case h_23 ty mp k x ho=>
  refine⟨nocall λc hc=>(by rw[ho] at hc;cases hc),?_⟩;obtain⟨a,h1,h2⟩:=ah hs;obtain⟨b,h3,h4⟩:=ah h2;obtain⟨c,h5,h6⟩:=ah h4;obtain⟨h7,h',e1,e2,e3⟩:=pq (n:=m) h6;exact⟨_,_,h',by unfold aop;simp only[ho,h1,h3,h5,e1,kF],e2,e3⟩
 case h_24 ty mp k x ho=>
  refine⟨nocall λc hc=>(by rw[ho] at hc;cases hc),?_⟩;obtain⟨a,h1,h2⟩:=ah hs;obtain⟨b,h3,h4⟩:=ah h2;obtain⟨c,h5,h6⟩:=ah h4;obtain⟨h7,h',e1,e2,e3⟩:=pq (n:=m) h6;exact⟨_,_,h',by unfold aop;simp only[ho,h1,h3,h5,e1,kF],e2,e3⟩
 case h_25 x i ho=>
  refine⟨nocall λc hc=>(by rw[ho] at hc;cases hc),?_⟩;obtain⟨a,h1,h2⟩:=ah hs;split at h2
  ·obtain⟨d,h3,h4⟩:=aT h2;exact⟨d,_,h,by unfold aop;simp only[ho,h1,h3,kF],Heq.refl _,h4⟩
  ·cases h2
 case h_28=>cases hs
end Go.Am
/-
 The abstract machine,part 44: regions in the order of the text,over trees.
-/
namespace Go.Am
variable [GT]
theorem AC1.congr {P:Program}{g:FuncId}{ds:List D}{h h2 h1 h3:aB}{d:D}(e:Heq h h2) (f:Heq h1 h3) (hp:AC1 P g ds h d h1):AC1 P g ds h2 d h3:=by
 refine⟨hp.1,λc vs R hvs=>(hp.2 c vs (R.congr e.symm) hvs).mono ?_⟩;rintro _ w' ⟨v,c',rfl,rfl,v1,r1,g1,p1⟩;exact⟨v,c',rfl,rfl,v1,r1.congr f,g1.congr e f,λj hj=>p1 j (by rw[e.next];exact hj)⟩
theorem Y1.congr {P:Program}{id:Nat}{ds:List D}{h h2 h1 h3:aB}{d:D}(e:Heq h h2) (f:Heq h1 h3) (hp:Y1 P id ds h d h1):Y1 P id ds h2 d h3:=by
 intro c vs b R hvs hφ;obtain⟨fn,tmps,assign,body,k1,k2⟩:=hp c vs b (R.congr e.symm) hvs hφ;refine⟨fn,tmps,assign,body,k1,λro n=>?_⟩;have:=k2 ro n
 refine this.mono ?_;rintro _ w' ⟨v,c',rfl,rfl,v1,r1,g1,p1⟩;exact⟨v,c',rfl,rfl,v1,r1.congr f,g1.congr e f,λj hj=>p1 j (by rw[e.next];exact hj)⟩
theorem CC.congr {P:Program}{k:Cal}{ds:List D}{h h2 h1 h3:aB}{d:D}(e:Heq h h2) (f:Heq h1 h3) (hp:CC P k ds h d h1):CC P k ds h2 d h3:=by
 cases k with
 | fn g=>exact AC1.congr e f hp
 | yf id=>exact Y1.congr e f hp
abbrev XC:=Cal->List D->HT->Nat->(D->HT->Nat->Bool)->Bool
def XOk (P:Program) (xc:XC):Prop:=∀ k ds h nx K,xc k ds h nx K=true->∃ d h' nx',CC P k ds (h.heap nx) d (h'.heap nx')∧K d h' nx'=true
def Cm (want yes no:Bool) (d:D):Bool:=
 match d with
 | .v (.bool b)=>(match b,want with|true,true=>yes|false,false=>yes|true,false=>no|false,true=>no)
 | .any=>false
 | _=>no
noncomputable def ng (n:Nat) (t:Tr) (ops:Array Oper) (o:Oper) (yes no:Bool):Bool:=
 match o.guard with
 | none=>yes
 | some (j,want)=>
  match(ops[j]?).bind (·.dst) with
  | some i=>Bool.rec (motive:=λ_=>Bool) false (t.getK i (Cm want yes no)) (Nat.blt i n)
  | none=>no
theorem sF {n:Nat}{t:Tr}{ops:Array Oper}{o:Oper}{yes no:Bool}(h:ng n t ops o yes no=true):(af ops (tmL n t) o=some true∧yes=true)∨(af ops (tmL n t) o=some false∧no=true):=by
 unfold ng at h;unfold af;cases hg:o.guard with
 | none=>rw[hg] at h;exact .inl ⟨rfl,h⟩
 | some jw=>
  obtain⟨j,want⟩:=jw;rw[hg] at h;simp only at h ⊢;unfold jt;cases hi:(ops[j]?).bind (·.dst) with
  | none=>rw[hi] at h;exact .inr ⟨rfl,h⟩
  | some i=>
   rw[hi] at h;simp only at h ⊢;cases hb:Nat.blt i n with
   | false=>rw[hb] at h;cases h
   | true=>
    rw[hb] at h;have hlt:i<n:=by simpa [Nat.blt_eq] using hb
    replace h:t.getK i (Cm want yes no)=true:=h
    rw[Tr.getK_eq] at h;simp only[jD hlt];unfold Cm at h;split at h
    ·rename_i b hb';rw[hb'];cases b<;>cases want
     ·exact .inl ⟨rfl,h⟩
     ·exact .inr ⟨rfl,h⟩
     ·exact .inr ⟨rfl,h⟩
     ·exact .inl ⟨rfl,h⟩
    ·cases h
    ·rename_i h1 h2;refine .inr ⟨?_,h⟩;split
     ·rename_i b hb';injection hb' with hb';exact absurd hb' (h1 b)
     ·rename_i hb';injection hb' with hb';exact absurd hb' h2
     ·rfl
noncomputable def iI (n:Nat) (t:Tr) (dst:Option Tmp) (d:D) (K:Tr->Bool):Bool:=
 match dst with
 | some i=>Bool.rec (motive:=λ_=>Bool) false (t.setK i d K) (Nat.blt i n)
 | none=>K t
theorem dw {n k:Nat}{t:Tr}{dst:Option Tmp}{d:D}{K:Tr->Bool}(hp:t.perf k) (hn:n<=2 ^ k) (h:iI n t dst d K=true):∃ t',dp (tmL n t) dst d=tmL n t'∧t'.perf k∧K t'=true:=by
 cases dst with
 | none=>exact⟨t,rfl,hp,h⟩
 | some i=>
  replace h:Bool.rec (motive:=λ_=>Bool) false (t.setK i d K) (Nat.blt i n)=true:=h
  cases hb:Nat.blt i n with
  | false=>rw[hb] at h;cases h
  | true=>
   rw[hb] at h
   replace h:t.setK i d K=true:=h
   rw[Tr.setK_eq] at h;exact⟨_,zh hp hn (by simpa [Nat.blt_eq] using hb),Tr.perf_set hp,h⟩
noncomputable def lB (P:Program) (n:Nat) (t:Tr) (o:Oper) (Kc:Cal->List D->Bool) (Kn:Bool):Bool:=
 match o.op with
 | .call c=>
  match c.callee with
  | .value f=>xev n t f λd=>
   match d with
   | .fn (.func g) first captured=>px n t c.args.toList λds=>Kc (.fn g) (first++ds++captured)
   | .yf y=>px n t c.args.toList λds=>Kc (.yf y) ds
   | _=>false
  | .invoke r nm=>xev n t r λd=>
   match d with
   | .iface ty d=>px n t c.args.toList λds=>a8 (sX P ty nm) λg=>Kc (.fn g) (d::ds)
   | _=>false
  | _=>Kn
 | _=>Kn
theorem pz {P:Program}{n:Nat}{t:Tr}{o:Oper}{Kc:Cal->List D->Bool}{Kn:Bool}(h:lB P n t o Kc Kn=true):(∃ k ds,bc P (tmL n t) o=some (k,ds)∧Kc k ds=true)∨Kn=true:=by
 unfold lB at h;split at h
 ·rename_i c ho;split at h
  ·rename_i f hc;obtain⟨d,h1,h⟩:=ah h;split at h
   ·obtain⟨ds,h2,h⟩:=eV h;exact .inl ⟨_,_,by unfold bc;simp only[ho,hc,h1,h2],h⟩
   ·obtain⟨ds,h2,h⟩:=eV h;exact .inl ⟨_,_,by unfold bc;simp only[ho,hc,h1,h2],h⟩
   ·cases h
  ·rename_i r nm hc;obtain⟨d,h1,h⟩:=ah h;split at h
   ·obtain⟨ds,h2,h⟩:=eV h;obtain⟨g,h3,h⟩:=aT h;exact .inl ⟨_,_,by unfold bc;simp only[ho,hc,h1,h2,h3],h⟩
   ·cases h
  ·exact .inr h
 ·exact .inr h
def Cb (P:Program) (k:Cal) (ds:List D) (yes:D->Bool) (no:Bool):Bool:=
 match k with
 | .fn g=>
  match P.funcs[g]? with
  | some fn=>
   match fn.body with
   | none=>a8 (u5 P (.fn g) ds ⟨0,[]⟩) λr=>yes r.1
   | some _=>no
  | none=>no
 | .yf _=>no
theorem E0 {P:Program}{k:Cal}{ds:List D}{h:aB}{r:D×aB}(hr:u5 P k ds ⟨0,[]⟩=some r):u5 P k ds h=some (r.1,h):=by
 unfold u5 at hr ⊢;split at hr
 ·cases hr
 ·split at hr
  ·split at hr
   ·obtain⟨d,h1,rfl⟩:=Option.map_eq_some_iff.1 hr;simp[h1]
   ·cases hr
  ·cases hr
theorem FF {P:Program}{k:Cal}{ds:List D}{yes:D->Bool}{no:Bool}(h:Cb P k ds yes no=true):(∃ d,(∀ h,u5 P k ds h=some (d,h))∧yes d=true)∨no=true:=by
 unfold Cb at h;split at h
 ·split at h
  ·split at h
   ·obtain⟨r,h1,h2⟩:=aT h;exact .inl ⟨r.1,λh=>E0 h1,h2⟩
   ·exact .inr h
  ·exact .inr h
 ·exact .inr h
section
variable (P:Program) (ti:TI) (xc:XC) (n:Nat)
noncomputable def CZ (ops:Array Oper) (o:Oper) (t:Tr) (h:HT) (nx:Nat) (K:Tr->HT->Nat->Bool):Bool:=
 ng n t ops o
  (lB P n t o (λk ds=>Cb P k ds (λd=>iI n t o.dst d λt'=>K t' h (nx+1)) (xc k ds h (nx+1) λd h' nx'=>iI n t o.dst d λt'=>K t' h' nx')) (xop P ti n t h nx o λd h'=>iI n t o.dst d λt'=>K t' h' (nx+1)))
  (iI n t o.dst aM λt'=>K t' h nx)
noncomputable def vE (ops:Array Oper) (l:List Oper):Tr->HT->Nat->(Tr->HT->Nat->Bool)->Bool:=
 List.rec (motive:=λ_=>Tr->HT->Nat->(Tr->HT->Nat->Bool)->Bool) (λt h nx K=>K t h nx) (λo _ ih t h nx K=>CZ P ti xc n ops o t h nx (λt h nx=>ih t h nx K)) l
end
section
variable {P:Program}{ti:TI}{xc:XC}{n k:Nat}
theorem xone {o:Oper}{t:Tr}{h:HT}{nx:Nat}{K:Tr->HT->Nat->Bool}(X:XOk P xc) (hp:t.perf k) (hn:n<=2 ^ k)
  (hs:lB P n t o (λk ds=>Cb P k ds (λd=>iI n t o.dst d λt'=>K t' h (nx+1)) (xc k ds h (nx+1) λd h' nx'=>iI n t o.dst d λt'=>K t' h' nx')) (xop P ti n t h nx o λd h'=>iI n t o.dst d λt'=>K t' h' (nx+1))=true) :
  ∃ cl:Cl,gm P cl∧∃ d h1 t' h' nx',bU P ti cl (tmL n t) (bump (h.heap nx) 1) nx o=some (d,h1)∧Heq h1 (h'.heap nx')∧dp (tmL n t) o.dst d=tmL n t'∧t'.perf k∧K t' h' nx'=true:=by
 rcases pz hs with⟨q,ds,hac,hs⟩|hs
 ·rcases FF hs with⟨d,h1,h2⟩|hs
  ·obtain⟨t',e1,e2,e3⟩:=dw hp hn h2;exact⟨λ_ _ _=>none,λq ds h d h' hx=>by simp at hx,d,h.heap (nx+1),t',h,nx+1,by unfold bU;rw[hac];exact h1 _,Heq.refl _,e1,e2,e3⟩
  obtain⟨d,h',nx',h1,h2⟩:=X _ _ _ _ _ hs;obtain⟨t',e1,e2,e3⟩:=dw hp hn h2;refine⟨λq' ds' h0=>open Classical in if q'=q∧ds'=ds∧h0=h.heap (nx+1) then some (d,h'.heap nx') else none,λq' ds' h0 d' h1' hx=>?_,d,h'.heap nx',t',h',nx',?_,Heq.refl _,e1,e2,e3⟩
  ·simp only at hx;split at hx
   ·rename_i e;obtain⟨rfl,rfl,rfl⟩:=e;simp only[kA,kB] at hx;obtain⟨rfl,rfl⟩:=hx;exact h1
   ·simp at hx
  ·unfold bU;rw[hac];simp[bump,HT.heap]
 ·obtain⟨hac,d,h1,h',e1,e2,e3⟩:=gG (m:=nx+1) hs;obtain⟨t',f1,f2,f3⟩:=dw hp hn e3;exact⟨λ_ _ _=>none,λq ds h d h' hx=>by simp at hx,d,h1,t',h',nx+1,by unfold bU;rw[hac];exact e1,e2,f1,f2,f3⟩
end
end Go.Am
/-
 The abstract machine,part 45: heaps that hold the same answer alike;regions that draw their order,over trees.
-/
namespace Go.Am
variable [GT]
section
variable {P:Program}{ti:TI}{h h':aB}
theorem oU (e:Heq h h'){t:TypeId}{a:D}:iH ti h t a=iH ti h' t a:=by simp only[iH,e.get]
theorem D3 (e:Heq h h'){i:Nat}:cg h i=cg h' i:=by simp only[cg,e.get]
theorem DA (e:Heq h h'){k k':D}:az h k k'=az h' k k':=by
 unfold az;simp only[D3 e]
theorem rI (e:Heq h h'){k:D}:∀ {es:List (D×D)}{i:Nat},bo h k es i=bo h' k es i
 | [],_=>rfl
 | (k',x)::es,i=>by simp only[bo,DA e,rI e (es:=es)]
theorem Be (e:Heq h h'){m:D}:nC h m=nC h' m:=by simp only[nC,e.get]
theorem xn (e:Heq h h'){t:TypeId}{m k:D}{ok:Bool}:fZ ti h t m k ok=fZ ti h' t m k ok:=by simp only[fZ,Be e,rI e]
theorem Ey (e:Heq h h'){ts:List TypeId}{x:D}:fw ti h ts x=fw ti h' ts x:=by simp only[fw,e.get]
theorem FU (e:Heq h h'){es:Nat}{x:D}:cE h es x=cE h' es x:=by simp only[cE,e.get]
theorem u7 (e:Heq h h'){src dst:TypeId}{x r:D}{h1:aB}(hr:bt P ti h src dst x=some (r,h1)):∃ h2,bt P ti h' src dst x=some (r,h2)∧Heq h1 h2:=by
 unfold bt at hr ⊢;split at hr
 ·split at hr
  ·split at hr
   ·obtain⟨d,h2,h3⟩:=Option.map_eq_some_iff.1 hr;simp only[kB] at h3;obtain⟨rfl,rfl⟩:=h3;exact⟨h',by simp[h2],e⟩
   ·cases hr
  ·simp only[kA,kB] at hr;obtain⟨rfl,rfl⟩:=hr;exact⟨h',rfl,e⟩
  ·split at hr
   ·unfold gN at hr ⊢;split at hr
    ·simp only[kA,kB] at hr;obtain⟨rfl,rfl⟩:=hr;exact⟨h',rfl,e⟩
    ·simp only[kA,kB] at hr;obtain⟨rfl,rfl⟩:=hr;exact⟨h',rfl,e⟩
    ·split at hr
     ·obtain⟨d,h2,h3⟩:=Option.map_eq_some_iff.1 hr;simp only[kB] at h3;obtain⟨rfl,rfl⟩:=h3;rename_i hc;exact⟨h',by simp[hc,h2],e⟩
     ·cases hr
    ·split at hr
     ·rename_i hes;rw[e.get] at hr;split at hr
      ·split at hr
       ·rename_i hle;obtain⟨d,h2,h3⟩:=Option.map_eq_some_iff.1 hr;simp only[kB] at h3;obtain⟨rfl,rfl⟩:=h3;exact⟨h',by simp[hes,hle,h2],e⟩
       ·cases hr
      ·cases hr
     ·cases hr
    ·cases hr
   ·cases hr
  ·cases hr
 ·cases hr
theorem Heq.putL (e:Heq h h'){i:Nat}{b:Box}:Heq (h.put i b) (h'.put i b):=⟨e.next,λj=>by rw[aB.get_put,aB.get_put,e.get]⟩
theorem Heq.setL (e:Heq h h'){i:Nat}{b:Box}:Heq (h.set i b) (h'.set i b):=⟨e.next,λj=>by rw[aB.get_set,aB.get_set,e.get,e.get]⟩
theorem Heq.delL (e:Heq h h'){i:Nat}:Heq (h.del i) (h'.del i):=⟨e.next,λj=>by rw[aB.get_del,aB.get_del,e.get]⟩
theorem zP (e:Heq h h'){t:TypeId}{a d:D}{h1:aB}(hr:iO ti h t a d=some h1):∃ h2,iO ti h' t a d=some h2∧Heq h1 h2:=by
 unfold iO at hr ⊢;split at hr
 ·split at hr
  ·rw[e.get] at hr;split at hr
   ·split at hr
    ·rename_i hc;simp only[kA] at hr;subst hr;exact⟨_,by rw[if_pos hc],e.setL⟩
    ·cases hr
   ·cases hr
  ·cases hr
 ·cases hr
theorem pC (e:Heq h h'){t:TypeId}{m k x:D}{h1:aB}(hr:fY ti h t m k x=some h1):∃ h2,fY ti h' t m k x=some h2∧Heq h1 h2:=by
 unfold fY at hr ⊢;split at hr
 ·split at hr
  ·split at hr
   ·rw[e.get] at hr;split at hr
    ·split at hr
     ·rename_i hc;rw[rI e] at hr;split at hr
      ·simp only[kA] at hr;subst hr;exact⟨_,by simp only[hc,if_true],e.setL⟩
      ·simp only[kA] at hr;subst hr;exact⟨_,by simp only[hc,if_true],e.setL⟩
      ·cases hr
     ·cases hr
    ·cases hr
   ·cases hr
  ·cases hr
 ·cases hr
theorem CU (e:Heq h h'){id:Nat}{u:TypeDesc}{ei:eH}{s x d:D}{h1:aB}(hr:rf h id u ei s x=some (d,h1)):∃ h2,rf h' id u ei s x=some (d,h2)∧Heq h1 h2:=by
 unfold rf at hr ⊢;split at hr
 ·split at hr
  ·rename_i hc;simp only[kA,kB] at hr;obtain⟨rfl,rfl⟩:=hr;exact⟨_,if_pos hc,e.putL⟩
  ·cases hr
 ·cases hr
theorem xp (e:Heq h h'){id:Nat}{ts:List TypeId}{s x d:D}{h1:aB}(hr:e9 ti h id ts s x=some (d,h1)):∃ h2,e9 ti h' id ts s x=some (d,h2)∧Heq h1 h2:=by
 unfold e9 at hr ⊢;split at hr
 ·split at hr
  ·split at hr
   ·split at hr
    ·split at hr
     ·rename_i hsu;rw[if_pos hsu];exact CU e hr
     ·rename_i hsu;rw[FU e] at hr;split at hr
      ·rename_i n xs _;rw[if_neg hsu];split at hr
       ·split at hr
        ·rename_i hn;simp only[kA,kB] at hr;obtain⟨rfl,rfl⟩:=hr;exact⟨h',by rw[if_pos hn],e⟩
        ·rename_i hn;split at hr
         ·rename_i hm;simp only[kA,kB] at hr;obtain⟨rfl,rfl⟩:=hr;exact⟨_,by rw[if_neg hn,if_pos hm],e.putL⟩
         ·cases hr
       ·split at hr
        ·rename_i hn;simp only[kA,kB] at hr;obtain⟨rfl,rfl⟩:=hr;exact⟨h',by rw[if_pos hn],e⟩
        ·rename_i hn;split at hr
         ·rename_i hm;simp only[kA,kB] at hr;obtain⟨rfl,rfl⟩:=hr;exact⟨_,by rw[if_neg hn,if_pos hm],e.putL⟩
         ·cases hr
       ·split at hr
        ·rename_i hes;rw[e.get] at hr;rw[if_pos hes];split at hr
         ·split at hr
          ·rename_i hm;split at hr
           ·rename_i hl;simp only[kA,kB] at hr;obtain⟨rfl,rfl⟩:=hr;exact⟨_,by rw[if_pos hm,if_pos hl],e.setL⟩
           ·cases hr
          ·rename_i hm;split at hr
           ·rename_i hl;simp only[kA,kB] at hr;obtain⟨rfl,rfl⟩:=hr;refine⟨_,by rw[if_neg hm,if_pos hl],?_⟩;split
            ·exact e.putL
            ·exact e.delL.putL
           ·cases hr
         ·cases hr
        ·cases hr
       ·cases hr
      ·cases hr
    ·cases hr
   ·cases hr
  ·cases hr
 ·cases hr
theorem uz (e:Heq h h'){tm:List D}{id:Nat}{o:Oper}{d:D}{h1:aB}(hc:∀ c,o.op=.call c->c.callee≠.builtin .copy) (ha:aop P ti tm h id o=some (d,h1)):∃ h2,aop P ti tm h' id o=some (d,h2)∧Heq h1 h2:=by
 cases hk:kind o with
 | pure=>
  have h2:=rY hk ha;have h3:=h2 h id;rw[ha] at h3;simp only[kA,kB,true_and] at h3;subst h3;exact⟨h',h2 h' id,e⟩
 | alloc=>
  obtain⟨box,h2⟩:=lV hk ha;have h3:=h2 h;rw[ha] at h3;simp only[kA,kB,true_and] at h3;subst h3;exact⟨_,h2 h',e.putL⟩
 | read=>
  obtain⟨dst,op,type,pos,after,guard⟩:=o;cases op<;>simp only[kind,reduceCtorEq] at hk<;>simp only[aop] at ha ⊢
  case load t a=>
   cases hx:ev tm a with
   | none=>simp[hx] at ha
   | some x=>
    simp only[hx] at ha ⊢;obtain⟨y,h2,h3⟩:=Option.map_eq_some_iff.1 ha;simp only[kB] at h3;obtain⟨rfl,rfl⟩:=h3;exact⟨h',by rw[<-oU e,h2];rfl,e⟩
  case lookup t x i ok=>
   cases hx:ev tm x with
   | none=>simp[hx] at ha
   | some a=>
    cases hy:ev tm i with
    | none=>simp[hx,hy] at ha
    | some b=>
     simp only[hx,hy] at ha ⊢;obtain⟨y,h2,h3⟩:=Option.map_eq_some_iff.1 ha;simp only[kB] at h3;obtain⟨rfl,rfl⟩:=h3;exact⟨h',by rw[<-xn e,h2];rfl,e⟩
  case convert s t x=>
   cases hx:ev tm x with
   | none=>simp[hx] at ha
   | some a=>
    simp only[hx] at ha ⊢;exact u7 e ha
  case call c=>
   cases hcal:c.callee with
   | builtin b=>
    rw[hcal] at hk;cases b<;>simp only[reduceCtorEq] at hk;simp only[hcal] at ha ⊢;cases hx:evs tm c.args.toList with
    | none=>simp[hx] at ha
    | some ds=>
     simp only[hx,ao] at ha ⊢;split at ha<;>first|(cases ha;done)|skip
     all_goals first
      | (obtain⟨y,h2,h3⟩:=Option.map_eq_some_iff.1 ha
         simp only[kB] at h3;obtain⟨rfl,rfl⟩:=h3
         exact⟨h',by rw[<-Ey e,h2];rfl,e⟩)
      | simp_all
   | _=>rw[hcal] at hk;simp at hk
 | write=>
  obtain⟨dst,op,type,pos,after,guard⟩:=o;cases op<;>simp only[kind,reduceCtorEq] at hk<;>simp only[aop] at ha ⊢<;>first|(cases ha;done)|skip
  case store t a x=>
   cases hx:ev tm a with
   | none=>simp[hx] at ha
   | some q=>
    cases hy:ev tm x with
    | none=>simp[hx,hy] at ha
    | some b=>
     simp only[hx,hy] at ha ⊢;obtain⟨y,h2,h3⟩:=Option.map_eq_some_iff.1 ha;simp only[kB] at h3;obtain⟨rfl,rfl⟩:=h3;obtain⟨h4,h5,h6⟩:=zP e h2;exact⟨h4,by rw[h5];rfl,h6⟩
  case range t x=>
   cases hx:ev tm x with
   | none=>simp[hx] at ha
   | some q=>
    simp only[hx] at ha ⊢;unfold u4 at ha ⊢;split at ha
    ·rename_i a m hta;split at ha
     ·rename_i kt et es hu hg;simp only[kA,kB] at ha;obtain⟨rfl,rfl⟩:=ha;simp only[hu,<-e.get,hg];exact⟨_,rfl,(e.delL).putL⟩
     ·cases ha
    ·cases ha
  case entry x=>
   cases hx:ev tm x with
   | none=>simp[hx] at ha
   | some q=>
    simp only[hx] at ha ⊢;obtain⟨y,h2,h3⟩:=Option.map_eq_some_iff.1 ha;simp only[kB] at h3;obtain⟨rfl,rfl⟩:=h3
    have:rg h' q=some y:=by rw[<-h2];simp only[rg,e.get]
    exact⟨h',by rw[this];rfl,e⟩
  case next x b=>
   cases b with
   | true=>cases ha
   | false=>
    simp only at ha ⊢;cases hx:ev tm x with
    | none=>simp[hx] at ha
    | some q=>
     simp only[hx] at ha ⊢;obtain⟨y,h2,h3⟩:=Option.map_eq_some_iff.1 ha;simp only[kB] at h3;obtain⟨rfl,rfl⟩:=h3
     have:rc h' q=some y:=by rw[<-h2];simp only[rc,e.get]
     exact⟨h',by rw[this];rfl,e⟩
  case mapUpdate t m k x=>
   cases hx:ev tm m with
   | none=>simp[hx] at ha
   | some q=>
    cases hy:ev tm k with
    | none=>simp[hx,hy] at ha
    | some b=>
     cases hz:ev tm x with
     | none=>simp[hx,hy,hz] at ha
     | some r=>
      simp only[hx,hy,hz] at ha ⊢;obtain⟨y,h2,h3⟩:=Option.map_eq_some_iff.1 ha;simp only[kB] at h3;obtain⟨rfl,rfl⟩:=h3;obtain⟨h4,h5,h6⟩:=pC e h2;exact⟨h4,by rw[h5];rfl,h6⟩
  case insert t m k x=>
   cases hx:ev tm m with
   | none=>simp[hx] at ha
   | some q=>
    cases hy:ev tm k with
    | none=>simp[hx,hy] at ha
    | some b=>
     cases hz:ev tm x with
     | none=>simp[hx,hy,hz] at ha
     | some r=>
      simp only[hx,hy,hz] at ha ⊢;obtain⟨y,h2,h3⟩:=Option.map_eq_some_iff.1 ha;simp only[kB] at h3;obtain⟨rfl,rfl⟩:=h3;obtain⟨h4,h5,h6⟩:=pC e h2;exact⟨h4,by rw[h5];rfl,h6⟩
  case call c=>
   cases hcal:c.callee with
   | builtin b=>
    simp only[hcal] at ha ⊢;cases hx:evs tm c.args.toList with
    | none=>simp[hx] at ha
    | some ds=>
     simp only[hx] at ha ⊢;cases b with
     | append=>
      simp only[ao] at ha ⊢;split at ha
      ·exact xp e asm
      all_goals first|(cases ha;done)|simp_all
     | copy=>exact absurd hcal (hc c rfl)
     | len=>rw[hcal] at hk;simp at hk
     | cap=>
      simp only[ao] at ha ⊢;split at ha
      ·split at ha
       ·obtain⟨d',h1',h2'⟩:=map_some ha;simp only[kB] at h2';obtain⟨rfl,rfl⟩:=h2';exact⟨_,by simp only[*,kF],e⟩
       ·cases ha
      ·cases ha
     | min=>rw[hcal] at hk;simp at hk
     | max=>rw[hcal] at hk;simp at hk
     | _=>simp[ao] at ha
   | _=>simp[hcal] at ha
end
end Go.Am
/-
 The abstract machine,part 46: regions that draw their order,over trees.
-/
namespace Go.Am
variable [GT]
abbrev HL:=List (Nat×HT×Nat)
abbrev RL:=List (Nat×Oper×Tr×D)
section
variable (P:Program) (ti:TI) (xc:XC) (n:Nat)
noncomputable def vD (t:Tr) (o:Oper) (d:D) (h:HT):Bool:=xop P ti n t h 0 o λd' _=>eqD d' d
noncomputable def tQ (m:Nat) (t:Tr) (o:Oper) (d:D) (l:HL):Bool:=
 List.rec (motive:=λ_=>Bool) true (λp _ ih=>ifB (vD P ti n t o d p.2.1) (ifB (p.1 == 0 || m.testBit (p.1-1)) true ih) false) l
noncomputable def mU (h:HT) (m:Nat) (l:RL):Bool:=
 List.rec (motive:=λ_=>Bool) true (λp _ ih=>ifB (m.testBit p.1) ih (ifB (vD P ti n p.2.2.1 p.2.1 p.2.2.2 h) ih false)) l
noncomputable def FK (base:Nat) (l:List (Nat×Box)) (h:HT):(HT->Bool)->Bool:=
 List.rec (motive:=λ_=>(HT->Bool)->Bool) (λK=>K h) (λp _ ih K=>ih λh'=>h'.putK (base+p.1) p.2 K) l
def alB (M:List Nat) (m:Nat) (hist:List Nat) (al:List Nat):Bool:=
 al.all λx=>!m.testBit x || hist.any λp=>p != 0&&(M.getD (p-1) 0).testBit x&&m.testBit (p-1)
noncomputable def xdstep (ops:Array Oper) (base:Nat) (M:List Nat) (o:Oper) (ih:Tr->HL->List (Nat×Box)->List Nat->RL->Bool) (j:Nat) (t:Tr) (hist:HL) (pend:List (Nat×Box)) (al:List Nat) (rd:RL):Bool:=
 ng n t ops o
  (match bL ops o with
  | .pure=>xop P ti n t .emp 0 o λd _=>iI n t o.dst d λt'=>ih t' hist pend al rd
  | .read=>
   match hist with
   | (tt,h,nx)::r=>xop P ti n t h 0 o λd _=>ifB (tt == 0 || (M.getD j 0).testBit (tt-1) || tQ P ti n (M.getD j 0) t o d r) (iI n t o.dst d λt'=>ih t' ((tt,h,nx)::r) pend al ((j,o,t,d)::rd)) false
   | []=>false
  | .alloc=>ifB (alB M (M.getD j 0) (hist.map (·.1)) al) (xop P ti n t .emp (base+j) o λd h'=>h'.getK (base+j) λbox=>iI n t o.dst d λt'=>ih t' hist ((j,box)::pend) (j::al) rd) false
  | .write=>
   match hist with
   | (tt,h,nx)::r=>ifB (tt == 0 || (M.getD j 0).testBit (tt-1)) (FK base (pend.filter λp=>(M.getD j 0).testBit p.1) h λhv=>
     lB P n t o
      (λk ds=>xc k ds hv nx λd h' nx'=>ifB (Nat.blt nx nx') (ifB (mU P ti n h' (M.getD j 0) rd) (iI n t o.dst d λt'=>ih t' ((j+1,h',nx')::(tt,h,nx)::r) (pend.filter λp=>!(M.getD j 0).testBit p.1) al rd) false) false)
      (ifB (match o.op with|.call c=>(match c.callee with|.builtin .copy=>false|_=>true)|_=>true) (xop P ti n t hv (base+j) o λd h'=>ifB (mU P ti n h' (M.getD j 0) rd) (iI n t o.dst d λt'=>ih t' ((j+1,h',nx)::(tt,h,nx)::r) (pend.filter λp=>!(M.getD j 0).testBit p.1) al rd) false) false)) false
   | []=>false)
  (iI n t o.dst aM λt'=>ih t' hist pend al rd)
noncomputable def xd (ops:Array Oper) (base:Nat) (M:List Nat) (l:List Oper):Nat->Tr->HL->List (Nat×Box)->List Nat->RL->(Tr->HL->List (Nat×Box)->Bool)->Bool:=
 List.rec (motive:=λ_=>Nat->Tr->HL->List (Nat×Box)->List Nat->RL->(Tr->HL->List (Nat×Box)->Bool)->Bool) (λ_ t hist pend _ _ K=>K t hist pend)
  (λo _ ih j t hist pend al rd K=>xdstep P ti xc n ops base M o (λt hist pend al rd=>ih (j+1) t hist pend al rd K) j t hist pend al rd) l
noncomputable def sI (ops:Array Oper) (t:Tr) (h:HT) (nx:Nat) (K:Tr->HT->Nat->Bool):Bool:=
 ifB (b6 ops) (xd P ti xc n ops nx (eE ops.toList []) ops.toList 0 t [(0,h,nx+ops.size)] [] [] [] λt' hist pend=>
  match hist with
  | (_,g,nx')::_=>FK nx pend g λg'=>K t' g' nx'
  | []=>false) false
end
inductive HRs:List (Nat×aB)->HL->Prop
 | nil:HRs [] []
 | cons {t:Nat} {g:aB} {h:HT} {nx:Nat} {l:List (Nat×aB)} {l':HL} (e:Heq g (h.heap nx)) (hs:HRs l l'):HRs ((t,g)::l) ((t,h,nx)::l')
inductive RRs (n:Nat):List (Nat×Oper×List D×D)->RL->Prop
 | nil:RRs n [] []
 | cons {r:Nat} {o:Oper} {t:Tr} {d:D} {l:List (Nat×Oper×List D×D)} {l':RL} (hs:RRs n l l'):RRs n ((r,o,tmL n t,d)::l) ((r,o,t,d)::l')
section
variable {P:Program}{ti:TI}{xc:XC}{n k:Nat}
theorem yj {o:Oper}(h:kind o=.read):∀ c,o.op=.call c->c.callee≠.builtin .copy:=λc hc hx=>by
 unfold kind at h;simp only[hc,hx] at h;cases h
theorem pf {t:Tr}{o:Oper}{d:D}{h:HT}{g:aB}{m:Nat}(hk:∀ c,o.op=.call c->c.callee≠.builtin .copy) (e:Heq g (h.heap m)) (hs:vD P ti n t o d h=true):cL P ti eqC (tmL n t) o d g=true:=by
 obtain⟨_,d',h1,h',e1,e2,e3⟩:=gG (m:=m) hs;rw[ko _ _ e3] at e1;obtain⟨h2,e4,_⟩:=uz e.symm hk e1;exact eX e4
theorem po {m:Nat}{t:Tr}{o:Oper}{d:D}(hk:∀ c,o.op=.call c->c.callee≠.builtin .copy):∀ {l:List (Nat×aB)}{l':HL},HRs l l'->tQ P ti n m t o d l'=true->bv P ti eqC m (tmL n t) o d l=true
 | _,_,.nil,_=>rfl
 | _,_,.cons (t:=tt) (g:=g) (h:=h) (nx:=nx) (l':=l') e hs,hx=>by
  replace hx:ifB (vD P ti n t o d h) (ifB (tt == 0 || m.testBit (tt-1)) true (tQ P ti n m t o d l')) false=true:=hx
  rcases aP hx with⟨h1,h2⟩|⟨_,h2⟩
  ·simp only[bv,kC];refine⟨pf hk e h1,?_⟩;rcases aP h2 with⟨h3,_⟩|⟨_,h4⟩
   ·simp only[kN] at h3 ⊢;exact .inl h3
   ·simp only[kN];exact .inr (po hk hs h4)
  ·cases h2
def RdOk (l:RL):Prop:=∀ p∈l,∀ c,p.2.1.op=.call c->c.callee≠.builtin .copy
theorem jA {h:HT}{g:aB}{m nx:Nat}(e:Heq g (h.heap nx)):∀ {l:List (Nat×Oper×List D×D)}{l':RL},RRs n l l'->RdOk l'->mU P ti n h m l'=true->gT P ti eqC g m l=true
 | _,_,.nil,_,_=>rfl
 | _,_,.cons (r:=r) (o:=o) (t:=t) (d:=d) (l':=l') hs,hr,hx=>by
  replace hx:ifB (m.testBit r) (mU P ti n h m l') (ifB (vD P ti n t o d h) (mU P ti n h m l') false)=true:=hx
  have hr':RdOk l':=λp hp=>hr p (by simp[hp])
  simp only[gT,kC,kN];rcases aP hx with⟨h1,h2⟩|⟨_,h2⟩
  ·exact⟨.inl h1,jA e hs hr' h2⟩
  ·rcases aP h2 with⟨h3,h4⟩|⟨_,h4⟩
   ·exact⟨.inr (pf (hr (r,o,t,d) si) e h3),jA e hs hr' h4⟩
   ·cases h4
theorem mX {base nx:Nat}{g:aB}{h:HT}(e:Heq g (h.heap nx)):∀ {l:List (Nat×Box)}{K:HT->Bool},FK base l h K=true->∃ h',Heq (dL base l g) (h'.heap nx)∧K h'=true
 | [],K,hs=>⟨h,e,hs⟩
 | p::l,K,hs=>by
  obtain⟨h',e1,e2⟩:=mX e (show FK base l h (λh'=>h'.putK (base+p.1) p.2 K)=true from hs);rw[HT.putK_eq] at e2;rw[nl];exact⟨_,e1.putL.trans Heq.put,e2⟩
theorem alB_al {M:List Nat}{m:Nat}{al:List Nat}{l:List (Nat×aB)}{l':HL}(hr:HRs l l'):alB M m (l'.map (·.1)) al=u3 M m l al:=by
 have:l'.map (·.1)=l.map (·.1):=by
  induction hr with
  | nil=>rfl
  | cons _ _ ih=>simp[ih]
 rw[this];unfold alB u3;simp[List.any_map,Function.comp_def]
structure CE where
 k:Cal
 ds:List D
 h:aB
 d:D
 h1:aB
def hdN:HL->Nat
 | (_,_,nx)::_=>nx
 | []=>0
theorem fa (X:XOk P xc) (hn:n<=2 ^ k) (ops:Array Oper) (base:Nat) (M:List Nat):∀ (l:List Oper) (j:Nat) (t:Tr) (hist:HL) (pend:List (Nat×Box)) (al:List Nat) (rd:RL) (K:Tr->HL->List (Nat×Box)->Bool) (hl:List (Nat×aB)) (rl:List (Nat×Oper×List D×D)),
  xd P ti xc n ops base M l j t hist pend al rd K=true->t.perf k->HRs hl hist->RRs n rl rd->RdOk rd ->
  ∃ (tbl:List CE) (s':DS) (t':Tr) (hist':HL),K t' hist' s'.pend=true∧s'.tm=tmL n t'∧t'.perf k∧HRs s'.hist hist'∧(∀ e∈tbl,CC P e.k e.ds e.h e.d e.h1∧hdN hist<=e.h.next)∧tbl.Pairwise (λa b=>a.h.next<b.h.next) ∧
   ∀ cl:Cl,(∀ e∈tbl,cl e.k e.ds e.h=some (e.d,e.h1))->dA P ti cl eqC ops base M l j ⟨tmL n t,hl,pend,al,rl⟩=some s'
 | [],j,t,hist,pend,al,rd,K,hl,rl,hs,hp,hh,hr,hro=>⟨[],⟨tmL n t,hl,pend,al,rl⟩,t,hist,hs,rfl,hp,hh,λe he=>by simp at he,.nil,λ_ _=>rfl⟩
 | o::l,j,t,hist,pend,al,rd,K,hl,rl,hs,hp,hh,hr,hro=>by
  rcases sF (show ng n t ops o _ _=true from hs) with⟨hw,hs⟩|⟨hw,hs⟩
  ·cases hk:bL ops o with
   | pure=>
    simp only[hk] at hs;obtain⟨hac,d,h1,h',e1,e2,e3⟩:=gG (m:=0) hs;obtain⟨t',f1,f2,f3⟩:=dw hp hn e3;obtain⟨tbl,s',t2,hist',g1,g2,g3,g4,g5,g6,g7⟩:=fa X hn ops base M l (j+1) t' hist pend al rd K hl rl f3 f2 hh hr hro;refine⟨tbl,s',t2,hist',g1,g2,g3,g4,g5,g6,λcl hcl=>?_⟩;have e1':aop P ti (tmL n t) ⟨0,[]⟩ 0 o=some (d,h1):=e1;simp only[dA,cO,hw,hk,e1',f1];exact g7 cl hcl
   | read=>
    simp only[hk] at hs;cases hh with
    | nil=>cases hs
    | @cons tt g h nx hl' hist0 e hhs=>
     simp only at hs;obtain⟨hac,d,h1,h',e1,e2,e3⟩:=gG (m:=nx) hs;rcases aP e3 with⟨q1,q2⟩|⟨_,q2⟩
     ·obtain⟨t',f1,f2,f3⟩:=dw hp hn q2;obtain⟨h2,e4,_⟩:=uz e.symm (yj (jQ hk)) e1
      obtain⟨tbl,s',t2,hist',g1,g2,g3,g4,g5,g6,g7⟩:=fa X hn ops base M l (j+1) t' _ pend al _ K ((tt,g)::hl') ((j,o,tmL n t,d)::rl) f3 f2 (.cons e hhs) (.cons hr) (λp hp'=>by
       rcases List.mem_cons.1 hp' with rfl|hp'
       ·exact yj (jQ hk)
       ·exact hro p hp')
      have hro':bv P ti eqC (M.getD j 0) (tmL n t) o d ((tt,g)::hl')=true:=by
       simp only[bv,kC];refine⟨eX e4,?_⟩;simp only[kN] at q1 ⊢;rcases q1 with q1|q1
       ·exact .inl q1
       ·exact .inr (po (yj (jQ hk)) hhs q1)
      refine⟨tbl,s',t2,hist',g1,g2,g3,g4,g5,g6,λcl hcl=>?_⟩;simp only[dA,cO,hw,hk,e4,hro',if_true,f1];exact g7 cl hcl
     ·cases q2
   | alloc=>
    simp only[hk] at hs;rcases aP hs with⟨q1,q2⟩|⟨_,q2⟩
    ·rw[alB_al hh] at q1;obtain⟨hac,d,h1,h',e1,e2,e3⟩:=gG (m:=0) q2;obtain⟨box,hb,e3⟩:=HT.getK_some e3;obtain⟨t',f1,f2,f3⟩:=dw hp hn e3;obtain⟨tbl,s',t2,hist',g1,g2,g3,g4,g5,g6,g7⟩:=fa X hn ops base M l (j+1) t' hist _ _ rd K hl rl f3 f2 hh hr hro;refine⟨tbl,s',t2,hist',g1,g2,g3,g4,g5,g6,λcl hcl=>?_⟩;have e1':aop P ti (tmL n t) ⟨0,[]⟩ (base+j) o=some (d,h1):=e1;have hb':h1.get (base+j)=some box:=by rw[e2.get,HT.heap_get];exact hb
     simp only[dA,cO,hw,hk,e1',hb',q1,if_true,f1];exact g7 cl hcl
    ·cases q2
   | write=>
    simp only[hk] at hs;cases hh with
    | nil=>cases hs
    | @cons tt g h nx hl' hist0 e hhs=>
     simp only at hs;rcases aP hs with⟨q1,q2⟩|⟨_,q2⟩
     ·obtain⟨hv,ev1,q2⟩:=mX e q2;rcases pz q2 with⟨q,ds,hac,q2⟩|q2
      ·obtain⟨d,h',nx',hcc,q2⟩:=X _ _ _ _ _ q2;rcases aP q2 with⟨q3,q2⟩|⟨_,q2⟩
       ·rcases aP q2 with⟨q4,q2⟩|⟨_,q2⟩
        ·obtain⟨t',f1,f2,f3⟩:=dw hp hn q2;have hpm:=jA (P:=P) (ti:=ti) (Heq.refl (h'.heap nx')) hr hro q4;obtain⟨tbl,s',t2,hist',g1,g2,g3,g4,g5,g6,g7⟩:=fa X hn ops base M l (j+1) t' _ _ al rd K ((j+1,h'.heap nx')::(tt,g)::hl') rl f3 f2 (.cons (Heq.refl _) (.cons e hhs)) hr hro;have hlt:nx<nx':=by simpa [Nat.blt_eq] using q3
         have hvn:(dL base (pend.filter λp=>(M.getD j 0).testBit p.1) g).next=nx:=ev1.next;refine⟨⟨q,ds,dL base (pend.filter λp=>(M.getD j 0).testBit p.1) g,d,h'.heap nx'⟩::tbl,s',t2,hist',g1,g2,g3,g4,λx hx=>?_,?_,λcl hcl=>?_⟩
         ·rcases List.mem_cons.1 hx with rfl|hx
          ·exact⟨hcc.congr ev1.symm (Heq.refl _),by rw[hvn];exact kP _⟩
          ·exact⟨(g5 x hx).1,by have:=(g5 x hx).2;simp only[hdN] at this ⊢;omega⟩
         ·refine .cons (λx hx=>?_) g6;have:=(g5 x hx).2
          simp only[hdN] at this;rw[hvn];omega
         ·have hc:=hcl _ (List.mem_cons_self ..)
          have hst:bU P ti cl (tmL n t) (dL base (pend.filter λp=>(M.getD j 0).testBit p.1) g) (base+j) o=some (d,h'.heap nx'):=by
           unfold bU;rw[hac];simp only[hc]
          simp only[dA,cO,hw,hk,q1,if_true,hst,hpm,f1];exact g7 cl λx hx=>hcl x (by simp[hx])
        ·cases q2
       ·cases q2
      ·rcases aP q2 with⟨q5,q2⟩|⟨_,q2⟩
       ·have hnc:∀ c,o.op=.call c->c.callee≠.builtin .copy:=λc hc hx=>by simp only[hc,hx] at q5;cases q5
        obtain⟨hac,d,h1,h',e1,e2,e3⟩:=gG (m:=nx) q2;rcases aP e3 with⟨q4,q2⟩|⟨_,q2⟩
        ·obtain⟨t',f1,f2,f3⟩:=dw hp hn q2;obtain⟨h2,e4,e5⟩:=uz ev1.symm hnc e1;have e6:Heq h2 (h'.heap nx):=e5.symm.trans e2;have hpm:=jA (P:=P) (ti:=ti) e6 hr hro q4;obtain⟨tbl,s',t2,hist',g1,g2,g3,g4,g5,g6,g7⟩:=fa X hn ops base M l (j+1) t' _ _ al rd K ((j+1,h2)::(tt,g)::hl') rl f3 f2 (.cons e6 (.cons e hhs)) hr hro;refine⟨tbl,s',t2,hist',g1,g2,g3,g4,λx hx=>⟨(g5 x hx).1,by have:=(g5 x hx).2;simpa only[hdN] using this⟩,g6,λcl hcl=>?_⟩
         have hst:bU P ti cl (tmL n t) (dL base (pend.filter λp=>(M.getD j 0).testBit p.1) g) (base+j) o=some (d,h2):=by
          unfold bU;rw[hac];exact e4
         simp only[dA,cO,hw,hk,q1,if_true,hst,hpm,f1];exact g7 cl hcl
        ·cases q2
       ·cases q2
     ·cases q2
  ·obtain⟨t',f1,f2,f3⟩:=dw hp hn hs;obtain⟨tbl,s',t2,hist',g1,g2,g3,g4,g5,g6,g7⟩:=fa X hn ops base M l (j+1) t' hist pend al rd K hl rl f3 f2 hh hr hro;refine⟨tbl,s',t2,hist',g1,g2,g3,g4,g5,g6,λcl hcl=>?_⟩;simp only[dA,cO,hw,f1];exact g7 cl hcl
end
end Go.Am
/-
 The abstract machine,part 47: code and calls over trees.
-/
namespace Go.Am
variable [GT]
noncomputable def clT (tbl:List CE):Cl:=λk ds h=>open Classical in
 match tbl.find? (λe=>decide (e.k=k∧e.ds=ds∧e.h=h)) with
 | some e=>some (e.d,e.h1)
 | none=>none
theorem Eh {P:Program}{tbl:List CE}(h:∀ e∈tbl,CC P e.k e.ds e.h e.d e.h1):gm P (clT tbl):=λk ds h0 d h1 hx=>by
 unfold clT at hx;split at hx
 ·rename_i e he;have h1:=List.find?_some he;simp only[decide_eq_true_eq] at h1;simp only[kA,kB] at hx;obtain⟨rfl,rfl⟩:=hx;obtain⟨rfl,rfl,rfl⟩:=h1;exact h e (List.mem_of_find?_eq_some he)
 ·cases hx
theorem zu:∀ {l:List CE},l.Pairwise (λa b=>a.h.next<b.h.next)->∀ a b,a∈l->b∈l->a.h.next=b.h.next->a=b
 | [],_,a,b,ha,_,_=>by simp at ha
 | x::l,hp,a,b,ha,hb,he=>by
  cases hp with
  | cons h1 h2=>
   rcases List.mem_cons.1 ha with ea|ma<;>rcases List.mem_cons.1 hb with eb|mb
   ·rw[ea,eb]
   ·have:=h1 b mb;rw[ea] at he;omega
   ·have:=h1 a ma;rw[eb] at he;omega
   ·exact zu h2 a b ma mb he
theorem Af {tbl:List CE}(hp:tbl.Pairwise (λa b=>a.h.next<b.h.next)){e:CE}(he:e∈tbl):clT tbl e.k e.ds e.h=some (e.d,e.h1):=by
 unfold clT;split
 ·rename_i e' he';have h1:=List.find?_some he';simp only[decide_eq_true_eq] at h1;have:=zu hp e' e (List.mem_of_find?_eq_some he') he (by rw[h1.2.2])
  rw[this]
 ·rename_i hn;have:=List.find?_eq_none.1 hn e he
  simp at this
abbrev sT (n:Nat) (t:Tr) (h:HT) (nx:Nat):St:=⟨tmL n t,h.heap nx⟩
section
open Go
variable {F:Fence}{n:Nat}{P:Program}{Q:Exit->Act->World->Prop}{a:Act}{w:World}
theorem eL {b:Frame}{k:List Item}{cs:List Frame}{c:Code}:step P (lone (b.atR a (.code (.scope c)::k)) cs w)=.next (lone (b.atR a (.code c::.inScope c::k)) cs w):=
 step_lone_go (by simp[stepG,stepG.exec,Frame.atR])
theorem rv {b:Frame}{k:List Item}{cs:List Frame}{c:Code}:step P (lone (b.atR a (.inScope c::k)) cs w)=.next (lone (b.atR a k) cs w):=
 step_lone_go (by simp[stepG,stepG.exec,Frame.atR])
theorem p9 {c:Code}(h:c.wpIn F n P Q a w) (hg:∀ l a w,¬Q (.goto l) a w):(Code.scope c).wpIn F n P Q a w:=by
 intro b k cs hro hb hr;have h0:(lone (b.atR a (.code (.scope c)::k)) cs w).fenced P F:=fenced_calm hb hr rfl;obtain⟨e,a₁,w₁,hq,harr⟩:=h b (.inScope c::k) cs hro hb hr;cases e with
 | normal=>exact⟨.normal,a₁,w₁,hq,.head h0 eL (StepsIn.trans harr (.one (fenced_calm hb hr rfl) rv))⟩
 | exit id'=>
  have hx:exitTo id' (.inScope c::k)=exitTo id' k:=by simp[exitTo]
  exact⟨.exit id',a₁,w₁,hq,λk' hk=>.head h0 eL (harr.1 k' (by rw[hx];exact hk)),
   λhr' hk=>let⟨k₁,h1,h2⟩:=harr.2 hr' (by rw[hx];exact hk);⟨k₁,h1,.head h0 eL h2⟩⟩
 | goto l=>exact absurd hq (hg l _ _)
 | ret=>exact⟨_,a₁,w₁,hq,.of_steps (.one h0 eL) harr⟩
 | panic ch=>exact⟨_,a₁,w₁,hq,.of_steps (.one h0 eL) harr⟩
 | outgrown=>exact⟨_,a₁,w₁,hq,.of_steps (.one h0 eL) harr⟩
end
def CW (P:Program) (top:Bool) (code:Code) (s:St) (df:List DE) (e:Exit) (s':St) (df':List DE):Prop:=
 ∀ (ro:Option Nat) (m:Nat),(top=true->ro=none)->∀ (c:Ctx) (a:Act) (Q:Exit->Act->World->Prop),Fit c s a->DRs c df a.defers ->
  (∀ c' a',Fit c' s' a'->aZ c s.h c' s'.h->(∀ j,j<s.h.next->c'.φ j=c.φ j)->DRs c' df' a'.defers->Q e a' c'.w)->code.wpIn (WF ro) m P Q a c.w
def RW (P:Program) (top:Bool) (r:Nat) (code:Code) (s:St) (df:List DE) (e:Exit) (s':St) (df':List DE):Prop:=
 ∀ (ro:Option Nat) (m:Nat),(top=true->ro=none)->∀ (c:Ctx) (a:Act) (Q:Exit->Act->World->Prop),Fit c s a->DRs c df a.defers ->
  (∀ c' a',Fit c' s' a'->aZ c s.h c' s'.h->(∀ j,j<s.h.next->c'.φ j=c.φ j)->DRs c' df' a'.defers->Q e a' c'.w)->Code.roundsIn (WF ro) m P code Q r a c.w
section
variable {P:Program}{ti:TI}{xc:XC}{n k:Nat}{top:Bool}
theorem CW.seq {x y:Code}{s s1 s':St}{df df1 df':List DE}{e:Exit}(h1:CW P top x s df .normal s1 df1) (h2:CW P top y s1 df1 e s' df'):CW P top (.seq x y) s df e s' df':=λro m hro c a Q hf hd hQ=>by
 refine wpIn_seq (h1 ro m hro c a _ hf hd λc1 a1 f1 g1 p1 d1=>h2 ro m hro c1 a1 Q f1 d1 λc2 a2 f2 g2 p2 d2=>hQ c2 a2 f2 (g1.trans g2) (λj hj=>?_) d2);have:=g1.next
 rw[p2 j om,p1 j hj]
theorem CW.seqX {x y:Code}{s s1:St}{df df1:List DE}{e:Exit}(h1:CW P top x s df e s1 df1) (hne:e≠.normal):CW P top (.seq x y) s df e s1 df1:=λro m hro c a Q hf hd hQ=>by
 refine wpIn_seq (h1 ro m hro c a _ hf hd λc1 a1 f1 g1 p1 d1=>?_);have:=hQ c1 a1 f1 g1 p1 d1
 cases e<;>first|exact absurd rfl hne|exact this
theorem CW.cond {o:Operand}{x y:Code}{b:Bool}{s s':St}{df df':List DE}{e:Exit}(hc:ev s.tmps o=some (.v (.bool b))) (h:CW P top (if b then x else y) s df e s' df'):CW P top (.cond o x y) s df e s' df':=λro m hro c a Q hf hd hQ=>by
 have hb:=aI hf.rel.inv hf.tmps hc;simp only[V] at hb;exact wpIn_cond hb.2 (h ro m hro c a Q hf hd hQ)
theorem CW.block {id:Nat}{x:Code}{s s':St}{df df':List DE}{e:Exit}(h:CW P top x s df e s' df'):CW P top (.block id x) s df (mO id e) s' df':=λro m hro c a Q hf hd hQ=>by
 refine wpIn_block (h ro m hro c a _ hf hd λc1 a1 f1 g1 p1 d1=>?_);have:=hQ c1 a1 f1 g1 p1 d1
 cases e with
 | exit i=>
  simp only[Exit.inBlock];simp only[mO] at this;split
  ·rename_i hi;rwa [if_pos hi] at this
  ·rename_i hi;rwa [if_neg hi] at this
 | _=>exact this
theorem CW.scope {x:Code}{s s':St}{df df':List DE}{e:Exit}(h:CW P top x s df e s' df') (hne:∀ l,e≠.goto l):CW P top (.scope x) s df e s' df':=λro m hro c a Q hf hd hQ=>
 iQ (p9 (Q:=λe' a w=>e'=e∧Q e' a w) (h ro m hro c a _ hf hd λc1 a1 f1 g1 p1 d1=>⟨rfl,hQ c1 a1 f1 g1 p1 d1⟩) λl _ _ h=>hne l h.1.symm) λ_ _ _ h=>h.2
theorem CW.loop {r:Nat}{x:Code}{s s':St}{df df':List DE}{e:Exit}(h:RW P top r x s df e s' df'):CW P top (.loop x) s df e s' df':=λro m hro c a Q hf hd hQ=>wpIn_loop_rounds _ (h ro m hro c a Q hf hd hQ)
theorem RW.next {r:Nat}{x:Code}{s s1 s':St}{df df1 df':List DE}{e:Exit}(h1:CW P top x s df .normal s1 df1) (h2:RW P top r x s1 df1 e s' df'):RW P top (r+1) x s df e s' df':=λro m hro c a Q hf hd hQ=>by
 refine h1 ro m hro c a _ hf hd λc1 a1 f1 g1 p1 d1=>h2 ro m hro c1 a1 Q f1 d1 λc2 a2 f2 g2 p2 d2=>hQ c2 a2 f2 (g1.trans g2) (λj hj=>?_) d2
 have:=g1.next
 rw[p2 j om,p1 j hj]
theorem RW.stop {r:Nat}{x:Code}{s s1:St}{df df1:List DE}{e:Exit}(h1:CW P top x s df e s1 df1) (hne:e≠.normal):RW P top (r+1) x s df e s1 df1:=λro m hro c a Q hf hd hQ=>by
 refine h1 ro m hro c a _ hf hd λc1 a1 f1 g1 p1 d1=>?_
 have:=hQ c1 a1 f1 g1 p1 d1
 cases e<;>first|exact absurd rfl hne|exact this
theorem pP (T:TOk P ti) (X:XOk P xc) (hn:n<=2 ^ k) (ops:Array Oper):∀ (l:List Oper) (t:Tr) (h:HT) (nx:Nat) (K:Tr->HT->Nat->Bool),vE P ti xc n ops l t h nx K=true->t.perf k ->
  ∃ t' h' nx',K t' h' nx'=true∧t'.perf k∧∀ (ro:Option Nat) (m:Nat) (l2:List Oper) (c:Ctx) (a:Act) (Q:Exit->Act->World->Prop),Fit c (sT n t h nx) a ->
   (∀ c' a',Fit c' (sT n t' h' nx') a'->aZ c (h.heap nx) c' (h'.heap nx')->(∀ j,j<nx->c'.φ j=c.φ j)->a'.defers=a.defers->wpListIn (WF ro) m P ops Q l2 a' c'.w)->wpListIn (WF ro) m P ops Q (l++l2) a c.w
 | [],t,h,nx,K,hr,hp=>⟨t,h,nx,hr,hp,λro m l2 c a Q hfit hQ=>hQ c a hfit (aZ.refl _ _) (λ_ _=>rfl) rfl⟩
 | o::l,t,h,nx,K,hr,hp=>by
  replace hr:CZ P ti xc n ops o t h nx (λt h nx=>vE P ti xc n ops l t h nx K)=true:=hr
  unfold CZ at hr;rcases sF hr with⟨hw,hs⟩|⟨hw,hs⟩
  ·obtain⟨cl,hcl,d,h1,t',h',nx',hd,he,e1,e2,hk⟩:=xone (K:=λt h nx=>vE P ti xc n ops l t h nx K) X hp hn hs;obtain⟨t2,h2,nx2,k1,k2,k3⟩:=pP T X hn ops l t' h' nx' K hk e2;refine⟨t2,h2,nx2,k1,k2,λro m l2 c a Q hfit hQ=>?_⟩;simp only[List.cons_append,wpListIn];rw[bO hfit.tmps hw,if_pos rfl];refine jz T hcl (h:=bump (h.heap nx) 1) (id:=nx) hfit.rel.bump (hfit.rel.fresh _ (kP _)) (by simp[bump,HT.heap]) hfit.tmps hd λv c' q1 q2 q3 q4=>?_
   have hput:=bg (dst:=o.dst) (VS.keep q3.keeps _ _ hfit.tmps) q1;rw[e1] at hput;refine k3 ro m l2 c' (a.put o.dst v) Q ⟨q2.congr he,hput⟩ λc2 a2 f2 g2 p2 df2=>?_
   refine hQ c2 a2 f2 ((q3.bump.congr (Heq.refl _) he).trans g2) (λj hj=>?_) (by rw[df2];cases o.dst<;>rfl);have hnx:nx+1<=nx':=by have:=q3.next;have:=he.next;simp only[bump,HT.heap] at *;omega
   rw[p2 j om,q4 j (by simp only[bump,HT.heap];omega) om]
  ·obtain⟨t',e1,e2,hk⟩:=dw hp hn hs;obtain⟨t2,h2,nx2,k1,k2,k3⟩:=pP T X hn ops l t' h nx K hk e2;refine⟨t2,h2,nx2,k1,k2,λro m l2 c a Q hfit hQ=>?_⟩;simp only[List.cons_append,wpListIn];rw[bO hfit.tmps hw,if_neg si];have hput:=bg (dst:=o.dst) hfit.tmps (V.undef (c:=c));rw[e1] at hput;refine⟨λ_ _=>trivial,k3 ro m l2 c (a.put o.dst undef) Q ⟨hfit.rel,hput⟩ λc2 a2 f2 g2 p2 df2=>?_⟩;exact hQ c2 a2 f2 g2 p2 (by rw[df2];cases o.dst<;>rfl)
theorem FE (T:TOk P ti) (X:XOk P xc) (hn:n<=2 ^ k){id:Nat}{ops:Array Oper}{t:Tr}{h:HT}{nx:Nat}{K:Tr->HT->Nat->Bool}(df:List DE) (hs:vE P ti xc n ops ops.toList t h nx K=true) (hp:t.perf k) :
  ∃ t' h' nx',K t' h' nx'=true∧t'.perf k∧CW P top (.region id ops false) (sT n t h nx) df .normal (sT n t' h' nx') df:=by
 obtain⟨t',h',nx',k1,k2,k3⟩:=pP T X hn ops _ t h nx K hs hp;refine⟨t',h',nx',k1,k2,λro m hro c a Q hf hd hQ=>wpIn_region_list ?_⟩;have:=k3 ro m [] c a Q hf λc' a' f1 g1 p1 d1=>hQ c' a' f1 g1 p1 (by rw[d1];exact DRs.keep g1.keeps _ _ hd)
 simpa using this
theorem Cc (hm:P.follows .mixedOrders=true) (T:TOk P ti) (X:XOk P xc) (hn:n<=2 ^ k){id:Nat}{ops:Array Oper}{t:Tr}{h:HT}{nx:Nat}{K:Tr->HT->Nat->Bool}(df:List DE) (hs:sI P ti xc n ops t h nx K=true) (hp:t.perf k) :
  ∃ t' h' nx',K t' h' nx'=true∧t'.perf k∧CW P top (.region id ops true) (sT n t h nx) df .normal (sT n t' h' nx') df:=by
 rcases aP hs with⟨hok,hs⟩|⟨_,h0⟩
 ·obtain⟨tbl,s',t',hist',g1,g2,g3,g4,g5,g6,g7⟩:=fa X hn ops nx _ _ 0 t _ _ _ _ _ [(0,bump (h.heap nx) ops.size)] [] hs hp (.cons (Heq.refl _) .nil) .nil (λp hp=>by simp at hp);have hr:=g7 (clT tbl) λe he=>Af g6 he
  obtain⟨stm,shist,spend,sal,srd⟩:=s';simp only at g1 g2 g4;cases g4 with
  | nil=>cases g1
  | @cons tt g hg nx' hl hl' e hs'=>
   simp only at g1;obtain⟨hv,e1,e2⟩:=mX e g1;refine⟨t',hv,nx',e2,g3,λro m hro c a Q hf hd hQ=>?_⟩
   have hd':bp P ti (clT tbl) eqC ops (sT n t h nx)=some ⟨stm,dL nx spend g⟩:=by
    unfold bp;have hr':dA P ti (clT tbl) eqC ops (sT n t h nx).h.next (eE ops.toList []) ops.toList 0 ⟨(sT n t h nx).tmps,[(0,bump (sT n t h nx).h ops.size)],[],[],[]⟩=some ⟨stm,(tt,g)::hl,spend,sal,srd⟩:=hr;rw[hr'];rfl
   refine fO hm T (Eh λe he=>(g5 e he).1) mI hok hd' hf λc' a' f1 g1' p1 d1=>?_
   refine hQ c' a' ⟨f1.rel.congr e1,by have:=f1.tmps;rw[g2] at this;exact this⟩ (g1'.congr (Heq.refl _) e1) p1 (by rw[d1];exact DRs.keep g1'.keeps _ _ hd)
 ·cases h0
end
end Go.Am
/-
 The abstract machine,part 60: regions over trees in which two writes may come in either order.
-/
namespace Go.Am
variable [GT]
def CA {α:Type}(f:α->α->Bool) (a b:N4 α):Bool:=f a.a b.a&&(f a.b b.b&&(f a.c b.c&&f a.d b.d))
theorem pZ {α:Type}{f:α->α->Bool}(hf:∀ a b,f a b=true->a=b):∀ a b:N4 α,CA f a b=true->a=b
 | ⟨_,_,_,_⟩,⟨_,_,_,_⟩,h=>by
  simp only[CA,kC] at h;rw[hf _ _ h.1,hf _ _ h.2.1,hf _ _ h.2.2.1,hf _ _ h.2.2.2]
def eqTr (a b:Tr):Bool:=CA (CA (CA (CA eqD))) a b
theorem GX {a b:Tr}(h:eqTr a b=true):a=b:=pZ (pZ (pZ (pZ ko))) a b h
def pL:HT->HT->Bool
 | .emp,.emp=>true
 | .lf k b,.lf j c=>Nat.beq k j&&eqB b c
 | .nd l r,.nd l2 r2=>pL l l2&&pL r r2
 | _,_=>false
theorem ue:∀ {a b:HT},pL a b=true->a=b
 | .emp,.emp,_=>rfl
 | .lf k b,.lf j c,h=>by
  simp only[pL,kC,Nat.beq_eq] at h;rw[h.1,eqB_eq h.2]
 | .nd l r,.nd l2 r2,h=>by
  simp only[pL,kC] at h;rw[ue h.1,ue h.2]
 | .emp,.lf ..,h=>by simp[pL] at h
 | .emp,.nd ..,h=>by simp[pL] at h
 | .lf ..,.emp,h=>by simp[pL] at h
 | .lf ..,.nd ..,h=>by simp[pL] at h
 | .nd ..,.emp,h=>by simp[pL] at h
 | .nd ..,.lf ..,h=>by simp[pL] at h
def C5 (ops:Array Oper) (x y:Nat):Bool:=Nat.blt x ops.size&&(Nat.blt y ops.size&&(!Nat.beq x y&&(uJ id id ops&&uJ (upP x y) (upQ x y) ops)))
section
variable (P:Program) (ti:TI) (xc:XC) (n:Nat)
noncomputable def tS (ops:Array Oper) (t:Tr) (h:HT) (nx:Nat) (K:Tr->HT->Nat->Bool):Bool:=
 match FW ops with
 | none=>sI P ti xc n ops t h nx K
 | some (x,y)=>ifB (C5 ops x y) (sI P ti xc n (mD id id x y ops) t h nx λt1 h1 n1=>sI P ti xc n (mD (upP x y) (upQ x y) y x ops) t h nx λt2 h2 n2=>ifB (eqTr t1 t2&&(pL h1 h2&&Nat.beq n1 n2)) (K t1 h1 n1) false) false
end
section
variable {P:Program}{ti:TI}{xc:XC}{n k:Nat}{top:Bool}
theorem ni (X:XOk P xc) (hn:n<=2 ^ k){ops:Array Oper}{t:Tr}{h:HT}{nx:Nat}{K:Tr->HT->Nat->Bool}(hs:sI P ti xc n ops t h nx K=true) (hp:t.perf k) :
  b6 ops=true∧∃ (cl:Cl) (s':St) (t':Tr) (h':HT) (nx':Nat),gm P cl∧bp P ti cl eqC ops (sT n t h nx)=some s'∧s'.tmps=tmL n t'∧Heq s'.h (h'.heap nx')∧t'.perf k∧K t' h' nx'=true:=by
 rcases aP hs with⟨hok,hs⟩|⟨_,h0⟩
 ·obtain⟨tbl,s',t',hist',g1,g2,g3,g4,g5,g6,g7⟩:=fa X hn ops nx _ _ 0 t _ _ _ _ _ [(0,bump (h.heap nx) ops.size)] [] hs hp (.cons (Heq.refl _) .nil) .nil (λp hp=>by simp at hp);have hr:=g7 (clT tbl) λe he=>Af g6 he
  obtain⟨stm,shist,spend,sal,srd⟩:=s';simp only at g1 g2 g4;cases g4 with
  | nil=>cases g1
  | @cons tt g hg nx' hl hl' e hs'=>
   simp only at g1;obtain⟨hv,e1,e2⟩:=mX e g1;refine⟨hok,clT tbl,⟨stm,dL nx spend g⟩,t',hv,nx',Eh λe he=>(g5 e he).1,?_,g2,e1,g3,e2⟩;unfold bp;have hr':dA P ti (clT tbl) eqC ops (sT n t h nx).h.next (eE ops.toList []) ops.toList 0 ⟨(sT n t h nx).tmps,[(0,bump (sT n t h nx).h ops.size)],[],[],[]⟩=some ⟨stm,(tt,g)::hl,spend,sal,srd⟩:=hr;rw[hr'];rfl
 ·cases h0
theorem Ax (hm:P.follows .mixedOrders=true) (T:TOk P ti) (X:XOk P xc) (hn:n<=2 ^ k){id':Nat}{ops:Array Oper}{t:Tr}{h:HT}{nx:Nat}{K:Tr->HT->Nat->Bool}(df:List DE) (hs:tS P ti xc n ops t h nx K=true) (hp:t.perf k) :
  ∃ t' h' nx',K t' h' nx'=true∧t'.perf k∧CW P top (.region id' ops true) (sT n t h nx) df .normal (sT n t' h' nx') df:=by
 unfold tS at hs;split at hs
 ·exact Cc hm T X hn df hs hp
 ·rename_i x y hxy;rcases aP hs with⟨hb,hs⟩|⟨_,h0⟩
  ·simp only[C5,kC,Nat.blt_eq,Bool.not_eq_true'] at hb;obtain⟨b1,b2,b3,b4,b5⟩:=hb;obtain⟨o1,cl1,⟨tm1,hp1⟩,t1,h1,n1,c1,r1,e1,e2,e3,e4⟩:=ni X hn hs hp;obtain⟨o2,cl2,⟨tm2,hp2⟩,t2,h2,n2,c2,r2,f1,f2,f3,f4⟩:=ni X hn e4 hp;rcases aP f4 with⟨hq,hK⟩|⟨_,h0⟩
   ·simp only[kC,Nat.beq_eq] at hq;obtain⟨q1,q2,q3⟩:=hq;have q1:=GX q1;have q2:=ue q2;subst q1 q2 q3;refine⟨t1,h1,n1,hK,e3,λro m hro c a Q hf hd hQ=>?_⟩
    exact EV hm T c1 c2 mI b1 b2 (λe=>by subst e;simp at b3) b4 b5 o1 o2 r1 r2 hf
     (λc' a' f1' g1' p1 d1=>hQ c' a' ⟨f1'.rel.congr e2,by have:=f1'.tmps;rw[e1] at this;exact this⟩ (g1'.congr (Heq.refl _) e2) p1 (by rw[d1];exact DRs.keep g1'.keeps _ _ hd))
     (λc' a' f1' g1' p1 d1=>hQ c' a' ⟨f1'.rel.congr f2,by have:=f1'.tmps;rw[f1] at this;exact this⟩ (g1'.congr (Heq.refl _) f2) p1 (by rw[d1];exact DRs.keep g1'.keeps _ _ hd))
   ·cases h0
  ·cases h0
end
end Go.Am
/-
 The abstract machine,part 48: code and calls over trees,carried out.
-/
namespace Go.Am
variable [GT]
def rN (ops:Array Oper):Option (Oper×Call×Operand):=
 match ops.toList.getLast? with
 | some o=>
  match o.op with
  | .defer cc=>
   match cc.callee with
   | .value f=>(match o.guard with|none=>some (o,cc,f)|some _=>none)
   | _=>none
  | _=>none
 | none=>none
theorem xM {ops:Array Oper}{o:Oper}{cc:Call}{f:Operand}(h:rN ops=some (o,cc,f)):ops.toList=ops.toList.dropLast++[o]∧o.op=.defer cc∧cc.callee=.value f∧o.guard=none:=by
 unfold rN at h;split at h
 ·rename_i o' hl;split at h
  ·rename_i cc' ho;split at h
   ·rename_i f' hc;split at h
    ·rename_i hg;simp only[kA,kB] at h;obtain⟨rfl,rfl,rfl⟩:=h;obtain⟨ys,hys⟩:=List.getLast?_eq_some_iff.1 hl;exact⟨by rw[hys,List.dropLast_concat],ho,hc,hg⟩
    ·cases h
   ·cases h
  ·cases h
 ·cases h
def DV (pend:Option Code) (K:Exit->Bool):Bool:=
 match pend with
 | none=>K .normal
 | some .ret=>K .ret
 | some (.exit i)=>K (.exit i)
 | some _=>false
theorem DU {pend:Option Code}{K:Exit->Bool}(h:DV pend K=true):(pend=none∧K .normal=true)∨(pend=some .ret∧K .ret=true)∨∃ i,pend=some (.exit i)∧K (.exit i)=true:=by
 unfold DV at h;split at h
 ·exact .inl ⟨rfl,h⟩
 ·exact .inr (.inl ⟨rfl,h⟩)
 ·exact .inr (.inr ⟨_,rfl,h⟩)
 ·cases h
def stB (st:LoopState):Bool:=match st with|.busy=>false|_=>true
theorem stB_eq {st:LoopState}(h:stB st=true):st≠.busy:=λe=>by subst e;cases h
abbrev KC:=Exit->Tr->HT->Nat->List DE->Bool
section
variable (P:Program) (ti:TI) (xc:XC) (n:Nat) (top:Bool)
noncomputable def xdfr (ops:Array Oper) (o:Oper) (cc:Call) (f:Operand) (t:Tr) (h:HT) (nx:Nat) (df:List DE) (K:KC):Bool:=
 match top with
 | true=>vE P ti xc n ops ops.toList.dropLast t h nx λt h nx=>xev n t f λd=>
  match d with
  | .fn (.func g) first cap=>px n t cc.args.toList λas=>iI n t o.dst aM λt'=>K .normal t' h nx (.call g (first++as++cap)::df)
  | _=>false
 | false=>false
noncomputable def FD (ops:Array Oper) (draw:Bool) (t:Tr) (h:HT) (nx:Nat) (df:List DE) (K:KC):Bool:=
 match draw with
 | true=>tS P ti xc n ops t h nx λt h nx=>K .normal t h nx df
 | false=>
  match rN ops with
  | none=>vE P ti xc n ops ops.toList t h nx λt h nx=>K .normal t h nx df
  | some (o,cc,f)=>xdfr P ti xc n top ops o cc f t h nx df K
noncomputable def xz (g:Operand) (ps:Array Tmp) (assign body:Code) (t:Tr) (h:HT) (nx:Nat) (df:List DE) (K:KC):Bool:=
 match top with
 | true=>xev n t g λd=>
  match d with
  | .fn (.func gf) first cap=>h.putK nx .dfr λh0=>h0.putK (nx+1) (.loop .ready none (tmL n t) ps.toList assign body) λh0=>xc (.fn gf) (first++[.yf (nx+1)]++cap) h0 (nx+2) λ_ h1 nx1=>h1.getK (nx+1) λb=>
   match b with
   | .loop st pend _ _ _ _=>ifB (stB st) (h1.delK (nx+1) λh2=>DV pend λe=>K e t h2 nx1 (.mark nx::df)) false
   | _=>false
  | _=>false
 | false=>false
noncomputable def tP (ih:Tr->HT->Nat->List DE->KC->Bool) (m:Nat):Tr->HT->Nat->List DE->KC->Bool:=
 Nat.rec (motive:=λ_=>Tr->HT->Nat->List DE->KC->Bool) (λ_ _ _ _ _=>false) (λ_ r t h nx df K=>ih t h nx df λe t h nx df=>match e with|.normal=>r t h nx df K|e=>K e t h nx df) m
noncomputable def ls (code:Code):Tr->HT->Nat->List DE->KC->Bool:=
 Code.rec (motive:=λ_=>Tr->HT->Nat->List DE->KC->Bool)
  (skip:=λt h nx df K=>K .normal t h nx df)
  (region:=λ_ ops d=>FD P ti xc n top ops d)
  (seq:=λ_ _ x y t h nx df K=>x t h nx df λe t h nx df=>match e with|.normal=>y t h nx df K|e=>K e t h nx df)
  (cond:=λo _ _ x y t h nx df K=>xev n t o λd=>match d with|.v (.bool true)=>x t h nx df K|.v (.bool false)=>y t h nx df K|_=>false)
  (block:=λid _ x t h nx df K=>x t h nx df λe t h nx df=>K (mO id e) t h nx df)
  (loop:=λ_ x t h nx df K=>tP x 1000000000 t h nx df K)
  (rangeFunc:=λg ps assign body _ _ t h nx df K=>xz xc n top g ps assign body t h nx df K)
  (exit:=λid t h nx df K=>K (.exit id) t h nx df)
  (scope:=λ_ x t h nx df K=>x t h nx df λe t h nx df=>match e with|.goto _=>false|e=>K e t h nx df)
  (label:=λ_ t h nx df K=>K .normal t h nx df)
  (goto:=λ_ _ _ _ _ _=>false)
  (ret:=λt h nx df K=>K .ret t h nx df)
  (refuse:=λ_ _ _ _ _ _=>false)
  code
end
section
variable {P:Program}{ti:TI}{xc:XC}{n k:Nat}{top:Bool}
theorem FH (T:TOk P ti) (X:XOk P xc) (hn:n<=2 ^ k){id:Nat}{ops:Array Oper}{o:Oper}{cc:Call}{f:Operand}(ho:rN ops=some (o,cc,f)){t:Tr}{h:HT}{nx:Nat}{df:List DE}{K:KC}(hs:xdfr P ti xc n top ops o cc f t h nx df K=true) (hp:t.perf k) :
  ∃ e t' h' nx' df',K e t' h' nx' df'=true∧t'.perf k∧CW P top (.region id ops false) (sT n t h nx) df e (sT n t' h' nx') df':=by
 obtain⟨hops,hop,hcal,hg⟩:=xM ho;cases top with
 | false=>cases hs
 | true=>
  replace hs:vE P ti xc n ops ops.toList.dropLast t h nx (λt h nx=>xev n t f λd=>
   match d with
   | .fn (.func g) first cap=>px n t cc.args.toList λas=>iI n t o.dst aM λt'=>K .normal t' h nx (.call g (first++as++cap)::df)
   | _=>false)=true:=hs
  obtain⟨t1,h1,nx1,k1,k2,k3⟩:=pP T X hn ops _ t h nx _ hs hp;obtain⟨d,e1,k1⟩:=ah k1;split at k1
  ·rename_i g first cap;obtain⟨as,e2,k1⟩:=eV k1;obtain⟨t',e3,e4,e5⟩:=dw k2 hn k1;refine⟨.normal,t',h1,nx1,_,e5,e4,λro m hro c a Q hf hd hQ=>?_⟩;have hr0:=hro rfl;subst hr0;refine wpIn_region_list ?_;rw[hops];refine k3 none m [o] c a Q hf λc' a' f1 g1 p1 d1=>?_
   simp only[wpListIn];have hw:Region.wanted o (yielded ops a'.tmps)=true:=by unfold Region.wanted;simp[hg]
   rw[hw,if_pos rfl];have hv:=aI f1.rel.inv f1.tmps e1;simp only[V] at hv;obtain⟨xs,ys,hv,v1,v2⟩:=hv;have hargs:=b9 f1.rel.inv f1.tmps e2
   have hrun:(o.semAt none a'.eval).run P c'.w=.ok (.defer ⟨.fn (.func g) ys.toArray,(xs++cc.args.toList.map a'.eval).toArray⟩) c'.w:=by
    show(execOp a'.eval o).run P c'.w=_;unfold execOp;simp only[hop,resolve,hcal,Sem.run_bind,hv,Deferred.ofValue,Sem.run_pure,Result.andThen];congr 3;apply Array.ext';simp
   refine⟨λ_ _=>trivial,?_⟩;show o.uponIn (WF none) m P a' _ Q ((o.semAt none a'.eval).run P c'.w);rw[hrun];have hput:=bg (a:={ a' with defers:=⟨.fn (.func g) ys.toArray,(xs++cc.args.toList.map a'.eval).toArray⟩::a'.defers }) (dst:=o.dst) f1.tmps (V.undef (c:=c'));rw[e3] at hput;refine hQ c' _ ⟨f1.rel,hput⟩ g1 p1 ?_
   have:({ a' with defers:=⟨.fn (.func g) ys.toArray,(xs++cc.args.toList.map a'.eval).toArray⟩::a'.defers }:Act).put o.dst undef={ (a'.put o.dst undef) with defers:=⟨.fn (.func g) ys.toArray,(xs++cc.args.toList.map a'.eval).toArray⟩::a'.defers }:=by cases o.dst<;>rfl
   rw[this];exact⟨_,_,rfl,⟨_,_,rfl,(v1.append hargs).append v2⟩,by rw[d1];exact DRs.keep g1.keeps _ _ hd⟩
  ·cases k1
theorem Au (X:XOk P xc){g:Operand}{ps:Array Tmp}{assign body:Code}{t:Tr}{h:HT}{nx:Nat}{df:List DE}{K:KC}(hs:xz xc n top g ps assign body t h nx df K=true) (hp:t.perf k) :
  ∃ e t' h' nx' df',K e t' h' nx' df'=true∧t'.perf k∧CW P top (.rangeFunc g ps assign body) (sT n t h nx) df e (sT n t' h' nx') df':=by
 cases top with
 | false=>cases hs
 | true=>
  unfold xz at hs;simp only at hs;obtain⟨d,e1,hs⟩:=ah hs;split at hs
  ·rename_i gf first cap;rw[HT.putK_eq,HT.putK_eq] at hs;obtain⟨d1,h1,nx1,hcc,hs⟩:=X _ _ _ _ _ hs;obtain⟨b,hb,hs⟩:=HT.getK_some hs
   have hcc':CC P (.fn gf) (first++[.yf (nx+1)]++cap) (du (sT n t h nx) ps assign body) d1 (h1.heap nx1):=by
    refine hcc.congr ?_ (Heq.refl _);have e2:Heq (((h.put nx .dfr).heap (nx+2)).put (nx+1) (.loop .ready none (tmL n t) ps.toList assign body)) (((h.put nx .dfr).put (nx+1) (.loop .ready none (tmL n t) ps.toList assign body)).heap (nx+2)):=Heq.put;have e3:Heq (((h.heap (nx+2)).put nx .dfr).put (nx+1) (.loop .ready none (tmL n t) ps.toList assign body)) (((h.put nx .dfr).heap (nx+2)).put (nx+1) (.loop .ready none (tmL n t) ps.toList assign body)):=Heq.put.putL;exact(e3.trans e2).symm
   have C:gm P (λq ds' h0=>open Classical in if q=.fn gf∧ds'=first++[.yf (nx+1)]++cap∧h0=du (sT n t h nx) ps assign body then some (d1,h1.heap nx1) else none):=λq ds' h0 d' h1' hx=>by
    simp only at hx;split at hx
    ·rename_i e;obtain⟨rfl,rfl,rfl⟩:=e;simp only[kA,kB] at hx;obtain⟨rfl,rfl⟩:=hx;exact hcc'
    ·simp at hx
   split at hs
   ·rename_i st pend tm' ps' a' b';rcases aP hs with⟨hst,hs⟩|⟨_,h0⟩
    ·have hst:=stB_eq hst;rw[HT.delK_eq] at hs;have hl:(h1.heap nx1).get ((sT n t h nx).h.next+1)=some (.loop st pend tm' ps' a' b'):=by rw[HT.heap_get];exact hb
     have hdel:Heq ((h1.heap nx1).del (nx+1)) ((h1.del (nx+1)).heap nx1):=⟨rfl,λj=>by rw[aB.get_del,HT.heap_get,HT.heap_get,HT.get_del]⟩;rcases DU hs with⟨rfl,hs⟩|⟨rfl,hs⟩|⟨i,rfl,hs⟩
     ·refine⟨.normal,t,_,nx1,_,hs,hp,λro m hro c a Q hf hd hQ=>?_⟩;have hr0:=hro rfl;subst hr0;refine ib C (d:=d1) (h1:=h1.heap nx1) hf e1 (by simp[HT.heap]) hl hst λc1 dm f1 g1 p1 dr1=>?_
      exact hQ c1 _ ⟨f1.rel.congr hdel,f1.tmps⟩ (g1.congr (Heq.refl _) hdel) p1 ⟨_,_,rfl,dr1,DRs.keep g1.keeps _ _ hd⟩
     ·refine⟨.ret,t,_,nx1,_,hs,hp,λro m hro c a Q hf hd hQ=>?_⟩;have hr0:=hro rfl;subst hr0;refine ib C (d:=d1) (h1:=h1.heap nx1) hf e1 (by simp[HT.heap]) hl hst λc1 dm f1 g1 p1 dr1=>?_
      exact wpIn_ret (hQ c1 _ ⟨f1.rel.congr hdel,f1.tmps⟩ (g1.congr (Heq.refl _) hdel) p1 ⟨_,_,rfl,dr1,DRs.keep g1.keeps _ _ hd⟩)
     ·refine⟨.exit i,t,_,nx1,_,hs,hp,λro m hro c a Q hf hd hQ=>?_⟩;have hr0:=hro rfl;subst hr0;refine ib C (d:=d1) (h1:=h1.heap nx1) hf e1 (by simp[HT.heap]) hl hst λc1 dm f1 g1 p1 dr1=>?_
      exact wpIn_exit (hQ c1 _ ⟨f1.rel.congr hdel,f1.tmps⟩ (g1.congr (Heq.refl _) hdel) p1 ⟨_,_,rfl,dr1,DRs.keep g1.keeps _ _ hd⟩)
    ·cases h0
   ·cases hs
  ·cases hs
theorem bN (hm:P.follows .mixedOrders=true) (T:TOk P ti) (X:XOk P xc) (hn:n<=2 ^ k):∀ (code:Code) (t:Tr) (h:HT) (nx:Nat) (df:List DE) (K:KC),ls P ti xc n top code t h nx df K=true->t.perf k ->
  ∃ e t' h' nx' df',K e t' h' nx' df'=true∧t'.perf k∧CW P top code (sT n t h nx) df e (sT n t' h' nx') df'
 | .skip,t,h,nx,df,K,hs,hp=>⟨_,_,_,_,_,hs,hp,λro m _ c a Q hf hd hQ=>wpIn_skip (hQ c a hf (aZ.refl _ _) (λ_ _=>rfl) hd)⟩
 | .region id ops true,t,h,nx,df,K,hs,hp=>by
  obtain⟨t',h',nx',k1,k2,k3⟩:=Ax hm T X hn df (show tS P ti xc n ops t h nx (λt h nx=>K .normal t h nx df)=true from hs) hp;exact⟨_,_,_,_,_,k1,k2,k3⟩
 | .region id ops false,t,h,nx,df,K,hs,hp=>by
  replace hs:(match rN ops with
   | none=>vE P ti xc n ops ops.toList t h nx λt h nx=>K .normal t h nx df
   | some (o,cc,f)=>xdfr P ti xc n top ops o cc f t h nx df K)=true:=hs
  split at hs
  ·obtain⟨t',h',nx',k1,k2,k3⟩:=FE T X hn df hs hp;exact⟨_,_,_,_,_,k1,k2,k3⟩
  ·rename_i hdf;exact FH T X hn hdf hs hp
 | .seq x y,t,h,nx,df,K,hs,hp=>by
  obtain⟨e,t1,h1,nx1,df1,k1,k2,k3⟩:=bN hm T X hn x t h nx df _ (show ls P ti xc n top x t h nx df (λe t h nx df=>match e with|.normal=>ls P ti xc n top y t h nx df K|e=>K e t h nx df)=true from hs) hp;cases e with
  | normal=>
   obtain⟨e2,t2,h2,nx2,df2,q1,q2,q3⟩:=bN hm T X hn y t1 h1 nx1 df1 K k1 k2;exact⟨e2,t2,h2,nx2,df2,q1,q2,k3.seq q3⟩
  | _=>exact⟨_,_,_,_,_,k1,k2,k3.seqX si⟩
 | .cond o x y,t,h,nx,df,K,hs,hp=>by
  obtain⟨d,e1,hs⟩:=ah (show xev n t o (λd=>match d with|.v (.bool true)=>ls P ti xc n top x t h nx df K|.v (.bool false)=>ls P ti xc n top y t h nx df K|_=>false)=true from hs);split at hs
  ·obtain⟨e,t1,h1,nx1,df1,k1,k2,k3⟩:=bN hm T X hn x t h nx df K hs hp;exact⟨e,t1,h1,nx1,df1,k1,k2,.cond (b:=true) e1 k3⟩
  ·obtain⟨e,t1,h1,nx1,df1,k1,k2,k3⟩:=bN hm T X hn y t h nx df K hs hp;exact⟨e,t1,h1,nx1,df1,k1,k2,.cond (b:=false) e1 k3⟩
  ·cases hs
 | .block id x,t,h,nx,df,K,hs,hp=>by
  obtain⟨e,t1,h1,nx1,df1,k1,k2,k3⟩:=bN hm T X hn x t h nx df _ (show ls P ti xc n top x t h nx df (λe t h nx df=>K (mO id e) t h nx df)=true from hs) hp;exact⟨_,t1,h1,nx1,df1,k1,k2,k3.block⟩
 | .loop x,t,h,nx,df,K,hs,hp=>by
  have key:∀ (m:Nat) (t:Tr) (h:HT) (nx:Nat) (df:List DE),tP (ls P ti xc n top x) m t h nx df K=true->t.perf k->∃ e t' h' nx' df',K e t' h' nx' df'=true∧t'.perf k∧RW P top m x (sT n t h nx) df e (sT n t' h' nx') df':=by
   intro m
   induction m with
   | zero=>intro t h nx df hs;cases hs
   | succ m ih=>
    intro t h nx df hs hp;obtain⟨e,t1,h1,nx1,df1,k1,k2,k3⟩:=bN hm T X hn x t h nx df _ (show ls P ti xc n top x t h nx df (λe t h nx df=>match e with|.normal=>tP (ls P ti xc n top x) m t h nx df K|e=>K e t h nx df)=true from hs) hp;cases e with
    | normal=>
     obtain⟨e2,t2,h2,nx2,df2,q1,q2,q3⟩:=ih t1 h1 nx1 df1 k1 k2;exact⟨e2,t2,h2,nx2,df2,q1,q2,.next k3 q3⟩
    | _=>exact⟨_,_,_,_,_,k1,k2,.stop k3 si⟩
  obtain⟨e,t1,h1,nx1,df1,k1,k2,k3⟩:=key 1000000000 t h nx df hs hp;exact⟨e,t1,h1,nx1,df1,k1,k2,.loop k3⟩
 | .rangeFunc g ps assign body,t,h,nx,df,K,hs,hp=>Au X hs hp
 | .exit id,t,h,nx,df,K,hs,hp=>⟨_,_,_,_,_,hs,hp,λro m _ c a Q hf hd hQ=>wpIn_exit (hQ c a hf (aZ.refl _ _) (λ_ _=>rfl) hd)⟩
 | .ret,t,h,nx,df,K,hs,hp=>⟨_,_,_,_,_,hs,hp,λro m _ c a Q hf hd hQ=>wpIn_ret (hQ c a hf (aZ.refl _ _) (λ_ _=>rfl) hd)⟩
 | .label _,t,h,nx,df,K,hs,hp=>⟨_,_,_,_,_,hs,hp,λro m _ c a Q hf hd hQ=>wpIn_label (hQ c a hf (aZ.refl _ _) (λ_ _=>rfl) hd)⟩
 | .scope x,t,h,nx,df,K,hs,hp=>by
  obtain⟨e,t1,h1,nx1,df1,k1,k2,k3⟩:=bN hm T X hn x t h nx df _ (show ls P ti xc n top x t h nx df (λe t h nx df=>match e with|.goto _=>false|e=>K e t h nx df)=true from hs) hp;cases e with
  | goto l=>cases k1
  | _=>exact⟨_,t1,h1,nx1,df1,k1,k2,k3.scope (by rintro l ⟨⟩)⟩
 | .goto _,t,h,nx,df,K,hs,hp=>by cases hs
 | .refuse _,t,h,nx,df,K,hs,hp=>by cases hs
end
end Go.Am
/-
 The abstract machine,part 49: calls over trees,carried out;contracts out of closed runs.
-/
namespace Go.Am
variable [GT]
noncomputable def vF (ds:List D):Nat->Tr->(Tr->Bool)->Bool:=
 List.rec (motive:=λ_=>Nat->Tr->(Tr->Bool)->Bool) (λ_ t K=>K t) (λd _ ih i t K=>t.setK i d λt'=>ih (i+1) t' K) ds
theorem mW {n k:Nat}(hn:n<=2 ^ k):∀ {ds p:List D}{t:Tr}{K:Tr->Bool},t.perf k->p.length+ds.length<=n->tmL n t=p++List.replicate (n-p.length) aM->vF ds p.length t K=true ->
  ∃ t',tmL n t'=p++ds++List.replicate (n-(p.length+ds.length)) aM∧t'.perf k∧K t'=true
 | [],p,t,K,hp,hl,ht,hs=>⟨t,by simpa using ht,hp,hs⟩
 | d::ds,p,t,K,hp,hl,ht,hs=>by
  replace hs:t.setK p.length d (λt'=>vF ds (p.length+1) t' K)=true:=hs
  rw[Tr.setK_eq] at hs;have hlt:p.length<n:=by simp only[kO] at hl;omega
  have h1:tmL n (t.set p.length d)=(p++[d])++List.replicate (n-(p++[d]).length) aM:=by
   rw[<-zh hp hn hlt,ht,List.set_append_right _ _ (kP _),Nat.sub_self];rw[show n-p.length=(n-(p.length+1))+1 from by omega,List.replicate_succ,List.set_cons_zero];simp
  have e:(p++[d]).length=p.length+1:=by simp
  obtain⟨t',q1,q2,q3⟩:=mW hn (ds:=ds) (p:=p++[d]) (Tr.perf_set hp) (by simp only[kO] at hl;rw[e];omega) h1 (by rw[e];exact hs);refine⟨t',?_,q2,q3⟩;rw[q1,e];simp only[List.append_assoc,List.cons_append,List.nil_append,kO];rw[show p.length+1+ds.length=p.length+(ds.length+1) from by omega]
def dep (n:Nat):Nat:=if Nat.ble n 16 then 4 else if Nat.ble n 32 then 5 else if Nat.ble n 64 then 6 else if Nat.ble n 128 then 7 else 8
theorem zB (n:Nat):dep n<=8:=by
 unfold dep;repeat' split
 all_goals omega
section
variable (P:Program) (ti:TI)
noncomputable def HA (n:Nat) (t:Tr) (h:HT) (r:ResultVar) (K:D->Bool):Bool:=
 match r with
 | .tmp i=>xev n t (.tmp i) K
 | .cell a ty=>xev n t (.tmp a) λd=>zX ti h ty d K
noncomputable def mT (n:Nat) (t:Tr) (h:HT) (rs:List ResultVar):(List D->Bool)->Bool:=
 List.rec (motive:=λ_=>(List D->Bool)->Bool) (λK=>K []) (λr _ ih K=>HA ti n t h r λd=>ih λds=>K (d::ds)) rs
def Dd:List (Nat×Box)->HT
 | []=>.emp
 | (i,b)::l=>(Dd l).put i b
noncomputable def pw (df:List DE) (h:HT) (nx:Nat) (K:HT->Nat->Bool):Bool:=
 match df with
 | []=>K h nx
 | [.mark id]=>h.getK id λb=>(match b with|.dfr=>h.delK id λh'=>K h' nx|_=>false)
 | [.call g ds]=>a8 (ny P ti 100 g ds (h.heap nx)) λh1=>K (Dd h1.bs) h1.next
 | _=>false
noncomputable def Aw (xc:XC) (g:FuncId) (ds:List D) (h:HT) (nx:Nat) (K:D->HT->Nat->Bool):Bool:=
 match P.funcs[g]? with
 | some fn=>
  match fn.body with
  | some code=>ifB (Nat.ble ds.length fn.ntmps&&Nat.ble fn.ntmps (2 ^ dep fn.ntmps)&&!(fn.name == "runtime.NumGoroutine")) (vF ds 0 (Tr.full aM (dep fn.ntmps)) λt=>ls P ti xc fn.ntmps true code t h nx [] λe t h nx df=>
   match e with
   | .normal=>pw P ti df h nx λh nx=>mT ti fn.ntmps t h fn.results.toList λrs=>a8 (ob rs) λd=>K d h nx
   | .ret=>pw P ti df h nx λh nx=>mT ti fn.ntmps t h fn.results.toList λrs=>a8 (ob rs) λd=>K d h nx
   | _=>false) false
  | none=>false
 | none=>false
end
section
variable {P:Program}{ti:TI}{n k:Nat}
theorem pm {t:Tr}{h:HT}{nx:Nat}:∀ {rs:List ResultVar}{K:List D->Bool},mT ti n t h rs K=true->∃ ds,cr ti (sT n t h nx) rs=some ds∧K ds=true
 | [],K,hs=>⟨[],rfl,hs⟩
 | r::rs,K,hs=>by
  replace hs:HA ti n t h r (λd=>mT ti n t h rs λds=>K (d::ds))=true:=hs
  have h1:∃ d,gS ti (sT n t h nx) r=some d∧mT ti n t h rs (λds=>K (d::ds))=true:=by
   cases r with
   | tmp i=>exact ah (show xev n t (.tmp i) _=true from hs)
   | cell a ty=>
    obtain⟨x,e1,hs⟩:=ah (show xev n t (.tmp a) _=true from hs);obtain⟨d,e2,hs⟩:=pr (n:=nx) hs;exact⟨d,by simp only[gS,e1,e2],hs⟩
  obtain⟨d,e1,hs⟩:=h1;obtain⟨ds,e2,hs⟩:=pm (nx:=nx) hs;exact⟨d::ds,by simp only[cr,e1,e2],hs⟩
theorem qk:∀ {l:List (Nat×Box)}{i:Nat},(Dd l).get i=ac l i
 | [],_=>rfl
 | (j,b)::l,i=>by simp only[Dd,HT.get_put,ac,qk]
theorem Av {df:List DE}{h:HT}{nx:Nat}{K:HT->Nat->Bool}(hs:pw P ti df h nx K=true):∃ h1 h' nx',ej (ny P ti 100) df (h.heap nx)=some h1∧Heq h1 (h'.heap nx')∧K h' nx'=true:=by
 unfold pw at hs;split at hs
 ·exact⟨_,h,nx,rfl,Heq.refl _,hs⟩
 ·rename_i id;obtain⟨b,hb,hs⟩:=HT.getK_some hs;split at hs
  ·rw[HT.delK_eq] at hs;refine⟨(h.heap nx).del id,_,nx,?_,⟨rfl,λj=>by rw[aB.get_del,HT.heap_get,HT.heap_get,HT.get_del]⟩,hs⟩;simp only[ej,HT.heap_get,hb]
  ·cases hs
 ·rename_i g ds;obtain⟨h1,e1,hs⟩:=aT hs;exact⟨h1,_,_,by simp only[ej,e1],⟨rfl,λj=>by rw[HT.heap_get,qk];rfl⟩,hs⟩
 ·cases hs
theorem AC1.of_cw (T:TOk P ti){dl:Dl}(DL:zT P dl){g:FuncId}{fn:Func}{code:Code}{ds:List D}{h h':aB}{e:Exit}{s':St}{df:List DE}{d:D}
  (hg:P.funcs[g]?=some fn) (hb:fn.body=some code) (hn:(fn.name == "runtime.NumGoroutine")=false) (hex:CW P true code (fm fn ds h) [] e s' df) (he:e=.normal∨e=.ret)
  (hl:ej dl df s'.h=some h') (hr:gu ti fn ⟨s'.tmps,h'⟩=some d):AC1 P g ds h d h':=by
 refine⟨by unfold dK;rw[hg];simp[hb,hn],λc vs R hvs=>?_⟩;refine(callsIn_wide (n:=0)).1 (callsIn_of_wp_marks hg hb trivial ?_)
 have hfit:Fit c (fm fn ds h) { tmps:=vs.toArray++Array.replicate (fn.ntmps-vs.toArray.size) undef,defers:=[] }:=by
  refine⟨R,?_⟩;simp only[fm,Array.toList_append,Array.toList_replicate,List.size_toArray];rw[hvs.length];exact hvs.append (VS.replicate V.undef _)
 refine hex none 0 (λ_=>rfl) c _ _ hfit (by simp[DRs]) λc' a' f1 g1 p1 d1=>?_
 have key:LeavesInM (WF none) 0 P fn a'.tmps (λe w'=>∃ v c',e=.returned v∧c'.w=w'∧V c' d v∧Rel c' h'∧aZ c h c' h'∧∀ j,j<h.next->c'.φ j=c.φ j) a'.defers .returning c'.w:=by
  refine iC DL df a'.defers c' s'.h h' hl f1.rel d1 λc2 r2 g2 p2=>?_
  obtain⟨v,e1,v1⟩:=dN (P:=P) T (a:=a') (⟨r2,VS.keep g2.keeps _ _ f1.tmps⟩:Fit c2 ⟨s'.tmps,h'⟩ a') hr;refine⟨v,e1,v,c2,rfl,rfl,v1,r2,g1.trans g2,λj hj=>?_⟩;have:=g1.next
  have hn0:(fm fn ds h).h.next=h.next:=rfl;rw[p2 j om,p1 j hj]
 rcases he with rfl|rfl
 ·exact key
 ·exact key
theorem zY {xc:XC}(hm:P.follows .mixedOrders=true) (T:TOk P ti) (X:XOk P xc){g:FuncId}{ds:List D}{h:HT}{nx:Nat}{K:D->HT->Nat->Bool}(hs:Aw P ti xc g ds h nx K=true):∃ d h' nx',AC1 P g ds (h.heap nx) d (h'.heap nx')∧K d h' nx'=true:=by
 unfold Aw at hs;split at hs
 ·rename_i fn hfn;split at hs
  ·rename_i code hb;rcases aP hs with⟨hc,hs⟩|⟨_,h0⟩
   ·simp only[kC,Nat.ble_eq,Bool.not_eq_true'] at hc;obtain⟨⟨hc1,hc2⟩,hc3⟩:=hc
    obtain⟨t,t1,t2,hs⟩:=mW (n:=fn.ntmps) (k:=dep fn.ntmps) hc2 (ds:=ds) (p:=[]) (Tr.perf_full (zB _)) (by simpa using hc1) (by
     apply List.ext_getElem?;intro i;by_cases hi:i<fn.ntmps
     ·rw[jD hi,Tr.get_full];simp[hi]
     ·rw[List.getElem?_eq_none (by rw[fH];omega),List.getElem?_eq_none (by simp;omega)]) hs
    obtain⟨e,t',h',nx',df',k1,k2,k3⟩:=bN hm T X hc2 code t h nx [] _ hs t2
    have hbegin:sT fn.ntmps t h nx=fm fn ds (h.heap nx):=by
     simp only[sT,fm,t1,List.nil_append,List.length_nil,Nat.zero_add]
    rw[hbegin] at k3;have DL:zT P (ny P ti 100):=sO hm T 100
    have key:(e=.normal∨e=.ret)->pw P ti df' h' nx' (λh nx=>mT ti fn.ntmps t' h fn.results.toList λrs=>a8 (ob rs) λd=>K d h nx)=true->∃ d h' nx',AC1 P g ds (h.heap nx) d (h'.heap nx')∧K d h' nx'=true:=λhe k1=>by
     obtain⟨h1,h2,nx2,q1,q2,q3⟩:=Av k1;obtain⟨rs,q4,q5⟩:=pm (nx:=nx2) q3;obtain⟨d,q6,q7⟩:=aT q5
     have hres:gu ti fn ⟨(sT fn.ntmps t' h' nx').tmps,h1⟩=some d:=by
      have hq:cr ti ⟨tmL fn.ntmps t',h1⟩ fn.results.toList=some rs:=by
       rw[<-q4]
       have:∀ l:List ResultVar,cr ti ⟨tmL fn.ntmps t',h1⟩ l=cr ti (sT fn.ntmps t' h2 nx2) l:=by
        intro l
        induction l with
        | nil=>rfl
        | cons r l ih=>
         have:gS ti ⟨tmL fn.ntmps t',h1⟩ r=gS ti (sT fn.ntmps t' h2 nx2) r:=by
          cases r with
          | tmp i=>rfl
          | cell a ty=>
           simp only[gS];split
           ·exact oU q2
           ·rfl
         simp only[cr,this,ih]
       exact this _
      unfold gu;rw[hq];exact q6
     have:=AC1.of_cw T DL hfn hb hc3 k3 he q1 hres
     exact⟨d,h2,nx2,this.congr (Heq.refl _) q2,q7⟩
    split at k1
    ·exact key (.inl rfl) k1
    ·exact key (.inr rfl) k1
    ·cases k1
   ·cases h0
  ·cases hs
 ·cases hs
theorem AC1.bump {P:Program}{g:FuncId}{ds:List D}{h:aB}{d:D}{n1:Nat}{bs:List (Nat×Box)}(hp:AC1 P g ds h d ⟨n1,bs⟩):AC1 P g ds h d ⟨n1+1,bs⟩:=by
 obtain⟨hent,hcall⟩:=hp;refine⟨hent,λc vs R hvs=>(hcall c vs R hvs).mono ?_⟩;rintro e w' ⟨v,c1,rfl,rfl,v1,r1,g1,p1⟩;exact⟨v,c1,rfl,rfl,v1,⟨r1.size,λid hid=>r1.fresh id (Nat.le_trans (Nat.le_succ n1) hid),r1.live,r1.inj,r1.inv⟩,⟨g1.keeps,g1.os,g1.tape,g1.output,g1.size,Nat.le_trans g1.next (Nat.le_succ n1),g1.frame,g1.own,g1.stable⟩,p1⟩
def pN (P:Program) (sp:FuncId->List D->Option D):Prop:=∀ g ds d,sp g ds=some d->Pu P g ds d
mutual
def vq (h:HT):Nat->D->D->Bool
 | 0,_,_=>false
 | f+1,d,d'=>
  match d,d' with
  | .v (.slice none 0 0),.imm 0 []=>true
  | .e0,.imm 0 []=>true
  | .v x,.v y=>eqV x y
  | .str a,.str b=>me a b
  | .imm n cs,.imm m cs'=>Nat.beq n m&&kT h f cs cs'
  | .agg cs,.agg cs'=>kT h f cs cs'
  | .tup cs,.tup cs'=>kT h f cs cs'
  | .sl id off n _ es _,.imm m cs'=>Nat.beq n m&&(match h.get id with|some (.cells cs _)=>Nat.ble (off+n*es) cs.length&&kT h f ((cs.drop off).take (n*es)) cs'|_=>false)
  | _,_=>false
def kT (h:HT):Nat->List D->List D->Bool
 | 0,_,_=>false
 | _+1,[],[]=>true
 | f+1,d::ds,d' :: ds'=>vq h f d d' && kT h f ds ds'
 | _+1,_,_=>false
end
mutual
theorem mo {h:HT}{m:Nat}:∀ (f:Nat) (d d':D),vq h f d d'=true->Rd (h.heap m) (λ_=>true) (λ_=>none) d d'
 | 0,d,d',hs=>by simp[vq] at hs
 | f+1,d,d',hs=>by
  unfold vq at hs;split at hs
  ·exact .nil
  ·exact .e0
  ·rw[ER _ _ hs];exact .same rfl
  ·rw[fb.1 hs];exact .same rfl
  ·simp only[kC,Nat.beq_eq] at hs;rw[hs.1];exact .imm (iZ f _ _ hs.2)
  ·exact .agg (iZ f _ _ hs)
  ·exact .tup (iZ f _ _ hs)
  ·simp only[kC,Nat.beq_eq] at hs;obtain⟨h1,h2⟩:=hs;split at h2
   ·rename_i cs ex hg;simp only[kC,Nat.ble_eq] at h2;rw[<-h1];exact .frz rfl (by rw[HT.heap_get];exact hg) h2.1 (iZ f _ _ h2.2)
   ·cases h2
  ·cases hs
theorem iZ {h:HT}{m:Nat}:∀ (f:Nat) (ds ds':List D),kT h f ds ds'=true->Rds (h.heap m) (λ_=>true) (λ_=>none) ds ds'
 | 0,ds,ds',hs=>by simp[kT] at hs
 | f+1,[],[],hs=>.nil
 | f+1,d::ds,d' :: ds',hs=>by
  simp only[kT,kC] at hs;exact .cons (mo f d d' hs.1) (iZ f ds ds' hs.2)
 | f+1,[],_::_,hs=>by simp[kT] at hs
 | f+1,_::_,[],hs=>by simp[kT] at hs
end
theorem Pu.of_ac {g:FuncId}{ds:List D}{d0 d:D}{h1:aB}(hn:aK ds=true) (hp:AC1 P g ds ⟨0,[]⟩ d0 h1) (hr:Rd h1 (λ_=>true) (λ_=>none) d0 d):Pu P g ds d:=λh0=>by
 obtain⟨hent,hcall⟩:=hp;refine⟨hent,λc vs R hvs=>?_⟩;have R0:Rel { c with φ:=λ_=>none } ⟨0,[]⟩:=⟨R.size,λ_ _=>rfl,λid box hg=>by simp[aB.get,ac] at hg,λid id' box box' b o o' hg=>by simp[aB.get,ac] at hg,GT.keep (c:=c) (λ_ h=>h) (λ_ _=>rfl) R.inv⟩;have hvs0:VS { c with φ:=λ_=>none } ds vs:=VS.move (c:=c) (c':={ c with φ:=λ_=>none }) (λb hb=>⟨hb,rfl⟩) ds vs hn hvs;refine(hcall _ vs R0 hvs0).mono ?_;rintro e w' ⟨v,c1,rfl,rfl,v1,r1,g1,_⟩;obtain⟨c',k1,k2,k3,k4,k5⟩:=uA R r1 g1 ⟨hr⟩ v1;exact⟨v,c',rfl,k1,k2,k3,k4,k5⟩
end
end Go.Am
/-
 The abstract machine,part 50: the same runs,written so that the kernel copies little: what an operation does is looked up in a closed table.
-/
namespace Go.Am
noncomputable def isAny (d:D):Bool:=@D.casesOn (λ_=>Bool) d (λ_=>false) (λ_=>false) (λ_ _=>false) (λ_=>false) (λ_ _ _ _ _ _=>false) (λ_ _=>false) (λ_=>false) (λ_=>false) (λ_ _ _=>false) (λ_=>false) (λ_ _=>false) false true (λ_=>false) (λ_=>false)
noncomputable def evT:Operand->GT->Nat->Tr->(D->Bool)->Bool:=
 @Operand.rec (λ_=>GT->Nat->Tr->(D->Bool)->Bool)
  (λi _ n t K=>Bool.rec (motive:=λ_=>Bool) false (getA i t (λd=>Bool.rec (motive:=λ_=>Bool) (K d) false (isAny d))) (Nat.blt i n))
  (λv _ _ _ K=>a8 (ofV v) K)
  (λg G _ _ K=>a8 ((G.tab g).map .iptr) K)
  (λf _ _ _ K=>K (.fn (.func f) [] []))
noncomputable def evsT:List Operand->GT->Nat->Tr->(List D->Bool)->Bool:=
 @List.rec Operand (λ_=>GT->Nat->Tr->(List D->Bool)->Bool) (λ_ _ _ K=>K []) (λx _ ih G n t K=>evT x G n t λd=>ih G n t λds=>K (d::ds))
noncomputable def DW:List (Nat×Operand)->GT->Nat->Tr->(List (Nat×D)->Bool)->Bool:=
 @List.rec (Nat×Operand) (λ_=>GT->Nat->Tr->(List (Nat×D)->Bool)->Bool) (λ_ _ _ K=>K []) (λp _ ih G n t K=>evT p.2 G n t λd=>ih G n t λds=>K ((p.1,d)::ds))
noncomputable def evOT:Option Operand->GT->Nat->Tr->(Option D->Bool)->Bool:=
 @Option.rec Operand (λ_=>GT->Nat->Tr->(Option D->Bool)->Bool) (λ_ _ _ K=>K none) (λy G n t K=>evT y G n t λd=>K (some d))
noncomputable def mt:Option Tmp->Nat->Tr->D->(Tr->Bool)->Bool:=
 @Option.rec Tmp (λ_=>Nat->Tr->D->(Tr->Bool)->Bool) (λ_ t _ K=>K t) (λi n t d K=>Bool.rec (motive:=λ_=>Bool) false (setA i t d K) (Nat.blt i n))
noncomputable def boolT (d:D):Bool->Bool->Bool:=
 @D.casesOn (λ_=>Bool->Bool->Bool) d
  (λx=>@Value.casesOn (λ_=>Bool->Bool->Bool) x (λb yes no=>Bool.rec (motive:=λ_=>Bool) no yes b) (λ_ _ _ _=>false) (λ_ _ _ _=>false) (λ_ _ _ _ _=>false) (λ_ _ _=>false) (λ_ _ _=>false) (λ_ _ _ _ _=>false) (λ_ _ _=>false) (λ_ _ _=>false) (λ_ _ _ _ _=>false) (λ_ _=>false) (λ_ _ _ _=>false) (λ_ _=>false) (λ_ _ _=>false) (λ_ _ _=>false))
  (λ_ _ _=>false) (λ_ _ _ _=>false) (λ_ _ _=>false) (λ_ _ _ _ _ _ _ _=>false) (λ_ _ _ _=>false) (λ_ _ _=>false) (λ_ _ _=>false) (λ_ _ _ _ _=>false) (λ_ _ _=>false) (λ_ _ _ _=>false) (λ_ _=>false) (λ_ _=>false) (λ_ _ _=>false) (λ_ _ _=>false)
noncomputable def GH (d:D):(Int->Bool)->Bool->Bool:=
 @D.casesOn (λ_=>(Int->Bool)->Bool->Bool) d
  (λx=>@Value.casesOn (λ_=>(Int->Bool)->Bool->Bool) x (λ_ _ no=>no) (λk m=>@IntKind.casesOn (λ_=>(Int->Bool)->Bool->Bool) k (λ_ no=>no) (λ_ no=>no) (λ_ no=>no) (λyes _=>yes m) (λ_ no=>no) (λ_ no=>no) (λ_ no=>no) (λ_ no=>no))
   (λ_ _ _ no=>no) (λ_ _ _ _ no=>no) (λ_ _ no=>no) (λ_ _ no=>no) (λ_ _ _ _ no=>no) (λ_ _ no=>no) (λ_ _ no=>no) (λ_ _ _ _ no=>no) (λ_ no=>no) (λ_ _ _ no=>no) (λ_ no=>no) (λ_ _ no=>no) (λ_ _ no=>no))
  (λ_ _ no=>no) (λ_ _ _ no=>no) (λ_ _ no=>no) (λ_ _ _ _ _ _ _ no=>no) (λ_ _ _ no=>no) (λ_ _ no=>no) (λ_ _ no=>no) (λ_ _ _ _ no=>no) (λ_ _ no=>no) (λ_ _ _ no=>no) (λ_ no=>no) (λ_ no=>no) (λ_ _ no=>no) (λ_ _ no=>no)
noncomputable def strT (d:D):(List UInt8->Bool)->Bool->Bool:=
 @D.casesOn (λ_=>(List UInt8->Bool)->Bool->Bool) d (λ_ _ no=>no) (λs yes _=>yes s) (λ_ _ _ no=>no) (λ_ _ no=>no) (λ_ _ _ _ _ _ _ no=>no) (λ_ _ _ no=>no) (λ_ _ no=>no) (λ_ _ no=>no) (λ_ _ _ _ no=>no) (λ_ _ no=>no) (λ_ _ _ no=>no) (λ_ no=>no) (λ_ no=>no) (λ_ _ no=>no) (λ_ _ no=>no)
abbrev BH:=Program->TypeId->Operand->Operand->D->D->(D->Bool)->Bool
noncomputable def BX (op:BinOp) (f:Int->Int->(D->Bool)->Bool):BH:=λP t ox oy a b K=>GH a (λm=>GH b (λn=>f m n K) (jv P op t ox oy a b K)) (jv P op t ox oy a b K)
noncomputable def nstT (op:BinOp) (f:Int->Int->(D->Bool)->Bool) (g:List UInt8->List UInt8->(D->Bool)->Bool):BH:=λP t ox oy a b K=>
 GH a (λm=>GH b (λn=>f m n K) (jv P op t ox oy a b K)) (strT a (λu=>strT b (λv=>g u v K) (jv P op t ox oy a b K)) (jv P op t ox oy a b K))
def fAdd (m n:Int) (K:D->Bool):Bool:=oI (m+n) λr=>ifB (Bo r) (K (.v (.int .i64 r))) false
def fSub (m n:Int) (K:D->Bool):Bool:=oI (m-n) λr=>ifB (Bo r) (K (.v (.int .i64 r))) false
def fEql (m n:Int) (K:D->Bool):Bool:=ifB (ibe m n) (K (boo true)) (K (boo false))
def fNeq (m n:Int) (K:D->Bool):Bool:=ifB (ibe m n) (K (boo false)) (K (boo true))
def gEql (u v:List UInt8) (K:D->Bool):Bool:=ifB (me u v) (K (boo true)) (K (boo false))
def gNeq (u v:List UInt8) (K:D->Bool):Bool:=ifB (me u v) (K (boo false)) (K (boo true))
def fLss (m n:Int) (K:D->Bool):Bool:=ifB (ibl m n) (K (boo true)) (K (boo false))
def fLeq (m n:Int) (K:D->Bool):Bool:=ifB (ibl n m) (K (boo false)) (K (boo true))
def fGtr (m n:Int) (K:D->Bool):Bool:=ifB (ibl n m) (K (boo true)) (K (boo false))
def fGeq (m n:Int) (K:D->Bool):Bool:=ifB (ibl m n) (K (boo false)) (K (boo true))
noncomputable def binT:BinOp->BH:=
 @BinOp.rec (λ_=>BH) (BX .add fAdd) (BX .sub fSub) (λP=>jv P .mul) (λP=>jv P .quo) (λP=>jv P .rem) (λP=>jv P .and) (λP=>jv P .or) (λP=>jv P .xor) (λP=>jv P .shl) (λP=>jv P .shr) (λP=>jv P .andNot)
  (nstT .eql fEql gEql) (nstT .neq fNeq gNeq) (BX .lss fLss) (BX .leq fLeq) (BX .gtr fGtr) (BX .geq fGeq)
noncomputable def oneT (cs:List D) (K:D->Bool):Bool:=@List.casesOn D (λ_=>Bool) cs false (λd r=>@List.casesOn D (λ_=>Bool) r (K d) (λ_ _=>false))
noncomputable def wP (u:TypeDesc) (cs:List D) (K:D->Bool):Bool:=Bool.rec (motive:=λ_=>Bool) (oneT cs K) (K (.agg cs)) (sD u)
noncomputable def boxLT (b:Box):Nat->eH->(D->Bool)->Bool:=
 @Box.casesOn (λ_=>Nat->eH->(D->Bool)->Bool) b (λcs _ off x K=>mM cs off x.size λds=>wP x.u ds K) (λ_ _ _ _=>false) (λ_ _ _ _ _ _ _ _ _=>false) (λ_ _ _=>false) (λ_ _ _ _ _=>false)
noncomputable def ldT (d:D):eH->HT->(D->Bool)->Bool:=
 @D.casesOn (λ_=>eH->HT->(D->Bool)->Bool) d (λ_ _ _ _=>false) (λ_ _ _ _=>false) (λ_ _ _ _ _=>false) (λcs x _ K=>mM cs 0 x.size λds=>wP x.u ds K) (λ_ _ _ _ _ _ _ _ _=>false) (λid off x h K=>h.getK id λb=>boxLT b off x K)
  (λ_ _ _ _=>false) (λ_ _ _ _=>false) (λ_ _ _ _ _ _=>false) (λ_ _ _ _=>false) (λ_ _ _ _ _=>false) (λ_ _ _=>false) (λ_ _ _=>false) (λ_ _ _ _=>false) (λ_ _ _ _=>false)
noncomputable def loadT (ti:TI) (h:HT) (t:TypeId) (a:D) (K:D->Bool):Bool:=@Option.rec eH (λ_=>Bool) false (λx=>ldT a x h K) (ti t)
noncomputable def boxST (b:Box):Nat->eH->List D->HT->Nat->(HT->Bool)->Bool:=
 @Box.casesOn (λ_=>Nat->eH->List D->HT->Nat->(HT->Bool)->Bool) b (λcs ex off x l h id K=>ifB (Nat.beq l.length x.size&&gW l) (splK cs off l λcs'=>h.putK id (.cells cs' ex) K) false) (λ_ _ _ _ _ _ _=>false) (λ_ _ _ _ _ _ _ _ _ _ _ _=>false) (λ_ _ _ _ _ _=>false) (λ_ _ _ _ _ _ _ _=>false)
noncomputable def stT (d:D):eH->HT->List D->(HT->Bool)->Bool:=
 @D.casesOn (λ_=>eH->HT->List D->(HT->Bool)->Bool) d (λ_ _ _ _ _=>false) (λ_ _ _ _ _=>false) (λ_ _ _ _ _ _=>false) (λ_ _ _ _ _=>false) (λ_ _ _ _ _ _ _ _ _ _=>false) (λid off x h l K=>h.getK id λb=>boxST b off x l h id K)
  (λ_ _ _ _ _=>false) (λ_ _ _ _ _=>false) (λ_ _ _ _ _ _ _=>false) (λ_ _ _ _ _=>false) (λ_ _ _ _ _ _=>false) (λ_ _ _ _=>false) (λ_ _ _ _=>false) (λ_ _ _ _ _=>false) (λ_ _ _ _ _=>false)
noncomputable def storeT (ti:TI) (h:HT) (t:TypeId) (a d:D) (K:HT->Bool):Bool:=@Option.rec eH (λ_=>Bool) false (λx=>stT a x h (cU d) K) (ti t)
noncomputable def lenT (x:D):TI->List TypeId->(D->Bool)->Bool:=
 @D.casesOn (λ_=>TI->List TypeId->(D->Bool)->Bool) x (λv ti ts K=>a8 (fw ti ⟨0,[]⟩ ts (.v v)) K) (λv ti ts K=>a8 (fw ti ⟨0,[]⟩ ts (.str v)) K) (λa b ti ts K=>a8 (fw ti ⟨0,[]⟩ ts (.imm a b)) K) (λa ti ts K=>a8 (fw ti ⟨0,[]⟩ ts (.iptr a)) K)
  (λa b c d e f ti ts K=>a8 (fw ti ⟨0,[]⟩ ts (.sl a b c d e f)) K) (λa b ti ts K=>a8 (fw ti ⟨0,[]⟩ ts (.ptr a b)) K) (λa ti ts K=>a8 (fw ti ⟨0,[]⟩ ts (.agg a)) K) (λa ti ts K=>a8 (fw ti ⟨0,[]⟩ ts (.tup a)) K) (λa b c ti ts K=>a8 (fw ti ⟨0,[]⟩ ts (.fn a b c)) K)
  (λ_ _ _ _=>false) (λa b ti ts K=>a8 (fw ti ⟨0,[]⟩ ts (.iface a b)) K) (λti ts K=>a8 (fw ti ⟨0,[]⟩ ts .e0) K) (λti ts K=>a8 (fw ti ⟨0,[]⟩ ts .any) K) (λa ti ts K=>a8 (fw ti ⟨0,[]⟩ ts (.yf a)) K) (λa ti ts K=>a8 (fw ti ⟨0,[]⟩ ts (.zs a)) K)
abbrev LH:=Program->TI->HT->Nat->List TypeId->TypeId->List D->(D->HT->Bool)->Bool
noncomputable def l2T (l:List D) (K:D->D->Bool):Bool:=@List.casesOn D (λ_=>Bool) l false (λa r=>@List.casesOn D (λ_=>Bool) r false (λb r=>@List.casesOn D (λ_=>Bool) r (K a b) (λ_ _=>false)))
noncomputable def l1T (l:List D) (K:D->Bool):Bool:=@List.casesOn D (λ_=>Bool) l false (λa r=>@List.casesOn D (λ_=>Bool) r (K a) (λ_ _=>false))
noncomputable def noL:LH:=λ_ _ _ _ _ _ _ _=>false
noncomputable def bltT:Builtin->LH:=
 @Builtin.rec (λ_=>LH) (λ_ ti h id ts _ l K=>l2T l λs x=>FI ti h id ts s x K) noL noL noL noL noL noL noL (λ_ ti h _ ts _ l K=>l1T l λx=>lenT x ti ts λd=>K d h) noL
  (λP ti h id ts ty l K=>a8 (ao P ti ⟨0,[]⟩ id .max ts ty l) λr=>K r.1 h) (λP ti h id ts ty l K=>a8 (ao P ti ⟨0,[]⟩ id .min ts ty l) λr=>K r.1 h) noL noL noL noL noL noL noL noL noL noL noL noL noL noL
noncomputable def nthT:List D->Nat->(D->Bool)->Bool:=
 @List.rec D (λ_=>Nat->(D->Bool)->Bool) (λ_ _=>false) (λx _ ih i K=>Nat.rec (motive:=λ_=>Bool) (K x) (λm _=>ih m K) i)
noncomputable def tupT (d:D):(List D->Bool)->Bool:=
 @D.casesOn (λ_=>(List D->Bool)->Bool) d (λ_ _=>false) (λ_ _=>false) (λ_ _ _=>false) (λ_ _=>false) (λ_ _ _ _ _ _ _=>false) (λ_ _ _=>false) (λ_ _=>false) (λl K=>K l) (λ_ _ _ _=>false) (λ_ _=>false) (λ_ _ _=>false) (λ_=>false) (λ_=>false) (λ_ _=>false) (λ_ _=>false)
abbrev XH:=GT->Program->TI->Nat->TypeId->Tr->HT->Nat->(D->HT->Bool)->Bool
noncomputable def noH:XH:=λ_ _ _ _ _ _ _ _ _=>false
noncomputable def blcT (c:Call):XH:=
 @Callee.casesOn (λ_=>XH) c.callee (λ_=>noH) (λ_ _=>noH) (λb G P ti n ty t h id K=>evsT c.args.toList G n t λds=>bltT b P ti h id c.argTypes.toList ty ds K)
noncomputable def opT:Op->XH:=
 @Op.rec (λ_=>XH)
  (λx G _ _ n _ t h _ K=>evT x G n t λd=>K d h)
  (λx G _ _ n _ t h _ K=>evT x G n t λd=>K d h)
  (λc a b G _ _ n _ t h _ K=>evT c G n t λd=>boolT d (evT a G n t λd=>K d h) (evT b G n t λd=>K d h))
  (λty _ _ ti _ _ _ h id K=>a8 (ti ty) λx=>h.putK id (.cells x.zero true) (K (.ptr id 0)))
  (λ_ x G _ _ n _ t h id K=>evT x G n t λd=>h.putK id (.cells (cU d) true) (K (.ptr id 0)))
  (λty ps G _ ti n _ t h _ K=>DW ps.toList G n t λl=>a8 (rh ti ty l) λd=>K d h)
  (λty m ps G _ ti n _ t h id K=>DW ps.toList G n t λl=>a8 (eS ti ⟨0,[]⟩ id ty m l) λr=>oA r.2.bs λb=>h.putK id b (K r.1))
  (λty m k x G _ ti n _ t h _ K=>evT m G n t λa=>evT k G n t λb=>evT x G n t λd=>sH ti h ty a b d (K aM))
  (λty a G _ ti n _ t h _ K=>evT a G n t λd=>loadT ti h ty d λd=>K d h)
  (λty a x G _ ti n _ t h _ K=>evT a G n t λd=>evT x G n t λe=>storeT ti h ty d e (K aM))
  (λ_=>noH) (λ_=>noH)
  (λx G _ _ n _ t h _ K=>evT x G n t λd=>a8 (fP d) λd=>K d h)
  (λop ty x y _ G P _ n _ t h _ K=>evT x G n t λa=>evT y G n t λb=>binT op P ty x y a b λd=>K d h)
  (λop _ x G P _ n _ t h _ K=>evT x G n t λd=>xun P op d λd=>K d h)
  (λs e x G P ti n _ t h _ K=>evT x G n t λd=>za P ti h s e d λd=>K d h)
  (λ_ _=>noH) (λty x G _ ti n _ t h _ K=>evT x G n t λd=>a8 (re ti ty d) λd=>K d h)
  (λfn f c G _ _ n _ t h _ K=>evsT f.toList G n t λa=>evsT c.toList G n t λb=>K (.fn fn a b) h)
  (λty r G _ ti n _ t h id K=>match r with
   | none=>h.putK id (.map []) (K (.map id))
   | some x=>evT x G n t λd=>(match d with|.v (.int _ _)=>a8 (ti ty) λa=>(match a.u with|.map _ _=>h.putK id (.map []) (K (.map id))|_=>false)|_=>false))
  (λ_ _=>noH)
  (λty l c G _ ti n _ t h id K=>evT l G n t λa=>evT c G n t λb=>a8 (dU ti ⟨0,[]⟩ id ty a b) λr=>oA r.2.bs λb=>h.putK id b (K r.1))
  (λty x lo hi mx G _ ti n _ t h _ K=>evT x G n t λd=>evOT lo G n t λl=>evOT hi G n t λhh=>evOT mx G n t λm=>a8 (dg ti ty d l hh m) λd=>K d h)
  (λty x f G _ ti n _ t h _ K=>evT x G n t λd=>a8 (fQ ti ty d f) λd=>K d h)
  (λty x f G _ ti n _ t h _ K=>evT x G n t λd=>a8 (oV ti ty d f) λd=>K d h)
  (λty x i G _ ti n _ t h _ K=>evT x G n t λa=>evT i G n t λb=>a8 (cV ti ty a b) λd=>K d h)
  (λty x i G _ ti n _ t h _ K=>evT x G n t λa=>evT i G n t λb=>a8 (ky ti ty a b) λd=>K d h)
  (λty x i ok G _ ti n _ t h _ K=>evT x G n t λa=>evT i G n t λb=>zW ti h ty a b ok λd=>K d h)
  (λty m k x G _ ti n _ t h _ K=>evT m G n t λa=>evT k G n t λb=>evT x G n t λd=>sH ti h ty a b d (K aM))
  (λ_ _ _=>noH) (λ_ _ _ _=>noH) (λ_ _=>noH) (λ_ _=>noH) (λ_=>noH) (λ_ _ _ _=>noH)
  (λx i G _ _ n _ t h _ K=>evT x G n t λd=>tupT d λcs=>nthT cs i λd=>K d h)
  (λc=>blcT c)
  (λ_=>noH) (λ_=>noH) (λ_=>noH) (λ_ _=>noH) (λ_ _ _=>noH) (λ_ _=>noH)
noncomputable def isCall:Op->Bool:=
 @Op.rec (λ_=>Bool) (λ_=>false) (λ_=>false) (λ_ _ _=>false) (λ_=>false) (λ_ _=>false) (λ_ _=>false) (λ_ _ _=>false) (λ_ _ _ _=>false) (λ_ _=>false) (λ_ _ _=>false) (λ_=>false) (λ_=>false) (λ_=>false) (λ_ _ _ _ _=>false) (λ_ _ _=>false) (λ_ _ _=>false)
  (λ_ _=>false) (λ_ _=>false) (λ_ _ _=>false) (λ_ _=>false) (λ_ _=>false) (λ_ _ _=>false) (λ_ _ _ _ _=>false) (λ_ _ _=>false) (λ_ _ _=>false) (λ_ _ _=>false) (λ_ _ _=>false) (λ_ _ _ _=>false) (λ_ _ _ _=>false) (λ_ _ _=>false) (λ_ _ _ _=>false) (λ_ _=>false) (λ_ _=>false) (λ_=>false) (λ_ _ _ _=>false) (λ_ _=>false)
  (λc=>@Callee.casesOn (λ_=>Bool) c.callee (λ_=>true) (λ_ _=>true) (λ_=>false)) (λ_=>false) (λ_=>false) (λ_=>false) (λ_ _=>false) (λ_ _ _=>false) (λ_ _=>false)
section
variable (G:GT) (P:Program) (ti:TI) (xc:XC) (n:Nat)
noncomputable def goC (o:Oper) (t:Tr) (h:HT) (nx:Nat) (K:Tr->HT->Nat->Bool):Bool:=
 @lB G P n t o (λk ds=>Cb P k ds (λd=>iI n t o.dst d λt'=>K t' h (nx+1)) (xc k ds h (nx+1) λd h' nx'=>iI n t o.dst d λt'=>K t' h' nx')) (@xop G P ti n t h nx o λd h'=>iI n t o.dst d λt'=>K t' h' (nx+1))
noncomputable def goT (o:Oper) (t:Tr) (h:HT) (nx:Nat) (K:Tr->HT->Nat->Bool):Bool:=
 Bool.rec (motive:=λ_=>Bool) (opT o.op G P ti n o.type t h nx λd h'=>mt o.dst n t d λt'=>K t' h' (nx+1)) (goC G P ti xc n o t h nx K) (isCall o.op)
noncomputable def jc (ops:Array Oper) (o:Oper) (t:Tr) (h:HT) (nx:Nat) (K:Tr->HT->Nat->Bool):Bool:=
 @Option.rec (Nat×Bool) (λ_=>Bool) (goT G P ti xc n o t h nx K) (λ_=>ng n t ops o (goT G P ti xc n o t h nx K) (iI n t o.dst aM λt'=>K t' h nx)) o.guard
end
section
variable {G:GT}{P:Program}{ti:TI}{xc:XC}{n:Nat}
end
section
variable (G:GT) (P:Program) (ti:TI) (xc:XC) (n:Nat)
end
section
variable (G:GT) (P:Program) (ti:TI) (xc:XC) (n:Nat)
end
section
variable {G:GT}{P:Program}{ti:TI}{xc:XC}{n:Nat}
end
end Go.Am
