/-
  The abstract machine: what Go code does to abstract values, and that it does so in the model. No condition beyond what each theorem says.
-/
import Derived.Test.YtlimkdlhldlolaaGreatDoorAmE
set_option linter.unusedSectionVars false
/-
 The abstract machine,part 50: cells that are a function of their bA;truth values;places in lists.
-/
namespace Go.Am
variable [GT]
theorem aH {α:Type}{l:List α}{k:Nat}{d:α}(h:k<l.length):l.getD k d=l[k]:=by
 simp[List.getD,List.getElem?_eq_getElem h]
theorem aj {n k:Nat}{Q:(i:Nat)->i<n->Prop}(hk:k<n) (inv:∀ i (h:i<n),i<k->Q i h) (hq:Q k hk):∀ i (h:i<n),i<k+1->Q i h:=λi h hi=>by
 rcases(by omega:i<k\/i=k) with h1|h1
 .exact inv i h h1
 .subst h1;exact hq
theorem bt {n k:Nat}{Q:(i:Nat)->i<n->Prop}(hk:n<=k) (inv:∀ i (h:i<n),i<k->Q i h):∀ i (h:i<n),Q i h:=λi h=>inv i h om
abbrev aT (n:Nat) (f:Nat->D):List D:=(List.range n).map f
theorem bG {n k:Nat}{f g:Nat->D}{d:D}(h1:g k=d) (h2:∀ i,i<n->i≠k->g i=f i):(aT n f).set k d=aT n g:=by
 apply List.ext_getElem
 .simp
 .intro i hi hi';simp only[List.length_set,List.length_map,List.length_range] at hi;rw[List.getElem_set];split
  .rename_i e;subst e;simp[h1]
  .rename_i e;simp[h2 i hi (λx=>e x.symm)]
theorem bo {n:Nat}{f g:Nat->D}(h:∀ i,i<n->f i=g i):aT n f=aT n g:=List.map_congr_left λi hi=>h i (by simpa using hi)
theorem a8 {n:Nat}{m:Int}{z:D}{f:Nat->D}(hm:m=(n:Int)) (h:∀ i,i<n->f i=z):dK [z] m.toNat=aT n f:=by
 subst hm;rw[ni];apply List.ext_getElem
 .simp
 .intro i hi hi';simp at hi;simp[h i hi]
theorem ab {n:Nat}{f:Nat->D}(h:∀ i,aK (f i)=true):aF (aT n f)=true:=aU h _
theorem Get.F {n k:Nat}{f:Nat->D}{d:D}{K:List D->Prop}(hk:k<n) (e:f k=d) (go:K [d]):Get (aT n f) (0+k*1) 1 K:=
 Get.map (by simpa using hk) (by rw[List.getElem_range,e];exact go)
theorem ct {α:Type}{l:List α}{f:α->D}{g:Nat->D}(h:∀ i (hi:i<l.length),g i=f l[i]):aT l.length g=l.map f:=by
 apply List.ext_getElem
 .simp
 .intro i hi hi';simp at hi;simp[h i hi]
theorem Get.one {cs:List D}{k:Nat}{d:D}{K:List D->Prop}(e:cs[k]?=some d) (go:K [d]):Get cs (0+k*1) 1 K:=by
 obtain⟨h,e⟩:=List.getElem?_eq_some_iff.1 e;refine⟨om,?_⟩;rw[Nat.zero_add,Nat.mul_one,kK h,e];exact go
abbrev ap (l:List Bool):D:=lst boo l
theorem aw (l:List Bool):aK (ap l)=true:=gI (λ_=>rfl) l
theorem Idx.atE {α:Type}{f:α->D}{l:List α}{m:Int}(k:Nat){d:D}{K:D->Prop}(e:m=(k:Int)) (h:k<l.length) (ed:f l[k]=d) (go:K (.iptr [d])):Idx l.length (l.map f) 1 m K:=Idx.at k e h (by rw[ed];exact go)
abbrev byt (b:UInt8):D:=.v (.int .u8 (b.toNat:Int))
theorem nf:∀ (l:List UInt8),dA (l.map byt)=some l
 | []=>rfl
 | b::l=>by simp only[List.map_cons,dA,nf l,Int.toNat_natCast];simp
theorem Cvs.all {cs:List D}{n:Nat}{l:List UInt8}{K:List UInt8->Prop}(e:cs=l.map byt) (hn:n=l.length) (go:K l):Cvs cs 0 n K:=by
 subst e;subst hn;exact⟨si,l,by rw[List.drop_zero,kE si];exact nf l,go⟩
theorem Chk.growX {a b es m:Nat}{cs:List D}{K:Prop}(c z:Nat) (e:b=c) (e2:es=z) (h1:a*c<=1099511627776) (h2:a<=1099511627776) (h3:m*z<=cs.length) (go:K):Chk (a*b<=ag/\a<=ag/\0+m*es<=cs.length) K:=⟨by subst e;subst e2;exact⟨h1,h2,om⟩,go⟩
theorem Cll.inl {P:Program}{ti:TI}(hm:P.follows .mixedOrders=true) (T:TOk P ti){g:FuncId}{fn:Func}{code:Code}{ds:List D}{n:Nat}{bs:List (Nat×Box)}{h':aA}{d:D}{K:D->aA->Prop}(hg:P.funcs[g]?=some fn) (hb:fn.body=some code) (hn:(fn.name == "runtime.NumGoroutine")=false)
  (H:hZ P ti n code (λe s'=>(e=.normal\/e=.ret)/\jM ti fn s'=some d/\s'.h=h') ⟨ds++List.replicate (fn.ntmps-ds.length) aO,⟨n,bs⟩⟩) (go:K d h'):Cll P g ds ⟨n,bs⟩ K:=⟨d,h',AC1.of_vl hm T hg hb hn H,go⟩
inductive pG (H:aA) (sl:List (Nat×Nat)) (fzl:List Nat):List (Nat×Box)->Prop
 | nil:pG H sl fzl []
 | cons {j:Nat} {b:Box} {r:List (Nat×Box)}:H.get j=some b->(sl.all λp=>p.2 != j)=true->fzn fzl j=false->pG H sl fzl r->pG H sl fzl ((j,b)::r)
theorem BK:∀ {sl:List (Nat×Nat)}{j a:Nat},(sl.all λp=>p.2 != j)=true->lkN sl a≠some j
 | [],_,_,_,h=>by simp[lkN] at h
 | (x,y)::l,j,a,h,e=>by
  simp only[List.all_cons,kC,bne_iff_ne] at h;simp only[lkN] at e;split at e
  .injection e with e;exact h.1 e
  .exact BK h.2 e
theorem pG.hr {H:aA}{sl:List (Nat×Nat)}{fzl:List Nat}{rest:List (Nat×Box)}(h:pG H sl fzl rest){b0:List (Nat×Box)}:∀ j b,aY rest j=some b->H.get j=some b/\(∀ a bx,aY b0 a=some bx->lkN sl a≠some j)/\fzn fzl j=false:=by
 induction h with
 | nil=>intro j b h;simp[aY] at h
 | cons h1 h2 h3 _ ih=>
  intro j b h;simp only[aY] at h;split at h
  .rename_i e;subst e;injection h with h;subst h
   exact⟨h1,λ_ _ _=>BK h2,h3⟩
  .exact ih j b h
theorem Cll.emb {P:Program}{g:FuncId}{ds:List D}{n:Nat}{b0:List (Nat×Box)}{d:D}{n1:Nat}{b1:List (Nat×Box)}(hp:AC1 P g ds ⟨n,b0⟩ d ⟨n1,b1⟩)
  {N:Nat} {HB:List (Nat×Box)} {DS:List D} {K:D->aA->Prop} (sl:List (Nat×Nat)) (fzl:List Nat) (D':D) (B1 rest:List (Nat×Box)) (hok:lx n sl=true) (hd:Rds ⟨N,HB⟩ (fzn fzl) (lkN sl) DS ds) (hb:Bxs ⟨N,HB⟩ (fzn fzl) (lkN sl) b0)
  (rd:Rd ⟨n1,b1⟩ (λ_=>false) (eG sl N n) d D') (rb:Bxs ⟨n1,b1⟩ (λ_=>false) (eG sl N n) B1) (hr:pG ⟨N,HB⟩ sl fzl rest)
  (go:K D' ⟨N+(n1-n),B1++rest⟩):Cll P g DS ⟨N,HB⟩ K:=⟨_,_,AC1.embed hp sl fzl hok hd hb rd rb hr.hr,go⟩
end Go.Am
/-
 The abstract machine,part 56: the walk's steps,with proofs of their conditions that are looked for where they are used.
-/
namespace Go.Am
theorem sd {p:Prop}(h:p:=by first|omega|assumption|exact hl _ _|exact ko om om|(simp;omega)|(simp;done)|fail):p:=h
class Mx (P:Program):Prop where
 ok:P.follows .mixedOrders=true
theorem sg [GT] {P:Program} [Mx P] {nb:Nat}{x:Code}{Q:Exit->St->Prop}{s:St}(h:hZ P (ci P) nb x Q s):bX P nb x Q s:=bX.go Mx.ok (ue _) h
theorem stw {p:Prop}(h:p:=by first|exact Get.exp rfl|exact Idx.lst sd|exact Idx.lstS (by intro _;rfl) sd|exact Aa.nat sd|exact bT.nat sd|exact λgo=>bT.lit go|exact oY.mk (by kernel_rfl)|exact Put.exp rfl|exact eI.exp rfl|exact Chk.mk (by first|exact rfl|exact ko om om|omega|assumption|fail)|exact Chk.mk ⟨kD rfl,kD rfl⟩|exact Chk.grow (by intro _;rfl) 8 rfl om om|exact Chk.room 8 rfl om om|exact Chk.made 8 rfl om om om|exact Chk.grow (by intro _;rfl) 1 rfl om om|exact Chk.room 1 rfl om om|exact Chk.made 1 rfl om om om|exact Chk.grow (by intro _;rfl) 16 rfl om om|exact Chk.room 16 rfl om om|exact Chk.made 16 rfl om om om|exact Chk.grow (by intro _;rfl) 24 rfl om om|exact Chk.room 24 rfl om om|exact Chk.made 24 rfl om om om|exact Chk.grow (by intro _;rfl) 48 rfl om om|exact Chk.room 48 rfl om om|exact Chk.made 48 rfl om om om|fail):p:=h
theorem stq {G' G:Prop}(go:G') (h:G'->G:=by first|exact sg|exact stw|fail):G:=h go
theorem stv {G' G:Prop}(go:G') (h:G'->G:=by exact stw):G:=h go
theorem bk {p K1 K2:Prop}(h1:p->K1) (h2:¬p->K2):Br p K1 K2:=⟨h1,h2⟩
theorem nb_one {d:D}{l:List D}(h1:aK d=true) (h2:aF l=true):aF (d::l)=true:=by simp only[aF,h1,h2,Bool.and_self]
theorem nbS {p:Prop}(h:p:=by(repeat(first|exact rfl|exact aM _|exact aX _|exact kY _|exact aw _|exact noBox_boolss _|exact b9 _|exact eR _|exact oB _|exact qm _|exact dP _|exact ah _|exact ak _|exact noBox_rgs _|exact bn _|exact kX _|refine nb_one ?_ ?_|refine nb_agg ?_|refine nb_ip ?_|fail));(first|done|fail)):p:=h
theorem pv [GT] {P:Program} [Mx P] {g:FuncId}{fn:Func}{code:Code}{ds:List D}{d:D}(hg:P.funcs[g]?=some fn) (h:hZ P (ci P) 0 code (endQ (ci P) fn d) ⟨ds++List.replicate (fn.ntmps-ds.length) aO,⟨0,[]⟩⟩) (hb:fn.body=some code:=by exact rfl) (hd:aF ds=true:=by exact nbS) (hn:(fn.name == "runtime.NumGoroutine")=false:=by exact rfl):Pu P g ds d:=Pu.of_v Mx.ok (ue P) hg hb hn hd h
class IsC [GT] (m:Prop) (P:outParam Program) (g:outParam FuncId) (ds:outParam (List D)) (K:outParam (D->Prop)):Prop where
 ok:∀ d,Pu P g ds d->K d->m
section
variable [GT] {P:Program}{g:FuncId}{ds:List D}
instance {h:aA} {K:D->aA->Prop}:IsC (Cll P g ds h K) P g ds (λd=>K d h):=⟨λ_ hp go=>Cll.pu hp go⟩
instance {K:D->Prop}:IsC (Dm P g ds K) P g ds K:=⟨λ_ hp go=>Dm.pu hp go⟩
theorem cp {m:Prop}{K:D->Prop}{d:D} [c:IsC m P g ds K] (hp:Pu P g ds d) (go:K d):m:=c.ok d hp go
theorem cd {m:Prop}{K:D->Prop}{p:Prop} [Decidable p] [c:IsC m P g ds K] (hp:Pu P g ds (boo (decide p))) (yes:p->K (boo true)) (no:¬p->K (boo false)):m:=by
 by_cases h:p
 .exact c.ok _ (by simpa [h] using hp) (yes h)
 .exact c.ok _ (by simpa [h] using hp) (no h)
end
theorem sim {p:Prop}(h:p:=by first|(simp;done)|(simp;omega)|fail):p:=h
theorem rdA {p:Prop}(h:p:=by first|exact rdX|exact Rd.any|exact Rd.ptr rfl|exact Rd.map rfl|exact Rd.sl rfl|exact Rd.same rfl|exact Rd.int om|assumption|exact Rd.same (aM _)|exact Rd.same (aX _)|exact Rd.same (kY _)|exact Rd.same (aw _)|exact Rd.same (noBox_boolss _)|exact Rd.same (b9 _)|exact Rd.same (eR _)|exact Rd.same (oB _)|exact Rd.same (qm _)|exact Rd.same (dP _)|exact Rd.same (ah _)|exact Rd.same (ak _)|exact Rd.same (noBox_rgs _)|exact Rd.same (bn _)|fail):p:=h
theorem cO {p:Prop}(h:p:=by(repeat(first|exact Rds.nil|refine Rds.cons rdA ?_|fail));(first|done|fail)):p:=h
theorem rbB {p:Prop}(h:p:=by first|exact Rb.cells (Rds.same (aE lH _)) rfl|exact Rb.cells (Rds.same (aE tT _)) rfl|exact Rb.cells (Rds.same (aE oA _)) rfl|exact Rb.cells (Rds.same (aE Cf _)) rfl|exact Rb.cells (Rds.same (aE zt _)) rfl|exact Rb.cells (Rds.same rfl) rfl|exact Rb.cells (Rds.same (aU (λ_=>rfl) _)) rfl|exact Rb.cells (Rds.same (fh (λ_=>rfl) rfl)) rfl|exact Rb.cells (Rds.same (aE (λ_=>rfl) _)) rfl|exact Rb.map (Res.same (lI rfl _))|exact Rb.map (Res.same (dZ _ _))|exact Rb.map (Res.same si)|fail):p:=h
theorem rbC {p:Prop}(h:p:=by first|exact Rb.map (Res.eqs (kg om) (lI rfl _))|exact Rb.map (Res.eqs (Er om) (dZ _ _))|exact Rb.cells (Rds.eqs (kg om) (aU (λ_=>rfl) _)) rfl|assumption|fail):p:=h
theorem rbA {p:Prop}(h:p:=by first|exact rbX|exact rbB|exact Rb.cells cO rfl|exact rbC|fail):p:=h
theorem enA {p:Prop}(h:p:=by(repeat(first|exact nh.nil|refine nh.cons rfl rdA ?_|fail));(first|done|fail)):p:=h
theorem bxA {p:Prop}(h:p:=by(repeat(first|exact Bxs.nil|refine Bxs.cons rfl rfl rfl rbA ?_|fail));(first|done|fail)):p:=h
theorem reA {p:Prop}(h:p:=by(repeat(first|exact pG.nil|refine pG.cons rfl rfl rfl ?_|fail));(first|done|fail)):p:=h
theorem reF {p:Prop}(h:p:=by(repeat(first|exact ky.nil|refine ky.cons rfl rfl rfl ?_|fail));(first|done|fail)):p:=h
section
variable [GT] {nb:Nat}{tm:List D}{h:aA}{n nx:Nat}{l:List (Nat×D)}{bs:List (Nat×Box)}
theorem lq (σl:List (Nat×Nat)) (fzl:List Nat) (he:nh h (fzn fzl) (sgm nb σl) tm l:=by exact enA) (hb:Bxs h (fzn fzl) (sgm nb σl) bs:=by exact bxA) (hp:fp nb nx σl=true:=by exact rfl) (hn:tm.length=n:=by exact rfl):Lf nb ⟨tm,h⟩ ⟨tmp n l,⟨nx,bs⟩⟩:=Lf.of2 σl fzl he hb hp hn
theorem lq0 (he:nh h (fzn []) (sgm nb []) tm l:=by exact enA) (hb:Bxs h (fzn []) (sgm nb []) bs:=by exact bxA) (hp:fp nb nx []=true:=by exact rfl) (hn:tm.length=n:=by exact rfl):Lf nb ⟨tm,h⟩ ⟨tmp n l,⟨nx,bs⟩⟩:=Lf.of2 [] [] he hb hp hn
end
end Go.Am
/-
 The abstract machine,part 51: boxes of the caller numbered anew;cells part by part.
-/
namespace Go.Am
variable [GT]
def ek (nb nx:Nat):List (Nat×Nat)->Bool
 | []=>Nat.ble nb nx
 | (a,b)::l=>Nat.blt a nx&&l.all (λp=>p.2 != b)&&ek nb nx l
theorem mJ {nb nx:Nat}:∀ {l:List (Nat×Nat)},ek nb nx l=true->∀ j b,lkN l j=some b->j<nx
 | [],_,j,b,h=>by simp[lkN] at h
 | (a,b0)::l,hp,j,b,h=>by
  simp only[ek,kC] at hp;simp only[lkN] at h;split at h
  .rename_i e;subst e;simpa [Nat.blt_eq] using hp.1.1
  .exact mJ hp.2 j b h
theorem gZ {nb nx:Nat}:∀ {l:List (Nat×Nat)},ek nb nx l=true->nb<=nx
 | [],h=>by simpa [ek] using h
 | (a,b0)::l,hp=>by simp only[ek,kC] at hp;exact gZ hp.2
theorem kT {nb nx:Nat}:∀ {l:List (Nat×Nat)},ek nb nx l=true->∀ i j b,lkN l i=some b->lkN l j=some b->i=j
 | [],_,i,j,b,h,_=>by simp[lkN] at h
 | (a,b0)::l,hp,i,j,b,hi,hj=>by
  simp only[ek,kC,kL,bne_iff_ne] at hp;simp only[lkN] at hi hj;split at hi<;>split at hj
  .rename_i e1 e2;rw[<-e1,<-e2]
  .injection hi with hi;subst hi;obtain⟨p,h1,h2⟩:=ez hj;exact absurd h2 (hp.1.2 p h1)
  .injection hj with hj;subst hj;obtain⟨p,h1,h2⟩:=ez hi;exact absurd h2 (hp.1.2 p h1)
  .exact kT hp.2 i j b hi hj
def rC (nb:Nat) (bs:List (Nat×Box)) (σl:List (Nat×Nat)):Bool:=σl.all λp=>Nat.ble nb p.2 || bs.all λq=>q.1 != p.2
theorem iG {b:Nat}:∀ {bs:List (Nat×Box)},(bs.all λq=>q.1 != b)=true->aY bs b=none
 | [],_=>rfl
 | (i,x)::l,h=>by
  simp only[List.all_cons,kC,bne_iff_ne] at h;simp only[aY];rw[if_neg h.1];exact iG h.2
theorem Lf.of3 {nb:Nat}{tm:List D}{h:aA}{n nx:Nat}{l:List (Nat×D)}{bs:List (Nat×Box)}(σl:List (Nat×Nat)) (fzl:List Nat)
  (he:nh h (fzn fzl) (sgm nb σl) tm l) (hb:Bxs h (fzn fzl) (sgm nb σl) bs) (hko:rC nb bs σl=true) (hp:ek nb nx σl=true) (hn:tm.length=n):Lf nb ⟨tm,h⟩ ⟨tmp n l,⟨nx,bs⟩⟩:=⟨λcb hb0 c a hB hf=>by
 have hk:∀ p∈σl,p.2<nb->aY bs p.2=none:=λp hp hlt=>by
  simp only[rC,kL,kN,Nat.ble_eq] at hko;rcases hko p hp with h1|h1
  .omega
  .exact iG (by rw[kL];exact h1)
 have R:=hf.rel
 let c0:Ctx:={ S:=λb=>c.S b\/∃ id o box,fzn fzl id=true/\h.get id=some box/\c.φ id=some (b,o),φ:=λj=>if j<nb then c.φ j else(lkN σl j).bind c.φ,w:=c.w }
 have hφ:∀ id' id,sgm nb σl id'=some id->c0.φ id'=c.φ id:=λid' id hs=>by
  show(if id' < nb then c.φ id' else(lkN σl id').bind c.φ)=c.φ id;unfold sgm at hs;split at hs
  .rename_i hlt;rw[if_pos hlt];injection hs with hs;rw[hs]
  .rename_i hlt;rw[if_neg hlt,hs];rfl
 have hinj:∀ i j b,(∃ x,aY bs i=some x)->(∃ x,aY bs j=some x)->sgm nb σl i=some b->sgm nb σl j=some b->i=j:=λi j b li lj hi hj=>by
  unfold sgm at hi hj;split at hi<;>split at hj
  .injection hi with hi;injection hj with hj;omega
  .injection hi with hi
   obtain⟨p,h1,h2⟩:=ez hj;obtain⟨x,hx⟩:=li;have:=hk p h1 om
   rw[h2,<-hi,hx] at this;cases this
  .injection hj with hj
   obtain⟨p,h1,h2⟩:=ez hi;obtain⟨x,hx⟩:=lj;have:=hk p h1 om
   rw[h2,<-hj,hx] at this;cases this
  .exact kT hp i j b hi hj
 have T:oX c h (fzn fzl) (sgm nb σl) c0:=⟨R,rfl,λb hb=>.inl hb,λid b o box h1 h2 h3=>.inr ⟨id,o,box,h1,h2,h3⟩,hφ⟩;refine⟨c0,rfl,⟨⟨λb hb=>?_,λid hid=>?_,λid' box' hg=>?_,λi j bi bj b o o' h1 h2 h3 h4=>?_,GT.keep (c:=c) (λ_ h=>.inl h) (λ_ _=>rfl) R.inv⟩,?_⟩,⟨hB.next,hB.fresh,⟨⟨λb hb=>.inl (hB.grow.keeps.S b hb),λid x hx=>?_,λb hb=>hB.grow.keeps.cells b hb,λb e z hz=>hB.grow.keeps.shape b e z hz⟩,hB.grow.os,hB.grow.tape,hB.grow.output,hB.grow.size,?_,hB.grow.frame,λb ho=>?_,λb hb=>?_⟩,λj hj=>?_⟩⟩
 .rcases hb with hb|⟨id,o,box,_,h2,h3⟩
  .exact R.size b hb
  .obtain⟨b',o',p1,_,p3⟩:=R.live id box h2;rw[p1] at h3;injection h3 with h3;injection h3 with e1 _;subst e1
   exact p3.lt
 .show(if id<nb then c.φ id else(lkN σl id).bind c.φ)=none;have h0:=gZ hp;have hid:nx<=id:=hid;rw[if_neg om];cases hl:lkN σl id with
  | none=>rfl
  | some b=>have:=mJ hp id b hl;omega
 .obtain⟨id,box,h1,h2,h3,h4⟩:=hb.get id' box' hg;obtain⟨b,o,p1,p2,p3⟩:=R.live id box h2;refine⟨b,o,by rw[hφ id' id h1];exact p1,?_,h4.sound T p3⟩;rintro(hs|⟨idf,of,bf,q1,q2,q3⟩)
  .exact p2 hs
  .have:=R.inj id idf box bf b o of h2 q2 p1 q3
   subst this;rw[h3] at q1;cases q1
 .obtain⟨id1,b1,x1,x2,_,_⟩:=hb.get i bi h1;obtain⟨id2,b2,y1,y2,_,_⟩:=hb.get j bj h2;rw[hφ i id1 x1] at h3;rw[hφ j id2 y1] at h4;have:=R.inj id1 id2 b1 b2 b o o' x2 y2 h3 h4
  subst this;exact hinj i j id1 ⟨_,h1⟩ ⟨_,h2⟩ x1 y1
 .have hlen:=hf.tmps.length
  have:=gF (c0:=c0) (L:=l) (all:=a.tmps.toList) (λj d hm=>by
   obtain⟨x,h1,h2⟩:=he.mem j d hm;obtain⟨y,h3,h4⟩:=hf.tmps.get j x h1
   exact⟨y,h3,h2.sound T y h4⟩) n 0 l (λ_ h=>h) (by rw[hlen];simpa using hn.symm)
  simpa using this
 .have hid:id<nb:=Nat.lt_of_not_le λhle=>by rw[hB.fresh id hle] at hx;cases hx
  show(if id<nb then c.φ id else(lkN σl id).bind c.φ)=some x;rw[if_pos hid];exact hB.grow.keeps.φ id x hx
 .show hb0.next<=nx;have h0:=gZ hp;have:=hB.next
  omega
 .obtain⟨id',box',o,h1,h2⟩:=ho;obtain⟨id,box,x1,x2,_,_⟩:=hb.get id' box' h1;rw[hφ id' id x1] at h2;exact hB.grow.own b ⟨id,box,o,x2,h2⟩
 .rcases hb with hb|⟨id,o,box,_,h2,h3⟩
  .exact hB.grow.stable b hb
  .exact .inr (hB.grow.own b ⟨id,box,o,h2,h3⟩)
 .show(if j<nb then c.φ j else(lkN σl j).bind c.φ)=cb.φ j
  rw[if_pos hj];exact hB.φ j hj⟩
theorem lq3 {nb:Nat}{tm:List D}{h:aA}{n nx:Nat}{l:List (Nat×D)}{bs:List (Nat×Box)}(σl:List (Nat×Nat)) (fzl:List Nat) (he:nh h (fzn fzl) (sgm nb σl) tm l:=by exact enA) (hb:Bxs h (fzn fzl) (sgm nb σl) bs:=by exact bxA) (hko:rC nb bs σl=true:=by exact rfl) (hp:ek nb nx σl=true:=by exact rfl) (hn:tm.length=n:=by exact rfl):Lf nb ⟨tm,h⟩ ⟨tmp n l,⟨nx,bs⟩⟩:=Lf.of3 σl fzl he hb hko hp hn
section
variable {h:aA}{fz:Nat->Bool}{σ:Nat->Option Nat}
theorem Rds.parts:∀ {ds:List D},aF ds=true->∀ {es es':List D},Rds h fz σ es es'->Rds h fz σ (ds++es) (ds++es')
 | [],_,_,_,he=>he
 | d::ds,hd,_,_,he=>by
  simp only[aF,kC] at hd;exact .cons (.same hd.1) (Rds.parts hd.2 he)
theorem Rds.app:∀ {as as' bs bs':List D},Rds h fz σ as as'->Rds h fz σ bs bs'->Rds h fz σ (as++bs) (as' ++ bs')
 | _,_,_,_,.nil,hb=>hb
 | _,_,_,_,.cons hd hs,hb=>.cons hd (Rds.app hs hb)
 | _,_,_,_,.same hn,hb=>Rds.parts hn hb
theorem Rds.at {d d':D}(hd:Rd h fz σ d d'):∀ {cs:List D}(k:Nat),aF cs=true->Rds h fz σ (cs.set k d) (cs.set k d')
 | [],_,_=>.nil
 | x::cs,0,hn=>by
  simp only[aF,kC] at hn;exact .cons hd (.same hn.2)
 | x::cs,k+1,hn=>by
  simp only[aF,kC] at hn;exact .cons (.same hn.1) (Rds.at hd k hn.2)
theorem Get.all {cs:List D}{sz:Nat}{K:List D->Prop}(hl:cs.length=sz) (go:K cs):Get cs 0 sz K:=⟨om,by rw[List.drop_zero,kE om];exact go⟩
theorem Put.at {cs:List D}{off:Nat}{d:D}{K:List D->Prop}(h:off<cs.length) (go:K (cs.set off d)):Put cs off [d] K:=⟨by simp;omega,by rw[mC h];exact go⟩
theorem Rds.tr {cs cs' ds ds':List D}(e:cs=ds) (e':ds'=cs') (hd:Rds h fz σ ds ds'):Rds h fz σ cs cs':=by subst e;subst e';exact hd
end
end Go.Am
/-
 The abstract machine,part 52: a region that draws its order and calls functions that write,each function once.
-/
namespace Go.Am
variable [GT]
section
variable (P:Program) (ti:TI)
def Bt (M:List Nat) (m:Nat) (ts:List Nat) (al:List Nat):Bool:=
 al.all λx=>!m.testBit x || ts.any λt=>t != 0&&(M.getD (t-1) 0).testBit x&&m.testBit (t-1)
def fstK (l:List (Nat×aA)):(List Nat->Prop)->Prop:=
 List.rec (motive:=λ_=>(List Nat->Prop)->Prop) (λK=>K []) (λp _ ih K=>Prod.casesOn (motive:=λ_=>Prop) p λt _=>ih (λts=>K (t::ts))) l
def xB (g:FuncId) (l:List FuncId) (K:Prop):Prop:=List.rec (motive:=λ_=>Prop) K (λx _ ih=>if g=x then False else ih) l
def zN (ops:Array Oper) (base:Nat) (M:List Nat) (o:Oper) (ih:List D->List (Nat×aA)->List (Nat×Box)->List Nat->RdL->List FuncId->Prop) (j:Nat) (tm:List D) (hist:List (Nat×aA)) (pend:List (Nat×Box)) (al:List Nat) (rd:RdL) (mm:List FuncId):Prop:=
 match ai ops tm o with
 | some true=>
  match ba ops o with
  | .pure=>opV P ti tm ⟨0,[]⟩ 0 o λd _=>bq tm o.dst d λtm'=>ih tm' hist pend al rd mm
  | .read=>
   match hist with
   | (t,g)::r=>opV P ti tm g 0 o λd _=>
    if(t == 0 || (M.getD j 0).testBit (t-1))=true then bq tm o.dst d λtm'=>ih tm' ((t,g)::r) pend al ((j,o,tm,d)::rd) mm
    else rcV P ti (M.getD j 0) tm o d r (bq tm o.dst d λtm'=>ih tm' ((t,g)::r) pend al ((j,o,tm,d)::rd) mm)
   | []=>False
  | .alloc=>
   fstK hist λts=>if Bt M (M.getD j 0) ts al=true then opV P ti tm ⟨0,[]⟩ (base+j) o λd h'=>sQ (h'.get (base+j)) λbox=>bq tm o.dst d λtm'=>ih tm' hist ((j,box)::pend) (j::al) rd mm else False
  | .write=>
   match hist with
   | (t,g)::r=>
    if(t == 0 || (M.getD j 0).testBit (t-1))=true then
     CI (M.getD j 0) pend λpn pv=>Dy base pn g λhv=>
     pC P tm o
      (λgf ds=>xB gf mm (Cll P gf ds hv λd h'=>lu h' λh'=>pmV P ti h' (M.getD j 0) rd (bq tm o.dst d λtm'=>ih tm' ((j+1,h')::(t,g)::r) pv al rd (gf::mm))))
      (λ_ _=>False)
      (opV P ti tm hv (base+j) o λd h'=>lu h' λh'=>pmV P ti h' (M.getD j 0) rd (bq tm o.dst d λtm'=>ih tm' ((j+1,h')::(t,g)::r) pv al rd mm))
    else False
   | []=>False
 | some false=>bq tm o.dst aO λtm'=>ih tm' hist pend al rd mm
 | none=>False
def Bd (ops:Array Oper) (base:Nat) (M:List Nat) (l:List Oper):Nat->List D->List (Nat×aA)->List (Nat×Box)->List Nat->RdL->List FuncId->(List D->List (Nat×aA)->List (Nat×Box)->Prop)->Prop:=
 List.rec (motive:=λ_=>Nat->List D->List (Nat×aA)->List (Nat×Box)->List Nat->RdL->List FuncId->(List D->List (Nat×aA)->List (Nat×Box)->Prop)->Prop)
  (λ_ tm hist pend _ _ _ K=>K tm hist pend)
  (λo _ ih j tm hist pend al rd mm K=>zN P ti ops base M o (λtm hist pend al rd mm=>ih (j+1) tm hist pend al rd mm K) j tm hist pend al rd mm) l
end
section
variable {P:Program}{ti:TI}
theorem vR:∀ {l:List (Nat×aA)}{K:List Nat->Prop},fstK l K->K (l.map (·.1))
 | [],_,h=>h
 | (t,_)::_,K,h=>vR (K:=λts=>K (t::ts)) h
theorem yj {M:List Nat}{m:Nat}{al:List Nat}{hist:List (Nat×aA)}:Bt M m (hist.map (·.1)) al=v5 M m hist al:=by
 simp only[Bt,v5,List.any_map,Function.comp_def]
abbrev Gl:=List (FuncId×List D×aA×D×aA)
theorem jR {g:FuncId}{K:Prop}:∀ {l:List FuncId},xB g l K->K/\¬g∈l
 | [],h=>⟨h,si⟩
 | x::l,h=>by
  replace h:(if g=x then False else xB g l K):=h
  split at h
  .exact h.elim
  .rename_i e;obtain⟨h1,h2⟩:=jR h;exact⟨h1,by simp[e,h2]⟩
theorem dU (ops:Array Oper) (base:Nat) (M:List Nat):∀ (l:List Oper) (j:Nat) (tm:List D) (hist:List (Nat×aA)) (pend:List (Nat×Box)) (al:List Nat) (rd:List (Nat×Oper×List D×D)) (mm:List FuncId) (K:List D->List (Nat×aA)->List (Nat×Box)->Prop),
  Bd P ti ops base M l j tm hist pend al rd mm K ->
  ∃ (m2:Gl) (s':DS),K s'.tm s'.hist s'.pend/\(∀ e∈m2,AC1 P e.1 e.2.1 e.2.2.1 e.2.2.2.1 e.2.2.2.2)/\(∀ e∈m2,¬e.1∈mm)/\(m2.map (·.1)).Nodup /\
   ∀ cl:Cl,(∀ e∈m2,cl (.fn e.1) e.2.1 e.2.2.1=some (e.2.2.2.1,e.2.2.2.2))->c9 P ti cl eqC ops base M l j ⟨tm,hist,pend,al,rd⟩=some s'
 | [],j,tm,hist,pend,al,rd,mm,K,h=>⟨[],⟨tm,hist,pend,al,rd⟩,h,λe he=>by simp at he,λe he=>by simp at he,si,λ_ _=>rfl⟩
 | o::l,j,tm,hist,pend,al,rd,mm,K,h=>by
  replace h:zN P ti ops base M o (λtm hist pend al rd mm=>Bd P ti ops base M l (j+1) tm hist pend al rd mm K) j tm hist pend al rd mm:=h
  unfold zN at h;split at h
  .rename_i hw;split at h
   .rename_i hk;obtain⟨hc1,d,h',hc2,h1⟩:=b6 h;obtain⟨m2,s',k1,k2,k3,k4,k5⟩:=dU ops base M l (j+1) _ _ _ _ _ mm K (ao h1);refine⟨m2,s',k1,k2,k3,k4,λcl hm=>?_⟩;simp only[c9,cZ,hw,hk,hc2];exact k5 cl hm
   .rename_i hk;split at h
    .rename_i t g r;obtain⟨hc1,d,h',hc2,h1⟩:=b6 h
     have hh:bq tm o.dst d (λtm'=>Bd P ti ops base M l (j+1) tm' ((t,g)::r) pend al ((j,o,tm,d)::rd) mm K)/\cI P ti eqC (M.getD j 0) tm o d ((t,g)::r)=true:=by
      split at h1
      .rename_i hb;exact⟨h1,by simp only[cI,kC];exact⟨ef hc2,by simp only[kN] at hb ⊢;exact .inl hb⟩⟩
      .obtain⟨k,h3⟩:=ur h1;exact⟨k,by simp only[cI,kC];exact⟨ef hc2,by simp only[kN];exact .inr h3⟩⟩
     obtain⟨h1,hro⟩:=hh;obtain⟨m2,s',k1,k2,k3,k4,k5⟩:=dU ops base M l (j+1) _ _ _ _ _ mm K (ao h1);refine⟨m2,s',k1,k2,k3,k4,λcl hm=>?_⟩;simp only[c9,cZ,hw,hk,hc2,hro,if_true];exact k5 cl hm
    .exact h.elim
   .rename_i hk
    replace h:=vR h
    split at h
    .rename_i hal;rw[yj] at hal;obtain⟨hc1,d,h',hc2,h1⟩:=b6 h;obtain⟨box,hbox,h1⟩:=eQ h1;obtain⟨m2,s',k1,k2,k3,k4,k5⟩:=dU ops base M l (j+1) _ _ _ _ _ mm K (ao h1);refine⟨m2,s',k1,k2,k3,k4,λcl hm=>?_⟩;simp only[c9,cZ,hw,hk,hc2,hbox,hal,if_true];exact k5 cl hm
    .exact h.elim
   .rename_i hk;split at h
    .rename_i t g r;split at h
     .rename_i hb
      replace h:=kz (mq h)
      rcases eU h with⟨gf,ds,hac,h⟩|⟨_,_,_,h⟩|h
      .obtain⟨h,hno⟩:=jR h;obtain⟨d,h',hac1,h⟩:=h.ex;obtain⟨h1,hpm⟩:=jN (gp h);obtain⟨m2,s',k1,k2,k3,k4,k5⟩:=dU ops base M l (j+1) _ _ _ _ _ _ K (ao h1);refine⟨(gf,ds,dL base (pend.filter λp=>(M.getD j 0).testBit p.1) g,d,h')::m2,s',k1,λe he=>?_,λe he=>?_,?_,λcl hm=>?_⟩
       .rcases List.mem_cons.1 he with he|he
        .subst he;exact hac1
        .exact k2 e he
       .rcases List.mem_cons.1 he with he|he
        .subst he;exact hno
        .exact λhx=>k3 e he (by simp[hx])
       .simp only[List.map_cons,List.nodup_cons];refine⟨λhx=>?_,k4⟩;obtain⟨e,he,hx⟩:=List.mem_map.1 hx;exact k3 e he (by simp[hx])
       .have hl:=hm _ (List.mem_cons_self ..)
        have hst:∀ id,bZ P ti cl tm (dL base (pend.filter λp=>(M.getD j 0).testBit p.1) g) id o=some (d,h'):=λid=>by
         unfold bZ;simp only at hl;simp only[hac,hl]
        simp only[c9,cZ,hw,hk,hb,if_true,hst,hpm];exact k5 cl (λe he=>hm e (by simp[he]))
      .exact h.elim
      .obtain⟨hc1,d,h',hc2,h1⟩:=b6 h;obtain⟨h1,hpm⟩:=jN (gp h1);obtain⟨m2,s',k1,k2,k3,k4,k5⟩:=dU ops base M l (j+1) _ _ _ _ _ mm K (ao h1);refine⟨m2,s',k1,k2,k3,k4,λcl hm=>?_⟩
       have hst:bZ P ti cl tm (dL base (pend.filter λp=>(M.getD j 0).testBit p.1) g) (base+j) o=some (d,h'):=by
        unfold bZ;simp only[hc1,hc2]
       simp only[c9,cZ,hw,hk,hb,if_true,hst,hpm];exact k5 cl hm
     .exact h.elim
    .exact h.elim
  .rename_i hw;obtain⟨m2,s',k1,k2,k3,k4,k5⟩:=dU ops base M l (j+1) _ _ _ _ _ mm K (ao h);refine⟨m2,s',k1,k2,k3,k4,λcl hm=>?_⟩;simp only[c9,cZ,hw];exact k5 cl hm
  .exact h.elim
open Classical in
noncomputable def clW (m:Gl):Cl:=λk ds h=>
 match k with
 | .fn g=>match m.find? (λe=>decide (e.1=g/\e.2.1=ds/\e.2.2.1=h)) with|some e=>some (e.2.2.2.1,e.2.2.2.2)|none=>none
 | .yf _=>none
theorem vf:∀ {m:Gl}{e:FuncId×List D×aA×D×aA},(m.map (·.1)).Nodup->e∈m->clW m (.fn e.1) e.2.1 e.2.2.1=some (e.2.2.2.1,e.2.2.2.2)
 | x::m,e,hn,he=>by
  simp only[List.map_cons,List.nodup_cons] at hn;simp only[clW];rcases List.mem_cons.1 he with he|he
  .subst he;rw[List.find?_cons_of_pos si]
  .have hne:¬x.1=e.1:=λhx=>hn.1 (List.mem_map.2 ⟨e,he,hx.symm⟩)
   rw[List.find?_cons_of_neg (by simp[hne])];exact vf hn.2 he
theorem ac.byW (hm:P.follows .mixedOrders=true) (T:TOk P ti){nb id:Nat}{ops:Array Oper}{Q:Exit->St->Prop}{tm:List D}{n:Nat}{bs:List (Nat×Box)}(M:List Nat) (hok:(cU ops&&decide (eW ops.toList []=M))=true)
  (h:Bd P ti ops n M ops.toList 0 tm [(0,⟨n+ops.size,bs⟩)] [] [] [] [] (lT n (Q .normal))):ac P nb id ops Q ⟨tm,⟨n,bs⟩⟩:=⟨.of_sw (by
 simp only[kC,decide_eq_true_eq] at hok;obtain⟨hok,hM⟩:=hok;subst hM;obtain⟨m2,ds,k1,k2,k3,k4,k5⟩:=dU ops _ _ _ _ _ _ _ _ _ _ _ h
 have hC:g9 P (clW m2):=λk as h0 d h' hx=>by
  cases k with
  | yf id=>simp[clW] at hx
  | fn g=>
   simp only[clW] at hx;split at hx
   .rename_i e he;have h1:=List.find?_some he;have h2:=List.mem_of_find?_eq_some he;simp only[decide_eq_true_eq] at h1;simp only[kA,kB] at hx;obtain⟨rfl,rfl,rfl⟩:=h1;obtain⟨rfl,rfl⟩:=hx;exact k2 e h2
   .cases hx
 have hr:=k5 (clW m2) (λe he=>vf k4 he);unfold lT at k1;split at k1
 .rename_i t g r hh
  have hd:cG P ti (clW m2) eqC ops ⟨tm,⟨n,bs⟩⟩=some ⟨ds.tm,dL n ds.pend g⟩:=by
   unfold cG;simp only[bump];rw[hr];simp only[hh]
  intro c a R hf hR;exact fU hm T hC oP hok hd hf λc' a' f1 g1 p1 d1=>hR _ _ c' a' (kz k1) f1 g1 p1 d1
 .exact k1.elim)⟩
end
structure Sub (h h':aA):Prop where
 next:h.next<=h'.next
 get:∀ id box,h'.get id=some box->h.get id=some box
theorem Rel.sub {c:Ctx}{h h':aA}(R:Rel c h) (s:Sub h h'):Rel c h':=
 ⟨R.size,λid hid=>R.fresh id (Nat.le_trans s.next hid),λid box hg=>R.live id box (s.get id box hg),λi j bi bj b o o' h1 h2=>R.inj i j bi bj b o o' (s.get _ _ h1) (s.get _ _ h2),R.inv⟩
theorem ae.sub {c c':Ctx}{h0 h h':aA}(g:ae c h0 c' h) (s:Sub h h'):ae c h0 c' h':=
 ⟨g.keeps,g.os,g.tape,g.output,g.size,Nat.le_trans g.next s.next,g.frame,λb ⟨id,box,o,h1,h2⟩=>g.own b ⟨id,box,o,s.get id box h1,h2⟩,g.stable⟩
theorem AC1.less {P:Program}{g:FuncId}{ds:List D}{h:aA}{d:D}{h1 h':aA}(hp:AC1 P g ds h d h1) (s:Sub h1 h'):AC1 P g ds h d h':=by
 refine⟨hp.1,λc vs R hvs=>(hp.2 c vs R hvs).mono ?_⟩;rintro _ w' ⟨v,c',rfl,rfl,v1,r1,g1,p1⟩;exact⟨v,c',rfl,rfl,v1,r1.sub s,g1.sub s,p1⟩
theorem AC1.of_vs {P:Program}{ti:TI}(hm:P.follows .mixedOrders=true) (T:TOk P ti){g:FuncId}{fn:Func}{code:Code}{ds:List D}{n:Nat}{bs:List (Nat×Box)}{h':aA}{d:D}(hg:P.funcs[g]?=some fn) (hb:fn.body=some code) (hn:(fn.name == "runtime.NumGoroutine")=false)
  (H:hZ P ti n code (λe s'=>(e=.normal\/e=.ret)/\jM ti fn s'=some d/\Sub s'.h h') ⟨ds++List.replicate (fn.ntmps-ds.length) aO,⟨n,bs⟩⟩):AC1 P g ds ⟨n,bs⟩ d h':=by
 refine⟨by unfold fA;rw[hg];simp[hb,hn],λc vs R hvs=>?_⟩;refine(callsIn_wide (n:=0)).1 (callsIn_of_wp hg hb trivial ?_)
 have hfit:Fit c ⟨ds++List.replicate (fn.ntmps-ds.length) aO,⟨n,bs⟩⟩ { tmps:=vs.toArray++Array.replicate (fn.ntmps-vs.toArray.size) undef,defers:=[] }:=by
  refine⟨R,?_⟩;simp only[Array.toList_append,Array.toList_replicate,List.size_toArray];rw[hvs.length];exact hvs.append (VS.replicate V.undef _)
 refine(bW hm T code _ _ H).run c ⟨n,bs⟩ c _ _ ⟨rfl,λid hid=>R.fresh id hid,ae.refl _ _,λ_ _=>rfl⟩ hfit λe s' c1 a' hq f1 b1 d1=>?_
 obtain⟨he,hr,hh⟩:=hq;obtain⟨v,e1,v1⟩:=d9 (P:=P) T f1 hr;rcases he with rfl|rfl
 .exact⟨d1,v,e1,v,c1,rfl,rfl,v1,f1.rel.sub hh,b1.grow.sub hh,b1.φ⟩
 .exact⟨d1,v,e1,v,c1,rfl,rfl,v1,f1.rel.sub hh,b1.grow.sub hh,b1.φ⟩
theorem aG.weak {P:Program}{nb:Nat}{x:Code}{Q:Exit->St->Prop}{s s0:St}(hle:Lf nb s s0) (h:aG P nb x Q s0):aG P nb x Q s:=⟨Sv.weak hle h.run⟩
def jU:Code->List Code
 | .loop c=>c::jU c
 | .seq a b=>jU a++jU b
 | .cond _ a b=>jU a++jU b
 | .block _ c=>jU c
 | _=>[]
def loopN (f:Func) (k:Nat):Code:=match f.body with|some c=>(jU c).getD k .skip|none=>.skip
inductive ky (H:aA) (sl:List (Nat×Nat)) (fzl:List Nat) (b0:List (Nat×Box)):List (Nat×Box)->Prop
 | nil:ky H sl fzl b0 []
 | cons {j:Nat} {b:Box} {r:List (Nat×Box)}:H.get j=some b->(sl.all λp=>p.2 != j || b0.all λq=>q.1 != p.1)=true->fzn fzl j=false->ky H sl fzl b0 r->ky H sl fzl b0 ((j,b)::r)
theorem xe:∀ {l:List (Nat×Nat)}{j b:Nat},lkN l j=some b->(j,b)∈l
 | [],j,b,h=>by simp[lkN] at h
 | (a,b0)::l,j,b,h=>by
  simp only[lkN] at h;split at h
  .rename_i e;injection h with h;subst e;subst h;simp
  .exact List.mem_cons_of_mem _ (xe h)
theorem ky.hr {H:aA}{sl:List (Nat×Nat)}{fzl:List Nat}{b0 rest:List (Nat×Box)}(h:ky H sl fzl b0 rest):∀ j b,aY rest j=some b->H.get j=some b/\(∀ a bx,aY b0 a=some bx->lkN sl a≠some j)/\fzn fzl j=false:=by
 induction h with
 | nil=>intro j b h;simp[aY] at h
 | cons h1 h2 h3 _ ih=>
  intro j b h;simp only[aY] at h;split at h
  .rename_i e;subst e;injection h with h;subst h
   refine⟨h1,λa bx hg hl=>?_,h3⟩;rw[kL] at h2;have:=h2 _ (xe hl)
   simp only[bne_self_eq_false,Bool.false_or] at this;rw[iG this] at hg;cases hg
  .exact ih j b h
theorem Cll.embF {P:Program}{g:FuncId}{ds:List D}{n:Nat}{b0:List (Nat×Box)}{d:D}{n1:Nat}{b1:List (Nat×Box)}(hp:AC1 P g ds ⟨n,b0⟩ d ⟨n1,b1⟩)
  {N:Nat} {HB:List (Nat×Box)} {DS:List D} {K:D->aA->Prop} (sl:List (Nat×Nat)) (fzl:List Nat) (D':D) (B1 rest:List (Nat×Box)) (hok:lx n sl=true) (hd:Rds ⟨N,HB⟩ (fzn fzl) (lkN sl) DS ds) (hb:Bxs ⟨N,HB⟩ (fzn fzl) (lkN sl) b0)
  (rd:Rd ⟨n1,b1⟩ (λ_=>false) (eG sl N n) d D') (rb:Bxs ⟨n1,b1⟩ (λ_=>false) (eG sl N n) B1) (hr:ky ⟨N,HB⟩ sl fzl b0 rest)
  (go:K D' ⟨N+(n1-n),B1++rest⟩):Cll P g DS ⟨N,HB⟩ K:=⟨_,_,AC1.embed hp sl fzl hok hd hb rd rb hr.hr,go⟩
end Go.Am
/-
 The abstract machine,part 53: freezing all that is handed in;heaps whose boxes are not laid out.
-/
namespace Go.Am
variable [GT]
theorem p8:∀ {l:List (Nat×Box)}{K:List (Nat×Box)->Prop},K l->boxK l K
 | [],_,h=>h
 | (i,b)::_,K,h=>p8 (K:=λl'=>K ((i,b)::l')) h
theorem Lf.ofp {nb:Nat}{tm:List D}{h:aA}{n nx:Nat}{l:List (Nat×D)}{bs:List (Nat×Box)}(σl:List (Nat×Nat)) (fz:Nat->Bool)
  (he:nh h fz (sgm nb σl) tm l) (hb:Bxs h fz (sgm nb σl) bs) (hko:rC nb bs σl=true) (hp:ek nb nx σl=true) (hn:tm.length=n):Lf nb ⟨tm,h⟩ ⟨tmp n l,⟨nx,bs⟩⟩:=⟨λcb hb0 c a hB hf=>by
 have hk:∀ p∈σl,p.2<nb->aY bs p.2=none:=λp hp hlt=>by
  simp only[rC,kL,kN,Nat.ble_eq] at hko;rcases hko p hp with h1|h1
  .omega
  .exact iG (by rw[kL];exact h1)
 have R:=hf.rel
 let c0:Ctx:={ S:=λb=>c.S b\/∃ id o box,fz id=true/\h.get id=some box/\c.φ id=some (b,o),φ:=λj=>if j<nb then c.φ j else(lkN σl j).bind c.φ,w:=c.w }
 have hφ:∀ id' id,sgm nb σl id'=some id->c0.φ id'=c.φ id:=λid' id hs=>by
  show(if id' < nb then c.φ id' else(lkN σl id').bind c.φ)=c.φ id;unfold sgm at hs;split at hs
  .rename_i hlt;rw[if_pos hlt];injection hs with hs;rw[hs]
  .rename_i hlt;rw[if_neg hlt,hs];rfl
 have hinj:∀ i j b,(∃ x,aY bs i=some x)->(∃ x,aY bs j=some x)->sgm nb σl i=some b->sgm nb σl j=some b->i=j:=λi j b li lj hi hj=>by
  unfold sgm at hi hj;split at hi<;>split at hj
  .injection hi with hi;injection hj with hj;omega
  .injection hi with hi
   obtain⟨p,h1,h2⟩:=ez hj;obtain⟨x,hx⟩:=li;have:=hk p h1 om
   rw[h2,<-hi,hx] at this;cases this
  .injection hj with hj
   obtain⟨p,h1,h2⟩:=ez hi;obtain⟨x,hx⟩:=lj;have:=hk p h1 om
   rw[h2,<-hj,hx] at this;cases this
  .exact kT hp i j b hi hj
 have T:oX c h fz (sgm nb σl) c0:=⟨R,rfl,λb hb=>.inl hb,λid b o box h1 h2 h3=>.inr ⟨id,o,box,h1,h2,h3⟩,hφ⟩;refine⟨c0,rfl,⟨⟨λb hb=>?_,λid hid=>?_,λid' box' hg=>?_,λi j bi bj b o o' h1 h2 h3 h4=>?_,GT.keep (c:=c) (λ_ h=>.inl h) (λ_ _=>rfl) R.inv⟩,?_⟩,⟨hB.next,hB.fresh,⟨⟨λb hb=>.inl (hB.grow.keeps.S b hb),λid x hx=>?_,λb hb=>hB.grow.keeps.cells b hb,λb e z hz=>hB.grow.keeps.shape b e z hz⟩,hB.grow.os,hB.grow.tape,hB.grow.output,hB.grow.size,?_,hB.grow.frame,λb ho=>?_,λb hb=>?_⟩,λj hj=>?_⟩⟩
 .rcases hb with hb|⟨id,o,box,_,h2,h3⟩
  .exact R.size b hb
  .obtain⟨b',o',p1,_,p3⟩:=R.live id box h2;rw[p1] at h3;injection h3 with h3;injection h3 with e1 _;subst e1
   exact p3.lt
 .show(if id<nb then c.φ id else(lkN σl id).bind c.φ)=none;have h0:=gZ hp;have hid:nx<=id:=hid;rw[if_neg om];cases hl:lkN σl id with
  | none=>rfl
  | some b=>have:=mJ hp id b hl;omega
 .obtain⟨id,box,h1,h2,h3,h4⟩:=hb.get id' box' hg;obtain⟨b,o,p1,p2,p3⟩:=R.live id box h2;refine⟨b,o,by rw[hφ id' id h1];exact p1,?_,h4.sound T p3⟩;rintro(hs|⟨idf,of,bf,q1,q2,q3⟩)
  .exact p2 hs
  .have:=R.inj id idf box bf b o of h2 q2 p1 q3
   subst this;rw[h3] at q1;cases q1
 .obtain⟨id1,b1,x1,x2,_,_⟩:=hb.get i bi h1;obtain⟨id2,b2,y1,y2,_,_⟩:=hb.get j bj h2;rw[hφ i id1 x1] at h3;rw[hφ j id2 y1] at h4;have:=R.inj id1 id2 b1 b2 b o o' x2 y2 h3 h4
  subst this;exact hinj i j id1 ⟨_,h1⟩ ⟨_,h2⟩ x1 y1
 .have hlen:=hf.tmps.length
  have:=gF (c0:=c0) (L:=l) (all:=a.tmps.toList) (λj d hm=>by
   obtain⟨x,h1,h2⟩:=he.mem j d hm;obtain⟨y,h3,h4⟩:=hf.tmps.get j x h1
   exact⟨y,h3,h2.sound T y h4⟩) n 0 l (λ_ h=>h) (by rw[hlen];simpa using hn.symm)
  simpa using this
 .have hid:id<nb:=Nat.lt_of_not_le λhle=>by rw[hB.fresh id hle] at hx;cases hx
  show(if id<nb then c.φ id else(lkN σl id).bind c.φ)=some x;rw[if_pos hid];exact hB.grow.keeps.φ id x hx
 .show hb0.next<=nx;have h0:=gZ hp;have:=hB.next
  omega
 .obtain⟨id',box',o,h1,h2⟩:=ho;obtain⟨id,box,x1,x2,_,_⟩:=hb.get id' box' h1;rw[hφ id' id x1] at h2;exact hB.grow.own b ⟨id,box,o,x2,h2⟩
 .rcases hb with hb|⟨id,o,box,_,h2,h3⟩
  .exact hB.grow.stable b hb
  .exact .inr (hB.grow.own b ⟨id,box,o,h2,h3⟩)
 .show(if j<nb then c.φ j else(lkN σl j).bind c.φ)=cb.φ j
  rw[if_pos hj];exact hB.φ j hj⟩
mutual
theorem Rd.lift {h H:aA}{fz:Nat->Bool}{σ:Nat->Option Nat}(hh:∀ id b,h.get id=some b->H.get id=some b/\fz id=true):∀ {d d':D},Rd h (λ_=>true) (λ_=>none) d d'->Rd H fz σ d d'
 | _,_,.any=>.any
 | _,_,.same hn=>.same hn
 | _,_,.sl hs=>by cases hs
 | _,_,.slx hs=>by cases hs
 | _,_,.ptr hs=>by cases hs
 | _,_,.map hs=>by cases hs
 | _,_,.yf hs=>by cases hs
 | _,_,.agg hc=>.agg (Rds.lift hh hc)
 | _,_,.tup hc=>.tup (Rds.lift hh hc)
 | _,_,.fn ha hb=>.fn (Rds.lift hh ha) (Rds.lift hh hb)
 | _,_,.imm hc=>.imm (Rds.lift hh hc)
 | _,_,.iface hc=>.iface (Rd.lift hh hc)
 | _,_,.nil=>.nil
 | _,_,.e0=>.e0
 | _,_,.frz _ hg hl hc=>.frz (hh _ _ hg).2 (hh _ _ hg).1 hl (Rds.lift hh hc)
 | _,_,.frzp _ hg hc=>.frzp (hh _ _ hg).2 (hh _ _ hg).1 (Rds.lift hh hc)
theorem Rds.lift {h H:aA}{fz:Nat->Bool}{σ:Nat->Option Nat}(hh:∀ id b,h.get id=some b->H.get id=some b/\fz id=true):∀ {ds ds':List D},Rds h (λ_=>true) (λ_=>none) ds ds'->Rds H fz σ ds ds'
 | _,_,.nil=>.nil
 | _,_,.cons hd hs=>.cons (Rd.lift hh hd) (Rds.lift hh hs)
 | _,_,.same hn=>.same hn
end
end Go.Am
/-
 The abstract machine,part 54: calls of functions without a body;what is known of package-level variables,changed.
-/
namespace Go.Am
theorem Rel.other {A B:GT}{c:Ctx}{h:aA}(R:@Rel A c h) (hi:@GT.inv B c):@Rel B c h:=@Rel.mk B c h (@Rel.size A c h R) (@Rel.fresh A c h R) (@Rel.live A c h R) (@Rel.inj A c h R) hi
theorem Pu.cases {α:Type}(a0:α){A:α->GT}{B:GT}(hi:∀ c,@GT.inv B c->∃ a,@GT.inv (A a) c){P:Program}{g:FuncId}{ds:List D}{d:D}(hp:∀ a,@Pu (A a) P g ds d):@Pu B P g ds d:=by
 intro h;refine⟨(hp a0 h).1,λc vs R hvs=>?_⟩;obtain⟨a,ha⟩:=hi c (@Rel.inv B c h R);refine((hp a h).2 c vs (Rel.other (A:=B) (B:=A a) R ha) hvs).mono ?_;rintro e w' ⟨v,c',rfl,rfl,k1,k2,k3,k4⟩;exact⟨v,c',rfl,rfl,k1,Rel.other (A:=A a) (B:=B) k2 (@GT.kept B c c' k3.keeps (@Rel.inv B c h R)),k3,k4⟩
variable [GT]
def Dj (P:Program) (g:FuncId) (ds:List D) (h:aA) (d:D):Prop:=∀ c vs,Rel c h->VS c ds vs->∃ r,(callFunc g vs.toArray).run P c.w=.ok (.value r) c.w/\V c d r
structure sc (P:Program) (g:FuncId) (ds:List D) (h:aA) (K:D->aA->Prop):Prop where
 ex:(∃ d h',AC1 P g ds h d h'/\K d h')\/(∃ d,Dj P g ds h d/\K d h)
theorem sc.pu {P:Program}{g:FuncId}{ds:List D}{h:aA}{K:D->aA->Prop}{d:D}(hp:Pu P g ds d) (go:K d h):sc P g ds h K:=⟨.inl ⟨d,h,hp h,go⟩⟩
theorem sc.ext {P:Program}{g:FuncId}{ds:List D}{h:aA}{K:D->aA->Prop}{d:D}(e:Dj P g ds h d) (go:K d h):sc P g ds h K:=⟨.inr ⟨d,e,go⟩⟩
def EF (P:Program) (ti:TI) (tm:List D) (h:aA) (id:Nat) (o:Oper) (K:D->aA->Prop):Prop:=
 pC P tm o (λg ds=>sc P g ds h K) (λ_ _=>False) (opV P ti tm h id o K)
def stepsX (P:Program) (ti:TI) (ops:Array Oper) (o:Oper) (ih:List D->aA->Prop) (tm:List D) (h:aA):Prop:=
 match h with
 | ⟨n,bs⟩=>
  match ai ops tm o with
  | some true=>EF P ti tm ⟨n+1,bs⟩ n o (λd h'=>bq tm o.dst d (λtm'=>lu h' (λh'=>ih tm' h')))
  | some false=>bq tm o.dst aO (λtm'=>ih tm' ⟨n,bs⟩)
  | none=>False
def Hs (P:Program) (ti:TI) (ops:Array Oper) (l:List Oper):List D->aA->(List D->aA->Prop)->Prop:=
 List.rec (motive:=λ_=>List D->aA->(List D->aA->Prop)->Prop) (λtm h K=>K tm h) (λo _ ih tm h K=>stepsX P ti ops o (λtm h=>ih tm h K) tm h) l
def regX (P:Program) (ti:TI) (nb id:Nat) (ops:Array Oper) (draw:Bool) (Q:Exit->St->Prop) (s:St):Prop:=
 match draw,s with
 | false,⟨tm,h⟩=>Hs P ti ops ops.toList tm h (λtm h=>Q .normal ⟨tm,h⟩)
 | true,⟨tm,⟨n,bs⟩⟩=>if It ops then oY P ti ops tm n bs (Q .normal) else ac P nb id ops Q ⟨tm,⟨n,bs⟩⟩
def HR (P:Program) (ti:TI) (nb:Nat) (code:Code):(Exit->St->Prop)->St->Prop:=
 Code.rec (motive:=λ_=>(Exit->St->Prop)->St->Prop)
  (skip:=λQ s=>Q .normal s)
  (region:=λid ops d=>regX P ti nb id ops d)
  (seq:=λ_ b x _ Q s=>x (jj (bX P nb b Q) Q) s)
  (cond:=λo _ _ x y=>uB o x y)
  (block:=λid _ x Q s=>x (vp id Q) s)
  (loop:=λc _ Q s=>aG P nb c Q s)
  (rangeFunc:=λ_ _ _ _ _ _ _ _=>False)
  (exit:=λid Q s=>Q (.exit id) s)
  (scope:=λ_ _ _ _=>False)
  (label:=λ_ _ _=>False)
  (goto:=λ_ _ _=>False)
  (ret:=λQ s=>Q .ret s)
  (refuse:=λ_ _ _=>False)
  code
section
variable {P:Program}{ti:TI}
theorem EE {ro:Option Nat}{n:Nat}{c:Ctx}{h:aA}(T:TOk P ti) (R:Rel c h){id:Nat}(hf:c.φ id=none) (hn:id<h.next){tm:List D}{a:Act}(ht:VS c tm a.tmps.toList){o:Oper}{K0:D->aA->Prop}(hs:EF P ti tm h id o K0)
  {K:Act->World->Prop} {Q:Exit->Act->World->Prop} (hK:∀ d h' v c',K0 d h'->V c' d v->Rel c' h'->ae c h c' h'->(∀ j,j<h.next->j≠id->c'.φ j=c.φ j)->K (a.put o.dst v) c'.w):o.wpIn (WF ro) n P a c.w K Q:=by
 rcases eU hs with⟨g,ds,hac,hs⟩|⟨y,ds,hac,hs⟩|hs
 .rcases hs.ex with⟨d,h',h1,h2⟩|⟨d,h1,h2⟩
  .refine gR (cl:=λk ds' h0=>open Classical in if k=.fn g/\ds'=ds/\h0=h then some (d,h') else none) T (λk ds' h0 d' h1' hx=>?_) R hf hn ht (d:=d) (h':=h') (by unfold bZ;rw[hac];simp) (λv c'=>hK d h' v c' h2);simp only at hx;split at hx
   .rename_i e;obtain⟨rfl,rfl,rfl⟩:=e;simp only[kA,kB] at hx;obtain⟨rfl,rfl⟩:=hx;exact h1
   .simp at hx
  .unfold bv at hac;split at hac
   .rename_i cc ho;have hnd:∀ cc,o.op≠.defer cc:=λcc hcc=>by rw[ho] at hcc;cases hcc
    split at hac
    .rename_i f hcal;split at hac
     .rename_i g' first captured ds' hfv hds;simp only[kA,kB,Cal.fn.injEq] at hac;obtain⟨rfl,rfl⟩:=hac;have hv:=aI R.inv ht hfv;simp only[V] at hv;obtain⟨xs,ys,hv,k1,k2⟩:=hv;have hargs:=cF R.inv ht hds;have hall:VS c (first++ds' ++ captured) (xs++cc.args.toList.map a.eval++ys):=(k1.append hargs).append k2;have hrun:=yY (P:=P) ho hcal hv rfl c.w;obtain⟨r,e1,e2⟩:=h1 c _ R hall;refine⟨λ_ _=>trivial,?_⟩;rw[Oper.semAt_eq _ _ _ hnd,hrun,e1];exact hK d h r c h2 e2 R (ae.refl c h) (λ_ _ _=>rfl)
     .simp at hac
     .simp at hac
    .rename_i r nm hcal;split at hac
     .rename_i ty d0 ds' hfv hds;split at hac
      .rename_i g' hm;simp only[kA,kB,Cal.fn.injEq] at hac;obtain⟨rfl,rfl⟩:=hac;have hv:=aI R.inv ht hfv;simp only[V] at hv;obtain⟨x,hv,k1⟩:=hv;have hargs:=cF R.inv ht hds;have hall:VS c (d0::ds') (x::cc.args.toList.map a.eval):=VS.cons k1 hargs;have hrun:=jn (P:=P) ho hcal hv hm rfl c.w;obtain⟨r,e1,e2⟩:=h1 c _ R hall;refine⟨λ_ _=>trivial,?_⟩;rw[Oper.semAt_eq _ _ _ hnd,hrun,e1];exact hK d h r c h2 e2 R (ae.refl c h) (λ_ _ _=>rfl)
      .simp at hac
     .simp at hac
    .simp at hac
   .simp at hac
 .exact hs.elim
 .obtain⟨hac,d,h',h1,h2⟩:=b6 hs;exact gR (cl:=λ_ _ _=>none) T (λk ds h d h' hx=>by simp at hx) R hf hn ht (by unfold bZ;rw[hac];exact h1) (λv c'=>hK d h' v c' h2)
theorem u4 {ro:Option Nat}{n:Nat}(T:TOk P ti) (ops:Array Oper):∀ (l:List Oper) (tm:List D) (h:aA) (K:List D->aA->Prop) (c:Ctx) (a:Act) (Q:Exit->Act->World->Prop),Hs P ti ops l tm h K->Fit c ⟨tm,h⟩ a ->
  (∀ tm' h' c' a',K tm' h'->Fit c' ⟨tm',h'⟩ a'->ae c h c' h'->(∀ j,j<h.next->c'.φ j=c.φ j)->a'.defers=a.defers->Q .normal a' c'.w)->wpListIn (WF ro) n P ops Q l a c.w
 | [],tm,h,K,c,a,Q,hr,hfit,hQ=>hQ tm h c a hr hfit (ae.refl _ _) (λ_ _=>rfl) rfl
 | o::l,tm,h,K,c,a,Q,hr,hfit,hQ=>by
  replace hr:(match ai ops tm o with
   | some true=>EF P ti tm ⟨h.next+1,h.bs⟩ h.next o (λd h'=>bq tm o.dst d (λtm'=>lu h' (λh'=>Hs P ti ops l tm' h' K)))
   | some false=>bq tm o.dst aO (λtm'=>Hs P ti ops l tm' ⟨h.next,h.bs⟩ K)
   | none=>False):=hr
  simp only[wpListIn];split at hr
  .rename_i hw;rw[bH hfit.tmps hw,if_pos rfl];refine EE T (h:=bump h 1) (id:=h.next) hfit.rel.bump (hfit.rel.fresh _ (kP _)) (by simp[bump]) hfit.tmps hr λd h' v c' hk k1 k2 k3 k4=>?_
   have hk:=gp (ao hk);refine u4 T ops l _ h' K c' (a.put o.dst v) Q hk ⟨k2,bz (VS.keep k3.keeps _ _ hfit.tmps) k1⟩ λtm2 h2 c2 a2 ks f2 g2 p2 df2=>?_
   refine hQ tm2 h2 c2 a2 ks f2 (k3.bump.trans g2) (λj hj=>?_) (by rw[df2];cases o.dst<;>rfl);have h1:j<h'.next:=by have:=k3.next;simp only[bump] at this;omega
   rw[p2 j h1,k4 j (by simp only[bump];omega) (Nat.ne_of_lt hj)]
  .rename_i hw;rw[bH hfit.tmps hw,if_neg si];have hr:=ao hr;refine⟨λ_ _=>trivial,u4 T ops l _ h K c (a.put o.dst undef) Q hr ⟨hfit.rel,bz hfit.tmps V.undef⟩ λtm2 h2 c2 a2 ks f2 g2 p2 df2=>?_⟩;exact hQ tm2 h2 c2 a2 ks f2 g2 p2 (by rw[df2];cases o.dst<;>rfl)
  .exact hr.elim
theorem gV (hm:P.follows .mixedOrders=true) (T:TOk P ti){nb:Nat}:∀ (code:Code) (Q:Exit->St->Prop) (s:St),HR P ti nb code Q s->Sv P nb code Q s
 | .skip,Q,s,h=>.of_sw (SW.skip h)
 | .region id ops false,Q,s,h=>.of_sw λc a _ hf hR=>wpIn_region_list (u4 T ops _ _ _ _ c a _ h hf λtm' h' c' a' hk f1 g1 p1 d1=>hR _ ⟨tm',h'⟩ c' a' hk f1 g1 p1 d1)
 | .region id ops true,Q,⟨tm,⟨n,bs⟩⟩,h=>by
  replace h:(if It ops then oY P ti ops tm n bs (Q .normal) else ac P nb id ops Q ⟨tm,⟨n,bs⟩⟩):=h
  split at h
  .exact .of_sw (SW.quietV hm T h)
  .exact h.run
 | .seq x y,Q,s,h=>.seq ((gV hm T x _ s h).mono λe s1 q=>by
   cases e with
   | normal=>exact q.run
   | _=>exact q)
 | .cond o x y,Q,⟨tm,hp⟩,h=>by
  replace h:uB o (HR P ti nb x) (HR P ti nb y) Q ⟨tm,hp⟩:=h
  unfold uB at h;simp only at h;split at h
  .rename_i hc;exact .cond hc (gV hm T x Q _ h)
  .rename_i hc;exact .cond hc (gV hm T y Q _ h)
  .exact h.elim
 | .block id x,Q,s,h=>.block (gV hm T x _ s h)
 | .loop x,Q,s,h=>h.run
 | .exit id,Q,s,h=>.of_sw (SW.exit h)
 | .ret,Q,s,h=>.of_sw (SW.ret h)
 | .rangeFunc ..,Q,s,h=>h.elim
 | .scope _,Q,s,h=>h.elim
 | .label _,Q,s,h=>h.elim
 | .goto _,Q,s,h=>h.elim
 | .refuse _,Q,s,h=>h.elim
theorem bX.goX (hm:P.follows .mixedOrders=true) (T:TOk P ti){nb:Nat}{x:Code}{Q:Exit->St->Prop}{s:St}(h:HR P ti nb x Q s):bX P nb x Q s:=⟨gV hm T x Q s h⟩
end
end Go.Am
/-
 The abstract machine,part 55: boxes beside a call;a closed run and another call behind it.
-/
namespace Go.Am
variable [GT]
theorem AC1.frame {P:Program}{g:FuncId}{ds:List D}{n:Nat}{b:List (Nat×Box)}{d:D}{n1:Nat}{b1:List (Nat×Box)}(hp:AC1 P g ds ⟨n,b⟩ d ⟨n1,b1⟩) (rest:List (Nat×Box))
  (hk:∀ j B,aY rest j=some B->aY b j=none/\aY b1 j=none):AC1 P g ds ⟨n,rest++b⟩ d ⟨n1,rest++b1⟩:=by
 have gb:∀ j B,aY b j=some B->aY (rest++b) j=some B:=λj B h=>by
  rw[dQ];cases hr:aY rest j with
  | none=>simpa using h
  | some B'=>have:=(hk j B' hr).1;rw[h] at this;cases this
 have gb1:∀ j B,aY (rest++b1) j=some B->aY rest j=some B\/(aY rest j=none/\aY b1 j=some B):=λj B h=>by
  rw[dQ] at h;cases hr:aY rest j with
  | none=>rw[hr] at h;exact .inr ⟨rfl,by simpa using h⟩
  | some B'=>rw[hr] at h;exact .inl (by simpa using h)
 have gr:∀ j B,aY rest j=some B->aY (rest++b) j=some B:=λj B h=>by rw[dQ,h];rfl
 refine⟨hp.1,λc vs R hvs=>?_⟩;have R0:Rel c ⟨n,b⟩:=R.sub (h':=⟨n,b⟩) ⟨kP _,λid box hg=>gb id box hg⟩;have own0:∀ k,bc c ⟨n,b⟩ k->bc c ⟨n,rest++b⟩ k:=λk ⟨id,box,o,h1,h2⟩=>⟨id,box,o,gb id box h1,h2⟩
 refine(hp.2 c vs R0 hvs).mono ?_;rintro e w' ⟨v,c',rfl,rfl,v1,r1,g1,p1⟩
 have hrest:∀ id box k o,aY rest id=some box->c.φ id=some (k,o)->k<c.w.heap.size/\¬bc c ⟨n,b⟩ k/\¬c'.S k/\BR c k o box:=λid box k o hg hφ=>by
  obtain⟨k',o',q1,q2,q3⟩:=R.live id box (gr id box hg);rw[hφ] at q1;injection q1 with q1;injection q1 with e1 e2;subst e1;subst e2
  have hno:¬bc c ⟨n,b⟩ k:=λ⟨id2,box2,o2,h1,h2⟩=>by
   have:=R.inj id id2 box box2 k o o2 (gr id box hg) (gb id2 box2 h1) hφ h2
   subst this;have:=(hk id box hg).1
   rw[show aY b id=some box2 from h1] at this;cases this
  refine⟨q3.lt,hno,λhs=>?_,q3⟩;rcases g1.stable k hs with h|h|h
  .exact q2 h
  .have:=q3.lt;omega
  .exact hno h
 have hid:∀ id box,aY rest id=some box->∃ k o,c.φ id=some (k,o):=λid box hg=>by
  obtain⟨k,o,q1,_⟩:=R.live id box (gr id box hg);exact⟨k,o,q1⟩
 refine⟨v,c',rfl,rfl,v1,⟨r1.size,r1.fresh,λid box hg=>?_,λi j bi bj k o o' h1 h2 h3 h4=>?_,r1.inv⟩,⟨g1.keeps,g1.os,g1.tape,g1.output,g1.size,g1.next,λk hk hno=>g1.frame k hk λho=>hno (own0 k ho),λk ho=>?_,λk hs=>(g1.stable k hs).imp id (Or.imp id (own0 k))⟩,p1⟩
 .rcases gb1 id box hg with hg|⟨_,hg⟩
  .obtain⟨k,o,hφ⟩:=hid id box hg;obtain⟨q1,q2,q3,q4⟩:=hrest id box k o hg hφ;exact⟨k,o,g1.keeps.φ _ _ hφ,q3,q4.keep g1.keeps (g1.frame k q1 q2)⟩
  .exact r1.live id box hg
 .have cross:∀ i j bi bj k o o',aY rest i=some bi->aY b1 j=some bj->c'.φ i=some (k,o)->c'.φ j=some (k,o')->False:=λi j bi bj k o o' h1 h2 h3 h4=>by
   obtain⟨k0,o0,hφ⟩:=hid i bi h1;have:=g1.keeps.φ _ _ hφ
   rw[h3] at this;injection this with this;injection this with e1 e2;subst e1;subst e2
   obtain⟨q1,q2,_,_⟩:=hrest i bi k o h1 hφ;rcases g1.own k ⟨j,bj,o',h2,h4⟩ with h|h
   .omega
   .exact q2 h
  rcases gb1 i bi h1 with h1|⟨_,h1⟩<;>rcases gb1 j bj h2 with h2|⟨_,h2⟩
  .obtain⟨k0,o0,hφ⟩:=hid i bi h1;obtain⟨k0',o0',hφ'⟩:=hid j bj h2;have e1:=g1.keeps.φ _ _ hφ;have e2:=g1.keeps.φ _ _ hφ';rw[h3] at e1;injection e1 with e1;injection e1 with a1 a2;subst a1;subst a2
   rw[h4] at e2;injection e2 with e2;injection e2 with a1 a2;subst a1;subst a2
   exact R.inj i j bi bj k o o' (gr i bi h1) (gr j bj h2) hφ hφ'
  .exact(cross i j bi bj k o o' h1 h2 h3 h4).elim
  .exact(cross j i bj bi k o' o h2 h1 h4 h3).elim
  .exact r1.inj i j bi bj k o o' h1 h2 h3 h4
 .obtain⟨id,box,o,hg,hφ⟩:=ho;rcases gb1 id box hg with hg|⟨_,hg⟩
  .obtain⟨k0,o0,hφ'⟩:=hid id box hg;have e1:=g1.keeps.φ _ _ hφ';rw[hφ] at e1;injection e1 with e1;injection e1 with a1 a2;subst a1;subst a2
   exact .inr ⟨id,box,o,gr id box hg,hφ'⟩
  .exact(g1.own k ⟨id,box,o,hg,hφ⟩).imp (λx=>x) (own0 k)
def mz {α:Type}(P:Program) (g:Nat) (v:Value):Sem α->Option α
 | .pure a=>some a
 | .program k=>mz P g v (k P)
 | .mark _ k=>mz P g v k
 | .load _ a k=>if a=⟨g,0,none⟩ then mz P g v (k v) else none
 | _=>none
theorem lE {α:Type}{P:Program}{g:Nat}{v:Value}{w:World}(hw:w.cell? ⟨g,0,none⟩=some v):∀ (s:Sem α){a:α},mz P g v s=some a->s.run P w=.ok a w
 | .pure x,a,h=>by simp only[mz,kA] at h;subst h;rfl
 | .program k,a,h=>by simp only[mz] at h;simpa only[Sem.run] using lE hw (k P) h
 | .mark m k,a,h=>by simp only[mz] at h;simpa only[Sem.run] using lE hw k h
 | .load m b k,a,h=>by
  simp only[mz] at h;split at h
  .rename_i e;subst e;simp only[Sem.run,hw];exact lE hw (k v) h
  .cases h
 | .store _ _ _ _,_,h|.new _ _,_,h|.shape _ _,_,h|.freeze _ _ _,_,h|.frozen _ _,_,h|.getObj _ _,_,h|.setObj _ _ _,_,h
 | .choose _ _,_,h|.sys _ _,_,h|.halt _,_,h=>by simp[mz] at h
end Go.Am
/-
 The abstract machine,part 57: at a call's end boxes are frozen.
-/
namespace Go.Am
variable [GT]
def idS (fz:Nat->Bool) (i:Nat):Option Nat:=if fz i=true then none else some i
theorem AC1.frz {P:Program}{g:FuncId}{ds:List D}{h:aA}{d:D}{h1:aA}(hp:AC1 P g ds h d h1) (fz:Nat->Bool){d0:D}{h0:aA}(hn:h0.next=h1.next) (hr:Rd h1 fz (idS fz) d d0)
  (hb:∀ id b0,h0.get id=some b0->fz id=false/\∃ b,h1.get id=some b/\Rb h1 fz (idS fz) b b0):AC1 P g ds h d0 h0:=by
 obtain⟨hent,hcall⟩:=hp;refine⟨hent,λc vs R hvs=>(hcall c vs R hvs).mono ?_⟩;rintro e w' ⟨v,c1,rfl,rfl,v1,r1,g1,p1⟩
 let c2:Ctx:={ c1 with S:=λb=>c1.S b\/∃ id o box,fz id=true/\h1.get id=some box/\c1.φ id=some (b,o) }
 have hφ:∀ id' id,idS fz id'=some id->c2.φ id'=c1.φ id:=λid' id hs=>by
  unfold idS at hs;split at hs
  .cases hs
  .injection hs with hs;rw[hs]
 have T:oX c1 h1 fz (idS fz) c2:=⟨r1,rfl,λb hb=>.inl hb,λid b o box q1 q2 q3=>.inr ⟨id,o,box,q1,q2,q3⟩,hφ⟩;have hk:a7 c1 c2:=⟨λb hb=>.inl hb,λ_ _ hx=>hx,λ_ _=>rfl,λ_ _ _ hx=>hx⟩
 have hown:∀ b,bc c2 h0 b->bc c1 h1 b:=λb ⟨id,box,o,q1,q2⟩=>by
  obtain⟨_,b1,q3,_⟩:=hb id box q1;exact⟨id,b1,o,q3,q2⟩
 refine⟨v,c2,rfl,rfl,hr.sound T v v1,⟨λb hb2=>?_,λid hid=>r1.fresh id om,λid b0 hg=>?_,λi j bi bj b o o' q1 q2 q3 q4=>?_,GT.kept hk r1.inv⟩,⟨g1.keeps.trans hk,g1.os,g1.tape,g1.output,g1.size,by rw[hn];exact g1.next,g1.frame,λb ho=>g1.own b (hown b ho),λb hs=>?_⟩,p1⟩
 .rcases hb2 with hb2|⟨id,o,box,_,q2,q3⟩
  .exact r1.size b hb2
  .obtain⟨b',o',x1,_,x3⟩:=r1.live id box q2;rw[x1] at q3;injection q3 with q3;injection q3 with e1 _;subst e1
   exact x3.lt
 .obtain⟨hf,b1,q1,q2⟩:=hb id b0 hg;obtain⟨b,o,x1,x2,x3⟩:=r1.live id b1 q1;refine⟨b,o,x1,?_,q2.sound T x3⟩;rintro(hs|⟨idf,of,bf,y1,y2,y3⟩)
  .exact x2 hs
  .have:=r1.inj id idf b1 bf b o of q1 y2 x1 y3
   subst this;rw[hf] at y1;cases y1
 .obtain⟨_,b1,x1,_⟩:=hb i bi q1;obtain⟨_,b2,x2,_⟩:=hb j bj q2;exact r1.inj i j b1 b2 b o o' x1 x2 q3 q4
 .rcases hs with hs|⟨id,o,box,_,q2,q3⟩
  .exact g1.stable b hs
  .exact .inr (g1.own b ⟨id,box,o,q2,q3⟩)
theorem AC1.low {P:Program}{g:FuncId}{ds:List D}{n k:Nat}{bs:List (Nat×Box)}{d:D}{h':aA}(hp:AC1 P g ds ⟨k,bs⟩ d h') (hn:n<=k):AC1 P g ds ⟨n,bs⟩ d h':=by
 obtain⟨hent,hcall⟩:=hp;refine⟨hent,λc vs R hvs=>(hcall c vs ⟨R.size,λid hid=>R.fresh id (Nat.le_trans hn hid),R.live,R.inj,R.inv⟩ hvs).mono ?_⟩;rintro e w' ⟨v,c1,rfl,rfl,v1,r1,g1,p1⟩;have hg:=g1.next;exact⟨v,c1,rfl,rfl,v1,r1,⟨g1.keeps,g1.os,g1.tape,g1.output,g1.size,Nat.le_trans hn hg,g1.frame,g1.own,g1.stable⟩,λj hj=>p1 j (Nat.lt_of_lt_of_le hj hn)⟩
end Go.Am
/-
 The abstract machine,part 58: a region that draws its order and calls functions over data (as often as it likes) and functions that write (each once).
-/
namespace Go.Am
variable [GT]
structure CM (P:Program) (g:FuncId) (ds:List D) (h:aA) (Kp:D->Prop) (Kw:D->aA->Prop):Prop where
 ex:(∃ d,Pu P g ds d/\Kp d)\/Cll P g ds h Kw
theorem CM.pu {P:Program}{g:FuncId}{ds:List D}{h:aA}{Kp:D->Prop}{Kw:D->aA->Prop}{d:D}(hp:Pu P g ds d) (go:Kp d):CM P g ds h Kp Kw:=⟨.inl ⟨d,hp,go⟩⟩
theorem CM.w {P:Program}{g:FuncId}{ds:List D}{h:aA}{Kp:D->Prop}{Kw:D->aA->Prop}(hc:Cll P g ds h Kw):CM P g ds h Kp Kw:=⟨.inr hc⟩
section
variable (P:Program) (ti:TI)
def E8 (g:FuncId) (l:fF) (K:Prop):Prop:=List.rec (motive:=λ_=>Prop) K (λx _ ih=>if g=x.1 then False else ih) l
def zK (ops:Array Oper) (base:Nat) (M:List Nat) (o:Oper) (ih:List D->List (Nat×aA)->List (Nat×Box)->List Nat->RdL->fF->List FuncId->Prop) (j:Nat) (tm:List D) (hist:List (Nat×aA)) (pend:List (Nat×Box)) (al:List Nat) (rd:RdL) (mp:fF) (mm:List FuncId):Prop:=
 match ai ops tm o with
 | some true=>
  match ba ops o with
  | .pure=>opV P ti tm ⟨0,[]⟩ 0 o λd _=>bq tm o.dst d λtm'=>ih tm' hist pend al rd mp mm
  | .read=>
   match hist with
   | (t,g)::r=>opV P ti tm g 0 o λd _=>
    if(t == 0 || (M.getD j 0).testBit (t-1))=true then bq tm o.dst d λtm'=>ih tm' ((t,g)::r) pend al ((j,o,tm,d)::rd) mp mm
    else rcV P ti (M.getD j 0) tm o d r (bq tm o.dst d λtm'=>ih tm' ((t,g)::r) pend al ((j,o,tm,d)::rd) mp mm)
   | []=>False
  | .alloc=>
   fstK hist λts=>if Bt M (M.getD j 0) ts al=true then opV P ti tm ⟨0,[]⟩ (base+j) o λd h'=>sQ (h'.get (base+j)) λbox=>bq tm o.dst d λtm'=>ih tm' hist ((j,box)::pend) (j::al) rd mp mm else False
  | .write=>
   match hist with
   | (t,g)::r=>
    if(t == 0 || (M.getD j 0).testBit (t-1))=true then
     CI (M.getD j 0) pend λpn pv=>Dy base pn g λhv=>
     pC P tm o
      (λgf ds=>CM P gf ds hv
       (λd=>xB gf mm (frV gf ds d mp (pmV P ti hv (M.getD j 0) rd (bq tm o.dst d λtm'=>ih tm' ((j+1,hv)::(t,g)::r) pv al rd ((gf,ds,d)::mp) mm))))
       (λd h'=>xB gf mm (E8 gf mp (lu h' λh'=>pmV P ti h' (M.getD j 0) rd (bq tm o.dst d λtm'=>ih tm' ((j+1,h')::(t,g)::r) pv al rd mp (gf::mm))))))
      (λ_ _=>False)
      (opV P ti tm hv (base+j) o λd h'=>lu h' λh'=>pmV P ti h' (M.getD j 0) rd (bq tm o.dst d λtm'=>ih tm' ((j+1,h')::(t,g)::r) pv al rd mp mm))
    else False
   | []=>False
 | some false=>bq tm o.dst aO λtm'=>ih tm' hist pend al rd mp mm
 | none=>False
def Bc (ops:Array Oper) (base:Nat) (M:List Nat) (l:List Oper):Nat->List D->List (Nat×aA)->List (Nat×Box)->List Nat->RdL->fF->List FuncId->(List D->List (Nat×aA)->List (Nat×Box)->Prop)->Prop:=
 List.rec (motive:=λ_=>Nat->List D->List (Nat×aA)->List (Nat×Box)->List Nat->RdL->fF->List FuncId->(List D->List (Nat×aA)->List (Nat×Box)->Prop)->Prop)
  (λ_ tm hist pend _ _ _ _ K=>K tm hist pend)
  (λo _ ih j tm hist pend al rd mp mm K=>zK P ti ops base M o (λtm hist pend al rd mp mm=>ih (j+1) tm hist pend al rd mp mm K) j tm hist pend al rd mp mm) l
end
section
variable {P:Program}{ti:TI}
theorem qj {g:FuncId}{K:Prop}:∀ {l:fF},E8 g l K->K/\∀ e∈l,e.1≠g
 | [],h=>⟨h,si⟩
 | x::l,h=>by
  replace h:(if g=x.1 then False else E8 g l K):=h
  split at h
  .exact h.elim
  .rename_i e;obtain⟨h1,h2⟩:=qj h;refine⟨h1,λy hy=>?_⟩;rcases List.mem_cons.1 hy with rfl|hy
   .exact λx=>e x.symm
   .exact h2 y hy
theorem cr (ops:Array Oper) (base:Nat) (M:List Nat):∀ (l:List Oper) (j:Nat) (tm:List D) (hist:List (Nat×aA)) (pend:List (Nat×Box)) (al:List Nat) (rd:List (Nat×Oper×List D×D)) (mp:fF) (mm:List FuncId) (K:List D->List (Nat×aA)->List (Nat×Box)->Prop),
  Bc P ti ops base M l j tm hist pend al rd mp mm K->sC mp->(∀ e∈mp,¬e.1∈mm) ->
  ∃ (p2:fF) (m2:Gl) (s':DS),K s'.tm s'.hist s'.pend/\sC (p2++mp)/\(∀ e∈p2,Pu P e.1 e.2.1 e.2.2)/\(∀ e∈m2,AC1 P e.1 e.2.1 e.2.2.1 e.2.2.2.1 e.2.2.2.2)/\(∀ e∈m2,¬e.1∈mm)/\(m2.map (·.1)).Nodup /\
   (∀ e∈p2++mp,¬e.1∈m2.map (·.1))/\(∀ e∈p2,¬e.1∈mm) /\
   ∀ cl:Cl,(∀ e∈p2,∀ h,cl (.fn e.1) e.2.1 h=some (e.2.2,h))->(∀ e∈m2,cl (.fn e.1) e.2.1 e.2.2.1=some (e.2.2.2.1,e.2.2.2.2))->c9 P ti cl eqC ops base M l j ⟨tm,hist,pend,al,rd⟩=some s'
 | [],j,tm,hist,pend,al,rd,mp,mm,K,h,hF,hD=>⟨[],[],⟨tm,hist,pend,al,rd⟩,h,hF,λe he=>by simp at he,λe he=>by simp at he,λe he=>by simp at he,si,si,λe he=>by simp at he,λ_ _ _=>rfl⟩
 | o::l,j,tm,hist,pend,al,rd,mp,mm,K,h,hF,hD=>by
  replace h:zK P ti ops base M o (λtm hist pend al rd mp mm=>Bc P ti ops base M l (j+1) tm hist pend al rd mp mm K) j tm hist pend al rd mp mm:=h
  unfold zK at h;split at h
  .rename_i hw;split at h
   .rename_i hk;obtain⟨hc1,d,h',hc2,h1⟩:=b6 h;obtain⟨p2,m2,s',k1,k2,k3,k4,k5,k6,k7,k8,k9⟩:=cr ops base M l (j+1) _ _ _ _ _ mp mm K (ao h1) hF hD;refine⟨p2,m2,s',k1,k2,k3,k4,k5,k6,k7,k8,λcl hp hm=>?_⟩;simp only[c9,cZ,hw,hk,hc2];exact k9 cl hp hm
   .rename_i hk;split at h
    .rename_i t g r;obtain⟨hc1,d,h',hc2,h1⟩:=b6 h
     have hh:bq tm o.dst d (λtm'=>Bc P ti ops base M l (j+1) tm' ((t,g)::r) pend al ((j,o,tm,d)::rd) mp mm K)/\cI P ti eqC (M.getD j 0) tm o d ((t,g)::r)=true:=by
      split at h1
      .rename_i hb;exact⟨h1,by simp only[cI,kC];exact⟨ef hc2,by simp only[kN] at hb ⊢;exact .inl hb⟩⟩
      .obtain⟨k,h3⟩:=ur h1;exact⟨k,by simp only[cI,kC];exact⟨ef hc2,by simp only[kN];exact .inr h3⟩⟩
     obtain⟨h1,hro⟩:=hh;obtain⟨p2,m2,s',k1,k2,k3,k4,k5,k6,k7,k8,k9⟩:=cr ops base M l (j+1) _ _ _ _ _ mp mm K (ao h1) hF hD;refine⟨p2,m2,s',k1,k2,k3,k4,k5,k6,k7,k8,λcl hp hm=>?_⟩;simp only[c9,cZ,hw,hk,hc2,hro,if_true];exact k9 cl hp hm
    .exact h.elim
   .rename_i hk
    replace h:=vR h
    split at h
    .rename_i hal;rw[yj] at hal;obtain⟨hc1,d,h',hc2,h1⟩:=b6 h;obtain⟨box,hbox,h1⟩:=eQ h1;obtain⟨p2,m2,s',k1,k2,k3,k4,k5,k6,k7,k8,k9⟩:=cr ops base M l (j+1) _ _ _ _ _ mp mm K (ao h1) hF hD;refine⟨p2,m2,s',k1,k2,k3,k4,k5,k6,k7,k8,λcl hp hm=>?_⟩;simp only[c9,cZ,hw,hk,hc2,hbox,hal,if_true];exact k9 cl hp hm
    .exact h.elim
   .rename_i hk;split at h
    .rename_i t g r;split at h
     .rename_i hb
      replace h:=kz (mq h)
      rcases eU h with⟨gf,ds,hac,h⟩|⟨_,_,_,h⟩|h
      .rcases h.ex with⟨d,hpu,h⟩|h
       .obtain⟨h,hno⟩:=jR h;obtain⟨h,hfr⟩:=kp h;obtain⟨h1,hpm⟩:=jN h
        have hF':sC ((gf,ds,d)::mp):=λg1 ds1 d1 d2 m1 m2=>by
         rcases List.mem_cons.1 m1 with x1|x1<;>rcases List.mem_cons.1 m2 with x2|x2
         .simp only[kB] at x1 x2;rw[x1.2.2,x2.2.2]
         .simp only[kB] at x1;obtain⟨rfl,rfl,rfl⟩:=x1;exact(hfr d2 x2).symm
         .simp only[kB] at x2;obtain⟨rfl,rfl,rfl⟩:=x2;exact hfr d1 x1
         .exact hF _ _ _ _ x1 x2
        have hD':∀ e∈(gf,ds,d)::mp,¬e.1∈mm:=λe he=>by
         rcases List.mem_cons.1 he with rfl|he
         .exact hno
         .exact hD e he
        obtain⟨p2,m2,s',k1,k2,k3,k4,k5,k6,k7,k8,k9⟩:=cr ops base M l (j+1) _ _ _ _ _ _ mm K (ao h1) hF' hD';refine⟨p2++[(gf,ds,d)],m2,s',k1,by simpa using k2,λe he=>?_,k4,k5,k6,λe he=>k7 e (by simpa using he),λe he=>?_,λcl hp hm=>?_⟩
        .rcases List.mem_append.1 he with he|he
         .exact k3 e he
         .simp at he;subst he;exact hpu
        .rcases List.mem_append.1 he with he|he
         .exact k8 e he
         .simp at he;subst he;exact hno
        .have hl:=hp (gf,ds,d) si
         have hst:∀ h0 id,bZ P ti cl tm h0 id o=some (d,h0):=λh0 id=>by
          unfold bZ;simp only[hac,hl]
         simp only[c9,cZ,hw,hk,hb,if_true,hst,hpm];exact k9 cl (λe he=>hp e (by simp[he])) hm
       .obtain⟨d,h',hac1,h⟩:=h.ex;obtain⟨h,hno⟩:=jR h;obtain⟨h,hnm⟩:=qj h;obtain⟨h1,hpm⟩:=jN (gp h)
        have hD':∀ e∈mp,¬e.1∈gf::mm:=λe he hx=>by
         rcases List.mem_cons.1 hx with hx|hx
         .exact hnm e he hx
         .exact hD e he hx
        obtain⟨p2,m2,s',k1,k2,k3,k4,k5,k6,k7,k8,k9⟩:=cr ops base M l (j+1) _ _ _ _ _ mp _ K (ao h1) hF hD';refine⟨p2,(gf,ds,dL base (pend.filter λp=>(M.getD j 0).testBit p.1) g,d,h')::m2,s',k1,k2,k3,λe he=>?_,λe he=>?_,?_,λe he hx=>?_,λe he hx=>k8 e he (by simp[hx]),λcl hp hm=>?_⟩
        .rcases List.mem_cons.1 he with he|he
         .subst he;exact hac1
         .exact k4 e he
        .rcases List.mem_cons.1 he with he|he
         .subst he;exact hno
         .exact λhx=>k5 e he (by simp[hx])
        .simp only[List.map_cons,List.nodup_cons];refine⟨λhx=>?_,k6⟩;obtain⟨e,he,hx⟩:=List.mem_map.1 hx;exact k5 e he (by simp[hx])
        .simp only[List.map_cons] at hx;rcases List.mem_cons.1 hx with hx|hx
         .rcases List.mem_append.1 he with he|he
          .exact k8 e he (by simp[hx])
          .exact hnm e he hx
         .exact k7 e he hx
        .have hl:=hm _ (List.mem_cons_self ..)
         have hst:∀ id,bZ P ti cl tm (dL base (pend.filter λp=>(M.getD j 0).testBit p.1) g) id o=some (d,h'):=λid=>by
          unfold bZ;simp only at hl;simp only[hac,hl]
         simp only[c9,cZ,hw,hk,hb,if_true,hst,hpm];exact k9 cl hp (λe he=>hm e (by simp[he]))
      .exact h.elim
      .obtain⟨hc1,d,h',hc2,h1⟩:=b6 h;obtain⟨h1,hpm⟩:=jN (gp h1);obtain⟨p2,m2,s',k1,k2,k3,k4,k5,k6,k7,k8,k9⟩:=cr ops base M l (j+1) _ _ _ _ _ mp mm K (ao h1) hF hD;refine⟨p2,m2,s',k1,k2,k3,k4,k5,k6,k7,k8,λcl hp hm=>?_⟩
       have hst:bZ P ti cl tm (dL base (pend.filter λp=>(M.getD j 0).testBit p.1) g) (base+j) o=some (d,h'):=by
        unfold bZ;simp only[hc1,hc2]
       simp only[c9,cZ,hw,hk,hb,if_true,hst,hpm];exact k9 cl hp hm
     .exact h.elim
    .exact h.elim
  .rename_i hw;obtain⟨p2,m2,s',k1,k2,k3,k4,k5,k6,k7,k8,k9⟩:=cr ops base M l (j+1) _ _ _ _ _ mp mm K (ao h) hF hD;refine⟨p2,m2,s',k1,k2,k3,k4,k5,k6,k7,k8,λcl hp hm=>?_⟩;simp only[c9,cZ,hw];exact k9 cl hp hm
  .exact h.elim
open Classical in
noncomputable def clB (p:fF) (m:Gl):Cl:=λk ds h=>
 match k with
 | .fn g=>match lkM p g ds with|some d=>some (d,h)|none=>clW m (.fn g) ds h
 | .yf _=>none
theorem ac.byM (hm:P.follows .mixedOrders=true) (T:TOk P ti){nb id:Nat}{ops:Array Oper}{Q:Exit->St->Prop}{tm:List D}{n:Nat}{bs:List (Nat×Box)}(M:List Nat) (hok:(cU ops&&decide (eW ops.toList []=M))=true)
  (h:Bc P ti ops n M ops.toList 0 tm [(0,⟨n+ops.size,bs⟩)] [] [] [] [] [] (lT n (Q .normal))):ac P nb id ops Q ⟨tm,⟨n,bs⟩⟩:=⟨.of_sw (by
 simp only[kC,decide_eq_true_eq] at hok;obtain⟨hok,hM⟩:=hok;subst hM;obtain⟨p2,m2,ds,k1,k2,k3,k4,k5,k6,k7,k8,k9⟩:=cr ops _ _ _ _ _ _ _ _ _ _ _ _ h (λ_ _ _ _ h=>by simp at h) (λe he=>by simp at he);rw[List.append_nil] at k2 k7
 have hC:g9 P (clB p2 m2):=λk as h0 d h' hx=>by
  cases k with
  | yf id=>simp[clB] at hx
  | fn g=>
   simp only[clB] at hx;split at hx
   .rename_i d1 he;simp only[kA,kB] at hx;obtain⟨rfl,rfl⟩:=hx;exact k3 _ (nK he) _
   .simp only[clW] at hx;split at hx
    .rename_i e he;have h1:=List.find?_some he;have h2:=List.mem_of_find?_eq_some he;simp only[decide_eq_true_eq] at h1;simp only[kA,kB] at hx;obtain⟨rfl,rfl,rfl⟩:=h1;obtain⟨rfl,rfl⟩:=hx;exact k4 e h2
    .cases hx
 have hr:=k9 (clB p2 m2) (λe he h=>by simp only[clB,pa k2 he]) (λe he=>by
  have hno:lkM p2 e.1 e.2.1=none:=by
   cases hl:lkM p2 e.1 e.2.1 with
   | none=>rfl
   | some d=>exact absurd (List.mem_map.2 ⟨e,he,rfl⟩) (k7 _ (nK hl))
  simp only[clB,hno]
  exact vf k6 he)
 unfold lT at k1;split at k1
 .rename_i t g r hh
  have hd:cG P ti (clB p2 m2) eqC ops ⟨tm,⟨n,bs⟩⟩=some ⟨ds.tm,dL n ds.pend g⟩:=by
   unfold cG;simp only[bump];rw[hr];simp only[hh]
  intro c a R hf hR;exact fU hm T hC oP hok hd hf λc' a' f1 g1 p1 d1=>hR _ _ c' a' (kz k1) f1 g1 p1 d1
 .exact k1.elim)⟩
end
section
variable {α:Type}{c:α->List D}{sz:Nat}
theorem rP (hc:∀ x,(c x).length=sz):∀ {l:List α}{k:Nat}(_:k<l.length) (v:α),(l.set k v).flatMap c=(l.flatMap c).take (k*sz)++c v++(l.flatMap c).drop (k*sz+sz)
 | x::l,0,_,v=>by simp[List.drop_left' (hc x)]
 | x::l,k+1,h,v=>by
  have ih:=rP hc (l:=l) (k:=k) (by simpa using h) v;simp only[List.set_cons_succ,List.flatMap_cons,ih];have e:(k+1)*sz=(c x).length+k*sz:=by rw[hc,Nat.add_mul];omega
  rw[e,List.take_length_add_append,Nat.add_assoc,List.drop_length_add_append];simp
theorem wY (hc:∀ x,(c x).length=sz){l:List α}{k:Nat}(h:k<l.length) (v:α):splice (l.flatMap c) (k*sz) (c v)=(l.set k v).flatMap c:=by
 rw[rP hc h,splice,hc]
theorem uh (hc:∀ x,(c x).length=sz){l:List α}{k i:Nat}(h:k<l.length) (hi:i<sz){d:D}{v:α}(e:(c l[k]).set i d=c v):splice (l.flatMap c) (k*sz+i) [d]=(l.set k v).flatMap c:=by
 have hlen:=aa hc l;have hle:k*sz+sz<=l.length*sz:=by rw[<-Nat.succ_mul];exact Nat.mul_le_mul_right _ h
 rw[mC (by rw[hlen];omega),rP hc h,<-e];have h3:((l.flatMap c).drop (k*sz)).take sz=c l[k]:=dM hc h
 have h4:l.flatMap c=(l.flatMap c).take (k*sz)++(c l[k]++(l.flatMap c).drop (k*sz+sz)):=by
  rw[<-h3,<-List.drop_drop,List.take_append_drop,List.take_append_drop]
 have hA:((l.flatMap c).take (k*sz)).length=k*sz:=by rw[List.length_take,hlen];omega
 have h5:(l.flatMap c).set (k*sz+i) d=((l.flatMap c).take (k*sz)++(c l[k]++(l.flatMap c).drop (k*sz+sz))).set (k*sz+i) d:=by rw[<-h4]
 rw[h5,List.set_append_right _ _ om,hA,Nat.add_sub_cancel_left,List.set_append_left _ _ (by rw[hc];exact hi),List.append_assoc]
theorem Get.flat (hc:∀ x,(c x).length=sz){l:List α}{off:Nat}(k:Nat){K:List D->Prop}(e:off=k*sz) (h:k<l.length) (go:K (c l[k])):Get (l.flatMap c) off sz K:=by
 subst e;have hle:k*sz+sz<=l.length*sz:=by rw[<-Nat.succ_mul];exact Nat.mul_le_mul_right _ h
 exact⟨by rw[aa hc];omega,by rw[dM hc h];exact go⟩
theorem Get.flat1 (hc:∀ x,(c x).length=sz){l:List α}{off:Nat}(k i:Nat){d:D}{K:List D->Prop}(e:off=k*sz+i) (h:k<l.length) (hd:(c l[k])[i]?=some d) (go:K [d]):Get (l.flatMap c) off 1 K:=by
 subst e;have hi:i<sz:=by have:=(List.getElem?_eq_some_iff.1 hd).1;rw[hc] at this;exact this
 have hle:k*sz+sz<=l.length*sz:=by rw[<-Nat.succ_mul];exact Nat.mul_le_mul_right _ h
 refine⟨by rw[aa hc];omega,?_⟩;have e1:(((l.flatMap c).drop (k*sz)).take sz)[i]?=some d:=by rw[dM hc h];exact hd
 rw[List.getElem?_take,if_pos hi,List.getElem?_drop] at e1;obtain⟨h2,e2⟩:=List.getElem?_eq_some_iff.1 e1;rw[kK h2,e2];exact go
theorem Put.flat (hc:∀ x,(c x).length=sz){l:List α}{off:Nat}(k:Nat) (v:α){K:List D->Prop}(e:off=k*sz) (h:k<l.length) (go:K ((l.set k v).flatMap c)):Put (l.flatMap c) off (c v) K:=by
 subst e;have hle:k*sz+sz<=l.length*sz:=by rw[<-Nat.succ_mul];exact Nat.mul_le_mul_right _ h
 exact⟨by rw[aa hc,hc];omega,by rw[wY hc h];exact go⟩
theorem Put.flat1 (hc:∀ x,(c x).length=sz){l:List α}{off:Nat}(k i:Nat){d:D}(v:α){K:List D->Prop}(e:off=k*sz+i) (h:k<l.length) (hi:i<sz) (hv:(c l[k]).set i d=c v) (go:K ((l.set k v).flatMap c)):Put (l.flatMap c) off [d] K:=by
 subst e;have hle:k*sz+sz<=l.length*sz:=by rw[<-Nat.succ_mul];exact Nat.mul_le_mul_right _ h
 exact⟨by rw[aa hc];simp;omega,by rw[uh hc h hi hv];exact go⟩
theorem Rd.frzL {h:aA}{fz:Nat->Bool}{σ:Nat->Option Nat}(hlen:∀ x,(c x).length=sz) (hnb:∀ x,aF (c x)=true){l:List α}{id n cap es:Nat}{ex:Bool}{cs:List D}{bx:Bool}(hf:fz id=true) (hg:h.get id=some (.cells cs bx)) (hn:n=l.length) (he:es=sz) (hc:cs=l.flatMap c):Rd h fz σ (.sl id 0 n cap es ex) (lstS c l):=by
 subst hn;subst he;subst hc;refine .frz hf hg (by rw[aa hlen];omega) (.eqs ?_ (aE hnb _));rw[List.drop_zero,kE (by rw[aa hlen];exact kP _)]
theorem Pu.args {P:Program}{g:FuncId}{ds ds':List D}{d:D}(hp:Pu P g ds d) (h:∀ (c:Ctx) (vs:List Value),VS c ds' vs->VS c ds vs):Pu P g ds' d:=λh0=>
 ⟨(hp h0).1,λc vs R hvs=>(hp h0).2 c vs R (h c vs hvs)⟩
theorem Pu.empty {P:Program}{g:FuncId}{d:D}(hn:Pu P g [.zs false] d) (hs:Pu P g [.zs true] d):Pu P g [.imm 0 []] d:=λh0=>
 ⟨(hn h0).1,λc vs R hvs=>by
  obtain⟨y,ys,rfl,h1,h2⟩:=hvs.inv;simp only[V] at h1;obtain⟨a,cap,zs,rfl,_,_,_⟩:=h1;cases a with
  | none=>exact(hn h0).2 c _ R (VS.cons (by simp only[V];exact⟨none,cap,rfl,rfl⟩) h2)
  | some a=>exact(hs h0).2 c _ R (VS.cons (by simp only[V];exact⟨some a,cap,rfl,rfl⟩) h2)⟩
theorem Jd {c:Ctx}{y:Value}(h:V c aJ y):V c (.imm 0 []) y:=by
 simp only[V] at *;obtain⟨_,rfl⟩:=h;exact⟨none,0,[],rfl,kP _,VS.nil,.inl rfl⟩
theorem Br.strT {u v:Str}{K1 K2:Prop}(h:u=v) (go:K1):Br (u=v) K1 K2:=⟨λ_=>go,λhn=>absurd h hn⟩
theorem Br.strF {u v:Str}{K1 K2:Prop}(h:jI u v=false) (go:K2):Br (u=v) K1 K2:=⟨λe=>absurd (cM.2 e) (by rw[h];simp),λ_=>go⟩
end
end Go.Am
/-
 The abstract machine,part 61: rounds of loops over functions that may leave the loop.
-/
namespace Go.Am
variable [GT]
structure SvX (P:Program) (code:Code) (K:Exit->List D->aA->Prop) (s:St):Prop where
 run:∀ (ro:Option Nat) (n:Nat) (c:Ctx) (a:Act) (R:Exit->Act->World->Prop),Fit c s a ->
  (∀ e tm' h' c' a',K e tm' h'->Fit c' ⟨tm',h'⟩ a'->ae c s.h c' h'->(∀ j,j<s.h.next->c'.φ j=c.φ j)->a'.defers=a.defers->R e a' c'.w)->code.wpIn (WF ro) n P R a c.w
section
variable {P:Program}{ti:TI}{K:Exit->List D->aA->Prop}{s:St}
theorem SvX.region (T:TOk P ti){id:Nat}{ops:Array Oper}(h:Cc P ti ops ops.toList s.tmps s.h (K .normal)):SvX P (.region id ops false) K s:=⟨λ_ _ c a _ hf hR=>wpIn_region_list (nC T ops _ _ _ _ c a _ h hf (hR .normal))⟩
theorem SvX.block {id:Nat}{code:Code}(h:SvX P code (λe tm h=>match e with|.exit i=>K (if i=id then .normal else .exit i) tm h|e=>K e tm h) s):SvX P (.block id code) K s:=⟨λro n c a R hf hR=>wpIn_block (h.run ro n c a _ hf λe tm h' c1 a1 hk f1 g1 p1 d1=>by
 cases e with
 | exit i=>
  simp only[Exit.inBlock];split
  .rename_i hi;simp only[hi,if_true] at hk;exact hR _ tm h' c1 a1 hk f1 g1 p1 d1
  .rename_i hi;simp only[hi,if_false] at hk;exact hR _ tm h' c1 a1 hk f1 g1 p1 d1
 | _=>exact hR _ tm h' c1 a1 hk f1 g1 p1 d1)⟩
end
theorem Y1.of_sx {P:Program}{id:Nat}{ds:List D}{h h':aA}{tm:List D}{ps:List Tmp}{assign body:Code}{jump:Option Code}
  (hg:h.get id=some (.loop .ready none tm ps assign body)) (hlen:ds.length=ps.length)
  (H:SvX P assign (λe tm1 h1=>e=.normal/\h1.get id=some (.loop .ready none tm ps assign body)/\SvX P body (λe2 _ h2=>kn e2=some jump/\h2.get id=some (.loop .busy none tm ps assign body)/\h2.set id (.loop (rg jump) jump tm ps assign body)=h') ⟨tm1,h1.set id (.loop .busy none tm ps assign body)⟩) ⟨lg ps ds tm,h⟩) :
  Y1 P id ds h (.v (.bool jump.isNone)) h':=by
 intro c vs b R hvs hφ;have hid:id<h.next:=Nat.lt_of_not_le λhle=>by rw[R.fresh id hle] at hφ;cases hφ
 obtain⟨b0,o0,q1,_,q3⟩:=R.live _ _ hg;rw[hφ] at q1;injection q1 with q1;injection q1 with e1 e2;subst e1;subst e2
 obtain⟨_,L,l1,l2,l3,l4,l5,l6,l7⟩:=q3
 have hsz:vs.toArray.size=L.params.size:=by
  have a1:=hvs.length;have a2:L.params.toList.length=ps.length:=by rw[l5]
  simp at a2 ⊢;omega
 refine⟨_,_,_,_,run_yield l1 hsz,λro n=>roundIn_of_wpIn trivial ?_⟩;rw[wG,l5,l6,l7];have hfit:Fit c ⟨lg ps ds tm,h⟩ { tmps:=(ps.zip vs).foldl (λ(t:Array Value) p=>t.setIfInBounds p.1 p.2) L.tmps,defers:=[] }:=⟨R,j4 ps ds vs tm L.tmps hvs l4⟩;refine H.run (some b) n c _ _ hfit λe tm1 h1 c1 a1 hk f1 g1 p1 d1=>?_
 obtain⟨rfl,hg1,H2⟩:=hk;have e1:c1.φ id=some (b,0):=by rw[p1 id hid];exact hφ
 obtain⟨b1,o1,r1,_,r3⟩:=f1.rel.live _ _ hg1;rw[e1] at r1;injection r1 with r1;injection r1 with x1 x2;subst x1;subst x2
 obtain⟨_,L1,m1,m2,m3,m4,m5⟩:=r3;obtain⟨R2,G2⟩:=jz f1.rel (box':=.loop .busy none tm ps assign body) (o':=.loop { L1 with state:=.busy }) hg1 e1 (gT m1) λK hb=>⟨rfl,_,hb,rfl,m3,VS.keep K _ _ m4,m5⟩
 refine⟨_,run_beginRound m1 m2,?_⟩;refine H2.run (some b) n { c1 with w:=c1.w.putObj b (.loop { L1 with state:=.busy }) } a1 _ ⟨R2,VS.keep G2.keeps _ _ f1.tmps⟩ λe tm3 h3 c3 a3 hk3 f3 g3 p3 d3=>?_
 obtain⟨hj,hg2,rfl⟩:=hk3
 have hid1:id<(h1.set id (.loop .busy none tm ps assign body)).next:=by
  have:=g1.next
  show id<h1.next;exact Nat.lt_of_lt_of_le hid this
 have e3:c3.φ id=some (b,0):=by rw[p3 id hid1];exact e1
 obtain⟨b3,o3,t1,_,t3⟩:=f3.rel.live _ _ hg2;rw[e3] at t1;injection t1 with t1;injection t1 with x1 x2;subst x1;subst x2
 obtain⟨_,L3,n1,n2,n3,n4,n5⟩:=t3;obtain⟨R4,G4⟩:=jz f3.rel (box':=.loop (rg jump) jump tm ps assign body) (o':=.loop { L3 with state:=if jump.isNone then .ready else .done,pending:=jump }) hg2 e3 (gT n1) λK hb=>⟨rfl,_,hb,rfl,rfl,VS.keep K _ _ n4,n5⟩
 have fin:∃ v c',(Ending.returned (.bool jump.isNone))=.returned v/\c'.w=c3.w.putObj b (.loop { L3 with state:=if jump.isNone then .ready else .done,pending:=jump })/\V c' (.v (.bool jump.isNone)) v/\Rel c' (h3.set id (.loop (rg jump) jump tm ps assign body))/\ae c h c' (h3.set id (.loop (rg jump) jump tm ps assign body))/\∀ j,j<h.next->c'.φ j=c.φ j:=by
  refine⟨_,_,rfl,rfl,by simp[V,co],R4,((g1.trans G2).trans g3).trans G4,λj hj=>?_⟩;show c3.φ j=c.φ j;have hj1:j<(h1.set id (.loop .busy none tm ps assign body)).next:=Nat.lt_of_lt_of_le hj g1.next;rw[p3 j hj1];exact p1 j hj
 cases e with
 | normal=>simp only[kn,kA] at hj;subst hj;exact⟨_,_,run_endRound none n1,fin⟩
 | ret=>simp only[kn,kA] at hj;subst hj;exact⟨_,_,run_endRound (some .ret) n1,fin⟩
 | exit x=>simp only[kn,kA] at hj;subst hj;exact⟨_,_,run_endRound (some (.exit x)) n1,fin⟩
 | goto x=>simp only[kn,kA] at hj;subst hj;exact⟨_,_,run_endRound (some (.goto x)) n1,fin⟩
 | panic x=>simp[kn] at hj
 | outgrown=>simp[kn] at hj
theorem Yll.sx {P:Program}{id:Nat}{ds:List D}{h h':aA}{tm:List D}{ps:List Tmp}{assign body:Code}{K:D->aA->Prop}(jump:Option Code)
  (hg:h.get id=some (.loop .ready none tm ps assign body)) (hlen:ds.length=ps.length)
  (H:SvX P assign (λe tm1 h1=>e=.normal/\h1.get id=some (.loop .ready none tm ps assign body)/\SvX P body (λe2 _ h2=>kn e2=some jump/\h2.get id=some (.loop .busy none tm ps assign body)/\h2.set id (.loop (rg jump) jump tm ps assign body)=h') ⟨tm1,h1.set id (.loop .busy none tm ps assign body)⟩) ⟨lg ps ds tm,h⟩)
  (go:K (.v (.bool jump.isNone)) h'):Yll P id ds h K:=⟨_,_,Y1.of_sx hg hlen H,go⟩
end Go.Am
