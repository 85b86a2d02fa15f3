/-
  The abstract machine: what Go code does to abstract values, and that it does so in the model. No condition beyond what each theorem says.
-/
import Derived.Test.YticpeeooobajgaaGreatDoorAmE
set_option linter.unusedSectionVars false
/-
 The abstract machine,part 50: cells that are a function of their jO;truth values;places in lists.
-/
namespace Go.Am
variable [GT]
theorem cE {α:Type}{l:List α}{k:Nat}{d:α}(h:k<l.length):l.getD k d=l[k]:=by
 simp[List.getD,List.getElem?_eq_getElem h]
theorem bv {n k:Nat}{Q:(i:Nat)->i<n->Prop}(hk:k<n) (inv:∀ i (h:i<n),i<k->Q i h) (hq:Q k hk):∀ i (h:i<n),i<k+1->Q i h:=λi h hi=>by
 rcases(by omega:i<k∨i=k) with h1|h1
 ·exact inv i h h1
 ·subst h1;exact hq
theorem ki {n k:Nat}{Q:(i:Nat)->i<n->Prop}(hk:n<=k) (inv:∀ i (h:i<n),i<k->Q i h):∀ i (h:i<n),Q i h:=λi h=>inv i h om
abbrev sF (n:Nat) (f:Nat->D):List D:=(List.range n).map f
theorem v9 {n k:Nat}{f g:Nat->D}{d:D}(h1:g k=d) (h2:∀ i,i<n->i≠k->g i=f i):(sF n f).set k d=sF n g:=by
 apply List.ext_getElem
 ·simp
 ·intro i hi hi';simp only[List.length_set,List.length_map,List.length_range] at hi;rw[List.getElem_set];split
  ·rename_i e;subst e;simp[h1]
  ·rename_i e;simp[h2 i hi (λx=>e x.symm)]
theorem iY {n:Nat}{m:Int}{z:D}{f:Nat->D}(hm:m=(n:Int)) (h:∀ i,i<n->f i=z):cY [z] m.toNat=sF n f:=by
 subst hm;rw[dS];apply List.ext_getElem
 ·simp
 ·intro i hi hi';simp at hi;simp[h i hi]
theorem gp {n:Nat}{f:Nat->D}(h:∀ i,aL (f i)=true):aJ (sF n f)=true:=aN h _
theorem Get.one {cs:List D}{k:Nat}{d:D}{K:List D->Prop}(e:cs[k]?=some d) (go:K [d]):Get cs (0+k*1) 1 K:=by
 obtain⟨h,e⟩:=List.getElem?_eq_some_iff.1 e;refine⟨by omega,?_⟩;rw[Nat.zero_add,Nat.mul_one,kK h,e];exact go
abbrev Dn (l:List Bool):D:=lst boo l
theorem jR (l:List Bool):aL (Dn l)=true:=fc (λ_=>rfl) l
abbrev boolss (l:List (List Bool)):D:=lst Dn l
theorem lh (l:List (List Bool)):aL (boolss l)=true:=fc jR l
abbrev byt (b:UInt8):D:=.v (.int .u8 (b.toNat:Int))
theorem mB:∀ (l:List UInt8),c6 (l.map byt)=some l
 | []=>rfl
 | b::l=>by simp only[List.map_cons,c6,mB l,Int.toNat_natCast];simp
theorem Cvs.all {cs:List D}{n:Nat}{l:List UInt8}{K:List UInt8->Prop}(e:cs=l.map byt) (hn:n=l.length) (go:K l):Cvs cs 0 n K:=by
 subst e;subst hn;exact⟨by simp,l,by rw[List.drop_zero,kE si];exact mB l,go⟩
theorem Chk.growX {a b es m:Nat}{cs:List D}{K:Prop}(c z:Nat) (e:b=c) (e2:es=z) (h1:a*c<=1099511627776) (h2:a<=1099511627776) (h3:m*z<=cs.length) (go:K):Chk (a*b<=aW∧a<=aW∧0+m*es<=cs.length) K:=⟨by subst e;subst e2;exact⟨h1,h2,by omega⟩,go⟩
theorem Cll.inl {P:Program}{ti:TI}(hm:P.follows .mixedOrders=true) (T:TOk P ti){g:FuncId}{fn:Func}{code:Code}{ds:List D}{n:Nat}{bs:List (Nat×Box)}{h':aB}{d:D}{K:D->aB->Prop}(hg:P.funcs[g]?=some fn) (hb:fn.body=some code) (hn:(fn.name == "runtime.NumGoroutine")=false)
  (H:fW P ti n code (λe s'=>(e=.normal∨e=.ret)∧gB ti fn s'=some d∧s'.h=h') ⟨ds++List.replicate (fn.ntmps-ds.length) aP,⟨n,bs⟩⟩) (go:K d h'):Cll P g ds ⟨n,bs⟩ K:=⟨d,h',AC1.of_vl hm T hg hb hn H,go⟩
inductive nX (H:aB) (sl:List (Nat×Nat)) (fzl:List Nat):List (Nat×Box)->Prop
 | nil:nX H sl fzl []
 | cons {j:Nat} {b:Box} {r:List (Nat×Box)}:H.get j=some b->(sl.all λp=>p.2 != j)=true->fzn fzl j=false->nX H sl fzl r->nX H sl fzl ((j,b)::r)
theorem wt:∀ {sl:List (Nat×Nat)}{j a:Nat},(sl.all λp=>p.2 != j)=true->lkN sl a≠some j
 | [],_,_,_,h=>by simp[lkN] at h
 | (x,y)::l,j,a,h,e=>by
  simp only[List.all_cons,kC,bne_iff_ne] at h;simp only[lkN] at e;split at e
  ·injection e with e;exact h.1 e
  ·exact wt h.2 e
theorem nX.hr {H:aB}{sl:List (Nat×Nat)}{fzl:List Nat}{rest:List (Nat×Box)}(h:nX H sl fzl rest){b0:List (Nat×Box)}:∀ j b,aV rest j=some b->H.get j=some b∧(∀ a bx,aV b0 a=some bx->lkN sl a≠some j)∧fzn fzl j=false:=by
 induction h with
 | nil=>intro j b h;simp[aV] at h
 | cons h1 h2 h3 _ ih=>
  intro j b h;simp only[aV] at h;split at h
  ·rename_i e;subst e;injection h with h;subst h
   exact⟨h1,λ_ _ _=>wt h2,h3⟩
  ·exact ih j b h
theorem Cll.emb {P:Program}{g:FuncId}{ds:List D}{n:Nat}{b0:List (Nat×Box)}{d:D}{n1:Nat}{b1:List (Nat×Box)}(hp:AC1 P g ds ⟨n,b0⟩ d ⟨n1,b1⟩)
  {N:Nat} {HB:List (Nat×Box)} {DS:List D} {K:D->aB->Prop} (sl:List (Nat×Nat)) (fzl:List Nat) (D':D) (B1 rest:List (Nat×Box)) (hok:kW n sl=true) (hd:Rds ⟨N,HB⟩ (fzn fzl) (lkN sl) DS ds) (hb:Bxs ⟨N,HB⟩ (fzn fzl) (lkN sl) b0)
  (rd:Rd ⟨n1,b1⟩ (λ_=>false) (d7 sl N n) d D') (rb:Bxs ⟨n1,b1⟩ (λ_=>false) (d7 sl N n) B1) (hr:nX ⟨N,HB⟩ sl fzl rest)
  (go:K D' ⟨N+(n1-n),B1++rest⟩):Cll P g DS ⟨N,HB⟩ K:=⟨_,_,AC1.embed hp sl fzl hok hd hb rd rb hr.hr,go⟩
end Go.Am
/-
 The abstract machine,part 56: the walk's steps,with proofs of their conditions that are looked for where they are used.
-/
namespace Go.Am
theorem sd {p:Prop}(h:p:=by first|omega|assumption|exact hl _ _|exact gM om om|(simp;omega)|(simp;done)|fail):p:=h
class Mx (P:Program):Prop where
 ok:P.follows .mixedOrders=true
theorem sg [GT] {P:Program} [Mx P] {nb:Nat}{x:Code}{Q:Exit->St->Prop}{s:St}(h:fW P (lP P) nb x Q s):ax P nb x Q s:=ax.go Mx.ok (rK _) h
theorem stw {p:Prop}(h:p:=by first|exact Get.exp rfl|exact Idx.lst sd|exact Idx.lstS (by intro _;rfl) sd|exact Bn.nat sd|exact az.nat sd|exact λgo=>az.lit go|exact sZ.mk (by kernel_rfl)|exact Put.exp rfl|exact ad.exp rfl|exact Chk.mk (by first|exact rfl|exact gM om om|omega|assumption|fail)|exact Chk.mk ⟨kD rfl,kD rfl⟩|exact Chk.grow (by intro _;rfl) 8 rfl om om|exact Chk.room 8 rfl om om|exact Chk.made 8 rfl om om om|exact Chk.grow (by intro _;rfl) 1 rfl om om|exact Chk.room 1 rfl om om|exact Chk.made 1 rfl om om om|exact Chk.grow (by intro _;rfl) 16 rfl om om|exact Chk.room 16 rfl om om|exact Chk.made 16 rfl om om om|exact Chk.grow (by intro _;rfl) 24 rfl om om|exact Chk.room 24 rfl om om|exact Chk.made 24 rfl om om om|exact Chk.grow (by intro _;rfl) 48 rfl om om|exact Chk.room 48 rfl om om|exact Chk.made 48 rfl om om om|fail):p:=h
theorem stq {G' G:Prop}(go:G') (h:G'->G:=by first|exact sg|exact stw|fail):G:=h go
theorem bk {p K1 K2:Prop}(h1:p->K1) (h2:¬p->K2):Br p K1 K2:=⟨h1,h2⟩
theorem aQ {d:D}{l:List D}(h1:aL d=true) (h2:aJ l=true):aJ (d::l)=true:=by simp only[aJ,h1,h2,Bool.and_self]
theorem AQ {l:List D}(h:aJ l=true):aL (.agg l)=true:=by simpa only[aL] using h
theorem oz {l:List D}(h:aJ l=true):aL (.iptr l)=true:=by simpa only[aL] using h
theorem nbS {p:Prop}(h:p:=by(repeat(first|exact rfl|exact aG _|exact kw _|exact nF _|exact jR _|exact lh _|exact ol _|exact noBox_natss _|exact noBox_nds _|exact noBox_pats _|exact noBox_ruls _|exact aO _|exact cC _|exact noBox_rgs _|exact cD _|exact noBox_rules _|refine aQ ?_ ?_|refine AQ ?_|refine oz ?_|fail));(first|done|fail)):p:=h
theorem pv [GT] {P:Program} [Mx P] {g:FuncId}{fn:Func}{code:Code}{ds:List D}{d:D}(hg:P.funcs[g]?=some fn) (h:fW P (lP P) 0 code (endQ (lP P) fn d) ⟨ds++List.replicate (fn.ntmps-ds.length) aP,⟨0,[]⟩⟩) (hb:fn.body=some code:=by exact rfl) (hd:aJ ds=true:=by exact nbS) (hn:(fn.name == "runtime.NumGoroutine")=false:=by exact rfl):Pu P g ds d:=Pu.of_v Mx.ok (rK P) hg hb hn hd h
class IsC [GT] (m:Prop) (P:outParam Program) (g:outParam FuncId) (ds:outParam (List D)) (K:outParam (D->Prop)):Prop where
 ok:∀ d,Pu P g ds d->K d->m
section
variable [GT] {P:Program}{g:FuncId}{ds:List D}
instance {h:aB} {K:D->aB->Prop}:IsC (Cll P g ds h K) P g ds (λd=>K d h):=⟨λ_ hp go=>Cll.pu hp go⟩
instance {K:D->Prop}:IsC (y7 P g ds K) P g ds K:=⟨λ_ hp go=>y7.pu hp go⟩
theorem cp {m:Prop}{K:D->Prop}{d:D} [c:IsC m P g ds K] (hp:Pu P g ds d) (go:K d):m:=c.ok d hp go
theorem cd {m:Prop}{K:D->Prop}{p:Prop} [Decidable p] [c:IsC m P g ds K] (hp:Pu P g ds (boo (decide p))) (yes:p->K (boo true)) (no:¬p->K (boo false)):m:=by
 by_cases h:p
 ·exact c.ok _ (by simpa [h] using hp) (yes h)
 ·exact c.ok _ (by simpa [h] using hp) (no h)
end
theorem sim {p:Prop}(h:p:=by first|(simp;done)|(simp;omega)|fail):p:=h
theorem rdA {p:Prop}(h:p:=by first|exact rdX|exact Rd.any|exact Rd.ptr rfl|exact Rd.map rfl|exact Rd.sl rfl|exact Rd.same rfl|exact Rd.int om|assumption|exact Rd.same (aG _)|exact Rd.same (kw _)|exact Rd.same (nF _)|exact Rd.same (jR _)|exact Rd.same (lh _)|exact Rd.same (ol _)|exact Rd.same (noBox_natss _)|exact Rd.same (noBox_nds _)|exact Rd.same (noBox_pats _)|exact Rd.same (noBox_ruls _)|exact Rd.same (aO _)|exact Rd.same (cC _)|exact Rd.same (noBox_rgs _)|exact Rd.same (cD _)|fail):p:=h
theorem aq {p:Prop}(h:p:=by(repeat(first|exact Rds.nil|refine Rds.cons rdA ?_|fail));(first|done|fail)):p:=h
theorem rbB {p:Prop}(h:p:=by first|exact Rb.cells (Rds.same (aC noBoxs_nd _)) rfl|exact Rb.cells (Rds.same (aC noBoxs_nt _)) rfl|exact Rb.cells (Rds.same (aC noBoxs_nk _)) rfl|exact Rb.cells (Rds.same (aC noBoxs_bl _)) rfl|exact Rb.cells (Rds.same (aC noBoxs_bol _)) rfl|exact Rb.cells (Rds.same rfl) rfl|exact Rb.cells (Rds.same (aN (λ_=>rfl) _)) rfl|exact Rb.cells (Rds.same (fG (λ_=>rfl) rfl)) rfl|exact Rb.cells (Rds.same (aC (λ_=>rfl) _)) rfl|exact Rb.map (Res.same (jv rfl _))|exact Rb.map (Res.same (mX _ _))|exact Rb.map (Res.same si)|fail):p:=h
theorem rbC {p:Prop}(h:p:=by first|exact Rb.map (Res.eqs (lj om) (jv rfl _))|exact Rb.map (Res.eqs (AB om) (mX _ _))|exact Rb.cells (Rds.eqs (lj om) (aN (λ_=>rfl) _)) rfl|assumption|fail):p:=h
theorem rbA {p:Prop}(h:p:=by first|exact rbX|exact rbB|exact Rb.cells aq rfl|exact rbC|fail):p:=h
theorem enA {p:Prop}(h:p:=by(repeat(first|exact py.nil|refine py.cons rfl rdA ?_|fail));(first|done|fail)):p:=h
theorem bxA {p:Prop}(h:p:=by(repeat(first|exact Bxs.nil|refine Bxs.cons rfl rfl rfl rbA ?_|fail));(first|done|fail)):p:=h
theorem reA {p:Prop}(h:p:=by(repeat(first|exact nX.nil|refine nX.cons rfl rfl rfl ?_|fail));(first|done|fail)):p:=h
section
variable [GT] {nb:Nat}{tm:List D}{h:aB}{n nx:Nat}{l:List (Nat×D)}{bs:List (Nat×Box)}
theorem lq (σl:List (Nat×Nat)) (fzl:List Nat) (he:py h (fzn fzl) (sgm nb σl) tm l:=by exact enA) (hb:Bxs h (fzn fzl) (sgm nb σl) bs:=by exact bxA) (hp:fN nb nx σl=true:=by exact rfl) (hn:tm.length=n:=by exact rfl):Lf nb ⟨tm,h⟩ ⟨tmp n l,⟨nx,bs⟩⟩:=Lf.of2 σl fzl he hb hp hn
theorem lq0 (he:py h (fzn []) (sgm nb []) tm l:=by exact enA) (hb:Bxs h (fzn []) (sgm nb []) bs:=by exact bxA) (hp:fN nb nx []=true:=by exact rfl) (hn:tm.length=n:=by exact rfl):Lf nb ⟨tm,h⟩ ⟨tmp n l,⟨nx,bs⟩⟩:=Lf.of2 [] [] he hb hp hn
end
end Go.Am
/-
 The abstract machine,part 51: boxes of the caller numbered anew;cells part by part.
-/
namespace Go.Am
variable [GT]
section
variable {h:aB}{fz:Nat->Bool}{σ:Nat->Option Nat}
theorem Rds.parts:∀ {ds:List D},aJ ds=true->∀ {es es':List D},Rds h fz σ es es'->Rds h fz σ (ds++es) (ds++es')
 | [],_,_,_,he=>he
 | d::ds,hd,_,_,he=>by
  simp only[aJ,kC] at hd;exact .cons (.same hd.1) (Rds.parts hd.2 he)
theorem Rds.app:∀ {as as' bs bs':List D},Rds h fz σ as as'->Rds h fz σ bs bs'->Rds h fz σ (as++bs) (as' ++ bs')
 | _,_,_,_,.nil,hb=>hb
 | _,_,_,_,.cons hd hs,hb=>.cons hd (Rds.app hs hb)
 | _,_,_,_,.same hn,hb=>Rds.parts hn hb
theorem Rds.at {d d':D}(hd:Rd h fz σ d d'):∀ {cs:List D}(k:Nat),aJ cs=true->Rds h fz σ (cs.set k d) (cs.set k d')
 | [],_,_=>.nil
 | x::cs,0,hn=>by
  simp only[aJ,kC] at hn;exact .cons hd (.same hn.2)
 | x::cs,k+1,hn=>by
  simp only[aJ,kC] at hn;exact .cons (.same hn.1) (Rds.at hd k hn.2)
theorem Get.all {cs:List D}{sz:Nat}{K:List D->Prop}(hl:cs.length=sz) (go:K cs):Get cs 0 sz K:=⟨by omega,by rw[List.drop_zero,kE om];exact go⟩
theorem Put.at {cs:List D}{off:Nat}{d:D}{K:List D->Prop}(h:off<cs.length) (go:K (cs.set off d)):Put cs off [d] K:=⟨by simp;omega,by rw[kn h];exact go⟩
end
end Go.Am
/-
 The abstract machine,part 52: a region that draws its order and calls functions that write,each function once.
-/
namespace Go.Am
variable [GT]
section
variable (P:Program) (ti:TI)
def xT (M:List Nat) (m:Nat) (ts:List Nat) (al:List Nat):Bool:=
 al.all λx=>!m.testBit x || ts.any λt=>t != 0&&(M.getD (t-1) 0).testBit x&&m.testBit (t-1)
def fstK (l:List (Nat×aB)):(List Nat->Prop)->Prop:=
 List.rec (motive:=λ_=>(List Nat->Prop)->Prop) (λK=>K []) (λp _ ih K=>Prod.casesOn (motive:=λ_=>Prop) p λt _=>ih (λts=>K (t::ts))) l
def tR (g:FuncId) (l:List FuncId) (K:Prop):Prop:=List.rec (motive:=λ_=>Prop) K (λx _ ih=>if g=x then False else ih) l
def u6 (ops:Array Oper) (base:Nat) (M:List Nat) (o:Oper) (ih:List D->List (Nat×aB)->List (Nat×Box)->List Nat->RdL->List FuncId->Prop) (j:Nat) (tm:List D) (hist:List (Nat×aB)) (pend:List (Nat×Box)) (al:List Nat) (rd:RdL) (mm:List FuncId):Prop:=
 match ac ops tm o with
 | some true=>
  match bI ops o with
  | .pure=>opV P ti tm ⟨0,[]⟩ 0 o λd _=>bg tm o.dst d λtm'=>ih tm' hist pend al rd mm
  | .read=>
   match hist with
   | (t,g)::r=>opV P ti tm g 0 o λd _=>
    if(t == 0 || (M.getD j 0).testBit (t-1))=true then bg tm o.dst d λtm'=>ih tm' ((t,g)::r) pend al ((j,o,tm,d)::rd) mm
    else rcV P ti (M.getD j 0) tm o d r (bg tm o.dst d λtm'=>ih tm' ((t,g)::r) pend al ((j,o,tm,d)::rd) mm)
   | []=>False
  | .alloc=>
   fstK hist λts=>if xT M (M.getD j 0) ts al=true then opV P ti tm ⟨0,[]⟩ (base+j) o λd h'=>qC (h'.get (base+j)) λbox=>bg tm o.dst d λtm'=>ih tm' hist ((j,box)::pend) (j::al) rd mm else False
  | .write=>
   match hist with
   | (t,g)::r=>
    if(t == 0 || (M.getD j 0).testBit (t-1))=true then
     x9 (M.getD j 0) pend λpn pv=>zZ base pn g λhv=>
     kY P tm o
      (λgf ds=>tR gf mm (Cll P gf ds hv λd h'=>nO h' λh'=>pmV P ti h' (M.getD j 0) rd (bg tm o.dst d λtm'=>ih tm' ((j+1,h')::(t,g)::r) pv al rd (gf::mm))))
      (λ_ _=>False)
      (opV P ti tm hv (base+j) o λd h'=>nO h' λh'=>pmV P ti h' (M.getD j 0) rd (bg tm o.dst d λtm'=>ih tm' ((j+1,h')::(t,g)::r) pv al rd mm))
    else False
   | []=>False
 | some false=>bg tm o.dst aP λtm'=>ih tm' hist pend al rd mm
 | none=>False
def uP (ops:Array Oper) (base:Nat) (M:List Nat) (l:List Oper):Nat->List D->List (Nat×aB)->List (Nat×Box)->List Nat->RdL->List FuncId->(List D->List (Nat×aB)->List (Nat×Box)->Prop)->Prop:=
 List.rec (motive:=λ_=>Nat->List D->List (Nat×aB)->List (Nat×Box)->List Nat->RdL->List FuncId->(List D->List (Nat×aB)->List (Nat×Box)->Prop)->Prop)
  (λ_ tm hist pend _ _ _ K=>K tm hist pend)
  (λo _ ih j tm hist pend al rd mm K=>u6 P ti ops base M o (λtm hist pend al rd mm=>ih (j+1) tm hist pend al rd mm K) j tm hist pend al rd mm) l
end
section
variable {P:Program}{ti:TI}
theorem ry:∀ {l:List (Nat×aB)}{K:List Nat->Prop},fstK l K->K (l.map (·.1))
 | [],_,h=>h
 | (t,_)::_,K,h=>ry (K:=λts=>K (t::ts)) h
theorem uc {M:List Nat}{m:Nat}{al:List Nat}{hist:List (Nat×aB)}:xT M m (hist.map (·.1)) al=sP M m hist al:=by
 simp only[xT,sP,List.any_map,Function.comp_def]
abbrev Bi:=List (FuncId×List D×aB×D×aB)
theorem iO {g:FuncId}{K:Prop}:∀ {l:List FuncId},tR g l K->K∧¬g∈l
 | [],h=>⟨h,by simp⟩
 | x::l,h=>by
  replace h:(if g=x then False else tR g l K):=h
  split at h
  ·exact h.elim
  ·rename_i e;obtain⟨h1,h2⟩:=iO h;exact⟨h1,by simp[e,h2]⟩
theorem ce (ops:Array Oper) (base:Nat) (M:List Nat):∀ (l:List Oper) (j:Nat) (tm:List D) (hist:List (Nat×aB)) (pend:List (Nat×Box)) (al:List Nat) (rd:List (Nat×Oper×List D×D)) (mm:List FuncId) (K:List D->List (Nat×aB)->List (Nat×Box)->Prop),
  uP P ti ops base M l j tm hist pend al rd mm K ->
  ∃ (m2:Bi) (s':DS),K s'.tm s'.hist s'.pend∧(∀ e∈m2,AC1 P e.1 e.2.1 e.2.2.1 e.2.2.2.1 e.2.2.2.2)∧(∀ e∈m2,¬e.1∈mm)∧(m2.map (·.1)).Nodup ∧
   ∀ cl:Cl,(∀ e∈m2,cl (.fn e.1) e.2.1 e.2.2.1=some (e.2.2.2.1,e.2.2.2.2))->cz P ti cl eqC ops base M l j ⟨tm,hist,pend,al,rd⟩=some s'
 | [],j,tm,hist,pend,al,rd,mm,K,h=>⟨[],⟨tm,hist,pend,al,rd⟩,h,λe he=>by simp at he,λe he=>by simp at he,by simp,λ_ _=>rfl⟩
 | o::l,j,tm,hist,pend,al,rd,mm,K,h=>by
  replace h:u6 P ti ops base M o (λtm hist pend al rd mm=>uP P ti ops base M l (j+1) tm hist pend al rd mm K) j tm hist pend al rd mm:=h
  unfold u6 at h;split at h
  ·rename_i hw;split at h
   ·rename_i hk;obtain⟨hc1,d,h',hc2,h1⟩:=bh h;obtain⟨m2,s',k1,k2,k3,k4,k5⟩:=ce ops base M l (j+1) _ _ _ _ _ mm K (ag h1);refine⟨m2,s',k1,k2,k3,k4,λcl hm=>?_⟩;simp only[cz,cO,hw,hk,hc2];exact k5 cl hm
   ·rename_i hk;split at h
    ·rename_i t g r;obtain⟨hc1,d,h',hc2,h1⟩:=bh h
     have hh:bg tm o.dst d (λtm'=>uP P ti ops base M l (j+1) tm' ((t,g)::r) pend al ((j,o,tm,d)::rd) mm K)∧b6 P ti eqC (M.getD j 0) tm o d ((t,g)::r)=true:=by
      split at h1
      ·rename_i hb;exact⟨h1,by simp only[b6,kC];exact⟨eN hc2,by simp only[kN] at hb ⊢;exact .inl hb⟩⟩
      ·obtain⟨k,h3⟩:=rZ h1;exact⟨k,by simp only[b6,kC];exact⟨eN hc2,by simp only[kN];exact .inr h3⟩⟩
     obtain⟨h1,hro⟩:=hh;obtain⟨m2,s',k1,k2,k3,k4,k5⟩:=ce ops base M l (j+1) _ _ _ _ _ mm K (ag h1);refine⟨m2,s',k1,k2,k3,k4,λcl hm=>?_⟩;simp only[cz,cO,hw,hk,hc2,hro,if_true];exact k5 cl hm
    ·exact h.elim
   ·rename_i hk
    replace h:=ry h
    split at h
    ·rename_i hal;rw[uc] at hal;obtain⟨hc1,d,h',hc2,h1⟩:=bh h;obtain⟨box,hbox,h1⟩:=eF h1;obtain⟨m2,s',k1,k2,k3,k4,k5⟩:=ce ops base M l (j+1) _ _ _ _ _ mm K (ag h1);refine⟨m2,s',k1,k2,k3,k4,λcl hm=>?_⟩;simp only[cz,cO,hw,hk,hc2,hbox,hal,if_true];exact k5 cl hm
    ·exact h.elim
   ·rename_i hk;split at h
    ·rename_i t g r;split at h
     ·rename_i hb
      replace h:=gD (lS h)
      rcases fK h with⟨gf,ds,hac,h⟩|⟨_,_,_,h⟩|h
      ·obtain⟨h,hno⟩:=iO h;obtain⟨d,h',hac1,h⟩:=h.ex;obtain⟨h1,hpm⟩:=iL (gw h);obtain⟨m2,s',k1,k2,k3,k4,k5⟩:=ce ops base M l (j+1) _ _ _ _ _ _ K (ag h1);refine⟨(gf,ds,dB base (pend.filter λp=>(M.getD j 0).testBit p.1) g,d,h')::m2,s',k1,λe he=>?_,λe he=>?_,?_,λcl hm=>?_⟩
       ·rcases List.mem_cons.1 he with he|he
        ·subst he;exact hac1
        ·exact k2 e he
       ·rcases List.mem_cons.1 he with he|he
        ·subst he;exact hno
        ·exact λhx=>k3 e he (by simp[hx])
       ·simp only[List.map_cons,List.nodup_cons];refine⟨λhx=>?_,k4⟩;obtain⟨e,he,hx⟩:=List.mem_map.1 hx;exact k3 e he (by simp[hx])
       ·have hl:=hm _ (List.mem_cons_self ..)
        have hst:∀ id,bQ P ti cl tm (dB base (pend.filter λp=>(M.getD j 0).testBit p.1) g) id o=some (d,h'):=λid=>by
         unfold bQ;simp only at hl;simp only[hac,hl]
        simp only[cz,cO,hw,hk,hb,if_true,hst,hpm];exact k5 cl (λe he=>hm e (by simp[he]))
      ·exact h.elim
      ·obtain⟨hc1,d,h',hc2,h1⟩:=bh h;obtain⟨h1,hpm⟩:=iL (gw h1);obtain⟨m2,s',k1,k2,k3,k4,k5⟩:=ce ops base M l (j+1) _ _ _ _ _ mm K (ag h1);refine⟨m2,s',k1,k2,k3,k4,λcl hm=>?_⟩
       have hst:bQ P ti cl tm (dB base (pend.filter λp=>(M.getD j 0).testBit p.1) g) (base+j) o=some (d,h'):=by
        unfold bQ;simp only[hc1,hc2]
       simp only[cz,cO,hw,hk,hb,if_true,hst,hpm];exact k5 cl hm
     ·exact h.elim
    ·exact h.elim
  ·rename_i hw;obtain⟨m2,s',k1,k2,k3,k4,k5⟩:=ce ops base M l (j+1) _ _ _ _ _ mm K (ag h);refine⟨m2,s',k1,k2,k3,k4,λcl hm=>?_⟩;simp only[cz,cO,hw];exact k5 cl hm
  ·exact h.elim
open Classical in
noncomputable def clW (m:Bi):Cl:=λk ds h=>
 match k with
 | .fn g=>match m.find? (λe=>decide (e.1=g∧e.2.1=ds∧e.2.2.1=h)) with|some e=>some (e.2.2.2.1,e.2.2.2.2)|none=>none
 | .yf _=>none
theorem nq:∀ {m:Bi}{e:FuncId×List D×aB×D×aB},(m.map (·.1)).Nodup->e∈m->clW m (.fn e.1) e.2.1 e.2.2.1=some (e.2.2.2.1,e.2.2.2.2)
 | x::m,e,hn,he=>by
  simp only[List.map_cons,List.nodup_cons] at hn;simp only[clW];rcases List.mem_cons.1 he with he|he
  ·subst he;rw[List.find?_cons_of_pos si]
  ·have hne:¬x.1=e.1:=λhx=>hn.1 (List.mem_map.2 ⟨e,he,hx.symm⟩)
   rw[List.find?_cons_of_neg (by simp[hne])];exact nq hn.2 he
theorem ab.byW (hm:P.follows .mixedOrders=true) (T:TOk P ti){nb id:Nat}{ops:Array Oper}{Q:Exit->St->Prop}{tm:List D}{n:Nat}{bs:List (Nat×Box)}(M:List Nat) (hok:(bZ ops&&decide (db ops.toList []=M))=true)
  (h:uP P ti ops n M ops.toList 0 tm [(0,⟨n+ops.size,bs⟩)] [] [] [] [] (en n (Q .normal))):ab P nb id ops Q ⟨tm,⟨n,bs⟩⟩:=⟨.of_sw (by
 simp only[kC,decide_eq_true_eq] at hok;obtain⟨hok,hM⟩:=hok;subst hM;obtain⟨m2,ds,k1,k2,k3,k4,k5⟩:=ce ops _ _ _ _ _ _ _ _ _ _ _ h
 have hC:fS P (clW m2):=λk as h0 d h' hx=>by
  cases k with
  | yf id=>simp[clW] at hx
  | fn g=>
   simp only[clW] at hx;split at hx
   ·rename_i e he;have h1:=List.find?_some he;have h2:=List.mem_of_find?_eq_some he;simp only[decide_eq_true_eq] at h1;simp only[kA,kB] at hx;obtain⟨rfl,rfl,rfl⟩:=h1;obtain⟨rfl,rfl⟩:=hx;exact k2 e h2
   ·cases hx
 have hr:=k5 (clW m2) (λe he=>nq k4 he);unfold en at k1;split at k1
 ·rename_i t g r hh
  have hd:bH P ti (clW m2) eqC ops ⟨tm,⟨n,bs⟩⟩=some ⟨ds.tm,dB n ds.pend g⟩:=by
   unfold bH;simp only[bump];rw[hr];simp only[hh]
  intro c a R hf hR;exact dR hm T hC iU hok hd hf λc' a' f1 g1 p1 d1=>hR _ _ c' a' (gD k1) f1 g1 p1 d1
 ·exact k1.elim)⟩
end
structure Sub (h h':aB):Prop where
 next:h.next<=h'.next
 get:∀ id box,h'.get id=some box->h.get id=some box
theorem Rel.sub {c:Ctx}{h h':aB}(R:Rel c h) (s:Sub h h'):Rel c h':=
 ⟨R.size,λid hid=>R.fresh id (Nat.le_trans s.next hid),λid box hg=>R.live id box (s.get id box hg),λi j bi bj b o o' h1 h2=>R.inj i j bi bj b o o' (s.get _ _ h1) (s.get _ _ h2),R.inv⟩
theorem aX.sub {c c':Ctx}{h0 h h':aB}(g:aX c h0 c' h) (s:Sub h h'):aX c h0 c' h':=
 ⟨g.keeps,g.os,g.tape,g.output,g.size,Nat.le_trans g.next s.next,g.frame,λb ⟨id,box,o,h1,h2⟩=>g.own b ⟨id,box,o,s.get id box h1,h2⟩,g.stable⟩
theorem aH.weak {P:Program}{nb:Nat}{x:Code}{Q:Exit->St->Prop}{s s0:St}(hle:Lf nb s s0) (h:aH P nb x Q s0):aH P nb x Q s:=⟨Sv.weak hle h.run⟩
def iP:Code->List Code
 | .loop c=>c::iP c
 | .seq a b=>iP a++iP b
 | .cond _ a b=>iP a++iP b
 | .block _ c=>iP c
 | _=>[]
def tg (f:Func) (k:Nat):Code:=match f.body with|some c=>(iP c).getD k .skip|none=>.skip
end Go.Am
/-
 The abstract machine,part 53: freezing all that is handed in;heaps whose boxes are not laid out.
-/
namespace Go.Am
variable [GT]
theorem cG:∀ {l:List (Nat×Box)}{K:List (Nat×Box)->Prop},K l->boxK l K
 | [],_,h=>h
 | (i,b)::_,K,h=>cG (K:=λl'=>K ((i,b)::l')) h
end Go.Am
/-
 The abstract machine,part 54: calls of functions without a body;what is known of package-level variables,changed.
-/
namespace Go.Am
theorem Rel.other {A B:GT}{c:Ctx}{h:aB}(R:@Rel A c h) (hi:@GT.inv B c):@Rel B c h:=@Rel.mk B c h (@Rel.size A c h R) (@Rel.fresh A c h R) (@Rel.live A c h R) (@Rel.inj A c h R) hi
theorem Pu.cases {α:Type}(a0:α){A:α->GT}{B:GT}(hi:∀ c,@GT.inv B c->∃ a,@GT.inv (A a) c){P:Program}{g:FuncId}{ds:List D}{d:D}(hp:∀ a,@Pu (A a) P g ds d):@Pu B P g ds d:=by
 intro h;refine⟨(hp a0 h).1,λc vs R hvs=>?_⟩;obtain⟨a,ha⟩:=hi c (@Rel.inv B c h R);refine((hp a h).2 c vs (Rel.other (A:=B) (B:=A a) R ha) hvs).mono ?_;rintro e w' ⟨v,c',rfl,rfl,k1,k2,k3,k4⟩;exact⟨v,c',rfl,rfl,k1,Rel.other (A:=A a) (B:=B) k2 (@GT.kept B c c' k3.keeps (@Rel.inv B c h R)),k3,k4⟩
variable [GT]
section
variable {P:Program}{ti:TI}
end
end Go.Am
/-
 The abstract machine,part 55: boxes beside a call;a closed run and another call behind it.
-/
namespace Go.Am
variable [GT]
theorem AC1.frame {P:Program}{g:FuncId}{ds:List D}{n:Nat}{b:List (Nat×Box)}{d:D}{n1:Nat}{b1:List (Nat×Box)}(hp:AC1 P g ds ⟨n,b⟩ d ⟨n1,b1⟩) (rest:List (Nat×Box))
  (hk:∀ j B,aV rest j=some B->aV b j=none∧aV b1 j=none):AC1 P g ds ⟨n,rest++b⟩ d ⟨n1,rest++b1⟩:=by
 have gb:∀ j B,aV b j=some B->aV (rest++b) j=some B:=λj B h=>by
  rw[dP];cases hr:aV rest j with
  | none=>simpa using h
  | some B'=>have:=(hk j B' hr).1;rw[h] at this;cases this
 have gb1:∀ j B,aV (rest++b1) j=some B->aV rest j=some B∨(aV rest j=none∧aV b1 j=some B):=λj B h=>by
  rw[dP] at h;cases hr:aV rest j with
  | none=>rw[hr] at h;exact .inr ⟨rfl,by simpa using h⟩
  | some B'=>rw[hr] at h;exact .inl (by simpa using h)
 have gr:∀ j B,aV rest j=some B->aV (rest++b) j=some B:=λj B h=>by rw[dP,h];rfl
 refine⟨hp.1,λc vs R hvs=>?_⟩;have R0:Rel c ⟨n,b⟩:=R.sub (h':=⟨n,b⟩) ⟨kP _,λid box hg=>gb id box hg⟩;have own0:∀ k,bF c ⟨n,b⟩ k->bF c ⟨n,rest++b⟩ k:=λk ⟨id,box,o,h1,h2⟩=>⟨id,box,o,gb id box h1,h2⟩
 refine(hp.2 c vs R0 hvs).mono ?_;rintro e w' ⟨v,c',rfl,rfl,v1,r1,g1,p1⟩
 have hrest:∀ id box k o,aV rest id=some box->c.φ id=some (k,o)->k<c.w.heap.size∧¬bF c ⟨n,b⟩ k∧¬c'.S k∧BR c k o box:=λid box k o hg hφ=>by
  obtain⟨k',o',q1,q2,q3⟩:=R.live id box (gr id box hg);rw[hφ] at q1;injection q1 with q1;injection q1 with e1 e2;subst e1;subst e2
  have hno:¬bF c ⟨n,b⟩ k:=λ⟨id2,box2,o2,h1,h2⟩=>by
   have:=R.inj id id2 box box2 k o o2 (gr id box hg) (gb id2 box2 h1) hφ h2
   subst this;have:=(hk id box hg).1
   rw[show aV b id=some box2 from h1] at this;cases this
  refine⟨q3.lt,hno,λhs=>?_,q3⟩;rcases g1.stable k hs with h|h|h
  ·exact q2 h
  ·have:=q3.lt;omega
  ·exact hno h
 have hid:∀ id box,aV rest id=some box->∃ k o,c.φ id=some (k,o):=λid box hg=>by
  obtain⟨k,o,q1,_⟩:=R.live id box (gr id box hg);exact⟨k,o,q1⟩
 refine⟨v,c',rfl,rfl,v1,⟨r1.size,r1.fresh,λid box hg=>?_,λi j bi bj k o o' h1 h2 h3 h4=>?_,r1.inv⟩,⟨g1.keeps,g1.os,g1.tape,g1.output,g1.size,g1.next,λk hk hno=>g1.frame k hk λho=>hno (own0 k ho),λk ho=>?_,λk hs=>(g1.stable k hs).imp id (Or.imp id (own0 k))⟩,p1⟩
 ·rcases gb1 id box hg with hg|⟨_,hg⟩
  ·obtain⟨k,o,hφ⟩:=hid id box hg;obtain⟨q1,q2,q3,q4⟩:=hrest id box k o hg hφ;exact⟨k,o,g1.keeps.φ _ _ hφ,q3,q4.keep g1.keeps (g1.frame k q1 q2)⟩
  ·exact r1.live id box hg
 ·have cross:∀ i j bi bj k o o',aV rest i=some bi->aV b1 j=some bj->c'.φ i=some (k,o)->c'.φ j=some (k,o')->False:=λi j bi bj k o o' h1 h2 h3 h4=>by
   obtain⟨k0,o0,hφ⟩:=hid i bi h1;have:=g1.keeps.φ _ _ hφ
   rw[h3] at this;injection this with this;injection this with e1 e2;subst e1;subst e2
   obtain⟨q1,q2,_,_⟩:=hrest i bi k o h1 hφ;rcases g1.own k ⟨j,bj,o',h2,h4⟩ with h|h
   ·omega
   ·exact q2 h
  rcases gb1 i bi h1 with h1|⟨_,h1⟩<;>rcases gb1 j bj h2 with h2|⟨_,h2⟩
  ·obtain⟨k0,o0,hφ⟩:=hid i bi h1;obtain⟨k0',o0',hφ'⟩:=hid j bj h2;have e1:=g1.keeps.φ _ _ hφ;have e2:=g1.keeps.φ _ _ hφ';rw[h3] at e1;injection e1 with e1;injection e1 with a1 a2;subst a1;subst a2
   rw[h4] at e2;injection e2 with e2;injection e2 with a1 a2;subst a1;subst a2
   exact R.inj i j bi bj k o o' (gr i bi h1) (gr j bj h2) hφ hφ'
  ·exact(cross i j bi bj k o o' h1 h2 h3 h4).elim
  ·exact(cross j i bj bi k o' o h2 h1 h4 h3).elim
  ·exact r1.inj i j bi bj k o o' h1 h2 h3 h4
 ·obtain⟨id,box,o,hg,hφ⟩:=ho;rcases gb1 id box hg with hg|⟨_,hg⟩
  ·obtain⟨k0,o0,hφ'⟩:=hid id box hg;have e1:=g1.keeps.φ _ _ hφ';rw[hφ] at e1;injection e1 with e1;injection e1 with a1 a2;subst a1;subst a2
   exact .inr ⟨id,box,o,gr id box hg,hφ'⟩
  ·exact(g1.own k ⟨id,box,o,hg,hφ⟩).imp (λx=>x) (own0 k)
end Go.Am
/-
 The abstract machine,part 57: at a call's end boxes are frozen.
-/
namespace Go.Am
variable [GT]
def idS (fz:Nat->Bool) (i:Nat):Option Nat:=if fz i=true then none else some i
theorem AC1.frz {P:Program}{g:FuncId}{ds:List D}{h:aB}{d:D}{h1:aB}(hp:AC1 P g ds h d h1) (fz:Nat->Bool){d0:D}{h0:aB}(hn:h0.next=h1.next) (hr:Rd h1 fz (idS fz) d d0)
  (hb:∀ id b0,h0.get id=some b0->fz id=false∧∃ b,h1.get id=some b∧Rb h1 fz (idS fz) b b0):AC1 P g ds h d0 h0:=by
 obtain⟨hent,hcall⟩:=hp;refine⟨hent,λc vs R hvs=>(hcall c vs R hvs).mono ?_⟩;rintro e w' ⟨v,c1,rfl,rfl,v1,r1,g1,p1⟩
 let c2:Ctx:={ c1 with S:=λb=>c1.S b∨∃ id o box,fz id=true∧h1.get id=some box∧c1.φ id=some (b,o) }
 have hφ:∀ id' id,idS fz id'=some id->c2.φ id'=c1.φ id:=λid' id hs=>by
  unfold idS at hs;split at hs
  ·cases hs
  ·injection hs with hs;rw[hs]
 have T:pq c1 h1 fz (idS fz) c2:=⟨r1,rfl,λb hb=>.inl hb,λid b o box q1 q2 q3=>.inr ⟨id,o,box,q1,q2,q3⟩,hφ⟩;have hk:ap c1 c2:=⟨λb hb=>.inl hb,λ_ _ hx=>hx,λ_ _=>rfl,λ_ _ _ hx=>hx⟩
 have hown:∀ b,bF c2 h0 b->bF c1 h1 b:=λb ⟨id,box,o,q1,q2⟩=>by
  obtain⟨_,b1,q3,_⟩:=hb id box q1;exact⟨id,b1,o,q3,q2⟩
 refine⟨v,c2,rfl,rfl,hr.sound T v v1,⟨λb hb2=>?_,λid hid=>r1.fresh id om,λid b0 hg=>?_,λi j bi bj b o o' q1 q2 q3 q4=>?_,GT.kept hk r1.inv⟩,⟨g1.keeps.trans hk,g1.os,g1.tape,g1.output,g1.size,by rw[hn];exact g1.next,g1.frame,λb ho=>g1.own b (hown b ho),λb hs=>?_⟩,p1⟩
 ·rcases hb2 with hb2|⟨id,o,box,_,q2,q3⟩
  ·exact r1.size b hb2
  ·obtain⟨b',o',x1,_,x3⟩:=r1.live id box q2;rw[x1] at q3;injection q3 with q3;injection q3 with e1 _;subst e1
   exact x3.lt
 ·obtain⟨hf,b1,q1,q2⟩:=hb id b0 hg;obtain⟨b,o,x1,x2,x3⟩:=r1.live id b1 q1;refine⟨b,o,x1,?_,q2.sound T x3⟩;rintro(hs|⟨idf,of,bf,y1,y2,y3⟩)
  ·exact x2 hs
  ·have:=r1.inj id idf b1 bf b o of q1 y2 x1 y3
   subst this;rw[hf] at y1;cases y1
 ·obtain⟨_,b1,x1,_⟩:=hb i bi q1;obtain⟨_,b2,x2,_⟩:=hb j bj q2;exact r1.inj i j b1 b2 b o o' x1 x2 q3 q4
 ·rcases hs with hs|⟨id,o,box,_,q2,q3⟩
  ·exact g1.stable b hs
  ·exact .inr (g1.own b ⟨id,box,o,q2,q3⟩)
theorem AC1.low {P:Program}{g:FuncId}{ds:List D}{n k:Nat}{bs:List (Nat×Box)}{d:D}{h':aB}(hp:AC1 P g ds ⟨k,bs⟩ d h') (hn:n<=k):AC1 P g ds ⟨n,bs⟩ d h':=by
 obtain⟨hent,hcall⟩:=hp;refine⟨hent,λc vs R hvs=>(hcall c vs ⟨R.size,λid hid=>R.fresh id (Nat.le_trans hn hid),R.live,R.inj,R.inv⟩ hvs).mono ?_⟩;rintro e w' ⟨v,c1,rfl,rfl,v1,r1,g1,p1⟩;have hg:=g1.next;exact⟨v,c1,rfl,rfl,v1,r1,⟨g1.keeps,g1.os,g1.tape,g1.output,g1.size,Nat.le_trans hn hg,g1.frame,g1.own,g1.stable⟩,λj hj=>p1 j (Nat.lt_of_lt_of_le hj hn)⟩
end Go.Am
/-
 The abstract machine,part 58: a region that draws its order and calls functions over data (as often as it likes) and functions that write (each once).
-/
namespace Go.Am
variable [GT]
structure CM (P:Program) (g:FuncId) (ds:List D) (h:aB) (Kp:D->Prop) (Kw:D->aB->Prop):Prop where
 ex:(∃ d,Pu P g ds d∧Kp d)∨Cll P g ds h Kw
theorem CM.pu {P:Program}{g:FuncId}{ds:List D}{h:aB}{Kp:D->Prop}{Kw:D->aB->Prop}{d:D}(hp:Pu P g ds d) (go:Kp d):CM P g ds h Kp Kw:=⟨.inl ⟨d,hp,go⟩⟩
theorem CM.w {P:Program}{g:FuncId}{ds:List D}{h:aB}{Kp:D->Prop}{Kw:D->aB->Prop}(hc:Cll P g ds h Kw):CM P g ds h Kp Kw:=⟨.inr hc⟩
section
variable (P:Program) (ti:TI)
def AN (g:FuncId) (l:eT) (K:Prop):Prop:=List.rec (motive:=λ_=>Prop) K (λx _ ih=>if g=x.1 then False else ih) l
def u4 (ops:Array Oper) (base:Nat) (M:List Nat) (o:Oper) (ih:List D->List (Nat×aB)->List (Nat×Box)->List Nat->RdL->eT->List FuncId->Prop) (j:Nat) (tm:List D) (hist:List (Nat×aB)) (pend:List (Nat×Box)) (al:List Nat) (rd:RdL) (mp:eT) (mm:List FuncId):Prop:=
 match ac ops tm o with
 | some true=>
  match bI ops o with
  | .pure=>opV P ti tm ⟨0,[]⟩ 0 o λd _=>bg tm o.dst d λtm'=>ih tm' hist pend al rd mp mm
  | .read=>
   match hist with
   | (t,g)::r=>opV P ti tm g 0 o λd _=>
    if(t == 0 || (M.getD j 0).testBit (t-1))=true then bg tm o.dst d λtm'=>ih tm' ((t,g)::r) pend al ((j,o,tm,d)::rd) mp mm
    else rcV P ti (M.getD j 0) tm o d r (bg tm o.dst d λtm'=>ih tm' ((t,g)::r) pend al ((j,o,tm,d)::rd) mp mm)
   | []=>False
  | .alloc=>
   fstK hist λts=>if xT M (M.getD j 0) ts al=true then opV P ti tm ⟨0,[]⟩ (base+j) o λd h'=>qC (h'.get (base+j)) λbox=>bg tm o.dst d λtm'=>ih tm' hist ((j,box)::pend) (j::al) rd mp mm else False
  | .write=>
   match hist with
   | (t,g)::r=>
    if(t == 0 || (M.getD j 0).testBit (t-1))=true then
     x9 (M.getD j 0) pend λpn pv=>zZ base pn g λhv=>
     kY P tm o
      (λgf ds=>CM P gf ds hv
       (λd=>tR gf mm (frV gf ds d mp (pmV P ti hv (M.getD j 0) rd (bg tm o.dst d λtm'=>ih tm' ((j+1,hv)::(t,g)::r) pv al rd ((gf,ds,d)::mp) mm))))
       (λd h'=>tR gf mm (AN gf mp (nO h' λh'=>pmV P ti h' (M.getD j 0) rd (bg tm o.dst d λtm'=>ih tm' ((j+1,h')::(t,g)::r) pv al rd mp (gf::mm))))))
      (λ_ _=>False)
      (opV P ti tm hv (base+j) o λd h'=>nO h' λh'=>pmV P ti h' (M.getD j 0) rd (bg tm o.dst d λtm'=>ih tm' ((j+1,h')::(t,g)::r) pv al rd mp mm))
    else False
   | []=>False
 | some false=>bg tm o.dst aP λtm'=>ih tm' hist pend al rd mp mm
 | none=>False
def xK (ops:Array Oper) (base:Nat) (M:List Nat) (l:List Oper):Nat->List D->List (Nat×aB)->List (Nat×Box)->List Nat->RdL->eT->List FuncId->(List D->List (Nat×aB)->List (Nat×Box)->Prop)->Prop:=
 List.rec (motive:=λ_=>Nat->List D->List (Nat×aB)->List (Nat×Box)->List Nat->RdL->eT->List FuncId->(List D->List (Nat×aB)->List (Nat×Box)->Prop)->Prop)
  (λ_ tm hist pend _ _ _ _ K=>K tm hist pend)
  (λo _ ih j tm hist pend al rd mp mm K=>u4 P ti ops base M o (λtm hist pend al rd mp mm=>ih (j+1) tm hist pend al rd mp mm K) j tm hist pend al rd mp mm) l
end
section
variable {P:Program}{ti:TI}
theorem og {g:FuncId}{K:Prop}:∀ {l:eT},AN g l K->K∧∀ e∈l,e.1≠g
 | [],h=>⟨h,by simp⟩
 | x::l,h=>by
  replace h:(if g=x.1 then False else AN g l K):=h
  split at h
  ·exact h.elim
  ·rename_i e;obtain⟨h1,h2⟩:=og h;refine⟨h1,λy hy=>?_⟩;rcases List.mem_cons.1 hy with rfl|hy
   ·exact λx=>e x.symm
   ·exact h2 y hy
theorem ca (ops:Array Oper) (base:Nat) (M:List Nat):∀ (l:List Oper) (j:Nat) (tm:List D) (hist:List (Nat×aB)) (pend:List (Nat×Box)) (al:List Nat) (rd:List (Nat×Oper×List D×D)) (mp:eT) (mm:List FuncId) (K:List D->List (Nat×aB)->List (Nat×Box)->Prop),
  xK P ti ops base M l j tm hist pend al rd mp mm K->px mp->(∀ e∈mp,¬e.1∈mm) ->
  ∃ (p2:eT) (m2:Bi) (s':DS),K s'.tm s'.hist s'.pend∧px (p2++mp)∧(∀ e∈p2,Pu P e.1 e.2.1 e.2.2)∧(∀ e∈m2,AC1 P e.1 e.2.1 e.2.2.1 e.2.2.2.1 e.2.2.2.2)∧(∀ e∈m2,¬e.1∈mm)∧(m2.map (·.1)).Nodup ∧
   (∀ e∈p2++mp,¬e.1∈m2.map (·.1))∧(∀ e∈p2,¬e.1∈mm) ∧
   ∀ cl:Cl,(∀ e∈p2,∀ h,cl (.fn e.1) e.2.1 h=some (e.2.2,h))->(∀ e∈m2,cl (.fn e.1) e.2.1 e.2.2.1=some (e.2.2.2.1,e.2.2.2.2))->cz P ti cl eqC ops base M l j ⟨tm,hist,pend,al,rd⟩=some s'
 | [],j,tm,hist,pend,al,rd,mp,mm,K,h,hF,hD=>⟨[],[],⟨tm,hist,pend,al,rd⟩,h,hF,λe he=>by simp at he,λe he=>by simp at he,λe he=>by simp at he,by simp,by simp,λe he=>by simp at he,λ_ _ _=>rfl⟩
 | o::l,j,tm,hist,pend,al,rd,mp,mm,K,h,hF,hD=>by
  replace h:u4 P ti ops base M o (λtm hist pend al rd mp mm=>xK P ti ops base M l (j+1) tm hist pend al rd mp mm K) j tm hist pend al rd mp mm:=h
  unfold u4 at h;split at h
  ·rename_i hw;split at h
   ·rename_i hk;obtain⟨hc1,d,h',hc2,h1⟩:=bh h;obtain⟨p2,m2,s',k1,k2,k3,k4,k5,k6,k7,k8,k9⟩:=ca ops base M l (j+1) _ _ _ _ _ mp mm K (ag h1) hF hD;refine⟨p2,m2,s',k1,k2,k3,k4,k5,k6,k7,k8,λcl hp hm=>?_⟩;simp only[cz,cO,hw,hk,hc2];exact k9 cl hp hm
   ·rename_i hk;split at h
    ·rename_i t g r;obtain⟨hc1,d,h',hc2,h1⟩:=bh h
     have hh:bg tm o.dst d (λtm'=>xK P ti ops base M l (j+1) tm' ((t,g)::r) pend al ((j,o,tm,d)::rd) mp mm K)∧b6 P ti eqC (M.getD j 0) tm o d ((t,g)::r)=true:=by
      split at h1
      ·rename_i hb;exact⟨h1,by simp only[b6,kC];exact⟨eN hc2,by simp only[kN] at hb ⊢;exact .inl hb⟩⟩
      ·obtain⟨k,h3⟩:=rZ h1;exact⟨k,by simp only[b6,kC];exact⟨eN hc2,by simp only[kN];exact .inr h3⟩⟩
     obtain⟨h1,hro⟩:=hh;obtain⟨p2,m2,s',k1,k2,k3,k4,k5,k6,k7,k8,k9⟩:=ca ops base M l (j+1) _ _ _ _ _ mp mm K (ag h1) hF hD;refine⟨p2,m2,s',k1,k2,k3,k4,k5,k6,k7,k8,λcl hp hm=>?_⟩;simp only[cz,cO,hw,hk,hc2,hro,if_true];exact k9 cl hp hm
    ·exact h.elim
   ·rename_i hk
    replace h:=ry h
    split at h
    ·rename_i hal;rw[uc] at hal;obtain⟨hc1,d,h',hc2,h1⟩:=bh h;obtain⟨box,hbox,h1⟩:=eF h1;obtain⟨p2,m2,s',k1,k2,k3,k4,k5,k6,k7,k8,k9⟩:=ca ops base M l (j+1) _ _ _ _ _ mp mm K (ag h1) hF hD;refine⟨p2,m2,s',k1,k2,k3,k4,k5,k6,k7,k8,λcl hp hm=>?_⟩;simp only[cz,cO,hw,hk,hc2,hbox,hal,if_true];exact k9 cl hp hm
    ·exact h.elim
   ·rename_i hk;split at h
    ·rename_i t g r;split at h
     ·rename_i hb
      replace h:=gD (lS h)
      rcases fK h with⟨gf,ds,hac,h⟩|⟨_,_,_,h⟩|h
      ·rcases h.ex with⟨d,hpu,h⟩|h
       ·obtain⟨h,hno⟩:=iO h;obtain⟨h,hfr⟩:=jX h;obtain⟨h1,hpm⟩:=iL h
        have hF':px ((gf,ds,d)::mp):=λg1 ds1 d1 d2 m1 m2=>by
         rcases List.mem_cons.1 m1 with x1|x1<;>rcases List.mem_cons.1 m2 with x2|x2
         ·simp only[kB] at x1 x2;rw[x1.2.2,x2.2.2]
         ·simp only[kB] at x1;obtain⟨rfl,rfl,rfl⟩:=x1;exact(hfr d2 x2).symm
         ·simp only[kB] at x2;obtain⟨rfl,rfl,rfl⟩:=x2;exact hfr d1 x1
         ·exact hF _ _ _ _ x1 x2
        have hD':∀ e∈(gf,ds,d)::mp,¬e.1∈mm:=λe he=>by
         rcases List.mem_cons.1 he with rfl|he
         ·exact hno
         ·exact hD e he
        obtain⟨p2,m2,s',k1,k2,k3,k4,k5,k6,k7,k8,k9⟩:=ca ops base M l (j+1) _ _ _ _ _ _ mm K (ag h1) hF' hD';refine⟨p2++[(gf,ds,d)],m2,s',k1,by simpa using k2,λe he=>?_,k4,k5,k6,λe he=>k7 e (by simpa using he),λe he=>?_,λcl hp hm=>?_⟩
        ·rcases List.mem_append.1 he with he|he
         ·exact k3 e he
         ·simp at he;subst he;exact hpu
        ·rcases List.mem_append.1 he with he|he
         ·exact k8 e he
         ·simp at he;subst he;exact hno
        ·have hl:=hp (gf,ds,d) si
         have hst:∀ h0 id,bQ P ti cl tm h0 id o=some (d,h0):=λh0 id=>by
          unfold bQ;simp only[hac,hl]
         simp only[cz,cO,hw,hk,hb,if_true,hst,hpm];exact k9 cl (λe he=>hp e (by simp[he])) hm
       ·obtain⟨d,h',hac1,h⟩:=h.ex;obtain⟨h,hno⟩:=iO h;obtain⟨h,hnm⟩:=og h;obtain⟨h1,hpm⟩:=iL (gw h)
        have hD':∀ e∈mp,¬e.1∈gf::mm:=λe he hx=>by
         rcases List.mem_cons.1 hx with hx|hx
         ·exact hnm e he hx
         ·exact hD e he hx
        obtain⟨p2,m2,s',k1,k2,k3,k4,k5,k6,k7,k8,k9⟩:=ca ops base M l (j+1) _ _ _ _ _ mp _ K (ag h1) hF hD';refine⟨p2,(gf,ds,dB base (pend.filter λp=>(M.getD j 0).testBit p.1) g,d,h')::m2,s',k1,k2,k3,λe he=>?_,λe he=>?_,?_,λe he hx=>?_,λe he hx=>k8 e he (by simp[hx]),λcl hp hm=>?_⟩
        ·rcases List.mem_cons.1 he with he|he
         ·subst he;exact hac1
         ·exact k4 e he
        ·rcases List.mem_cons.1 he with he|he
         ·subst he;exact hno
         ·exact λhx=>k5 e he (by simp[hx])
        ·simp only[List.map_cons,List.nodup_cons];refine⟨λhx=>?_,k6⟩;obtain⟨e,he,hx⟩:=List.mem_map.1 hx;exact k5 e he (by simp[hx])
        ·simp only[List.map_cons] at hx;rcases List.mem_cons.1 hx with hx|hx
         ·rcases List.mem_append.1 he with he|he
          ·exact k8 e he (by simp[hx])
          ·exact hnm e he hx
         ·exact k7 e he hx
        ·have hl:=hm _ (List.mem_cons_self ..)
         have hst:∀ id,bQ P ti cl tm (dB base (pend.filter λp=>(M.getD j 0).testBit p.1) g) id o=some (d,h'):=λid=>by
          unfold bQ;simp only at hl;simp only[hac,hl]
         simp only[cz,cO,hw,hk,hb,if_true,hst,hpm];exact k9 cl hp (λe he=>hm e (by simp[he]))
      ·exact h.elim
      ·obtain⟨hc1,d,h',hc2,h1⟩:=bh h;obtain⟨h1,hpm⟩:=iL (gw h1);obtain⟨p2,m2,s',k1,k2,k3,k4,k5,k6,k7,k8,k9⟩:=ca ops base M l (j+1) _ _ _ _ _ mp mm K (ag h1) hF hD;refine⟨p2,m2,s',k1,k2,k3,k4,k5,k6,k7,k8,λcl hp hm=>?_⟩
       have hst:bQ P ti cl tm (dB base (pend.filter λp=>(M.getD j 0).testBit p.1) g) (base+j) o=some (d,h'):=by
        unfold bQ;simp only[hc1,hc2]
       simp only[cz,cO,hw,hk,hb,if_true,hst,hpm];exact k9 cl hp hm
     ·exact h.elim
    ·exact h.elim
  ·rename_i hw;obtain⟨p2,m2,s',k1,k2,k3,k4,k5,k6,k7,k8,k9⟩:=ca ops base M l (j+1) _ _ _ _ _ mp mm K (ag h) hF hD;refine⟨p2,m2,s',k1,k2,k3,k4,k5,k6,k7,k8,λcl hp hm=>?_⟩;simp only[cz,cO,hw];exact k9 cl hp hm
  ·exact h.elim
open Classical in
noncomputable def clB (p:eT) (m:Bi):Cl:=λk ds h=>
 match k with
 | .fn g=>match lkM p g ds with|some d=>some (d,h)|none=>clW m (.fn g) ds h
 | .yf _=>none
theorem ab.byM (hm:P.follows .mixedOrders=true) (T:TOk P ti){nb id:Nat}{ops:Array Oper}{Q:Exit->St->Prop}{tm:List D}{n:Nat}{bs:List (Nat×Box)}(M:List Nat) (hok:(bZ ops&&decide (db ops.toList []=M))=true)
  (h:xK P ti ops n M ops.toList 0 tm [(0,⟨n+ops.size,bs⟩)] [] [] [] [] [] (en n (Q .normal))):ab P nb id ops Q ⟨tm,⟨n,bs⟩⟩:=⟨.of_sw (by
 simp only[kC,decide_eq_true_eq] at hok;obtain⟨hok,hM⟩:=hok;subst hM;obtain⟨p2,m2,ds,k1,k2,k3,k4,k5,k6,k7,k8,k9⟩:=ca ops _ _ _ _ _ _ _ _ _ _ _ _ h (λ_ _ _ _ h=>by simp at h) (λe he=>by simp at he);rw[List.append_nil] at k2 k7
 have hC:fS P (clB p2 m2):=λk as h0 d h' hx=>by
  cases k with
  | yf id=>simp[clB] at hx
  | fn g=>
   simp only[clB] at hx;split at hx
   ·rename_i d1 he;simp only[kA,kB] at hx;obtain⟨rfl,rfl⟩:=hx;exact k3 _ (j0 he) _
   ·simp only[clW] at hx;split at hx
    ·rename_i e he;have h1:=List.find?_some he;have h2:=List.mem_of_find?_eq_some he;simp only[decide_eq_true_eq] at h1;simp only[kA,kB] at hx;obtain⟨rfl,rfl,rfl⟩:=h1;obtain⟨rfl,rfl⟩:=hx;exact k4 e h2
    ·cases hx
 have hr:=k9 (clB p2 m2) (λe he h=>by simp only[clB,lp k2 he]) (λe he=>by
  have hno:lkM p2 e.1 e.2.1=none:=by
   cases hl:lkM p2 e.1 e.2.1 with
   | none=>rfl
   | some d=>exact absurd (List.mem_map.2 ⟨e,he,rfl⟩) (k7 _ (j0 hl))
  simp only[clB,hno]
  exact nq k6 he)
 unfold en at k1;split at k1
 ·rename_i t g r hh
  have hd:bH P ti (clB p2 m2) eqC ops ⟨tm,⟨n,bs⟩⟩=some ⟨ds.tm,dB n ds.pend g⟩:=by
   unfold bH;simp only[bump];rw[hr];simp only[hh]
  intro c a R hf hR;exact dR hm T hC iU hok hd hf λc' a' f1 g1 p1 d1=>hR _ _ c' a' (gD k1) f1 g1 p1 d1
 ·exact k1.elim)⟩
end
section
variable {α:Type}{c:α->List D}{sz:Nat}
theorem pG (hc:∀ x,(c x).length=sz):∀ {l:List α}{k:Nat}(_:k<l.length) (v:α),(l.set k v).flatMap c=(l.flatMap c).take (k*sz)++c v++(l.flatMap c).drop (k*sz+sz)
 | x::l,0,_,v=>by simp[List.drop_left' (hc x)]
 | x::l,k+1,h,v=>by
  have ih:=pG hc (l:=l) (k:=k) (by simpa using h) v;simp only[List.set_cons_succ,List.flatMap_cons,ih];have e:(k+1)*sz=(c x).length+k*sz:=by rw[hc,Nat.add_mul];omega
  rw[e,List.take_length_add_append,Nat.add_assoc,List.drop_length_add_append];simp
theorem tA (hc:∀ x,(c x).length=sz){l:List α}{k:Nat}(h:k<l.length) (v:α):splice (l.flatMap c) (k*sz) (c v)=(l.set k v).flatMap c:=by
 rw[pG hc h,splice,hc]
theorem rQ (hc:∀ x,(c x).length=sz){l:List α}{k i:Nat}(h:k<l.length) (hi:i<sz){d:D}{v:α}(e:(c l[k]).set i d=c v):splice (l.flatMap c) (k*sz+i) [d]=(l.set k v).flatMap c:=by
 have hlen:=aj hc l;have hle:k*sz+sz<=l.length*sz:=by rw[<-Nat.succ_mul];exact Nat.mul_le_mul_right _ h
 rw[kn (by rw[hlen];omega),pG hc h,<-e];have h3:((l.flatMap c).drop (k*sz)).take sz=c l[k]:=dH hc h
 have h4:l.flatMap c=(l.flatMap c).take (k*sz)++(c l[k]++(l.flatMap c).drop (k*sz+sz)):=by
  rw[<-h3,<-List.drop_drop,List.take_append_drop,List.take_append_drop]
 have hA:((l.flatMap c).take (k*sz)).length=k*sz:=by rw[List.length_take,hlen];omega
 have h5:(l.flatMap c).set (k*sz+i) d=((l.flatMap c).take (k*sz)++(c l[k]++(l.flatMap c).drop (k*sz+sz))).set (k*sz+i) d:=by rw[<-h4]
 rw[h5,List.set_append_right _ _ om,hA,Nat.add_sub_cancel_left,List.set_append_left _ _ (by rw[hc];exact hi),List.append_assoc]
theorem Get.flat (hc:∀ x,(c x).length=sz){l:List α}{off:Nat}(k:Nat){K:List D->Prop}(e:off=k*sz) (h:k<l.length) (go:K (c l[k])):Get (l.flatMap c) off sz K:=by
 subst e;have hle:k*sz+sz<=l.length*sz:=by rw[<-Nat.succ_mul];exact Nat.mul_le_mul_right _ h
 exact⟨by rw[aj hc];omega,by rw[dH hc h];exact go⟩
theorem Get.flat1 (hc:∀ x,(c x).length=sz){l:List α}{off:Nat}(k i:Nat){d:D}{K:List D->Prop}(e:off=k*sz+i) (h:k<l.length) (hd:(c l[k])[i]?=some d) (go:K [d]):Get (l.flatMap c) off 1 K:=by
 subst e;have hi:i<sz:=by have:=(List.getElem?_eq_some_iff.1 hd).1;rw[hc] at this;exact this
 have hle:k*sz+sz<=l.length*sz:=by rw[<-Nat.succ_mul];exact Nat.mul_le_mul_right _ h
 refine⟨by rw[aj hc];omega,?_⟩;have e1:(((l.flatMap c).drop (k*sz)).take sz)[i]?=some d:=by rw[dH hc h];exact hd
 rw[List.getElem?_take,if_pos hi,List.getElem?_drop] at e1;obtain⟨h2,e2⟩:=List.getElem?_eq_some_iff.1 e1;rw[kK h2,e2];exact go
theorem Put.flat (hc:∀ x,(c x).length=sz){l:List α}{off:Nat}(k:Nat) (v:α){K:List D->Prop}(e:off=k*sz) (h:k<l.length) (go:K ((l.set k v).flatMap c)):Put (l.flatMap c) off (c v) K:=by
 subst e;have hle:k*sz+sz<=l.length*sz:=by rw[<-Nat.succ_mul];exact Nat.mul_le_mul_right _ h
 exact⟨by rw[aj hc,hc];omega,by rw[tA hc h];exact go⟩
theorem Put.flat1 (hc:∀ x,(c x).length=sz){l:List α}{off:Nat}(k i:Nat){d:D}(v:α){K:List D->Prop}(e:off=k*sz+i) (h:k<l.length) (hi:i<sz) (hv:(c l[k]).set i d=c v) (go:K ((l.set k v).flatMap c)):Put (l.flatMap c) off [d] K:=by
 subst e;have hle:k*sz+sz<=l.length*sz:=by rw[<-Nat.succ_mul];exact Nat.mul_le_mul_right _ h
 exact⟨by rw[aj hc];simp;omega,by rw[rQ hc h hi hv];exact go⟩
theorem Rd.frzL {h:aB}{fz:Nat->Bool}{σ:Nat->Option Nat}(hlen:∀ x,(c x).length=sz) (hnb:∀ x,aJ (c x)=true){l:List α}{id n cap es:Nat}{ex:Bool}{cs:List D}{bx:Bool}(hf:fz id=true) (hg:h.get id=some (.cells cs bx)) (hn:n=l.length) (he:es=sz) (hc:cs=l.flatMap c):Rd h fz σ (.sl id 0 n cap es ex) (lstS c l):=by
 subst hn;subst he;subst hc;refine .frz hf hg (by rw[aj hlen];omega) (.eqs ?_ (aC hnb _));rw[List.drop_zero,kE (by rw[aj hlen];exact kP _)]
theorem Pu.args {P:Program}{g:FuncId}{ds ds':List D}{d:D}(hp:Pu P g ds d) (h:∀ (c:Ctx) (vs:List Value),VS c ds' vs->VS c ds vs):Pu P g ds' d:=λh0=>
 ⟨(hp h0).1,λc vs R hvs=>(hp h0).2 c vs R (h c vs hvs)⟩
theorem Pu.empty {P:Program}{g:FuncId}{d:D}(hn:Pu P g [.zs false] d) (hs:Pu P g [.zs true] d):Pu P g [.imm 0 []] d:=λh0=>
 ⟨(hn h0).1,λc vs R hvs=>by
  obtain⟨y,ys,rfl,h1,h2⟩:=hvs.inv;simp only[V] at h1;obtain⟨a,cap,zs,rfl,_,_,_⟩:=h1;cases a with
  | none=>exact(hn h0).2 c _ R (VS.cons (by simp only[V];exact⟨none,cap,rfl,rfl⟩) h2)
  | some a=>exact(hs h0).2 c _ R (VS.cons (by simp only[V];exact⟨some a,cap,rfl,rfl⟩) h2)⟩
theorem V_nil {c:Ctx}{y:Value}(h:V c aT y):V c (.imm 0 []) y:=by
 simp only[V] at *;obtain⟨_,rfl⟩:=h;exact⟨none,0,[],rfl,kP _,VS.nil,.inl rfl⟩
end
end Go.Am
/-
 The abstract machine,part 61: rounds of loops over functions that may leave the loop.
-/
namespace Go.Am
variable [GT]
structure SvX (P:Program) (code:Code) (K:Exit->List D->aB->Prop) (s:St):Prop where
 run:∀ (ro:Option Nat) (n:Nat) (c:Ctx) (a:Act) (R:Exit->Act->World->Prop),Fit c s a ->
  (∀ e tm' h' c' a',K e tm' h'->Fit c' ⟨tm',h'⟩ a'->aX c s.h c' h'->(∀ j,j<s.h.next->c'.φ j=c.φ j)->a'.defers=a.defers->R e a' c'.w)->code.wpIn (WF ro) n P R a c.w
section
variable {P:Program}{ti:TI}{K:Exit->List D->aB->Prop}{s:St}
theorem SvX.skip (h:K .normal s.tmps s.h):SvX P .skip K s:=⟨λ_ _ c a _ hf hR=>wpIn_skip (hR _ s.tmps s.h c a h hf (aX.refl _ _) (λ_ _=>rfl) rfl)⟩
theorem SvX.exit {b:Nat}(h:K (.exit b) s.tmps s.h):SvX P (.exit b) K s:=⟨λ_ _ c a _ hf hR=>wpIn_exit (hR _ s.tmps s.h c a h hf (aX.refl _ _) (λ_ _=>rfl) rfl)⟩
theorem SvX.region (T:TOk P ti){id:Nat}{ops:Array Oper}(h:yK P ti ops ops.toList s.tmps s.h (K .normal)):SvX P (.region id ops false) K s:=⟨λ_ _ c a _ hf hR=>wpIn_region_list (lc T ops _ _ _ _ c a _ h hf (hR .normal))⟩
theorem SvX.seq {x y:Code}(h:SvX P x (λe tm h=>match e with|.normal=>SvX P y K ⟨tm,h⟩|e=>K e tm h) s):SvX P (.seq x y) K s:=⟨λro n c a R hf hR=>wpIn_seq (h.run ro n c a _ hf λe tm h' c1 a1 hk f1 g1 p1 d1=>by
 cases e with
 | normal=>exact hk.run ro n c1 a1 R f1 λe2 tm2 h2 c2 a2 k2 f2 g2 p2 d2=>hR e2 tm2 h2 c2 a2 k2 f2 (g1.trans g2) (λj hj=>(p2 j (Nat.lt_of_lt_of_le hj g1.next)).trans (p1 j hj)) (d2.trans d1)
 | _=>exact hR _ tm h' c1 a1 hk f1 g1 p1 d1)⟩
theorem SvX.block {id:Nat}{code:Code}(h:SvX P code (λe tm h=>match e with|.exit i=>K (if i=id then .normal else .exit i) tm h|e=>K e tm h) s):SvX P (.block id code) K s:=⟨λro n c a R hf hR=>wpIn_block (h.run ro n c a _ hf λe tm h' c1 a1 hk f1 g1 p1 d1=>by
 cases e with
 | exit i=>
  simp only[Exit.inBlock];split
  ·rename_i hi;simp only[hi,if_true] at hk;exact hR _ tm h' c1 a1 hk f1 g1 p1 d1
  ·rename_i hi;simp only[hi,if_false] at hk;exact hR _ tm h' c1 a1 hk f1 g1 p1 d1
 | _=>exact hR _ tm h' c1 a1 hk f1 g1 p1 d1)⟩
theorem SvX.yes {o:Operand}{x y:Code}(hc:ev s.tmps o=some (.v (.bool true))) (h:SvX P x K s):SvX P (.cond o x y) K s:=⟨λro n c a R hf hR=>by
 have hb:=aF hf.rel.inv hf.tmps hc;simp only[V] at hb
 exact wpIn_cond_true hb.2 (h.run ro n c a R hf hR)⟩
theorem SvX.no {o:Operand}{x y:Code}(hc:ev s.tmps o=some (.v (.bool false))) (h:SvX P y K s):SvX P (.cond o x y) K s:=⟨λro n c a R hf hR=>by
 have hb:=aF hf.rel.inv hf.tmps hc;simp only[V] at hb
 exact wpIn_cond_false hb.2 (h.run ro n c a R hf hR)⟩
end
end Go.Am
/-
 The abstract machine,part 61: a contract at one heap whose end is numbered anew,or frozen,as between statements.
-/
namespace Go.Am
variable [GT]
theorem AC1.of_vf {P:Program}{ti:TI}(hm:P.follows .mixedOrders=true) (T:TOk P ti){g:FuncId}{fn:Func}{code:Code}{ds:List D}{n:Nat}{bs:List (Nat×Box)}{h':aB}{d:D}(hg:P.funcs[g]?=some fn) (hb:fn.body=some code) (hn:(fn.name == "runtime.NumGoroutine")=false)
  (H:fW P ti n code (λe s'=>(e=.normal∨e=.ret)∧∃ d0,gB ti fn s'=some d0∧Lf n ⟨[d0],s'.h⟩ ⟨tmp 1 [(0,d)],h'⟩) ⟨ds++List.replicate (fn.ntmps-ds.length) aP,⟨n,bs⟩⟩):AC1 P g ds ⟨n,bs⟩ d h':=by
 refine⟨by unfold dV;rw[hg];simp[hb,hn],λc vs R hvs=>?_⟩;refine(callsIn_wide (n:=0)).1 (callsIn_of_wp hg hb trivial ?_)
 have hfit:Fit c ⟨ds++List.replicate (fn.ntmps-ds.length) aP,⟨n,bs⟩⟩ { tmps:=vs.toArray++Array.replicate (fn.ntmps-vs.toArray.size) undef,defers:=[] }:=by
  refine⟨R,?_⟩;simp only[Array.toList_append,Array.toList_replicate,List.size_toArray];rw[hvs.length];exact hvs.append (VS.replicate V.undef _)
 refine(bC hm T code _ _ H).run c ⟨n,bs⟩ c _ _ ⟨rfl,λid hid=>R.fresh id hid,aX.refl _ _,λ_ _=>rfl⟩ hfit λe s' c1 a' hq f1 b1 d1=>?_
 obtain⟨he,d0,hr,hl⟩:=hq;obtain⟨v,e1,v1⟩:=dL (P:=P) T f1 hr;obtain⟨c0,w0,f0,b0⟩:=hl.le c ⟨n,bs⟩ c1 { tmps:=#[v],defers:=[] } b1 ⟨f1.rel,VS.cons v1 VS.nil⟩
 have v0:V c0 d v:=by
  have:=f0.tmps
  obtain⟨y,ys,e2,h2,_⟩:=VS.inv (show VS c0 (d::[]) [v] from this);injection e2 with e2;subst e2;exact h2
 rcases he with rfl|rfl
 ·exact⟨d1,v,e1,v,c0,rfl,w0,v0,f0.rel,b0.grow,b0.φ⟩
 ·exact⟨d1,v,e1,v,c0,rfl,w0,v0,f0.rel,b0.grow,b0.φ⟩
end Go.Am
