/-
  The abstract machine: what Go code does to abstract values, and that it does so in the model. No condition beyond what each theorem says.
-/
import Derived.Test.YtihggclfifimoaaGreatDoorAmE
set_option linter.unusedSectionVars false
/-
 The abstract machine,part 50: cells that are a function of their aw;truth values;places in lists.
-/
namespace Go.Am
variable [GT]
theorem bR {α:Type}{l:List α}{k:Nat}{d:α}(h:k<l.length):l.getD k d=l[k]:=by
 simp[List.getD,List.getElem?_eq_getElem h]
theorem ad {n k:Nat}{Q:(i:Nat)->i<n->Prop}(hk:k<n) (inv:∀ i (h:i<n),i<k->Q i h) (hq:Q k hk):∀ i (h:i<n),i<k+1->Q i h:=λi h hi=>by
 rcases(by omega:i<k∨i=k) with h1|h1
 ·exact inv i h h1
 ·subst h1;exact hq
theorem fp {n k:Nat}{Q:(i:Nat)->i<n->Prop}(hk:n<=k) (inv:∀ i (h:i<n),i<k->Q i h):∀ i (h:i<n),Q i h:=λi h=>inv i h om
abbrev uo (n:Nat) (f:Nat->D):List D:=(List.range n).map f
theorem zJ {n k:Nat}{f g:Nat->D}{d:D}(h1:g k=d) (h2:∀ i,i<n->i≠k->g i=f i):(uo n f).set k d=uo n g:=by
 apply List.ext_getElem
 ·simp
 ·intro i hi hi';simp only[List.length_set,List.length_map,List.length_range] at hi;rw[List.getElem_set];split
  ·rename_i e;subst e;simp[h1]
  ·rename_i e;simp[h2 i hi (λx=>e x.symm)]
theorem jY {n:Nat}{m:Int}{z:D}{f:Nat->D}(hm:m=(n:Int)) (h:∀ i,i<n->f i=z):cx [z] m.toNat=uo n f:=by
 subst hm;rw[cY];apply List.ext_getElem
 ·simp
 ·intro i hi hi';simp at hi;simp[h i hi]
theorem ik {n:Nat}{f:Nat->D}(h:∀ i,aL (f i)=true):aK (uo n f)=true:=aN h _
theorem Get.one {cs:List D}{k:Nat}{d:D}{K:List D->Prop}(e:cs[k]?=some d) (go:K [d]):Get cs (0+k*1) 1 K:=by
 obtain⟨h,e⟩:=List.getElem?_eq_some_iff.1 e;refine⟨by omega,?_⟩;rw[Nat.zero_add,Nat.mul_one,kK h,e];exact go
abbrev tG (l:List Bool):D:=lst boo l
theorem iB (l:List Bool):aL (tG l)=true:=gJ (λ_=>rfl) l
abbrev boolss (l:List (List Bool)):D:=lst tG l
theorem m7 (l:List (List Bool)):aL (boolss l)=true:=gJ iB l
theorem Idx.atE {α:Type}{f:α->D}{l:List α}{m:Int}(k:Nat){d:D}{K:D->Prop}(e:m=(k:Int)) (h:k<l.length) (ed:f l[k]=d) (go:K (.iptr [d])):Idx l.length (l.map f) 1 m K:=Idx.at k e h (by rw[ed];exact go)
abbrev byt (b:UInt8):D:=.v (.int .u8 (b.toNat:Int))
theorem na:∀ (l:List UInt8),dB (l.map byt)=some l
 | []=>rfl
 | b::l=>by simp only[List.map_cons,dB,na l,Int.toNat_natCast];simp
theorem Cvs.all {cs:List D}{n:Nat}{l:List UInt8}{K:List UInt8->Prop}(e:cs=l.map byt) (hn:n=l.length) (go:K l):Cvs cs 0 n K:=by
 subst e;subst hn;exact⟨by simp,l,by rw[List.drop_zero,kE si];exact na l,go⟩
theorem Chk.growX {a b es m:Nat}{cs:List D}{K:Prop}(c z:Nat) (e:b=c) (e2:es=z) (h1:a*c<=1099511627776) (h2:a<=1099511627776) (h3:m*z<=cs.length) (go:K):Chk (a*b<=ab∧a<=ab∧0+m*es<=cs.length) K:=⟨by subst e;subst e2;exact⟨h1,h2,by omega⟩,go⟩
theorem Cll.inl {P:Program}{ti:TI}(hm:P.follows .mixedOrders=true) (T:TOk P ti){g:FuncId}{fn:Func}{code:Code}{ds:List D}{n:Nat}{bs:List (Nat×Box)}{h':aB}{d:D}{K:D->aB->Prop}(hg:P.funcs[g]?=some fn) (hb:fn.body=some code) (hn:(fn.name == "runtime.NumGoroutine")=false)
  (H:gR P ti n code (λe s'=>(e=.normal∨e=.ret)∧gu ti fn s'=some d∧s'.h=h') ⟨ds++List.replicate (fn.ntmps-ds.length) aM,⟨n,bs⟩⟩) (go:K d h'):Cll P g ds ⟨n,bs⟩ K:=⟨d,h',AC1.of_vl hm T hg hb hn H,go⟩
inductive pE (H:aB) (sl:List (Nat×Nat)) (fzl:List Nat):List (Nat×Box)->Prop
 | nil:pE H sl fzl []
 | cons {j:Nat} {b:Box} {r:List (Nat×Box)}:H.get j=some b->(sl.all λp=>p.2 != j)=true->fzn fzl j=false->pE H sl fzl r->pE H sl fzl ((j,b)::r)
theorem AF:∀ {sl:List (Nat×Nat)}{j a:Nat},(sl.all λp=>p.2 != j)=true->lkN sl a≠some j
 | [],_,_,_,h=>by simp[lkN] at h
 | (x,y)::l,j,a,h,e=>by
  simp only[List.all_cons,kC,bne_iff_ne] at h;simp only[lkN] at e;split at e
  ·injection e with e;exact h.1 e
  ·exact AF h.2 e
theorem pE.hr {H:aB}{sl:List (Nat×Nat)}{fzl:List Nat}{rest:List (Nat×Box)}(h:pE H sl fzl rest){b0:List (Nat×Box)}:∀ j b,ac rest j=some b->H.get j=some b∧(∀ a bx,ac b0 a=some bx->lkN sl a≠some j)∧fzn fzl j=false:=by
 induction h with
 | nil=>intro j b h;simp[ac] at h
 | cons h1 h2 h3 _ ih=>
  intro j b h;simp only[ac] at h;split at h
  ·rename_i e;subst e;injection h with h;subst h
   exact⟨h1,λ_ _ _=>AF h2,h3⟩
  ·exact ih j b h
theorem Cll.emb {P:Program}{g:FuncId}{ds:List D}{n:Nat}{b0:List (Nat×Box)}{d:D}{n1:Nat}{b1:List (Nat×Box)}(hp:AC1 P g ds ⟨n,b0⟩ d ⟨n1,b1⟩)
  {N:Nat} {HB:List (Nat×Box)} {DS:List D} {K:D->aB->Prop} (sl:List (Nat×Nat)) (fzl:List Nat) (D':D) (B1 rest:List (Nat×Box)) (hok:nR n sl=true) (hd:Rds ⟨N,HB⟩ (fzn fzl) (lkN sl) DS ds) (hb:Bxs ⟨N,HB⟩ (fzn fzl) (lkN sl) b0)
  (rd:Rd ⟨n1,b1⟩ (λ_=>false) (fN sl N n) d D') (rb:Bxs ⟨n1,b1⟩ (λ_=>false) (fN sl N n) B1) (hr:pE ⟨N,HB⟩ sl fzl rest)
  (go:K D' ⟨N+(n1-n),B1++rest⟩):Cll P g DS ⟨N,HB⟩ K:=⟨_,_,AC1.embed hp sl fzl hok hd hb rd rb hr.hr,go⟩
end Go.Am
/-
 The abstract machine,part 56: the walk's steps,with proofs of their conditions that are looked for where they are used.
-/
namespace Go.Am
theorem sd {p:Prop}(h:p:=by first|omega|assumption|exact hl _ _|exact fg om om|(simp;omega)|(simp;done)|fail):p:=h
class Mx (P:Program):Prop where
 ok:P.follows .mixedOrders=true
theorem sg [GT] {P:Program} [Mx P] {nb:Nat}{x:Code}{Q:Exit->St->Prop}{s:St}(h:gR P (pH P) nb x Q s):cm P nb x Q s:=cm.go Mx.ok (td _) h
theorem stw {p:Prop}(h:p:=by first|exact Get.exp rfl|exact Idx.lst sd|exact Idx.lstS (by intro _;rfl) sd|exact FB.nat sd|exact cA.nat sd|exact λgo=>cA.lit go|exact vA.mk (by kernel_rfl)|exact Put.exp rfl|exact dC.exp rfl|exact Chk.mk (by first|exact rfl|exact fg om om|omega|assumption|fail)|exact Chk.mk ⟨kD rfl,kD rfl⟩|exact Chk.grow (by intro _;rfl) 8 rfl om om|exact Chk.room 8 rfl om om|exact Chk.made 8 rfl om om om|exact Chk.grow (by intro _;rfl) 1 rfl om om|exact Chk.room 1 rfl om om|exact Chk.made 1 rfl om om om|exact Chk.grow (by intro _;rfl) 16 rfl om om|exact Chk.room 16 rfl om om|exact Chk.made 16 rfl om om om|exact Chk.grow (by intro _;rfl) 24 rfl om om|exact Chk.room 24 rfl om om|exact Chk.made 24 rfl om om om|exact Chk.grow (by intro _;rfl) 48 rfl om om|exact Chk.room 48 rfl om om|exact Chk.made 48 rfl om om om|fail):p:=h
theorem stq {G' G:Prop}(go:G') (h:G'->G:=by first|exact sg|exact stw|fail):G:=h go
theorem bk {p K1 K2:Prop}(h1:p->K1) (h2:¬p->K2):Br p K1 K2:=⟨h1,h2⟩
theorem aD {d:D}{l:List D}(h1:aL d=true) (h2:aK l=true):aK (d::l)=true:=by simp only[aK,h1,h2,Bool.and_self]
theorem kY {l:List D}(h:aK l=true):aL (.agg l)=true:=by simpa only[aL] using h
theorem nb_ip {l:List D}(h:aK l=true):aL (.iptr l)=true:=by simpa only[aL] using h
theorem nbS {p:Prop}(h:p:=by(repeat(first|exact rfl|exact aC _|exact mC _|exact ol _|exact iB _|exact m7 _|exact qr _|exact noBox_natss _|exact noBox_nds _|exact noBox_pats _|exact noBox_ruls _|exact aY _|exact aV _|exact noBox_rgs _|exact bH _|exact noBox_rules _|refine aD ?_ ?_|refine kY ?_|refine nb_ip ?_|fail));(first|done|fail)):p:=h
theorem pv [GT] {P:Program} [Mx P] {g:FuncId}{fn:Func}{code:Code}{ds:List D}{d:D}(hg:P.funcs[g]?=some fn) (h:gR P (pH P) 0 code (endQ (pH P) fn d) ⟨ds++List.replicate (fn.ntmps-ds.length) aM,⟨0,[]⟩⟩) (hb:fn.body=some code:=by exact rfl) (hd:aK ds=true:=by exact nbS) (hn:(fn.name == "runtime.NumGoroutine")=false:=by exact rfl):Pu P g ds d:=Pu.of_v Mx.ok (td P) hg hb hn hd h
class IsC [GT] (m:Prop) (P:outParam Program) (g:outParam FuncId) (ds:outParam (List D)) (K:outParam (D->Prop)):Prop where
 ok:∀ d,Pu P g ds d->K d->m
section
variable [GT] {P:Program}{g:FuncId}{ds:List D}
instance {h:aB} {K:D->aB->Prop}:IsC (Cll P g ds h K) P g ds (λd=>K d h):=⟨λ_ hp go=>Cll.pu hp go⟩
instance {K:D->Prop}:IsC (CY P g ds K) P g ds K:=⟨λ_ hp go=>CY.pu hp go⟩
theorem cp {m:Prop}{K:D->Prop}{d:D} [c:IsC m P g ds K] (hp:Pu P g ds d) (go:K d):m:=c.ok d hp go
theorem cd {m:Prop}{K:D->Prop}{p:Prop} [Decidable p] [c:IsC m P g ds K] (hp:Pu P g ds (boo (decide p))) (yes:p->K (boo true)) (no:¬p->K (boo false)):m:=by
 by_cases h:p
 ·exact c.ok _ (by simpa [h] using hp) (yes h)
 ·exact c.ok _ (by simpa [h] using hp) (no h)
end
theorem sim {p:Prop}(h:p:=by first|(simp;done)|(simp;omega)|fail):p:=h
theorem rdA {p:Prop}(h:p:=by first|exact rdX|exact Rd.any|exact Rd.ptr rfl|exact Rd.map rfl|exact Rd.sl rfl|exact Rd.same rfl|exact Rd.int om|assumption|exact Rd.same (aC _)|exact Rd.same (mC _)|exact Rd.same (ol _)|exact Rd.same (iB _)|exact Rd.same (m7 _)|exact Rd.same (qr _)|exact Rd.same (noBox_natss _)|exact Rd.same (noBox_nds _)|exact Rd.same (noBox_pats _)|exact Rd.same (noBox_ruls _)|exact Rd.same (aY _)|exact Rd.same (aV _)|exact Rd.same (noBox_rgs _)|exact Rd.same (bH _)|fail):p:=h
theorem cZ {p:Prop}(h:p:=by(repeat(first|exact Rds.nil|refine Rds.cons rdA ?_|fail));(first|done|fail)):p:=h
theorem rbB {p:Prop}(h:p:=by first|exact Rb.cells (Rds.same (aG noBoxs_nd _)) rfl|exact Rb.cells (Rds.same (aG noBoxs_nt _)) rfl|exact Rb.cells (Rds.same (aG noBoxs_nk _)) rfl|exact Rb.cells (Rds.same (aG noBoxs_bl _)) rfl|exact Rb.cells (Rds.same (aG noBoxs_bol _)) rfl|exact Rb.cells (Rds.same rfl) rfl|exact Rb.cells (Rds.same (aN (λ_=>rfl) _)) rfl|exact Rb.cells (Rds.same (fd (λ_=>rfl) rfl)) rfl|exact Rb.cells (Rds.same (aG (λ_=>rfl) _)) rfl|exact Rb.map (Res.same (oB rfl _))|exact Rb.map (Res.same (oC _ _))|exact Rb.map (Res.same si)|fail):p:=h
theorem rbC {p:Prop}(h:p:=by first|exact Rb.map (Res.eqs (nA om) (oB rfl _))|exact Rb.map (Res.eqs (DO om) (oC _ _))|exact Rb.cells (Rds.eqs (nA om) (aN (λ_=>rfl) _)) rfl|assumption|fail):p:=h
theorem rbA {p:Prop}(h:p:=by first|exact rbX|exact rbB|exact Rb.cells cZ rfl|exact rbC|fail):p:=h
theorem enA {p:Prop}(h:p:=by(repeat(first|exact rr.nil|refine rr.cons rfl rdA ?_|fail));(first|done|fail)):p:=h
theorem bxA {p:Prop}(h:p:=by(repeat(first|exact Bxs.nil|refine Bxs.cons rfl rfl rfl rbA ?_|fail));(first|done|fail)):p:=h
theorem reA {p:Prop}(h:p:=by(repeat(first|exact pE.nil|refine pE.cons rfl rfl rfl ?_|fail));(first|done|fail)):p:=h
section
variable [GT] {nb:Nat}{tm:List D}{h:aB}{n nx:Nat}{l:List (Nat×D)}{bs:List (Nat×Box)}
theorem lq (σl:List (Nat×Nat)) (fzl:List Nat) (he:rr h (fzn fzl) (sgm nb σl) tm l:=by exact enA) (hb:Bxs h (fzn fzl) (sgm nb σl) bs:=by exact bxA) (hp:fq nb nx σl=true:=by exact rfl) (hn:tm.length=n:=by exact rfl):Lf nb ⟨tm,h⟩ ⟨tmp n l,⟨nx,bs⟩⟩:=Lf.of2 σl fzl he hb hp hn
theorem lq0 (he:rr h (fzn []) (sgm nb []) tm l:=by exact enA) (hb:Bxs h (fzn []) (sgm nb []) bs:=by exact bxA) (hp:fq nb nx []=true:=by exact rfl) (hn:tm.length=n:=by exact rfl):Lf nb ⟨tm,h⟩ ⟨tmp n l,⟨nx,bs⟩⟩:=Lf.of2 [] [] he hb hp hn
end
end Go.Am
/-
 The abstract machine,part 51: boxes of the caller numbered anew;cells part by part.
-/
namespace Go.Am
variable [GT]
section
variable {h:aB}{fz:Nat->Bool}{σ:Nat->Option Nat}
theorem Rds.parts:∀ {ds:List D},aK ds=true->∀ {es es':List D},Rds h fz σ es es'->Rds h fz σ (ds++es) (ds++es')
 | [],_,_,_,he=>he
 | d::ds,hd,_,_,he=>by
  simp only[aK,kC] at hd;exact .cons (.same hd.1) (Rds.parts hd.2 he)
theorem Rds.app:∀ {as as' bs bs':List D},Rds h fz σ as as'->Rds h fz σ bs bs'->Rds h fz σ (as++bs) (as' ++ bs')
 | _,_,_,_,.nil,hb=>hb
 | _,_,_,_,.cons hd hs,hb=>.cons hd (Rds.app hs hb)
 | _,_,_,_,.same hn,hb=>Rds.parts hn hb
theorem Rds.at {d d':D}(hd:Rd h fz σ d d'):∀ {cs:List D}(k:Nat),aK cs=true->Rds h fz σ (cs.set k d) (cs.set k d')
 | [],_,_=>.nil
 | x::cs,0,hn=>by
  simp only[aK,kC] at hn;exact .cons hd (.same hn.2)
 | x::cs,k+1,hn=>by
  simp only[aK,kC] at hn;exact .cons (.same hn.1) (Rds.at hd k hn.2)
theorem Get.all {cs:List D}{sz:Nat}{K:List D->Prop}(hl:cs.length=sz) (go:K cs):Get cs 0 sz K:=⟨by omega,by rw[List.drop_zero,kE om];exact go⟩
theorem Put.at {cs:List D}{off:Nat}{d:D}{K:List D->Prop}(h:off<cs.length) (go:K (cs.set off d)):Put cs off [d] K:=⟨by simp;omega,by rw[jF h];exact go⟩
theorem Rds.tr {cs cs' ds ds':List D}(e:cs=ds) (e':ds'=cs') (hd:Rds h fz σ ds ds'):Rds h fz σ cs cs':=by subst e;subst e';exact hd
end
end Go.Am
/-
 The abstract machine,part 52: a region that draws its order and calls functions that write,each function once.
-/
namespace Go.Am
variable [GT]
section
variable (P:Program) (ti:TI)
def Ap (M:List Nat) (m:Nat) (ts:List Nat) (al:List Nat):Bool:=
 al.all λx=>!m.testBit x || ts.any λt=>t != 0&&(M.getD (t-1) 0).testBit x&&m.testBit (t-1)
def fstK (l:List (Nat×aB)):(List Nat->Prop)->Prop:=
 List.rec (motive:=λ_=>(List Nat->Prop)->Prop) (λK=>K []) (λp _ ih K=>Prod.casesOn (motive:=λ_=>Prop) p λt _=>ih (λts=>K (t::ts))) l
def wN (g:FuncId) (l:List FuncId) (K:Prop):Prop:=List.rec (motive:=λ_=>Prop) K (λx _ ih=>if g=x then False else ih) l
def yN (ops:Array Oper) (base:Nat) (M:List Nat) (o:Oper) (ih:List D->List (Nat×aB)->List (Nat×Box)->List Nat->RdL->List FuncId->Prop) (j:Nat) (tm:List D) (hist:List (Nat×aB)) (pend:List (Nat×Box)) (al:List Nat) (rd:RdL) (mm:List FuncId):Prop:=
 match af ops tm o with
 | some true=>
  match bL ops o with
  | .pure=>opV P ti tm ⟨0,[]⟩ 0 o λd _=>bh tm o.dst d λtm'=>ih tm' hist pend al rd mm
  | .read=>
   match hist with
   | (t,g)::r=>opV P ti tm g 0 o λd _=>
    if(t == 0 || (M.getD j 0).testBit (t-1))=true then bh tm o.dst d λtm'=>ih tm' ((t,g)::r) pend al ((j,o,tm,d)::rd) mm
    else rcV P ti (M.getD j 0) tm o d r (bh tm o.dst d λtm'=>ih tm' ((t,g)::r) pend al ((j,o,tm,d)::rd) mm)
   | []=>False
  | .alloc=>
   fstK hist λts=>if Ap M (M.getD j 0) ts al=true then opV P ti tm ⟨0,[]⟩ (base+j) o λd h'=>r4 (h'.get (base+j)) λbox=>bh tm o.dst d λtm'=>ih tm' hist ((j,box)::pend) (j::al) rd mm else False
  | .write=>
   match hist with
   | (t,g)::r=>
    if(t == 0 || (M.getD j 0).testBit (t-1))=true then
     BA (M.getD j 0) pend λpn pv=>Cn base pn g λhv=>
     lm P tm o
      (λgf ds=>wN gf mm (Cll P gf ds hv λd h'=>o6 h' λh'=>pmV P ti h' (M.getD j 0) rd (bh tm o.dst d λtm'=>ih tm' ((j+1,h')::(t,g)::r) pv al rd (gf::mm))))
      (λ_ _=>False)
      (opV P ti tm hv (base+j) o λd h'=>o6 h' λh'=>pmV P ti h' (M.getD j 0) rd (bh tm o.dst d λtm'=>ih tm' ((j+1,h')::(t,g)::r) pv al rd mm))
    else False
   | []=>False
 | some false=>bh tm o.dst aM λtm'=>ih tm' hist pend al rd mm
 | none=>False
def AW (ops:Array Oper) (base:Nat) (M:List Nat) (l:List Oper):Nat->List D->List (Nat×aB)->List (Nat×Box)->List Nat->RdL->List FuncId->(List D->List (Nat×aB)->List (Nat×Box)->Prop)->Prop:=
 List.rec (motive:=λ_=>Nat->List D->List (Nat×aB)->List (Nat×Box)->List Nat->RdL->List FuncId->(List D->List (Nat×aB)->List (Nat×Box)->Prop)->Prop)
  (λ_ tm hist pend _ _ _ K=>K tm hist pend)
  (λo _ ih j tm hist pend al rd mm K=>yN P ti ops base M o (λtm hist pend al rd mm=>ih (j+1) tm hist pend al rd mm K) j tm hist pend al rd mm) l
end
section
variable {P:Program}{ti:TI}
theorem uY:∀ {l:List (Nat×aB)}{K:List Nat->Prop},fstK l K->K (l.map (·.1))
 | [],_,h=>h
 | (t,_)::_,K,h=>uY (K:=λts=>K (t::ts)) h
theorem xk {M:List Nat}{m:Nat}{al:List Nat}{hist:List (Nat×aB)}:Ap M m (hist.map (·.1)) al=u3 M m hist al:=by
 simp only[Ap,u3,List.any_map,Function.comp_def]
abbrev E7:=List (FuncId×List D×aB×D×aB)
theorem jN {g:FuncId}{K:Prop}:∀ {l:List FuncId},wN g l K->K∧¬g∈l
 | [],h=>⟨h,by simp⟩
 | x::l,h=>by
  replace h:(if g=x then False else wN g l K):=h
  split at h
  ·exact h.elim
  ·rename_i e;obtain⟨h1,h2⟩:=jN h;exact⟨h1,by simp[e,h2]⟩
theorem dT (ops:Array Oper) (base:Nat) (M:List Nat):∀ (l:List Oper) (j:Nat) (tm:List D) (hist:List (Nat×aB)) (pend:List (Nat×Box)) (al:List Nat) (rd:List (Nat×Oper×List D×D)) (mm:List FuncId) (K:List D->List (Nat×aB)->List (Nat×Box)->Prop),
  AW P ti ops base M l j tm hist pend al rd mm K ->
  ∃ (m2:E7) (s':DS),K s'.tm s'.hist s'.pend∧(∀ e∈m2,AC1 P e.1 e.2.1 e.2.2.1 e.2.2.2.1 e.2.2.2.2)∧(∀ e∈m2,¬e.1∈mm)∧(m2.map (·.1)).Nodup ∧
   ∀ cl:Cl,(∀ e∈m2,cl (.fn e.1) e.2.1 e.2.2.1=some (e.2.2.2.1,e.2.2.2.2))->dA P ti cl eqC ops base M l j ⟨tm,hist,pend,al,rd⟩=some s'
 | [],j,tm,hist,pend,al,rd,mm,K,h=>⟨[],⟨tm,hist,pend,al,rd⟩,h,λe he=>by simp at he,λe he=>by simp at he,by simp,λ_ _=>rfl⟩
 | o::l,j,tm,hist,pend,al,rd,mm,K,h=>by
  replace h:yN P ti ops base M o (λtm hist pend al rd mm=>AW P ti ops base M l (j+1) tm hist pend al rd mm K) j tm hist pend al rd mm:=h
  unfold yN at h;split at h
  ·rename_i hw;split at h
   ·rename_i hk;obtain⟨hc1,d,h',hc2,h1⟩:=bn h;obtain⟨m2,s',k1,k2,k3,k4,k5⟩:=dT ops base M l (j+1) _ _ _ _ _ mm K (ak h1);refine⟨m2,s',k1,k2,k3,k4,λcl hm=>?_⟩;simp only[dA,cO,hw,hk,hc2];exact k5 cl hm
   ·rename_i hk;split at h
    ·rename_i t g r;obtain⟨hc1,d,h',hc2,h1⟩:=bn h
     have hh:bh tm o.dst d (λtm'=>AW P ti ops base M l (j+1) tm' ((t,g)::r) pend al ((j,o,tm,d)::rd) mm K)∧bv P ti eqC (M.getD j 0) tm o d ((t,g)::r)=true:=by
      split at h1
      ·rename_i hb;exact⟨h1,by simp only[bv,kC];exact⟨eX hc2,by simp only[kN] at hb ⊢;exact .inl hb⟩⟩
      ·obtain⟨k,h3⟩:=t7 h1;exact⟨k,by simp only[bv,kC];exact⟨eX hc2,by simp only[kN];exact .inr h3⟩⟩
     obtain⟨h1,hro⟩:=hh;obtain⟨m2,s',k1,k2,k3,k4,k5⟩:=dT ops base M l (j+1) _ _ _ _ _ mm K (ak h1);refine⟨m2,s',k1,k2,k3,k4,λcl hm=>?_⟩;simp only[dA,cO,hw,hk,hc2,hro,if_true];exact k5 cl hm
    ·exact h.elim
   ·rename_i hk
    replace h:=uY h
    split at h
    ·rename_i hal;rw[xk] at hal;obtain⟨hc1,d,h',hc2,h1⟩:=bn h;obtain⟨box,hbox,h1⟩:=eO h1;obtain⟨m2,s',k1,k2,k3,k4,k5⟩:=dT ops base M l (j+1) _ _ _ _ _ mm K (ak h1);refine⟨m2,s',k1,k2,k3,k4,λcl hm=>?_⟩;simp only[dA,cO,hw,hk,hc2,hbox,hal,if_true];exact k5 cl hm
    ·exact h.elim
   ·rename_i hk;split at h
    ·rename_i t g r;split at h
     ·rename_i hb
      replace h:=lD (mg h)
      rcases fk h with⟨gf,ds,hac,h⟩|⟨_,_,_,h⟩|h
      ·obtain⟨h,hno⟩:=jN h;obtain⟨d,h',hac1,h⟩:=h.ex;obtain⟨h1,hpm⟩:=jK (iw h);obtain⟨m2,s',k1,k2,k3,k4,k5⟩:=dT ops base M l (j+1) _ _ _ _ _ _ K (ak h1);refine⟨(gf,ds,dL base (pend.filter λp=>(M.getD j 0).testBit p.1) g,d,h')::m2,s',k1,λe he=>?_,λe he=>?_,?_,λcl hm=>?_⟩
       ·rcases List.mem_cons.1 he with he|he
        ·subst he;exact hac1
        ·exact k2 e he
       ·rcases List.mem_cons.1 he with he|he
        ·subst he;exact hno
        ·exact λhx=>k3 e he (by simp[hx])
       ·simp only[List.map_cons,List.nodup_cons];refine⟨λhx=>?_,k4⟩;obtain⟨e,he,hx⟩:=List.mem_map.1 hx;exact k3 e he (by simp[hx])
       ·have hl:=hm _ (List.mem_cons_self ..)
        have hst:∀ id,bU P ti cl tm (dL base (pend.filter λp=>(M.getD j 0).testBit p.1) g) id o=some (d,h'):=λid=>by
         unfold bU;simp only at hl;simp only[hac,hl]
        simp only[dA,cO,hw,hk,hb,if_true,hst,hpm];exact k5 cl (λe he=>hm e (by simp[he]))
      ·exact h.elim
      ·obtain⟨hc1,d,h',hc2,h1⟩:=bn h;obtain⟨h1,hpm⟩:=jK (iw h1);obtain⟨m2,s',k1,k2,k3,k4,k5⟩:=dT ops base M l (j+1) _ _ _ _ _ mm K (ak h1);refine⟨m2,s',k1,k2,k3,k4,λcl hm=>?_⟩
       have hst:bU P ti cl tm (dL base (pend.filter λp=>(M.getD j 0).testBit p.1) g) (base+j) o=some (d,h'):=by
        unfold bU;simp only[hc1,hc2]
       simp only[dA,cO,hw,hk,hb,if_true,hst,hpm];exact k5 cl hm
     ·exact h.elim
    ·exact h.elim
  ·rename_i hw;obtain⟨m2,s',k1,k2,k3,k4,k5⟩:=dT ops base M l (j+1) _ _ _ _ _ mm K (ak h);refine⟨m2,s',k1,k2,k3,k4,λcl hm=>?_⟩;simp only[dA,cO,hw];exact k5 cl hm
  ·exact h.elim
open Classical in
noncomputable def clW (m:E7):Cl:=λk ds h=>
 match k with
 | .fn g=>match m.find? (λe=>decide (e.1=g∧e.2.1=ds∧e.2.2.1=h)) with|some e=>some (e.2.2.2.1,e.2.2.2.2)|none=>none
 | .yf _=>none
theorem um:∀ {m:E7}{e:FuncId×List D×aB×D×aB},(m.map (·.1)).Nodup->e∈m->clW m (.fn e.1) e.2.1 e.2.2.1=some (e.2.2.2.1,e.2.2.2.2)
 | x::m,e,hn,he=>by
  simp only[List.map_cons,List.nodup_cons] at hn;simp only[clW];rcases List.mem_cons.1 he with he|he
  ·subst he;rw[List.find?_cons_of_pos si]
  ·have hne:¬x.1=e.1:=λhx=>hn.1 (List.mem_map.2 ⟨e,he,hx.symm⟩)
   rw[List.find?_cons_of_neg (by simp[hne])];exact um hn.2 he
theorem aX.byW (hm:P.follows .mixedOrders=true) (T:TOk P ti){nb id:Nat}{ops:Array Oper}{Q:Exit->St->Prop}{tm:List D}{n:Nat}{bs:List (Nat×Box)}(M:List Nat) (hok:(b6 ops&&decide (eE ops.toList []=M))=true)
  (h:AW P ti ops n M ops.toList 0 tm [(0,⟨n+ops.size,bs⟩)] [] [] [] [] (lQ n (Q .normal))):aX P nb id ops Q ⟨tm,⟨n,bs⟩⟩:=⟨.of_sw (by
 simp only[kC,decide_eq_true_eq] at hok;obtain⟨hok,hM⟩:=hok;subst hM;obtain⟨m2,ds,k1,k2,k3,k4,k5⟩:=dT ops _ _ _ _ _ _ _ _ _ _ _ h
 have hC:gm P (clW m2):=λk as h0 d h' hx=>by
  cases k with
  | yf id=>simp[clW] at hx
  | fn g=>
   simp only[clW] at hx;split at hx
   ·rename_i e he;have h1:=List.find?_some he;have h2:=List.mem_of_find?_eq_some he;simp only[decide_eq_true_eq] at h1;simp only[kA,kB] at hx;obtain⟨rfl,rfl,rfl⟩:=h1;obtain⟨rfl,rfl⟩:=hx;exact k2 e h2
   ·cases hx
 have hr:=k5 (clW m2) (λe he=>um k4 he);unfold lQ at k1;split at k1
 ·rename_i t g r hh
  have hd:bp P ti (clW m2) eqC ops ⟨tm,⟨n,bs⟩⟩=some ⟨ds.tm,dL n ds.pend g⟩:=by
   unfold bp;simp only[bump];rw[hr];simp only[hh]
  intro c a R hf hR;exact fO hm T hC mI hok hd hf λc' a' f1 g1 p1 d1=>hR _ _ c' a' (lD k1) f1 g1 p1 d1
 ·exact k1.elim)⟩
end
structure Sub (h h':aB):Prop where
 next:h.next<=h'.next
 get:∀ id box,h'.get id=some box->h.get id=some box
theorem Rel.sub {c:Ctx}{h h':aB}(R:Rel c h) (s:Sub h h'):Rel c h':=
 ⟨R.size,λid hid=>R.fresh id (Nat.le_trans s.next hid),λid box hg=>R.live id box (s.get id box hg),λi j bi bj b o o' h1 h2=>R.inj i j bi bj b o o' (s.get _ _ h1) (s.get _ _ h2),R.inv⟩
theorem aZ.sub {c c':Ctx}{h0 h h':aB}(g:aZ c h0 c' h) (s:Sub h h'):aZ c h0 c' h':=
 ⟨g.keeps,g.os,g.tape,g.output,g.size,Nat.le_trans g.next s.next,g.frame,λb ⟨id,box,o,h1,h2⟩=>g.own b ⟨id,box,o,s.get id box h1,h2⟩,g.stable⟩
theorem aH.weak {P:Program}{nb:Nat}{x:Code}{Q:Exit->St->Prop}{s s0:St}(hle:Lf nb s s0) (h:aH P nb x Q s0):aH P nb x Q s:=⟨Sv.weak hle h.run⟩
def jP:Code->List Code
 | .loop c=>c::jP c
 | .seq a b=>jP a++jP b
 | .cond _ a b=>jP a++jP b
 | .block _ c=>jP c
 | _=>[]
def wd (f:Func) (k:Nat):Code:=match f.body with|some c=>(jP c).getD k .skip|none=>.skip
end Go.Am
/-
 The abstract machine,part 53: freezing all that is handed in;heaps whose boxes are not laid out.
-/
namespace Go.Am
variable [GT]
end Go.Am
/-
 The abstract machine,part 54: calls of functions without a body;what is known of package-level variables,changed.
-/
namespace Go.Am
theorem Rel.other {A B:GT}{c:Ctx}{h:aB}(R:@Rel A c h) (hi:@GT.inv B c):@Rel B c h:=@Rel.mk B c h (@Rel.size A c h R) (@Rel.fresh A c h R) (@Rel.live A c h R) (@Rel.inj A c h R) hi
theorem Pu.cases {α:Type}(a0:α){A:α->GT}{B:GT}(hi:∀ c,@GT.inv B c->∃ a,@GT.inv (A a) c){P:Program}{g:FuncId}{ds:List D}{d:D}(hp:∀ a,@Pu (A a) P g ds d):@Pu B P g ds d:=by
 intro h;refine⟨(hp a0 h).1,λc vs R hvs=>?_⟩;obtain⟨a,ha⟩:=hi c (@Rel.inv B c h R);refine((hp a h).2 c vs (Rel.other (A:=B) (B:=A a) R ha) hvs).mono ?_;rintro e w' ⟨v,c',rfl,rfl,k1,k2,k3,k4⟩;exact⟨v,c',rfl,rfl,k1,Rel.other (A:=A a) (B:=B) k2 (@GT.kept B c c' k3.keeps (@Rel.inv B c h R)),k3,k4⟩
variable [GT]
section
variable {P:Program}{ti:TI}
end
end Go.Am
/-
 The abstract machine,part 55: boxes beside a call;a closed run and another call behind it.
-/
namespace Go.Am
variable [GT]
theorem AC1.frame {P:Program}{g:FuncId}{ds:List D}{n:Nat}{b:List (Nat×Box)}{d:D}{n1:Nat}{b1:List (Nat×Box)}(hp:AC1 P g ds ⟨n,b⟩ d ⟨n1,b1⟩) (rest:List (Nat×Box))
  (hk:∀ j B,ac rest j=some B->ac b j=none∧ac b1 j=none):AC1 P g ds ⟨n,rest++b⟩ d ⟨n1,rest++b1⟩:=by
 have gb:∀ j B,ac b j=some B->ac (rest++b) j=some B:=λj B h=>by
  rw[dQ];cases hr:ac rest j with
  | none=>simpa using h
  | some B'=>have:=(hk j B' hr).1;rw[h] at this;cases this
 have gb1:∀ j B,ac (rest++b1) j=some B->ac rest j=some B∨(ac rest j=none∧ac b1 j=some B):=λj B h=>by
  rw[dQ] at h;cases hr:ac rest j with
  | none=>rw[hr] at h;exact .inr ⟨rfl,by simpa using h⟩
  | some B'=>rw[hr] at h;exact .inl (by simpa using h)
 have gr:∀ j B,ac rest j=some B->ac (rest++b) j=some B:=λj B h=>by rw[dQ,h];rfl
 refine⟨hp.1,λc vs R hvs=>?_⟩;have R0:Rel c ⟨n,b⟩:=R.sub (h':=⟨n,b⟩) ⟨kP _,λid box hg=>gb id box hg⟩;have own0:∀ k,bG c ⟨n,b⟩ k->bG c ⟨n,rest++b⟩ k:=λk ⟨id,box,o,h1,h2⟩=>⟨id,box,o,gb id box h1,h2⟩
 refine(hp.2 c vs R0 hvs).mono ?_;rintro e w' ⟨v,c',rfl,rfl,v1,r1,g1,p1⟩
 have hrest:∀ id box k o,ac rest id=some box->c.φ id=some (k,o)->k<c.w.heap.size∧¬bG c ⟨n,b⟩ k∧¬c'.S k∧BR c k o box:=λid box k o hg hφ=>by
  obtain⟨k',o',q1,q2,q3⟩:=R.live id box (gr id box hg);rw[hφ] at q1;injection q1 with q1;injection q1 with e1 e2;subst e1;subst e2
  have hno:¬bG c ⟨n,b⟩ k:=λ⟨id2,box2,o2,h1,h2⟩=>by
   have:=R.inj id id2 box box2 k o o2 (gr id box hg) (gb id2 box2 h1) hφ h2
   subst this;have:=(hk id box hg).1
   rw[show ac b id=some box2 from h1] at this;cases this
  refine⟨q3.lt,hno,λhs=>?_,q3⟩;rcases g1.stable k hs with h|h|h
  ·exact q2 h
  ·have:=q3.lt;omega
  ·exact hno h
 have hid:∀ id box,ac rest id=some box->∃ k o,c.φ id=some (k,o):=λid box hg=>by
  obtain⟨k,o,q1,_⟩:=R.live id box (gr id box hg);exact⟨k,o,q1⟩
 refine⟨v,c',rfl,rfl,v1,⟨r1.size,r1.fresh,λid box hg=>?_,λi j bi bj k o o' h1 h2 h3 h4=>?_,r1.inv⟩,⟨g1.keeps,g1.os,g1.tape,g1.output,g1.size,g1.next,λk hk hno=>g1.frame k hk λho=>hno (own0 k ho),λk ho=>?_,λk hs=>(g1.stable k hs).imp id (Or.imp id (own0 k))⟩,p1⟩
 ·rcases gb1 id box hg with hg|⟨_,hg⟩
  ·obtain⟨k,o,hφ⟩:=hid id box hg;obtain⟨q1,q2,q3,q4⟩:=hrest id box k o hg hφ;exact⟨k,o,g1.keeps.φ _ _ hφ,q3,q4.keep g1.keeps (g1.frame k q1 q2)⟩
  ·exact r1.live id box hg
 ·have cross:∀ i j bi bj k o o',ac rest i=some bi->ac b1 j=some bj->c'.φ i=some (k,o)->c'.φ j=some (k,o')->False:=λi j bi bj k o o' h1 h2 h3 h4=>by
   obtain⟨k0,o0,hφ⟩:=hid i bi h1;have:=g1.keeps.φ _ _ hφ
   rw[h3] at this;injection this with this;injection this with e1 e2;subst e1;subst e2
   obtain⟨q1,q2,_,_⟩:=hrest i bi k o h1 hφ;rcases g1.own k ⟨j,bj,o',h2,h4⟩ with h|h
   ·omega
   ·exact q2 h
  rcases gb1 i bi h1 with h1|⟨_,h1⟩<;>rcases gb1 j bj h2 with h2|⟨_,h2⟩
  ·obtain⟨k0,o0,hφ⟩:=hid i bi h1;obtain⟨k0',o0',hφ'⟩:=hid j bj h2;have e1:=g1.keeps.φ _ _ hφ;have e2:=g1.keeps.φ _ _ hφ';rw[h3] at e1;injection e1 with e1;injection e1 with a1 a2;subst a1;subst a2
   rw[h4] at e2;injection e2 with e2;injection e2 with a1 a2;subst a1;subst a2
   exact R.inj i j bi bj k o o' (gr i bi h1) (gr j bj h2) hφ hφ'
  ·exact(cross i j bi bj k o o' h1 h2 h3 h4).elim
  ·exact(cross j i bj bi k o' o h2 h1 h4 h3).elim
  ·exact r1.inj i j bi bj k o o' h1 h2 h3 h4
 ·obtain⟨id,box,o,hg,hφ⟩:=ho;rcases gb1 id box hg with hg|⟨_,hg⟩
  ·obtain⟨k0,o0,hφ'⟩:=hid id box hg;have e1:=g1.keeps.φ _ _ hφ';rw[hφ] at e1;injection e1 with e1;injection e1 with a1 a2;subst a1;subst a2
   exact .inr ⟨id,box,o,gr id box hg,hφ'⟩
  ·exact(g1.own k ⟨id,box,o,hg,hφ⟩).imp (λx=>x) (own0 k)
end Go.Am
/-
 The abstract machine,part 57: at a call's end boxes are frozen.
-/
namespace Go.Am
variable [GT]
def idS (fz:Nat->Bool) (i:Nat):Option Nat:=if fz i=true then none else some i
theorem AC1.frz {P:Program}{g:FuncId}{ds:List D}{h:aB}{d:D}{h1:aB}(hp:AC1 P g ds h d h1) (fz:Nat->Bool){d0:D}{h0:aB}(hn:h0.next=h1.next) (hr:Rd h1 fz (idS fz) d d0)
  (hb:∀ id b0,h0.get id=some b0->fz id=false∧∃ b,h1.get id=some b∧Rb h1 fz (idS fz) b b0):AC1 P g ds h d0 h0:=by
 obtain⟨hent,hcall⟩:=hp;refine⟨hent,λc vs R hvs=>(hcall c vs R hvs).mono ?_⟩;rintro e w' ⟨v,c1,rfl,rfl,v1,r1,g1,p1⟩
 let c2:Ctx:={ c1 with S:=λb=>c1.S b∨∃ id o box,fz id=true∧h1.get id=some box∧c1.φ id=some (b,o) }
 have hφ:∀ id' id,idS fz id'=some id->c2.φ id'=c1.φ id:=λid' id hs=>by
  unfold idS at hs;split at hs
  ·cases hs
  ·injection hs with hs;rw[hs]
 have T:ri c1 h1 fz (idS fz) c2:=⟨r1,rfl,λb hb=>.inl hb,λid b o box q1 q2 q3=>.inr ⟨id,o,box,q1,q2,q3⟩,hφ⟩;have hk:am c1 c2:=⟨λb hb=>.inl hb,λ_ _ hx=>hx,λ_ _=>rfl,λ_ _ _ hx=>hx⟩
 have hown:∀ b,bG c2 h0 b->bG c1 h1 b:=λb ⟨id,box,o,q1,q2⟩=>by
  obtain⟨_,b1,q3,_⟩:=hb id box q1;exact⟨id,b1,o,q3,q2⟩
 refine⟨v,c2,rfl,rfl,hr.sound T v v1,⟨λb hb2=>?_,λid hid=>r1.fresh id om,λid b0 hg=>?_,λi j bi bj b o o' q1 q2 q3 q4=>?_,GT.kept hk r1.inv⟩,⟨g1.keeps.trans hk,g1.os,g1.tape,g1.output,g1.size,by rw[hn];exact g1.next,g1.frame,λb ho=>g1.own b (hown b ho),λb hs=>?_⟩,p1⟩
 ·rcases hb2 with hb2|⟨id,o,box,_,q2,q3⟩
  ·exact r1.size b hb2
  ·obtain⟨b',o',x1,_,x3⟩:=r1.live id box q2;rw[x1] at q3;injection q3 with q3;injection q3 with e1 _;subst e1
   exact x3.lt
 ·obtain⟨hf,b1,q1,q2⟩:=hb id b0 hg;obtain⟨b,o,x1,x2,x3⟩:=r1.live id b1 q1;refine⟨b,o,x1,?_,q2.sound T x3⟩;rintro(hs|⟨idf,of,bf,y1,y2,y3⟩)
  ·exact x2 hs
  ·have:=r1.inj id idf b1 bf b o of q1 y2 x1 y3
   subst this;rw[hf] at y1;cases y1
 ·obtain⟨_,b1,x1,_⟩:=hb i bi q1;obtain⟨_,b2,x2,_⟩:=hb j bj q2;exact r1.inj i j b1 b2 b o o' x1 x2 q3 q4
 ·rcases hs with hs|⟨id,o,box,_,q2,q3⟩
  ·exact g1.stable b hs
  ·exact .inr (g1.own b ⟨id,box,o,q2,q3⟩)
theorem AC1.low {P:Program}{g:FuncId}{ds:List D}{n k:Nat}{bs:List (Nat×Box)}{d:D}{h':aB}(hp:AC1 P g ds ⟨k,bs⟩ d h') (hn:n<=k):AC1 P g ds ⟨n,bs⟩ d h':=by
 obtain⟨hent,hcall⟩:=hp;refine⟨hent,λc vs R hvs=>(hcall c vs ⟨R.size,λid hid=>R.fresh id (Nat.le_trans hn hid),R.live,R.inj,R.inv⟩ hvs).mono ?_⟩;rintro e w' ⟨v,c1,rfl,rfl,v1,r1,g1,p1⟩;have hg:=g1.next;exact⟨v,c1,rfl,rfl,v1,r1,⟨g1.keeps,g1.os,g1.tape,g1.output,g1.size,Nat.le_trans hn hg,g1.frame,g1.own,g1.stable⟩,λj hj=>p1 j (Nat.lt_of_lt_of_le hj hn)⟩
end Go.Am
/-
 The abstract machine,part 58: a region that draws its order and calls functions over data (as often as it likes) and functions that write (each once).
-/
namespace Go.Am
variable [GT]
structure CM (P:Program) (g:FuncId) (ds:List D) (h:aB) (Kp:D->Prop) (Kw:D->aB->Prop):Prop where
 ex:(∃ d,Pu P g ds d∧Kp d)∨Cll P g ds h Kw
theorem CM.pu {P:Program}{g:FuncId}{ds:List D}{h:aB}{Kp:D->Prop}{Kw:D->aB->Prop}{d:D}(hp:Pu P g ds d) (go:Kp d):CM P g ds h Kp Kw:=⟨.inl ⟨d,hp,go⟩⟩
theorem CM.w {P:Program}{g:FuncId}{ds:List D}{h:aB}{Kp:D->Prop}{Kw:D->aB->Prop}(hc:Cll P g ds h Kw):CM P g ds h Kp Kw:=⟨.inr hc⟩
section
variable (P:Program) (ti:TI)
def Dg (g:FuncId) (l:fA) (K:Prop):Prop:=List.rec (motive:=λ_=>Prop) K (λx _ ih=>if g=x.1 then False else ih) l
def yL (ops:Array Oper) (base:Nat) (M:List Nat) (o:Oper) (ih:List D->List (Nat×aB)->List (Nat×Box)->List Nat->RdL->fA->List FuncId->Prop) (j:Nat) (tm:List D) (hist:List (Nat×aB)) (pend:List (Nat×Box)) (al:List Nat) (rd:RdL) (mp:fA) (mm:List FuncId):Prop:=
 match af ops tm o with
 | some true=>
  match bL ops o with
  | .pure=>opV P ti tm ⟨0,[]⟩ 0 o λd _=>bh tm o.dst d λtm'=>ih tm' hist pend al rd mp mm
  | .read=>
   match hist with
   | (t,g)::r=>opV P ti tm g 0 o λd _=>
    if(t == 0 || (M.getD j 0).testBit (t-1))=true then bh tm o.dst d λtm'=>ih tm' ((t,g)::r) pend al ((j,o,tm,d)::rd) mp mm
    else rcV P ti (M.getD j 0) tm o d r (bh tm o.dst d λtm'=>ih tm' ((t,g)::r) pend al ((j,o,tm,d)::rd) mp mm)
   | []=>False
  | .alloc=>
   fstK hist λts=>if Ap M (M.getD j 0) ts al=true then opV P ti tm ⟨0,[]⟩ (base+j) o λd h'=>r4 (h'.get (base+j)) λbox=>bh tm o.dst d λtm'=>ih tm' hist ((j,box)::pend) (j::al) rd mp mm else False
  | .write=>
   match hist with
   | (t,g)::r=>
    if(t == 0 || (M.getD j 0).testBit (t-1))=true then
     BA (M.getD j 0) pend λpn pv=>Cn base pn g λhv=>
     lm P tm o
      (λgf ds=>CM P gf ds hv
       (λd=>wN gf mm (frV gf ds d mp (pmV P ti hv (M.getD j 0) rd (bh tm o.dst d λtm'=>ih tm' ((j+1,hv)::(t,g)::r) pv al rd ((gf,ds,d)::mp) mm))))
       (λd h'=>wN gf mm (Dg gf mp (o6 h' λh'=>pmV P ti h' (M.getD j 0) rd (bh tm o.dst d λtm'=>ih tm' ((j+1,h')::(t,g)::r) pv al rd mp (gf::mm))))))
      (λ_ _=>False)
      (opV P ti tm hv (base+j) o λd h'=>o6 h' λh'=>pmV P ti h' (M.getD j 0) rd (bh tm o.dst d λtm'=>ih tm' ((j+1,h')::(t,g)::r) pv al rd mp mm))
    else False
   | []=>False
 | some false=>bh tm o.dst aM λtm'=>ih tm' hist pend al rd mp mm
 | none=>False
def AV (ops:Array Oper) (base:Nat) (M:List Nat) (l:List Oper):Nat->List D->List (Nat×aB)->List (Nat×Box)->List Nat->RdL->fA->List FuncId->(List D->List (Nat×aB)->List (Nat×Box)->Prop)->Prop:=
 List.rec (motive:=λ_=>Nat->List D->List (Nat×aB)->List (Nat×Box)->List Nat->RdL->fA->List FuncId->(List D->List (Nat×aB)->List (Nat×Box)->Prop)->Prop)
  (λ_ tm hist pend _ _ _ _ K=>K tm hist pend)
  (λo _ ih j tm hist pend al rd mp mm K=>yL P ti ops base M o (λtm hist pend al rd mp mm=>ih (j+1) tm hist pend al rd mp mm K) j tm hist pend al rd mp mm) l
end
section
variable {P:Program}{ti:TI}
theorem qo {g:FuncId}{K:Prop}:∀ {l:fA},Dg g l K->K∧∀ e∈l,e.1≠g
 | [],h=>⟨h,by simp⟩
 | x::l,h=>by
  replace h:(if g=x.1 then False else Dg g l K):=h
  split at h
  ·exact h.elim
  ·rename_i e;obtain⟨h1,h2⟩:=qo h;refine⟨h1,λy hy=>?_⟩;rcases List.mem_cons.1 hy with rfl|hy
   ·exact λx=>e x.symm
   ·exact h2 y hy
theorem cn (ops:Array Oper) (base:Nat) (M:List Nat):∀ (l:List Oper) (j:Nat) (tm:List D) (hist:List (Nat×aB)) (pend:List (Nat×Box)) (al:List Nat) (rd:List (Nat×Oper×List D×D)) (mp:fA) (mm:List FuncId) (K:List D->List (Nat×aB)->List (Nat×Box)->Prop),
  AV P ti ops base M l j tm hist pend al rd mp mm K->rp mp->(∀ e∈mp,¬e.1∈mm) ->
  ∃ (p2:fA) (m2:E7) (s':DS),K s'.tm s'.hist s'.pend∧rp (p2++mp)∧(∀ e∈p2,Pu P e.1 e.2.1 e.2.2)∧(∀ e∈m2,AC1 P e.1 e.2.1 e.2.2.1 e.2.2.2.1 e.2.2.2.2)∧(∀ e∈m2,¬e.1∈mm)∧(m2.map (·.1)).Nodup ∧
   (∀ e∈p2++mp,¬e.1∈m2.map (·.1))∧(∀ e∈p2,¬e.1∈mm) ∧
   ∀ cl:Cl,(∀ e∈p2,∀ h,cl (.fn e.1) e.2.1 h=some (e.2.2,h))->(∀ e∈m2,cl (.fn e.1) e.2.1 e.2.2.1=some (e.2.2.2.1,e.2.2.2.2))->dA P ti cl eqC ops base M l j ⟨tm,hist,pend,al,rd⟩=some s'
 | [],j,tm,hist,pend,al,rd,mp,mm,K,h,hF,hD=>⟨[],[],⟨tm,hist,pend,al,rd⟩,h,hF,λe he=>by simp at he,λe he=>by simp at he,λe he=>by simp at he,by simp,by simp,λe he=>by simp at he,λ_ _ _=>rfl⟩
 | o::l,j,tm,hist,pend,al,rd,mp,mm,K,h,hF,hD=>by
  replace h:yL P ti ops base M o (λtm hist pend al rd mp mm=>AV P ti ops base M l (j+1) tm hist pend al rd mp mm K) j tm hist pend al rd mp mm:=h
  unfold yL at h;split at h
  ·rename_i hw;split at h
   ·rename_i hk;obtain⟨hc1,d,h',hc2,h1⟩:=bn h;obtain⟨p2,m2,s',k1,k2,k3,k4,k5,k6,k7,k8,k9⟩:=cn ops base M l (j+1) _ _ _ _ _ mp mm K (ak h1) hF hD;refine⟨p2,m2,s',k1,k2,k3,k4,k5,k6,k7,k8,λcl hp hm=>?_⟩;simp only[dA,cO,hw,hk,hc2];exact k9 cl hp hm
   ·rename_i hk;split at h
    ·rename_i t g r;obtain⟨hc1,d,h',hc2,h1⟩:=bn h
     have hh:bh tm o.dst d (λtm'=>AV P ti ops base M l (j+1) tm' ((t,g)::r) pend al ((j,o,tm,d)::rd) mp mm K)∧bv P ti eqC (M.getD j 0) tm o d ((t,g)::r)=true:=by
      split at h1
      ·rename_i hb;exact⟨h1,by simp only[bv,kC];exact⟨eX hc2,by simp only[kN] at hb ⊢;exact .inl hb⟩⟩
      ·obtain⟨k,h3⟩:=t7 h1;exact⟨k,by simp only[bv,kC];exact⟨eX hc2,by simp only[kN];exact .inr h3⟩⟩
     obtain⟨h1,hro⟩:=hh;obtain⟨p2,m2,s',k1,k2,k3,k4,k5,k6,k7,k8,k9⟩:=cn ops base M l (j+1) _ _ _ _ _ mp mm K (ak h1) hF hD;refine⟨p2,m2,s',k1,k2,k3,k4,k5,k6,k7,k8,λcl hp hm=>?_⟩;simp only[dA,cO,hw,hk,hc2,hro,if_true];exact k9 cl hp hm
    ·exact h.elim
   ·rename_i hk
    replace h:=uY h
    split at h
    ·rename_i hal;rw[xk] at hal;obtain⟨hc1,d,h',hc2,h1⟩:=bn h;obtain⟨box,hbox,h1⟩:=eO h1;obtain⟨p2,m2,s',k1,k2,k3,k4,k5,k6,k7,k8,k9⟩:=cn ops base M l (j+1) _ _ _ _ _ mp mm K (ak h1) hF hD;refine⟨p2,m2,s',k1,k2,k3,k4,k5,k6,k7,k8,λcl hp hm=>?_⟩;simp only[dA,cO,hw,hk,hc2,hbox,hal,if_true];exact k9 cl hp hm
    ·exact h.elim
   ·rename_i hk;split at h
    ·rename_i t g r;split at h
     ·rename_i hb
      replace h:=lD (mg h)
      rcases fk h with⟨gf,ds,hac,h⟩|⟨_,_,_,h⟩|h
      ·rcases h.ex with⟨d,hpu,h⟩|h
       ·obtain⟨h,hno⟩:=jN h;obtain⟨h,hfr⟩:=kj h;obtain⟨h1,hpm⟩:=jK h
        have hF':rp ((gf,ds,d)::mp):=λg1 ds1 d1 d2 m1 m2=>by
         rcases List.mem_cons.1 m1 with x1|x1<;>rcases List.mem_cons.1 m2 with x2|x2
         ·simp only[kB] at x1 x2;rw[x1.2.2,x2.2.2]
         ·simp only[kB] at x1;obtain⟨rfl,rfl,rfl⟩:=x1;exact(hfr d2 x2).symm
         ·simp only[kB] at x2;obtain⟨rfl,rfl,rfl⟩:=x2;exact hfr d1 x1
         ·exact hF _ _ _ _ x1 x2
        have hD':∀ e∈(gf,ds,d)::mp,¬e.1∈mm:=λe he=>by
         rcases List.mem_cons.1 he with rfl|he
         ·exact hno
         ·exact hD e he
        obtain⟨p2,m2,s',k1,k2,k3,k4,k5,k6,k7,k8,k9⟩:=cn ops base M l (j+1) _ _ _ _ _ _ mm K (ak h1) hF' hD';refine⟨p2++[(gf,ds,d)],m2,s',k1,by simpa using k2,λe he=>?_,k4,k5,k6,λe he=>k7 e (by simpa using he),λe he=>?_,λcl hp hm=>?_⟩
        ·rcases List.mem_append.1 he with he|he
         ·exact k3 e he
         ·simp at he;subst he;exact hpu
        ·rcases List.mem_append.1 he with he|he
         ·exact k8 e he
         ·simp at he;subst he;exact hno
        ·have hl:=hp (gf,ds,d) si
         have hst:∀ h0 id,bU P ti cl tm h0 id o=some (d,h0):=λh0 id=>by
          unfold bU;simp only[hac,hl]
         simp only[dA,cO,hw,hk,hb,if_true,hst,hpm];exact k9 cl (λe he=>hp e (by simp[he])) hm
       ·obtain⟨d,h',hac1,h⟩:=h.ex;obtain⟨h,hno⟩:=jN h;obtain⟨h,hnm⟩:=qo h;obtain⟨h1,hpm⟩:=jK (iw h)
        have hD':∀ e∈mp,¬e.1∈gf::mm:=λe he hx=>by
         rcases List.mem_cons.1 hx with hx|hx
         ·exact hnm e he hx
         ·exact hD e he hx
        obtain⟨p2,m2,s',k1,k2,k3,k4,k5,k6,k7,k8,k9⟩:=cn ops base M l (j+1) _ _ _ _ _ mp _ K (ak h1) hF hD';refine⟨p2,(gf,ds,dL base (pend.filter λp=>(M.getD j 0).testBit p.1) g,d,h')::m2,s',k1,k2,k3,λe he=>?_,λe he=>?_,?_,λe he hx=>?_,λe he hx=>k8 e he (by simp[hx]),λcl hp hm=>?_⟩
        ·rcases List.mem_cons.1 he with he|he
         ·subst he;exact hac1
         ·exact k4 e he
        ·rcases List.mem_cons.1 he with he|he
         ·subst he;exact hno
         ·exact λhx=>k5 e he (by simp[hx])
        ·simp only[List.map_cons,List.nodup_cons];refine⟨λhx=>?_,k6⟩;obtain⟨e,he,hx⟩:=List.mem_map.1 hx;exact k5 e he (by simp[hx])
        ·simp only[List.map_cons] at hx;rcases List.mem_cons.1 hx with hx|hx
         ·rcases List.mem_append.1 he with he|he
          ·exact k8 e he (by simp[hx])
          ·exact hnm e he hx
         ·exact k7 e he hx
        ·have hl:=hm _ (List.mem_cons_self ..)
         have hst:∀ id,bU P ti cl tm (dL base (pend.filter λp=>(M.getD j 0).testBit p.1) g) id o=some (d,h'):=λid=>by
          unfold bU;simp only at hl;simp only[hac,hl]
         simp only[dA,cO,hw,hk,hb,if_true,hst,hpm];exact k9 cl hp (λe he=>hm e (by simp[he]))
      ·exact h.elim
      ·obtain⟨hc1,d,h',hc2,h1⟩:=bn h;obtain⟨h1,hpm⟩:=jK (iw h1);obtain⟨p2,m2,s',k1,k2,k3,k4,k5,k6,k7,k8,k9⟩:=cn ops base M l (j+1) _ _ _ _ _ mp mm K (ak h1) hF hD;refine⟨p2,m2,s',k1,k2,k3,k4,k5,k6,k7,k8,λcl hp hm=>?_⟩
       have hst:bU P ti cl tm (dL base (pend.filter λp=>(M.getD j 0).testBit p.1) g) (base+j) o=some (d,h'):=by
        unfold bU;simp only[hc1,hc2]
       simp only[dA,cO,hw,hk,hb,if_true,hst,hpm];exact k9 cl hp hm
     ·exact h.elim
    ·exact h.elim
  ·rename_i hw;obtain⟨p2,m2,s',k1,k2,k3,k4,k5,k6,k7,k8,k9⟩:=cn ops base M l (j+1) _ _ _ _ _ mp mm K (ak h) hF hD;refine⟨p2,m2,s',k1,k2,k3,k4,k5,k6,k7,k8,λcl hp hm=>?_⟩;simp only[dA,cO,hw];exact k9 cl hp hm
  ·exact h.elim
open Classical in
noncomputable def clB (p:fA) (m:E7):Cl:=λk ds h=>
 match k with
 | .fn g=>match lkM p g ds with|some d=>some (d,h)|none=>clW m (.fn g) ds h
 | .yf _=>none
theorem aX.byM (hm:P.follows .mixedOrders=true) (T:TOk P ti){nb id:Nat}{ops:Array Oper}{Q:Exit->St->Prop}{tm:List D}{n:Nat}{bs:List (Nat×Box)}(M:List Nat) (hok:(b6 ops&&decide (eE ops.toList []=M))=true)
  (h:AV P ti ops n M ops.toList 0 tm [(0,⟨n+ops.size,bs⟩)] [] [] [] [] [] (lQ n (Q .normal))):aX P nb id ops Q ⟨tm,⟨n,bs⟩⟩:=⟨.of_sw (by
 simp only[kC,decide_eq_true_eq] at hok;obtain⟨hok,hM⟩:=hok;subst hM;obtain⟨p2,m2,ds,k1,k2,k3,k4,k5,k6,k7,k8,k9⟩:=cn ops _ _ _ _ _ _ _ _ _ _ _ _ h (λ_ _ _ _ h=>by simp at h) (λe he=>by simp at he);rw[List.append_nil] at k2 k7
 have hC:gm P (clB p2 m2):=λk as h0 d h' hx=>by
  cases k with
  | yf id=>simp[clB] at hx
  | fn g=>
   simp only[clB] at hx;split at hx
   ·rename_i d1 he;simp only[kA,kB] at hx;obtain⟨rfl,rfl⟩:=hx;exact k3 _ (nF he) _
   ·simp only[clW] at hx;split at hx
    ·rename_i e he;have h1:=List.find?_some he;have h2:=List.mem_of_find?_eq_some he;simp only[decide_eq_true_eq] at h1;simp only[kA,kB] at hx;obtain⟨rfl,rfl,rfl⟩:=h1;obtain⟨rfl,rfl⟩:=hx;exact k4 e h2
    ·cases hx
 have hr:=k9 (clB p2 m2) (λe he h=>by simp only[clB,pW k2 he]) (λe he=>by
  have hno:lkM p2 e.1 e.2.1=none:=by
   cases hl:lkM p2 e.1 e.2.1 with
   | none=>rfl
   | some d=>exact absurd (List.mem_map.2 ⟨e,he,rfl⟩) (k7 _ (nF hl))
  simp only[clB,hno]
  exact um k6 he)
 unfold lQ at k1;split at k1
 ·rename_i t g r hh
  have hd:bp P ti (clB p2 m2) eqC ops ⟨tm,⟨n,bs⟩⟩=some ⟨ds.tm,dL n ds.pend g⟩:=by
   unfold bp;simp only[bump];rw[hr];simp only[hh]
  intro c a R hf hR;exact fO hm T hC mI hok hd hf λc' a' f1 g1 p1 d1=>hR _ _ c' a' (lD k1) f1 g1 p1 d1
 ·exact k1.elim)⟩
end
section
variable {α:Type}{c:α->List D}{sz:Nat}
theorem wz (hc:∀ x,(c x).length=sz):∀ {l:List α}{k:Nat}(_:k<l.length) (v:α),(l.set k v).flatMap c=(l.flatMap c).take (k*sz)++c v++(l.flatMap c).drop (k*sz+sz)
 | x::l,0,_,v=>by simp[List.drop_left' (hc x)]
 | x::l,k+1,h,v=>by
  have ih:=wz hc (l:=l) (k:=k) (by simpa using h) v;simp only[List.set_cons_succ,List.flatMap_cons,ih];have e:(k+1)*sz=(c x).length+k*sz:=by rw[hc,Nat.add_mul];omega
  rw[e,List.take_length_add_append,Nat.add_assoc,List.drop_length_add_append];simp
theorem Hi (hc:∀ x,(c x).length=sz){l:List α}{k:Nat}(h:k<l.length) (v:α):splice (l.flatMap c) (k*sz) (c v)=(l.set k v).flatMap c:=by
 rw[wz hc h,splice,hc]
theorem tk (hc:∀ x,(c x).length=sz){l:List α}{k i:Nat}(h:k<l.length) (hi:i<sz){d:D}{v:α}(e:(c l[k]).set i d=c v):splice (l.flatMap c) (k*sz+i) [d]=(l.set k v).flatMap c:=by
 have hlen:=aW hc l;have hle:k*sz+sz<=l.length*sz:=by rw[<-Nat.succ_mul];exact Nat.mul_le_mul_right _ h
 rw[jF (by rw[hlen];omega),wz hc h,<-e];have h3:((l.flatMap c).drop (k*sz)).take sz=c l[k]:=eW hc h
 have h4:l.flatMap c=(l.flatMap c).take (k*sz)++(c l[k]++(l.flatMap c).drop (k*sz+sz)):=by
  rw[<-h3,<-List.drop_drop,List.take_append_drop,List.take_append_drop]
 have hA:((l.flatMap c).take (k*sz)).length=k*sz:=by rw[List.length_take,hlen];omega
 have h5:(l.flatMap c).set (k*sz+i) d=((l.flatMap c).take (k*sz)++(c l[k]++(l.flatMap c).drop (k*sz+sz))).set (k*sz+i) d:=by rw[<-h4]
 rw[h5,List.set_append_right _ _ om,hA,Nat.add_sub_cancel_left,List.set_append_left _ _ (by rw[hc];exact hi),List.append_assoc]
theorem Get.flat (hc:∀ x,(c x).length=sz){l:List α}{off:Nat}(k:Nat){K:List D->Prop}(e:off=k*sz) (h:k<l.length) (go:K (c l[k])):Get (l.flatMap c) off sz K:=by
 subst e;have hle:k*sz+sz<=l.length*sz:=by rw[<-Nat.succ_mul];exact Nat.mul_le_mul_right _ h
 exact⟨by rw[aW hc];omega,by rw[eW hc h];exact go⟩
theorem Get.flat1 (hc:∀ x,(c x).length=sz){l:List α}{off:Nat}(k i:Nat){d:D}{K:List D->Prop}(e:off=k*sz+i) (h:k<l.length) (hd:(c l[k])[i]?=some d) (go:K [d]):Get (l.flatMap c) off 1 K:=by
 subst e;have hi:i<sz:=by have:=(List.getElem?_eq_some_iff.1 hd).1;rw[hc] at this;exact this
 have hle:k*sz+sz<=l.length*sz:=by rw[<-Nat.succ_mul];exact Nat.mul_le_mul_right _ h
 refine⟨by rw[aW hc];omega,?_⟩;have e1:(((l.flatMap c).drop (k*sz)).take sz)[i]?=some d:=by rw[eW hc h];exact hd
 rw[List.getElem?_take,if_pos hi,List.getElem?_drop] at e1;obtain⟨h2,e2⟩:=List.getElem?_eq_some_iff.1 e1;rw[kK h2,e2];exact go
theorem Put.flat (hc:∀ x,(c x).length=sz){l:List α}{off:Nat}(k:Nat) (v:α){K:List D->Prop}(e:off=k*sz) (h:k<l.length) (go:K ((l.set k v).flatMap c)):Put (l.flatMap c) off (c v) K:=by
 subst e;have hle:k*sz+sz<=l.length*sz:=by rw[<-Nat.succ_mul];exact Nat.mul_le_mul_right _ h
 exact⟨by rw[aW hc,hc];omega,by rw[Hi hc h];exact go⟩
theorem Put.flat1 (hc:∀ x,(c x).length=sz){l:List α}{off:Nat}(k i:Nat){d:D}(v:α){K:List D->Prop}(e:off=k*sz+i) (h:k<l.length) (hi:i<sz) (hv:(c l[k]).set i d=c v) (go:K ((l.set k v).flatMap c)):Put (l.flatMap c) off [d] K:=by
 subst e;have hle:k*sz+sz<=l.length*sz:=by rw[<-Nat.succ_mul];exact Nat.mul_le_mul_right _ h
 exact⟨by rw[aW hc];simp;omega,by rw[tk hc h hi hv];exact go⟩
theorem Rd.frzL {h:aB}{fz:Nat->Bool}{σ:Nat->Option Nat}(hlen:∀ x,(c x).length=sz) (hnb:∀ x,aK (c x)=true){l:List α}{id n cap es:Nat}{ex:Bool}{cs:List D}{bx:Bool}(hf:fz id=true) (hg:h.get id=some (.cells cs bx)) (hn:n=l.length) (he:es=sz) (hc:cs=l.flatMap c):Rd h fz σ (.sl id 0 n cap es ex) (lstS c l):=by
 subst hn;subst he;subst hc;refine .frz hf hg (by rw[aW hlen];omega) (.eqs ?_ (aG hnb _));rw[List.drop_zero,kE (by rw[aW hlen];exact kP _)]
theorem Pu.args {P:Program}{g:FuncId}{ds ds':List D}{d:D}(hp:Pu P g ds d) (h:∀ (c:Ctx) (vs:List Value),VS c ds' vs->VS c ds vs):Pu P g ds' d:=λh0=>
 ⟨(hp h0).1,λc vs R hvs=>(hp h0).2 c vs R (h c vs hvs)⟩
theorem Pu.empty {P:Program}{g:FuncId}{d:D}(hn:Pu P g [.zs false] d) (hs:Pu P g [.zs true] d):Pu P g [.imm 0 []] d:=λh0=>
 ⟨(hn h0).1,λc vs R hvs=>by
  obtain⟨y,ys,rfl,h1,h2⟩:=hvs.inv;simp only[V] at h1;obtain⟨a,cap,zs,rfl,_,_,_⟩:=h1;cases a with
  | none=>exact(hn h0).2 c _ R (VS.cons (by simp only[V];exact⟨none,cap,rfl,rfl⟩) h2)
  | some a=>exact(hs h0).2 c _ R (VS.cons (by simp only[V];exact⟨some a,cap,rfl,rfl⟩) h2)⟩
theorem xr {c:Ctx}{y:Value}(h:V c aO y):V c (.imm 0 []) y:=by
 simp only[V] at *;obtain⟨_,rfl⟩:=h;exact⟨none,0,[],rfl,kP _,VS.nil,.inl rfl⟩
end
end Go.Am
/-
 The abstract machine,part 61: rounds of loops over functions that may leave the loop.
-/
namespace Go.Am
variable [GT]
section
variable {P:Program}{ti:TI}{K:Exit->List D->aB->Prop}{s:St}
end
end Go.Am
/-
 The abstract machine,part 61: a contract at one heap whose end is numbered anew,or frozen,as between statements.
-/
namespace Go.Am
variable [GT]
theorem AC1.of_vf {P:Program}{ti:TI}(hm:P.follows .mixedOrders=true) (T:TOk P ti){g:FuncId}{fn:Func}{code:Code}{ds:List D}{n:Nat}{bs:List (Nat×Box)}{h':aB}{d:D}(hg:P.funcs[g]?=some fn) (hb:fn.body=some code) (hn:(fn.name == "runtime.NumGoroutine")=false)
  (H:gR P ti n code (λe s'=>(e=.normal∨e=.ret)∧∃ d0,gu ti fn s'=some d0∧Lf n ⟨[d0],s'.h⟩ ⟨tmp 1 [(0,d)],h'⟩) ⟨ds++List.replicate (fn.ntmps-ds.length) aM,⟨n,bs⟩⟩):AC1 P g ds ⟨n,bs⟩ d h':=by
 refine⟨by unfold dK;rw[hg];simp[hb,hn],λc vs R hvs=>?_⟩;refine(callsIn_wide (n:=0)).1 (callsIn_of_wp hg hb trivial ?_)
 have hfit:Fit c ⟨ds++List.replicate (fn.ntmps-ds.length) aM,⟨n,bs⟩⟩ { tmps:=vs.toArray++Array.replicate (fn.ntmps-vs.toArray.size) undef,defers:=[] }:=by
  refine⟨R,?_⟩;simp only[Array.toList_append,Array.toList_replicate,List.size_toArray];rw[hvs.length];exact hvs.append (VS.replicate V.undef _)
 refine(bK hm T code _ _ H).run c ⟨n,bs⟩ c _ _ ⟨rfl,λid hid=>R.fresh id hid,aZ.refl _ _,λ_ _=>rfl⟩ hfit λe s' c1 a' hq f1 b1 d1=>?_
 obtain⟨he,d0,hr,hl⟩:=hq;obtain⟨v,e1,v1⟩:=dN (P:=P) T f1 hr;obtain⟨c0,w0,f0,b0⟩:=hl.le c ⟨n,bs⟩ c1 { tmps:=#[v],defers:=[] } b1 ⟨f1.rel,VS.cons v1 VS.nil⟩
 have v0:V c0 d v:=by
  have:=f0.tmps
  obtain⟨y,ys,e2,h2,_⟩:=VS.inv (show VS c0 (d::[]) [v] from this);injection e2 with e2;subst e2;exact h2
 rcases he with rfl|rfl
 ·exact⟨d1,v,e1,v,c0,rfl,w0,v0,f0.rel,b0.grow,b0.φ⟩
 ·exact⟨d1,v,e1,v,c0,rfl,w0,v0,f0.rel,b0.grow,b0.φ⟩
end Go.Am
