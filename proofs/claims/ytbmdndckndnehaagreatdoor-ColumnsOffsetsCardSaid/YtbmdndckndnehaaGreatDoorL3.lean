/-
  Contracts of functions over data: layer 33 (the program): the property and the table of a kind, boundaries and ranges of a text.
-/
import Derived.Test.YtbmdndckndnehaaGreatDoorL0
import Derived.Test.YtbmdndckndnehaaGreatDoorHI
import Derived.Test.YtbmdndckndnehaaGreatDoorHE
import Derived.Test.YtbmdndckndnehaaGreatDoorD0
import Derived.Test.YtbmdndckndnehaaGreatDoorAmF
set_option linter.unusedSectionVars false
namespace Go.Proofs.YtbmdndckndnehaaGreatDoor
section
open Go Go.Am Classical
set_option maxRecDepth 100000
noncomputable instance gtI:GT:=gtR
abbrev prp0:D:=.agg [aJ,aJ]
abbrev tbl0:D:=.agg [aJ,aJ,aJ,aJ,aJ,aJ]
theorem yU {d:Db}{k:Nat}{t:Tbl}(hk:k=1∨k=2∨k=3∨k=4) (hl:∀ k,k<7->(prop d k).names.length<=30∧(prop d k).spans.length<=16) (he:@Pu gtR Tryz.prog 51 [dbD d] (i64 0)) (hT:@Pu gtR Tryz.prog 66 [i64 (k:Int)] (iM t)):@Pu gtR Tryz.prog 37 [dbD d,i64 (k:Int)] (.tup [bn (prop d (k+2)),iM t,i64 0]):=by
 letI:=gtR;have hp:∀ j:Nat,j<7->Pu Tryz.prog 53 [dbD d,i64 (j:Int)] (bn (prop d j)):=wL hl;have hp3:Pu Tryz.prog 53 [dbD d,i64 3] (bn (prop d 3)):=hp 3 om;have hp4:Pu Tryz.prog 53 [dbD d,i64 4] (bn (prop d 4)):=hp 4 om;have hp5:Pu Tryz.prog 53 [dbD d,i64 5] (bn (prop d 5)):=hp 5 om;have hp6:Pu Tryz.prog 53 [dbD d,i64 6] (bn (prop d 6)):=hp 6 om;rcases hk with rfl|rfl|rfl|rfl
 all_goals
  refine pv Tryz.func37 ?_;repeat' ((conv=>whnf);first|exact kQ|(refine bk ?_ ?_<;>intro _<;>try(exfalso;omega))|refine stq ?_|refine cp he ?_|refine cp hp3 ?_|refine cp hp4 ?_|refine cp hp5 ?_|refine cp hp6 ?_|refine cp hT ?_|fail)
  all_goals(conv=>whnf)
  exact⟨Rd.eqd rfl (by simp[aN,aE,aI,aP,aW,kl])⟩
theorem GL {d:Db}{k:Int}(ho:d.ok) (hs:SmD d) (hv:¬DbV d):@Pu gtR Tryz.prog 37 [dbD d,i64 k] (.tup [prp0,tbl0,i64 11]):=by
 letI:=gtR;obtain⟨e,he,hi⟩:=pD ho hs;have h0:e≠0:=λh=>hv (hi.1 h)
 refine pv Tryz.func37 ?_;repeat' ((conv=>whnf);first|exact kQ|(refine bk ?_ ?_<;>intro _<;>try(exfalso;omega))|refine stq ?_|refine cp he ?_|fail)
 all_goals(conv=>whnf)
 exact⟨Rd.eqd rfl rfl⟩
structure Good (d:Db):Prop where
 ok:d.ok
 sm:SmD d
 va:DbV d
theorem Good.chk {d:Db}(h:Good d):@Pu gtR Tryz.prog 51 [dbD d] (i64 0):=by
 obtain⟨e,he,hi⟩:=@pD gtR d h.ok h.sm;obtain rfl:=hi.2 h.va;exact he
theorem Good.data {d:Db}(h:Good d){k:Nat}{t:Tbl}(hk:k=1∨k=2∨k=3∨k=4) (hT:@Pu gtR Tryz.prog 66 [i64 (k:Int)] (iM t)):@Pu gtR Tryz.prog 37 [dbD d,i64 (k:Int)] (.tup [bn (prop d (k+2)),iM t,i64 0]):=yU hk (λk hk=>h.sm.2.1 k hk) h.chk hT
theorem ye {d:Db}{k:Int}{p:Prp}{t:Tbl}{text:List Int}{l:List Rng}(hd:@Pu gtR Tryz.prog 37 [dbD d,i64 k] (.tup [bn p,iM t,i64 0])) (hb:@Pu gtR Tryz.prog 44 [bn p,iM t,aD text] (a7 l)):@Pu gtR Tryz.prog 17 [dbD d,i64 k,aD text] (.tup [a7 l,i64 0]):=by
 letI:=gtR;refine pv Tryz.func17 ?_;repeat' ((conv=>whnf);first|exact kQ|(refine bk ?_ ?_<;>intro _<;>try(exfalso;omega))|refine stq ?_|refine cp hd ?_|refine cp hb ?_|fail)
 all_goals(conv=>whnf)
 exact⟨Rd.eqd rfl (by simp[aN,aE,ad])⟩
theorem Iu {d:Db}{k e:Int}{x:D}(hx:aN x=true) (h0:e≠0) (hd:@Pu gtR Tryz.prog 37 [dbD d,i64 k] (.tup [prp0,tbl0,i64 e])):@Pu gtR Tryz.prog 17 [dbD d,i64 k,x] (.tup [aJ,i64 e]):=by
 letI:=gtR;refine Pu.of_v aB T0 Tryz.func17 rfl rfl (by simp[aN,aE,aP,aW,az,ad,hx]) ?_;repeat' ((conv=>whnf);first|exact kQ|(refine bk ?_ ?_<;>intro _<;>try(exfalso;omega))|refine stq ?_|refine cp hd ?_|fail)
 all_goals(conv=>whnf)
 exact⟨Rd.eqd rfl rfl⟩
theorem Good.prt {d:Db}(h:Good d){k:Nat}{t:Tbl}{text:List Int}(hk:k=1∨k=2∨k=3∨k=4) (ht:t.ok) (hT:@Pu gtR Tryz.prog 66 [i64 (k:Int)] (iM t)) (hx:text.length<=1000):@Pu gtR Tryz.prog 17 [dbD d,i64 (k:Int),aD text] (.tup [a7 (kc (prop d (k+2)) t text),i64 0]):=by
 letI:=gtR;have hs:=h.sm.2.1 (k+2) om;exact ye (h.data hk hT) (JB (h.ok.prop (k+2)) ht om om hx)
theorem BJ {p:Prp}{t:Tbl}{text:List Int}(hv:TV t):Chn 0 (kc p t text) text.length:=by
 have hA:(j7 p t text).length=text.length+1:=by rw[j7,if_pos hv,dW];simp[ak]
 rw[kc,if_pos hv];exact wU (Bq hA)
end
section
open Go Go.Am Classical
set_option maxRecDepth 100000
theorem xL5.rdX {p:Prop}(h:p:=by first|exact Rd.yf rfl|exact Rd.int om|exact Rd.int (by first|(have:=@pB P 0;omega;done)|fail)|fail):p:=h
theorem xL5.rbX {p:Prop}(h:p:=by first|exact Rb.dfr|exact rbT|exact Rb.cells (Rds.same (cR _)) rfl|exact rbR|exact Rb.cells (Rds.eqs (bufR_0 text P) (p9 _ _ _)) rfl|exact Rb.cells (Rds.eqs (Ds hc hk om (kE sim)) (p9 _ _ _)) rfl|fail):p:=h
open xL5
theorem eT [GT] {h:aA}{fz:Nat->Bool}{σ:Nat->Option Nat}{id n cap:Nat}{b:List Int}{cs:List D}{ex bx:Bool}(hf:fz id=true) (hg:h.get id=some (.cells cs bx)) (ec:cs=b.map i64) (e:n=b.length):Rd h fz σ (.sl id 0 n cap 1 ex) (aD b):=by
 subst e;subst ec;refine .frz hf hg si (.eqs ?_ (aS (λ_=>rfl) _));rw[List.drop_zero,kE si]
theorem gE:∀ {P:List Rng}{s e:Int},Chn s P e->(P.length:Int)<=e-s
 | [],s,e,h=>by rw[show s=e from h];simp
 | r::P,s,e,h=>by have:=gE h.2.2;have:=h.2.1;have:=h.1;simp only[kO];omega
theorem rS [GT] {n m:Nat}{l:List (Nat×Box)}(hn:Nat.ble n m=true):Sub ⟨n,l⟩ ⟨m,l⟩:=⟨kD hn,λ_ _ h=>h⟩
noncomputable abbrev JX (d:Db) (P:List Rng) (text:List Int) (n:Int) (st:LoopState) (pe:Option Code):Box:=.loop st pe ([dbD d,aD text,i64 n,.ptr 0 0,aM,.ptr 1 0,aJ,i64 0,a7 P,i64 0,.ptr 14 0,aM,aM,.tup [a7 P,i64 0],dbD d,aD text,.tup [a7 P,i64 0],a7 P,i64 0,i64 0,boo false,aM,aD text,a7 P,.fn (.func 98) [] [.ptr 20 0,.ptr 19 0]]++List.replicate 15 aM) [25] (fnA Tryz.f36) (fnB Tryz.f36)
theorem rbT [GT] {h:aA}{fz:Nat->Bool}{σl:List (Nat×Nat)}{d:Db}{P:List Rng}{text:List Int}{n:Int}{st:LoopState}{pe:Option Code}:Rb h fz (sgm 23 σl) (JX d P text n st pe) (JX d P text n st pe):=
 .loop (by
  (repeat(first|exact Rds.nil|refine Rds.cons (by first|exact Rd.same rfl|exact Rd.ptr rfl|exact Rd.fn .nil (.cons (.ptr rfl) (.cons (.ptr rfl) .nil))|exact Rd.same (by simp[aN,aE,aI,aP,aW,az,ad])|fail) ?_|fail))
  done)
abbrev pce (text:List Int) (lo hi:Int):List Int:=(text.drop lo.toNat).take (hi-lo).toNat
def Ac (text:List Int) (P:List Rng) (k:Nat):List D:=List.replicate (text.length-(b6 0 P k).toNat) (i64 0)++(qT text (P.take k)).map i64
theorem um:∀ {P:List Rng}{s:Int}(k:Nat),Chn s (P.take k) (b6 s P k)∨¬∃ e,Chn s P e
 | [],s,k=>by cases k<;>exact .inl rfl
 | r::P,s,0=>.inl rfl
 | r::P,s,k+1=>by
  by_cases h:∃ e,Chn s (r::P) e
  ·obtain⟨e,h⟩:=h;rcases um (P:=P) (s:=r.hi) k with h1|h1
   ·exact .inl ⟨h.1,h.2.1,h1⟩
   ·exact absurd ⟨e,h.2.2⟩ h1
  ·exact .inr h
theorem yb {P:List Rng}{s e:Int}(h:Chn s P e) (k:Nat):Chn s (P.take k) (b6 s P k):=(um k).resolve_right λhn=>hn ⟨e,h⟩
theorem Ds {text:List Int}{P:List Rng}(hc:Chn 0 P text.length){k:Nat}(hk:k<P.length){o:Nat}{xs:List D}(ho:(o:Int)=text.length-P[k].hi) (hxs:xs=(pce text P[k].lo P[k].hi).map i64):splice (Ac text P k) o xs=Ac text P (k+1):=by
 have h1:=dG k hc;have h2:=lK hk hc;have h3:=gz (s:=0) hk;have h4:=xG (text:=text) (yb hc k) (Int.le_refl _) h1.2;have hl:xs.length=(P[k].hi-P[k].lo).toNat:=by rw[hxs];simp;omega
 have e1:P.take (k+1)=P.take k++[P[k]]:=by rw[List.take_add_one,List.getElem?_eq_getElem hk];rfl
 unfold splice Ac;rw[e1,t7,List.map_append,hl,h3,hxs];have e2:text.length-(b6 0 P k).toNat=o+(P[k].hi-P[k].lo).toNat:=by omega
 have e3:text.length-P[k].hi.toNat=o:=by omega
 rw[e2,e3,List.take_append_of_le_length si,List.drop_append_of_le_length si];simp
theorem bufR_0 [GT] (text:List Int) (P:List Rng):cI [i64 0] text.length=Ac text P 0:=by
 rw[dY];have e:b6 0 P 0=0:=by cases P<;>rfl
 simp[Ac,e,qT]
theorem CP [GT] (m:Nat):0+m*1<=(cI [i64 0] m).length:=by rw[dY];simp
noncomputable abbrev JY (d:Db) (P:List Rng) (text:List Int):Box:=.loop .ready none ([dbD d,aD text,.ptr 0 0,aM,aJ,i64 0,a7 P,i64 0,.ptr 16 0,.ptr 20 0,aM,.tup [a7 P,i64 0],dbD d,aD text,.tup [a7 P,i64 0],a7 P,i64 0,i64 0,boo false,aM,aD text,i64 text.length,.sl 15 0 text.length text.length 1 true,.sl 15 0 text.length text.length 1 true,i64 text.length,aD text,a7 P,.fn (.func 98) [] [.ptr 26 0,.ptr 25 0]]++List.replicate 11 aM) [28] (fnA Tryz.f34) (fnB Tryz.f34)
theorem rbR [GT] {h:aA}{fz:Nat->Bool}{σl:List (Nat×Nat)}{d:Db}{P:List Rng}{text:List Int}:Rb h fz (sgm 29 σl) (JY d P text) (JY d P text):=
 .loop (by
  (repeat(first|exact Rds.nil|refine Rds.cons (by first|exact Rd.same rfl|exact Rd.ptr rfl|exact Rd.fn .nil (.cons (.ptr rfl) (.cons (.ptr rfl) .nil))|exact Rd.sl' rfl rfl rfl|exact Rd.same (by simp[aN,aE,aI,aP,aW,az,ad])|fail) ?_|fail))
  done)
theorem p9 [GT] (text:List Int) (P:List Rng) (k:Nat):aE (Ac text P k)=true:=by
 unfold Ac;rw[show List.replicate (text.length-(b6 0 P k).toNat) (i64 0)++(qT text (P.take k)).map i64=(List.replicate (text.length-(b6 0 P k).toNat) (0:Int)++qT text (P.take k)).map i64 by simp];exact aS (λ_=>rfl) _
end
end Go.Proofs.YtbmdndckndnehaaGreatDoor
