/-
  Contracts of functions over data: layer 33 (the program): the property and the table of a kind, boundaries and ranges of a text.
-/
import Derived.Test.YtbmdndckndnehaaGreatDoorL0
import Derived.Test.YtbmdndckndnehaaGreatDoorHI
import Derived.Test.YtbmdndckndnehaaGreatDoorHE
import Derived.Test.YtbmdndckndnehaaGreatDoorD0
import Derived.Test.YtbmdndckndnehaaGreatDoorAmF
set_option linter.unusedSectionVars false
namespace Go.Proofs.YtbmdndckndnehaaGreatDoor
section
open Go Go.Am Classical
set_option maxRecDepth 100000
noncomputable instance gtI:GT:=gtR
theorem Hz {d:Db}{text:List Int}(ho:d.ok):@Pu gtR Tryz.prog 12 [dbD d,aF text] (boo (decide (SmD d∧text.length<=12))):=by
 letI:=gtR;have h:=Ej ho;refine pv Tryz.func12 ?_;repeat' ((conv=>whnf);first|exact kQ|(refine bk ?_ ?_<;>intro _<;>try(exfalso;omega))|refine stq ?_|refine cd h (λ_=>?_) (λ_=>?_)|fail)
 all_goals(conv=>whnf)
 all_goals first
  | exact aC.yes ⟨by assumption,by omega⟩
  | exact aC.no (λhc=>by have:=hc.2;omega)
  | exact aC.no (λhc=>by have:=hc.1;contradiction)
theorem nH {d:Db}{text:List Int}(ho:d.ok) (hs:SmD d) (h:text.length<=12):@Pu gtR Tryz.prog 12 [dbD d,aF text] (boo true):=by
 have:=Hz (text:=text) ho
 rwa [decide_eq_true ⟨hs,h⟩] at this
theorem yu {d:Db}{text:List Int}(ho:d.ok) (h:¬(SmD d∧text.length<=12)):@Pu gtR Tryz.prog 12 [dbD d,aF text] (boo false):=by
 have:=Hz (text:=text) ho
 rwa [decide_eq_false h] at this
abbrev yQ:D:=.agg [aI,aI]
abbrev xx:D:=.agg [aI,aI,aI,aI,aI,aI]
theorem w9 {d:Db}{k:Nat}{t:Tbl}(hk:k=1∨k=2∨k=3∨k=4) (hl:∀ k,k<7->(prop d k).names.length<=30∧(prop d k).spans.length<=16) (he:@Pu gtR Tryz.prog 51 [dbD d] (i64 0)) (hT:@Pu gtR Tryz.prog 66 [i64 (k:Int)] (dU t)):@Pu gtR Tryz.prog 37 [dbD d,i64 (k:Int)] (.tup [cm (prop d (k+2)),dU t,i64 0]):=by
 letI:=gtR;have hp:∀ j:Nat,j<7->Pu Tryz.prog 53 [dbD d,i64 (j:Int)] (cm (prop d j)):=G8 hl;have hp3:Pu Tryz.prog 53 [dbD d,i64 3] (cm (prop d 3)):=hp 3 om;have hp4:Pu Tryz.prog 53 [dbD d,i64 4] (cm (prop d 4)):=hp 4 om;have hp5:Pu Tryz.prog 53 [dbD d,i64 5] (cm (prop d 5)):=hp 5 om;have hp6:Pu Tryz.prog 53 [dbD d,i64 6] (cm (prop d 6)):=hp 6 om;rcases hk with rfl|rfl|rfl|rfl
 all_goals
  refine pv Tryz.func37 ?_;repeat' ((conv=>whnf);first|exact kQ|(refine bk ?_ ?_<;>intro _<;>try(exfalso;omega))|refine stq ?_|refine cp he ?_|refine cp hp3 ?_|refine cp hp4 ?_|refine cp hp5 ?_|refine cp hp6 ?_|refine cp hT ?_|fail)
  all_goals(conv=>whnf)
  exact⟨Rd.eqd rfl (by simp[aK,aD,aM,aW,ak,d7])⟩
theorem rW {d:Db}{k:Int}(ho:d.ok) (hs:SmD d) (hv:¬DbV d):@Pu gtR Tryz.prog 37 [dbD d,i64 k] (.tup [yQ,xx,i64 11]):=by
 letI:=gtR;obtain⟨e,he,hi⟩:=tY ho hs;have h0:e≠0:=λh=>hv (hi.1 h)
 refine pv Tryz.func37 ?_;repeat' ((conv=>whnf);first|exact kQ|(refine bk ?_ ?_<;>intro _<;>try(exfalso;omega))|refine stq ?_|refine cp he ?_|fail)
 all_goals(conv=>whnf)
 exact⟨Rd.eqd rfl rfl⟩
theorem oD {d:Db}{k:Int}(he:@Pu gtR Tryz.prog 51 [dbD d] (i64 0)) (hk:¬(1<=k∧k<=4)):@Pu gtR Tryz.prog 37 [dbD d,i64 k] (.tup [yQ,xx,i64 8]):=by
 letI:=gtR;refine pv Tryz.func37 ?_;repeat' ((conv=>whnf);first|exact kQ|(refine bk ?_ ?_<;>intro _<;>try(exfalso;omega))|refine stq ?_|refine cp he ?_|fail)
 all_goals(conv=>whnf)
 exact⟨Rd.eqd rfl rfl⟩
structure Good (d:Db):Prop where
 ok:d.ok
 sm:SmD d
 va:DbV d
theorem Good.chk {d:Db}(h:Good d):@Pu gtR Tryz.prog 51 [dbD d] (i64 0):=by
 obtain⟨e,he,hi⟩:=@tY gtR d h.ok h.sm;obtain rfl:=hi.2 h.va;exact he
theorem Good.data {d:Db}(h:Good d){k:Nat}{t:Tbl}(hk:k=1∨k=2∨k=3∨k=4) (hT:@Pu gtR Tryz.prog 66 [i64 (k:Int)] (dU t)):@Pu gtR Tryz.prog 37 [dbD d,i64 (k:Int)] (.tup [cm (prop d (k+2)),dU t,i64 0]):=w9 hk (λk hk=>h.sm.2.1 k hk) h.chk hT
theorem E9 {d:Db}{k:Int}{p:Prp}{t:Tbl}{text:List Int}{l:List Int}(hd:@Pu gtR Tryz.prog 37 [dbD d,i64 k] (.tup [cm p,dU t,i64 0])) (hb:@Pu gtR Tryz.prog 38 [cm p,dU t,aF text] (aF l)):@Pu gtR Tryz.prog 14 [dbD d,i64 k,aF text] (.tup [aF l,i64 0]):=by
 letI:=gtR;refine pv Tryz.func14 ?_;repeat' ((conv=>whnf);first|exact kQ|(refine bk ?_ ?_<;>intro _<;>try(exfalso;omega))|refine stq ?_|refine cp hd ?_|refine cp hb ?_|fail)
 all_goals(conv=>whnf)
 exact⟨Rd.eqd rfl (by simp[aK,aD,aM])⟩
theorem Ag {d:Db}{k e:Int}{x:D}(hx:aK x=true) (h0:e≠0) (hd:@Pu gtR Tryz.prog 37 [dbD d,i64 k] (.tup [yQ,xx,i64 e])):@Pu gtR Tryz.prog 14 [dbD d,i64 k,x] (.tup [aI,i64 e]):=by
 letI:=gtR;refine Pu.of_v aB T0 Tryz.func14 rfl rfl (by simp[aK,aD,aW,ak,b8,ax,hx]) ?_;repeat' ((conv=>whnf);first|exact kQ|(refine bk ?_ ?_<;>intro _<;>try(exfalso;omega))|refine stq ?_|refine cp hd ?_|fail)
 all_goals(conv=>whnf)
 exact⟨Rd.eqd rfl rfl⟩
theorem xI {d:Db}{k:Int}{p:Prp}{t:Tbl}{text:List Int}{l:List Rng}(hd:@Pu gtR Tryz.prog 37 [dbD d,i64 k] (.tup [cm p,dU t,i64 0])) (hb:@Pu gtR Tryz.prog 44 [cm p,dU t,aF text] (ay l)):@Pu gtR Tryz.prog 17 [dbD d,i64 k,aF text] (.tup [ay l,i64 0]):=by
 letI:=gtR;refine pv Tryz.func17 ?_;repeat' ((conv=>whnf);first|exact kQ|(refine bk ?_ ?_<;>intro _<;>try(exfalso;omega))|refine stq ?_|refine cp hd ?_|refine cp hb ?_|fail)
 all_goals(conv=>whnf)
 exact⟨Rd.eqd rfl (by simp[aK,aD,ax])⟩
theorem HI {d:Db}{k e:Int}{x:D}(hx:aK x=true) (h0:e≠0) (hd:@Pu gtR Tryz.prog 37 [dbD d,i64 k] (.tup [yQ,xx,i64 e])):@Pu gtR Tryz.prog 17 [dbD d,i64 k,x] (.tup [aI,i64 e]):=by
 letI:=gtR;refine Pu.of_v aB T0 Tryz.func17 rfl rfl (by simp[aK,aD,aW,ak,b8,ax,hx]) ?_;repeat' ((conv=>whnf);first|exact kQ|(refine bk ?_ ?_<;>intro _<;>try(exfalso;omega))|refine stq ?_|refine cp hd ?_|fail)
 all_goals(conv=>whnf)
 exact⟨Rd.eqd rfl rfl⟩
theorem Good.prt {d:Db}(h:Good d){k:Nat}{t:Tbl}{text:List Int}(hk:k=1∨k=2∨k=3∨k=4) (ht:t.ok) (hT:@Pu gtR Tryz.prog 66 [i64 (k:Int)] (dU t)) (hx:text.length<=1000):@Pu gtR Tryz.prog 17 [dbD d,i64 (k:Int),aF text] (.tup [ay (l8 (prop d (k+2)) t text),i64 0]):=by
 letI:=gtR;have hs:=h.sm.2.1 (k+2) om;exact xI (h.data hk hT) (At (h.ok.prop (k+2)) ht om om hx)
theorem uU {p:Prp}{t:Tbl}{text:List Int}(hv:TV t):Chn 0 (l8 p t text) text.length:=by
 have hA:(jm p t text).length=text.length+1:=by rw[jm,if_pos hv,dQ];simp[ao]
 rw[l8,if_pos hv];exact vD (G6 hA)
end
section
open Go Go.Am Classical
set_option maxRecDepth 100000
theorem xL5.rdX {p:Prop}(h:p:=by first|exact Rd.yf rfl|exact Rd.int om|exact Rd.int (by first|(have:=@B5 P 0;omega;done)|fail)|fail):p:=h
theorem xL5.rbX {p:Prop}(h:p:=by first|exact Rb.dfr|exact rbT|exact Rb.cells (Rds.same (dH _)) rfl|exact rbR|exact Rb.cells (Rds.eqs (bufR_0 text P) (oq _ _ _)) rfl|exact Rb.cells (Rds.eqs (CI hc hk om (kE sim)) (oq _ _ _)) rfl|fail):p:=h
open xL5
theorem rH [GT] {h:aA}{fz:Nat->Bool}{σ:Nat->Option Nat}{id n cap:Nat}{b:List Int}{cs:List D}{ex bx:Bool}(hf:fz id=true) (hg:h.get id=some (.cells cs bx)) (ec:cs=b.map i64) (e:n=b.length):Rd h fz σ (.sl id 0 n cap 1 ex) (aF b):=by
 subst e;subst ec;refine .frz hf hg si (.eqs ?_ (aT (λ_=>rfl) _));rw[List.drop_zero,kE si]
theorem jR:∀ {P:List Rng}{s e:Int},Chn s P e->(P.length:Int)<=e-s
 | [],s,e,h=>by rw[show s=e from h];simp
 | r::P,s,e,h=>by have:=jR h.2.2;have:=h.2.1;have:=h.1;simp only[kO];omega
theorem Cv [GT] {n m j:Nat}{b:Box}{l:List (Nat×Box)}(hn:Nat.ble n m=true) (hf:aU l j=none):Sub ⟨n,(j,b)::l⟩ ⟨m,l⟩:=⟨kD hn,λid box hg=>by
 simp only[aA.get,aU] at hg ⊢;split
 ·rename_i e;subst e;rw[hf] at hg;cases hg
 ·exact hg⟩
theorem vZ [GT] {n m:Nat}{l:List (Nat×Box)}(hn:Nat.ble n m=true):Sub ⟨n,l⟩ ⟨m,l⟩:=⟨kD hn,λ_ _ h=>h⟩
theorem v9 {text:List Int}{P:List Rng}:@Pk gtR Tryz.prog 65 [aF text,ay P] 2 (λn=>.fn (.func 98) [] [.ptr (n+1) 0,.ptr n 0]) (λn=>[(n,.cells [aF text] true),(n+1,.cells [ay P] true)]):=by
 letI:=gtR;refine Pk.of_v aB T0 Tryz.func65 rfl rfl (by simp[aD,aM,ax]) ?_;repeat' ((conv=>whnf);first|exact kQ|(refine bk ?_ ?_<;>intro _<;>try(exfalso;omega))|refine stq ?_)
 all_goals(conv=>whnf)
 exact⟨[0,1],rfl,⟨by simp,λn=>.fn .nil (.cons (.ptr (by simp[sgn])) (.cons (.ptr (by simp[sgn])) .nil)),λn=>.cons (id:=0) (by simp[sgn]) rfl rfl (.cells (.cons (.same (aM text)) .nil) rfl) (.cons (id:=1) (by simp[sgn]) rfl rfl (.cells (.cons (.same (ax P)) .nil) rfl) .nil)⟩⟩
noncomputable abbrev wW (d:Db) (P:List Rng) (text:List Int) (n:Int) (st:LoopState) (pe:Option Code):Box:=.loop st pe ([dbD d,aF text,i64 n,.ptr 0 0,aN,.ptr 1 0,aI,i64 0,ay P,i64 0,.ptr 14 0,aN,aN,.tup [ay P,i64 0],dbD d,aF text,.tup [ay P,i64 0],ay P,i64 0,i64 0,boo false,aN,aF text,ay P,.fn (.func 98) [] [.ptr 20 0,.ptr 19 0]]++List.replicate 15 aN) [25] (fnA Tryz.f36) (fnB Tryz.f36)
abbrev DP (d:Db) (P:List Rng) (text:List Int) (s m:Int):List (Nat×Box):=[(21,.dfr),(19,.cells [aF text] true),(20,.cells [ay P] true),(14,.cells [i64 s] true),(1,.cells [i64 m] true),(0,.cells (dbC d) true)]
theorem rbT [GT] {h:aA}{fz:Nat->Bool}{σl:List (Nat×Nat)}{d:Db}{P:List Rng}{text:List Int}{n:Int}{st:LoopState}{pe:Option Code}:Rb h fz (sgm 23 σl) (wW d P text n st pe) (wW d P text n st pe):=
 .loop (by
  (repeat(first|exact Rds.nil|refine Rds.cons (by first|exact Rd.same rfl|exact Rd.ptr rfl|exact Rd.fn .nil (.cons (.ptr rfl) (.cons (.ptr rfl) .nil))|exact Rd.same (by simp[aK,aD,aM,aW,ak,b8,ax])|fail) ?_|fail))
  done)
theorem De {d:Db}{P:List Rng}{text:List Int}{n:Int}{st:LoopState}{pe:Option Code}(hc:Chn 0 P text.length) (hx:text.length<=1000) (hn:n<=9223372036854775807) (hsp:(P.length<=n.toNat∧st=.ready∧pe=none)∨(n.toNat<P.length∧st=.done∧pe=some (.exit 0))):@AC1 gtR Tryz.prog 98 [.yf 22,.ptr 20 0,.ptr 19 0] ⟨23,(22,wW d P text n .ready none)::DP d P text 0 n⟩ (.tup []) ⟨80,(22,wW d P text n st pe)::DP d P text (fW 0 P n.toNat) (n-(min n.toNat P.length:Nat))⟩:=by
 letI:=gtR;have hl:=jR hc;refine AC1.of_vs aB T0 Tryz.func98 rfl rfl ?_;repeat' ((conv=>whnf);first|exact kQ|(refine bk ?_ ?_<;>intro _<;>try(exfalso;omega))|refine stq ?_)
 all_goals(conv=>whnf)
 refine aH.by aB T0 (λ(k:Nat)=>⟨tmp 22 [(0,.yf 22),(1,.ptr 20 0),(2,.ptr 19 0),(6,ay P),(7,i64 P.length),(8,i64 (k:Int))],⟨23,(22,wW d P text n .ready none)::DP d P text (fW 0 P k) (n-(k:Int))⟩⟩)
  (λk=>k<=P.length∧k<=n.toNat) (λk=>P.length-k) 0 ⟨by omega,by omega⟩ ?_ ?_
 ·exact lq0
 intro k ⟨h3,h4⟩;by_cases hk:k<P.length
 ·have hat:=mP hk hc;have hge:=nJ (s:=0) hk;have hle:=(fj k hc).1;by_cases hb:n<=(k:Int)
  ·repeat' ((conv=>whnf);first|exact kQ|(refine bk ?_ ?_<;>intro _<;>try(exfalso;omega))|refine stq ?_|refine Chk.mk ⟨by omega,by omega,by omega,(by simp:(text.map i64).length=text.length*1)⟩ ?_|(apply Yll.sx _ rfl rfl (SvX.region T0 ?_);rotate_left)|refine SvX.block ?_|refine SvX.seq ?_|refine SvX.region T0 ?_|refine SvX.yes rfl ?_|refine SvX.no rfl ?_|refine SvX.skip ?_|refine SvX.exit ?_|exact⟨rfl,rfl,rfl⟩|refine⟨rfl,rfl,?_⟩|fail)
   all_goals(conv=>whnf)
   rcases hsp with⟨h5,_,_⟩|⟨_,rfl,rfl⟩
   ·exfalso;omega
   have e1:n.toNat=k:=by omega
   rw[e1,show min k P.length=k by omega];exact⟨Or.inr rfl,rfl,Cv rfl rfl⟩
  ·repeat' ((conv=>whnf);first|exact kQ|(refine bk ?_ ?_<;>intro _<;>try(exfalso;omega))|refine stq ?_|refine Chk.mk ⟨by omega,by omega,by omega,(by simp:(text.map i64).length=text.length*1)⟩ ?_|(apply Yll.sx _ rfl rfl (SvX.region T0 ?_);rotate_left)|refine SvX.block ?_|refine SvX.seq ?_|refine SvX.region T0 ?_|refine SvX.yes rfl ?_|refine SvX.no rfl ?_|refine SvX.skip ?_|refine SvX.exit ?_|exact⟨rfl,rfl,rfl⟩|refine⟨rfl,rfl,?_⟩|fail)
   all_goals(conv=>whnf)
   refine⟨k+1,⟨by omega,by omega⟩,by omega,?_⟩;exact lq0
 ·rcases hsp with⟨h5,rfl,rfl⟩|⟨h5,_,_⟩
  ·have e1:k=P.length:=by omega
   rw[nK hc h5,show min n.toNat P.length=k by omega,<-nK hc (k:=k) om];repeat' ((conv=>whnf);first|exact kQ|(refine bk ?_ ?_<;>intro _<;>try(exfalso;omega))|refine stq ?_|fail)
   all_goals(conv=>whnf)
   exact⟨Or.inl rfl,rfl,vZ rfl⟩
  ·exfalso;omega
abbrev pce (text:List Int) (lo hi:Int):List Int:=(text.drop lo.toNat).take (hi-lo).toNat
theorem Fo [GT] {h:aA}{text:List Int}{lo hi:Int}(h0:0<=lo) (h1:lo<=hi) (h2:hi<=text.length):bt h 1 (.imm (hi-lo).toNat (((text.map i64).drop (lo.toNat*1)).take ((hi-lo).toNat*1)))=some ((hi-lo).toNat,(pce text lo hi).map i64):=by
 simp only[bt];rw[if_pos (by simp;omega)];simp[List.map_take,List.map_drop]
def pP (text:List Int) (P:List Rng) (k:Nat):List D:=List.replicate (text.length-(fW 0 P k).toNat) (i64 0)++(lv text (P.take k)).map i64
theorem tV:∀ {P:List Rng}{s:Int}(k:Nat),Chn s (P.take k) (fW s P k)∨¬∃ e,Chn s P e
 | [],s,k=>by cases k<;>exact .inl rfl
 | r::P,s,0=>.inl rfl
 | r::P,s,k+1=>by
  by_cases h:∃ e,Chn s (r::P) e
  ·obtain⟨e,h⟩:=h;rcases tV (P:=P) (s:=r.hi) k with h1|h1
   ·exact .inl ⟨h.1,h.2.1,h1⟩
   ·exact absurd ⟨e,h.2.2⟩ h1
  ·exact .inr h
theorem xF {P:List Rng}{s e:Int}(h:Chn s P e) (k:Nat):Chn s (P.take k) (fW s P k):=(tV k).resolve_right λhn=>hn ⟨e,h⟩
theorem FB {text:List Int}{P:List Rng}(hc:Chn 0 P text.length) (k:Nat):(pP text P k).length=text.length:=by
 have h1:=fj k hc;have h2:=mf (text:=text) (xF hc k) (Int.le_refl _) h1.2;simp only[pP,kG,List.length_replicate,List.length_map];omega
theorem CI {text:List Int}{P:List Rng}(hc:Chn 0 P text.length){k:Nat}(hk:k<P.length){o:Nat}{xs:List D}(ho:(o:Int)=text.length-P[k].hi) (hxs:xs=(pce text P[k].lo P[k].hi).map i64):splice (pP text P k) o xs=pP text P (k+1):=by
 have h1:=fj k hc;have h2:=mP hk hc;have h3:=nJ (s:=0) hk;have h4:=mf (text:=text) (xF hc k) (Int.le_refl _) h1.2;have hl:xs.length=(P[k].hi-P[k].lo).toNat:=by rw[hxs];simp;omega
 have e1:P.take (k+1)=P.take k++[P[k]]:=by rw[List.take_add_one,List.getElem?_eq_getElem hk];rfl
 unfold splice pP;rw[e1,sj,List.map_append,hl,h3,hxs];have e2:text.length-(fW 0 P k).toNat=o+(P[k].hi-P[k].lo).toNat:=by omega
 have e3:text.length-P[k].hi.toNat=o:=by omega
 rw[e2,e3,List.take_append_of_le_length si,List.drop_append_of_le_length si];simp
theorem FC {text:List Int}{P:List Rng}(hc:Chn 0 P text.length):pP text P P.length=(lv text P).map i64:=by
 have h1:=nK hc (kP _);unfold pP;rw[h1,List.take_length];simp
theorem bufR_0 [GT] (text:List Int) (P:List Rng):cU [i64 0] text.length=pP text P 0:=by
 rw[fm];have e:fW 0 P 0=0:=by cases P<;>rfl
 simp[pP,e,lv]
theorem Az [GT] (m:Nat):0+m*1<=(cU [i64 0] m).length:=by rw[fm];simp
theorem CA [GT] {text:List Int}{m:Nat}(h:m<=text.length):splice (cU [i64 0] m) 0 ((text.map i64).take (min text.length m*1))=(text.take m).map i64:=by
 unfold splice;rw[fm,Nat.mul_one,Nat.min_eq_right h,List.take_zero,List.drop_of_length_le (by simp;omega)];simp[List.map_take]
noncomputable abbrev wX (d:Db) (P:List Rng) (text:List Int):Box:=.loop .ready none ([dbD d,aF text,.ptr 0 0,aN,aI,i64 0,ay P,i64 0,.ptr 16 0,.ptr 20 0,aN,.tup [ay P,i64 0],dbD d,aF text,.tup [ay P,i64 0],ay P,i64 0,i64 0,boo false,aN,aF text,i64 text.length,.sl 15 0 text.length text.length 1 true,.sl 15 0 text.length text.length 1 true,i64 text.length,aF text,ay P,.fn (.func 98) [] [.ptr 26 0,.ptr 25 0]]++List.replicate 11 aN) [28] (fnA Tryz.f34) (fnB Tryz.f34)
abbrev Hm (d:Db) (P:List Rng) (text:List Int) (k:Nat):List (Nat×Box):=[(27,.dfr),(25,.cells [aF text] true),(26,.cells [ay P] true),(20,.cells [i64 (text.length-fW 0 P k)] true),(16,.cells [.sl 15 0 text.length text.length 1 true] true),(15,.cells (pP text P k) true),(0,.cells (dbC d) true)]
theorem rbR [GT] {h:aA}{fz:Nat->Bool}{σl:List (Nat×Nat)}{d:Db}{P:List Rng}{text:List Int}:Rb h fz (sgm 29 σl) (wX d P text) (wX d P text):=
 .loop (by
  (repeat(first|exact Rds.nil|refine Rds.cons (by first|exact Rd.same rfl|exact Rd.ptr rfl|exact Rd.fn .nil (.cons (.ptr rfl) (.cons (.ptr rfl) .nil))|exact Rd.sl' rfl rfl rfl|exact Rd.same (by simp[aK,aD,aM,aW,ak,b8,ax])|fail) ?_|fail))
  done)
theorem oq [GT] (text:List Int) (P:List Rng) (k:Nat):aD (pP text P k)=true:=by
 unfold pP;rw[show List.replicate (text.length-(fW 0 P k).toNat) (i64 0)++(lv text (P.take k)).map i64=(List.replicate (text.length-(fW 0 P k).toNat) (0:Int)++lv text (P.take k)).map i64 by simp];exact aT (λ_=>rfl) _
theorem Df {d:Db}{P:List Rng}{text:List Int}(hc:Chn 0 P text.length) (hx:text.length<=1000):@AC1 gtR Tryz.prog 98 [.yf 28,.ptr 26 0,.ptr 25 0] ⟨29,(28,wX d P text)::[(27,.dfr),(25,.cells [aF text] true),(26,.cells [ay P] true),(20,.cells [i64 text.length] true),(16,.cells [.sl 15 0 text.length text.length 1 true] true),(15,.cells (cU [i64 0] text.length) true),(0,.cells (dbC d) true)]⟩ (.tup []) ⟨80,(28,wX d P text)::Hm d P text P.length⟩:=by
 letI:=gtR;have hl:=jR hc;refine AC1.of_vs aB T0 Tryz.func98 rfl rfl ?_;repeat' ((conv=>whnf);first|exact kQ|(refine bk ?_ ?_<;>intro _<;>try(exfalso;omega))|refine stq ?_)
 all_goals(conv=>whnf)
 refine aH.by aB T0 (λ(k:Nat)=>⟨tmp 22 [(0,.yf 28),(1,.ptr 26 0),(2,.ptr 25 0),(6,ay P),(7,i64 P.length),(8,i64 (k:Int))],⟨29,(28,wX d P text)::Hm d P text k⟩⟩)
  (λk=>k<=P.length) (λk=>P.length-k) 0 om ?_ ?_
 ·exact lq0
 intro k h3;by_cases hk:k<P.length
 ·have hat:=mP hk hc;have hge:=nJ (s:=0) hk;have hle:=(fj k hc).1;have hbl:=FB hc k;repeat' ((conv=>whnf);first|exact kQ|(refine bk ?_ ?_<;>intro _<;>try(exfalso;omega))|refine stq ?_|refine Chk.mk ⟨by omega,by omega,by omega,(by simp:(text.map i64).length=text.length*1)⟩ ?_|refine Chk.mk ⟨by omega,by omega,by omega⟩ ?_|(apply Yll.sx _ rfl rfl (SvX.region T0 ?_);rotate_left)|refine SvX.block ?_|refine SvX.seq ?_|refine SvX.region T0 ?_|refine dL.exp (Fo om om om) ?_|refine Chk.mk (mu (λ_=>rfl) _) ?_|refine Chk.mk om ?_|exact⟨rfl,rfl,rfl⟩|refine⟨rfl,rfl,?_⟩|fail)
  all_goals(conv=>whnf)
  refine⟨k+1,by omega,by omega,?_⟩;exact lq0
 ·obtain rfl:k=P.length:=by omega
  repeat' ((conv=>whnf);first|exact kQ|(refine bk ?_ ?_<;>intro _<;>try(exfalso;omega))|refine stq ?_|fail)
  all_goals(conv=>whnf)
  exact⟨Or.inl rfl,rfl,vZ rfl⟩
theorem zK {d:Db}{text:List Int}{P:List Rng}{n:Int}(hP:@Pu gtR Tryz.prog 17 [dbD d,i64 1,aF text] (.tup [ay P,i64 0])) (hc:Chn 0 P text.length) (hx:text.length<=1000) (hn:n<=9223372036854775807):@Pu gtR Tryz.prog 36 [dbD d,aF text,i64 n] (.tup [aF (text.take (fW 0 P n.toNat).toNat),i64 0]):=by
 letI:=gtR;have hle:=fj n.toNat hc
 obtain⟨st,pe,hsp,hst⟩:∃ st pe,((P.length<=n.toNat∧st=LoopState.ready∧pe=none)∨(n.toNat<P.length∧st=.done∧pe=some (Code.exit 0)))∧(st≠.busy∧(pe=none∨pe=some (Code.exit 0))):=by
  by_cases h:n.toNat<P.length
  ·exact⟨_,_,.inr ⟨h,rfl,rfl⟩,by simp,.inr rfl⟩
  ·exact⟨_,_,.inl ⟨by omega,rfl,rfl⟩,by simp,.inl rfl⟩
 have h1:=De (d:=d) hc hx hn hsp;refine Pu.of_fw (ti:=ek Tryz.prog) Tryz.func36 rfl rfl (by simp[aK,aD,aW,ak,b8,ax,aM]) ?_;repeat' ((conv=>whnf);first|exact kQ|(refine bk ?_ ?_<;>intro _<;>try(exfalso;omega))|refine stq ?_|refine cp hP ?_|refine Cll.pk v9 ?_|refine Fw.range aB T0 rfl h1 rfl hst.1 ?_ hst.2|refine Fw.split ?_|refine Fw.one aB T0 ?_|refine dL.lst ?_|refine Chk.mk (mu (λ_=>rfl) _) ?_|refine Chk.mk (Az _) ?_|fail)
 all_goals(conv=>whnf)
 exact⟨rfl,_,rfl,⟨.tup (.cons (rH (b:=text.take (fW 0 P n.toNat).toNat) rfl rfl (CA om) (by rw[List.length_take];omega)) (.cons (.same rfl) .nil))⟩⟩
theorem CS {d:Db}{text:List Int}{P:List Rng}(hP:@Pu gtR Tryz.prog 17 [dbD d,i64 1,aF text] (.tup [ay P,i64 0])) (hc:Chn 0 P text.length) (hx:text.length<=1000):@Pu gtR Tryz.prog 34 [dbD d,aF text] (.tup [aF (lv text P),i64 0]):=by
 letI:=gtR;have h1:=Df (d:=d) hc hx;refine Pu.of_fw (ti:=ek Tryz.prog) Tryz.func34 rfl rfl (by simp[aK,aD,aW,ak,b8,ax,aM]) ?_;repeat' ((conv=>whnf);first|exact kQ|(refine bk ?_ ?_<;>intro _<;>try(exfalso;omega))|refine stq ?_|refine cp hP ?_|refine Cll.pk v9 ?_|refine Fw.range aB T0 rfl h1 rfl si ?_|refine Fw.split ?_|refine Fw.one aB T0 ?_|fail)
 all_goals(conv=>whnf)
 have hrl:=mf (text:=text) hc (Int.le_refl _) (Int.le_refl _);exact⟨rfl,_,rfl,⟨.tup (.cons (rH (b:=lv text P) rfl rfl (FC hc) om) (.cons (.same rfl) .nil))⟩⟩
end
end Go.Proofs.YtbmdndckndnehaaGreatDoor
