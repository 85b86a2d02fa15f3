/-
  Contracts of functions over data: the first clusters of a text, and the clusters in reversed order (the program: loops over an iterator).
-/
import Derived.Test.YtjpgpihbhicinaaGreatDoorL3
import Derived.Test.YtjpgpihbhicinaaGreatDoorL0
import Derived.Test.YtjpgpihbhicinaaGreatDoorAmF
set_option linter.unusedSectionVars false
namespace Go.Proofs.YtjpgpihbhicinaaGreatDoor
open Go Go.Am Classical
set_option maxRecDepth 100000
theorem cz [GT] {h:aC}{fz:Nat->Bool}{σ:Nat->Option Nat}{id n cap:Nat}{b:List Int}{cs:List D}{ex bx:Bool}(hf:fz id=true) (hg:h.get id=some (.cells cs bx)) (ec:cs=b.map i64) (e:n=b.length):Rd h fz σ (.sl id 0 n cap 1 ex) (aQ b):=by
 subst e;subst ec;refine .frz hf hg (by simp) (.eqs ?_ (aZ (fun _=>rfl) _));rw[List.drop_zero,kE (by simp)]
theorem nK:∀ {P:List Rng}{s e:Int},Chn s P e->(P.length:Int)<=e-s
 | [],s,e,h=>by rw[show s=e from h];simp
 | r::P,s,e,h=>by have:=nK h.2.2;have:=h.2.1;have:=h.1;simp only[kO];omega
theorem BC [GT] {n m j:Nat}{b:Box}{l:List (Nat×Box)}(hn:Nat.ble n m=true) (hf:ah l j=none):Sub ⟨n,(j,b)::l⟩ ⟨m,l⟩:=⟨kD hn,fun id box hg=>by
 simp only[aC.get,ah] at hg ⊢;split
 ·rename_i e;subst e;rw[hf] at hg;cases hg
 ·exact hg⟩
theorem uh [GT] {n m:Nat}{l:List (Nat×Box)}(hn:Nat.ble n m=true):Sub ⟨n,l⟩ ⟨m,l⟩:=⟨kD hn,fun _ _ h=>h⟩
theorem vB {text:List Int}{P:List Rng}:@Pk gtR Tryz.prog 38 [aQ text,bc P] 2 (fun n=>.fn (.func 66) [] [.ptr (n+1) 0,.ptr n 0]) (fun n=>[(n,.cells [aQ text] true),(n+1,.cells [bc P] true)]):=by
 letI:=gtR;refine Pk.of_v aA T0 Tryz.func38 rfl rfl (by simp[aB,aF,aK]) ?_;repeat' ((conv=>whnf)<;>(first|refine sg ?_|exact kQ|(refine Br.mk ?_ ?_<;>intro _<;>try(exfalso;omega))|refine stq ?_))
 all_goals(conv=>whnf)
 exact⟨[0,1],rfl,⟨by simp,fun n=>.fn .nil (.cons (.ptr (by simp[sgn])) (.cons (.ptr (by simp[sgn])) .nil)),fun n=>.cons (id:=0) (by simp[sgn]) rfl rfl (.cells (.cons (.same (aF text)) .nil) rfl) (.cons (id:=1) (by simp[sgn]) rfl rfl (.cells (.cons (.same (aK P)) .nil) rfl) .nil)⟩⟩
noncomputable abbrev vW (d:Db) (P:List Rng) (text:List Int) (n:Int) (st:LoopState) (pe:Option Code):Box:=.loop st pe ([dbD d,aQ text,i64 n,.ptr 0 0,ab,.ptr 1 0,aT,i64 0,bc P,i64 0,.ptr 14 0,ab,ab,.tup [bc P,i64 0],dbD d,aQ text,.tup [bc P,i64 0],bc P,i64 0,i64 0,boo false,ab,aQ text,bc P,.fn (.func 66) [] [.ptr 20 0,.ptr 19 0]]++List.replicate 15 ab) [25] (fnA Tryz.f20) (fnB Tryz.f20)
abbrev BZ (d:Db) (P:List Rng) (text:List Int) (s m:Int):List (Nat×Box):=[(21,.dfr),(19,.cells [aQ text] true),(20,.cells [bc P] true),(14,.cells [i64 s] true),(1,.cells [i64 m] true),(0,.cells (dbC d) true)]
theorem rbT [GT] {h:aC}{fz:Nat->Bool}{σl:List (Nat×Nat)}{d:Db}{P:List Rng}{text:List Int}{n:Int}{st:LoopState}{pe:Option Code}:Rb h fz (sgm 23 σl) (vW d P text n st pe) (vW d P text n st pe):=
 .loop (by
  (repeat(first|exact Rds.nil|refine Rds.cons (by first|exact Rd.same rfl|exact Rd.ptr rfl|exact Rd.fn .nil (.cons (.ptr rfl) (.cons (.ptr rfl) .nil))|exact Rd.same (by simp[aJ,aB,aF,aE,aG,aN,aK])|fail) ?_|fail))
  done)
theorem Bl {d:Db}{P:List Rng}{text:List Int}{n:Int}{st:LoopState}{pe:Option Code}(hc:Chn 0 P text.length) (hx:text.length<=1000) (hn:n<=9223372036854775807) (hsp:(P.length<=n.toNat∧st=.ready∧pe=none)∨(n.toNat<P.length∧st=.done∧pe=some (.exit 0))):@AC1 gtR Tryz.prog 66 [.yf 22,.ptr 20 0,.ptr 19 0] ⟨23,(22,vW d P text n .ready none)::BZ d P text 0 n⟩ (.tup []) ⟨80,(22,vW d P text n st pe)::BZ d P text (dv 0 P n.toNat) (n-(min n.toNat P.length:Nat))⟩:=by
 letI:=gtR;have hl:=nK hc;refine AC1.of_vs aA T0 Tryz.func66 rfl rfl ?_;repeat' ((conv=>whnf)<;>(first|refine sg ?_|exact kQ|(refine Br.mk ?_ ?_<;>intro _<;>try(exfalso;omega))|refine stq ?_))
 all_goals(conv=>whnf)
 refine aU.by aA T0 (fun(k:Nat)=>⟨tmp 22 [(0,.yf 22),(1,.ptr 20 0),(2,.ptr 19 0),(6,bc P),(7,i64 P.length),(8,i64 (k:Int))],⟨23,(22,vW d P text n .ready none)::BZ d P text (dv 0 P k) (n-(k:Int))⟩⟩)
  (fun k=>k<=P.length∧k<=n.toNat) (fun k=>P.length-k) 0 ⟨by omega,by omega⟩ ?_ ?_
 ·exact Lf.of2 [] [] (by repeat(first|exact aM.nil|refine aM.cons rfl (by first|exact Rd.yf rfl|exact Rd.int (by have:=@lK P 0;omega)|exact rdA|fail) ?_)) (by repeat(first|exact Bxs.nil|refine Bxs.cons rfl rfl rfl (by first|exact Rb.dfr|exact rbT|exact Rb.cells (Rds.same (ae d)) rfl|exact rbB|exact Rb.cells (by(repeat(first|exact Rds.nil|refine Rds.cons (by first|exact Rd.yf rfl|exact Rd.int (by have:=@lK P 0;omega)|exact rdA|fail) ?_|fail));(first|done|fail)) rfl|exact rbC|fail) ?_)) rfl rfl
 intro k ⟨h3,h4⟩;by_cases hk:k<P.length
 ·have hat:=ny hk hc;have hge:=kY (s:=0) hk;have hle:=(fP k hc).1;by_cases hb:n<=(k:Int)
  ·repeat' ((conv=>whnf)<;>(first|refine sg ?_|exact kQ|(refine Br.mk ?_ ?_<;>intro _<;>try(exfalso;omega))|refine stq ?_|refine Chk.mk ⟨by omega,by omega,by omega,(by simp:(text.map i64).length=text.length*1)⟩ ?_|(apply Yll.sx _ rfl rfl (SvX.region T0 ?_);rotate_left)|refine SvX.block ?_|refine SvX.seq ?_|refine SvX.region T0 ?_|refine SvX.yes rfl ?_|refine SvX.no rfl ?_|refine SvX.skip ?_|refine SvX.exit ?_|exact⟨rfl,rfl,rfl⟩|refine⟨rfl,rfl,?_⟩|fail))
   all_goals(conv=>whnf)
   rcases hsp with⟨h5,_,_⟩|⟨_,rfl,rfl⟩
   ·exfalso;omega
   have e1:n.toNat=k:=by omega
   rw[e1,show min k P.length=k by omega];exact⟨Or.inr rfl,rfl,BC rfl rfl⟩
  ·repeat' ((conv=>whnf)<;>(first|refine sg ?_|exact kQ|(refine Br.mk ?_ ?_<;>intro _<;>try(exfalso;omega))|refine stq ?_|refine Chk.mk ⟨by omega,by omega,by omega,(by simp:(text.map i64).length=text.length*1)⟩ ?_|(apply Yll.sx _ rfl rfl (SvX.region T0 ?_);rotate_left)|refine SvX.block ?_|refine SvX.seq ?_|refine SvX.region T0 ?_|refine SvX.yes rfl ?_|refine SvX.no rfl ?_|refine SvX.skip ?_|refine SvX.exit ?_|exact⟨rfl,rfl,rfl⟩|refine⟨rfl,rfl,?_⟩|fail))
   all_goals(conv=>whnf)
   refine⟨k+1,⟨by omega,by omega⟩,by omega,?_⟩;exact Lf.of2 [] [] (by repeat(first|exact aM.nil|refine aM.cons rfl (by first|exact Rd.yf rfl|exact Rd.int (by omega)|exact rdA|fail) ?_)) (by repeat(first|exact Bxs.nil|refine Bxs.cons rfl rfl rfl (by first|exact Rb.dfr|exact rbT|exact Rb.cells (Rds.same (ae d)) rfl|exact rbB|exact Rb.cells (by(repeat(first|exact Rds.nil|refine Rds.cons (by first|exact Rd.yf rfl|exact Rd.int (by omega)|exact rdA|fail) ?_|fail));(first|done|fail)) rfl|exact rbC|fail) ?_)) rfl rfl
 ·rcases hsp with⟨h5,rfl,rfl⟩|⟨h5,_,_⟩
  ·have e1:k=P.length:=by omega
   rw[nJ hc h5,show min n.toNat P.length=k by omega,<-nJ hc (k:=k) (by omega)];repeat' ((conv=>whnf)<;>(first|refine sg ?_|exact kQ|(refine Br.mk ?_ ?_<;>intro _<;>try(exfalso;omega))|refine stq ?_|fail))
   all_goals(conv=>whnf)
   exact⟨Or.inl rfl,rfl,uh rfl⟩
  ·exfalso;omega
abbrev pce (text:List Int) (lo hi:Int):List Int:=(text.drop lo.toNat).take (hi-lo).toNat
theorem tH [GT] {h:aC}{text:List Int}{lo hi:Int}(h0:0<=lo) (h1:lo<=hi) (h2:hi<=text.length):cG h 1 (.imm (hi-lo).toNat (((text.map i64).drop (lo.toNat*1)).take ((hi-lo).toNat*1)))=some ((hi-lo).toNat,(pce text lo hi).map i64):=by
 simp only[cG];rw[if_pos (by simp;omega)];simp[List.map_take,List.map_drop]
def o4 (text:List Int) (P:List Rng) (k:Nat):List D:=List.replicate (text.length-(dv 0 P k).toNat) (i64 0)++(iF text (P.take k)).map i64
theorem sS:∀ {P:List Rng}{s:Int}(k:Nat),Chn s (P.take k) (dv s P k)∨¬∃ e,Chn s P e
 | [],s,k=>by cases k<;>exact .inl rfl
 | r::P,s,0=>.inl rfl
 | r::P,s,k+1=>by
  by_cases h:∃ e,Chn s (r::P) e
  ·obtain⟨e,h⟩:=h;rcases sS (P:=P) (s:=r.hi) k with h1|h1
   ·exact .inl ⟨h.1,h.2.1,h1⟩
   ·exact absurd ⟨e,h.2.2⟩ h1
  ·exact .inr h
theorem wH {P:List Rng}{s e:Int}(h:Chn s P e) (k:Nat):Chn s (P.take k) (dv s P k):=(sS k).resolve_right fun hn=>hn ⟨e,h⟩
theorem DG {text:List Int}{P:List Rng}(hc:Chn 0 P text.length) (k:Nat):(o4 text P k).length=text.length:=by
 have h1:=fP k hc;have h2:=iU (text:=text) (wH hc k) (Int.le_refl _) h1.2;simp only[o4,kG,List.length_replicate,List.length_map];omega
theorem Ag {text:List Int}{P:List Rng}(hc:Chn 0 P text.length){k:Nat}(hk:k<P.length){o:Nat}{xs:List D}(ho:(o:Int)=text.length-P[k].hi) (hxs:xs=(pce text P[k].lo P[k].hi).map i64):splice (o4 text P k) o xs=o4 text P (k+1):=by
 have h1:=fP k hc;have h2:=ny hk hc;have h3:=kY (s:=0) hk;have h4:=iU (text:=text) (wH hc k) (Int.le_refl _) h1.2;have hl:xs.length=(P[k].hi-P[k].lo).toNat:=by rw[hxs];simp;omega
 have e1:P.take (k+1)=P.take k++[P[k]]:=by rw[List.take_add_one,List.getElem?_eq_getElem hk];rfl
 unfold splice o4;rw[e1,rq,List.map_append,hl,h3,hxs];have e2:text.length-(dv 0 P k).toNat=o+(P[k].hi-P[k].lo).toNat:=by omega
 have e3:text.length-P[k].hi.toNat=o:=by omega
 rw[e2,e3,List.take_append_of_le_length (by simp),List.drop_append_of_le_length (by simp)];simp
theorem DH {text:List Int}{P:List Rng}(hc:Chn 0 P text.length):o4 text P P.length=(iF text P).map i64:=by
 have h1:=nJ hc (kP _);unfold o4;rw[h1,List.take_length];simp
theorem bufR_0 [GT] (text:List Int) (P:List Rng):dA [i64 0] text.length=o4 text P 0:=by
 rw[fk];have e:dv 0 P 0=0:=by cases P<;>rfl
 simp[o4,e,iF]
theorem zb [GT] (m:Nat):0+m*1<=(dA [i64 0] m).length:=by rw[fk];simp
theorem Aa [GT] {text:List Int}{m:Nat}(h:m<=text.length):splice (dA [i64 0] m) 0 ((text.map i64).take (min text.length m*1))=(text.take m).map i64:=by
 unfold splice;rw[fk,Nat.mul_one,Nat.min_eq_right h,List.take_zero,List.drop_of_length_le (by simp;omega)];simp[List.map_take]
noncomputable abbrev vX (d:Db) (P:List Rng) (text:List Int):Box:=.loop .ready none ([dbD d,aQ text,.ptr 0 0,ab,aT,i64 0,bc P,i64 0,.ptr 16 0,.ptr 20 0,ab,.tup [bc P,i64 0],dbD d,aQ text,.tup [bc P,i64 0],bc P,i64 0,i64 0,boo false,ab,aQ text,i64 text.length,.sl 15 0 text.length text.length 1 true,.sl 15 0 text.length text.length 1 true,i64 text.length,aQ text,bc P,.fn (.func 66) [] [.ptr 26 0,.ptr 25 0]]++List.replicate 11 ab) [28] (fnA Tryz.f22) (fnB Tryz.f22)
abbrev FZ (d:Db) (P:List Rng) (text:List Int) (k:Nat):List (Nat×Box):=[(27,.dfr),(25,.cells [aQ text] true),(26,.cells [bc P] true),(20,.cells [i64 (text.length-dv 0 P k)] true),(16,.cells [.sl 15 0 text.length text.length 1 true] true),(15,.cells (o4 text P k) true),(0,.cells (dbC d) true)]
theorem rbR [GT] {h:aC}{fz:Nat->Bool}{σl:List (Nat×Nat)}{d:Db}{P:List Rng}{text:List Int}:Rb h fz (sgm 29 σl) (vX d P text) (vX d P text):=
 .loop (by
  (repeat(first|exact Rds.nil|refine Rds.cons (by first|exact Rd.same rfl|exact Rd.ptr rfl|exact Rd.fn .nil (.cons (.ptr rfl) (.cons (.ptr rfl) .nil))|exact Rd.sl' rfl rfl rfl|exact Rd.same (by simp[aJ,aB,aF,aE,aG,aN,aK])|fail) ?_|fail))
  done)
theorem oP [GT] (text:List Int) (P:List Rng) (k:Nat):aB (o4 text P k)=true:=by
 unfold o4;rw[show List.replicate (text.length-(dv 0 P k).toNat) (i64 0)++(iF text (P.take k)).map i64=(List.replicate (text.length-(dv 0 P k).toNat) (0:Int)++iF text (P.take k)).map i64 by simp];exact aZ (fun _=>rfl) _
theorem Bm {d:Db}{P:List Rng}{text:List Int}(hc:Chn 0 P text.length) (hx:text.length<=1000):@AC1 gtR Tryz.prog 66 [.yf 28,.ptr 26 0,.ptr 25 0] ⟨29,(28,vX d P text)::[(27,.dfr),(25,.cells [aQ text] true),(26,.cells [bc P] true),(20,.cells [i64 text.length] true),(16,.cells [.sl 15 0 text.length text.length 1 true] true),(15,.cells (dA [i64 0] text.length) true),(0,.cells (dbC d) true)]⟩ (.tup []) ⟨80,(28,vX d P text)::FZ d P text P.length⟩:=by
 letI:=gtR;have hl:=nK hc;refine AC1.of_vs aA T0 Tryz.func66 rfl rfl ?_;repeat' ((conv=>whnf)<;>(first|refine sg ?_|exact kQ|(refine Br.mk ?_ ?_<;>intro _<;>try(exfalso;omega))|refine stq ?_))
 all_goals(conv=>whnf)
 refine aU.by aA T0 (fun(k:Nat)=>⟨tmp 22 [(0,.yf 28),(1,.ptr 26 0),(2,.ptr 25 0),(6,bc P),(7,i64 P.length),(8,i64 (k:Int))],⟨29,(28,vX d P text)::FZ d P text k⟩⟩)
  (fun k=>k<=P.length) (fun k=>P.length-k) 0 (by omega) ?_ ?_
 ·exact Lf.of2 [] [] (by repeat(first|exact aM.nil|refine aM.cons rfl (by first|exact Rd.yf rfl|exact Rd.int (by have:=@lK P 0;omega)|exact rdA|fail) ?_)) (by repeat(first|exact Bxs.nil|refine Bxs.cons rfl rfl rfl (by first|exact Rb.dfr|exact rbR|exact Rb.cells (Rds.same (ae d)) rfl|exact Rb.cells (Rds.eqs (bufR_0 text P) (oP _ _ _)) rfl|exact rbB|exact Rb.cells (by(repeat(first|exact Rds.nil|refine Rds.cons (by first|exact Rd.yf rfl|exact Rd.int (by have:=@lK P 0;omega)|exact rdA|fail) ?_|fail));(first|done|fail)) rfl|exact rbC|fail) ?_)) rfl rfl
 intro k h3;by_cases hk:k<P.length
 ·have hat:=ny hk hc;have hge:=kY (s:=0) hk;have hle:=(fP k hc).1;have hbl:=DG hc k;repeat' ((conv=>whnf)<;>(first|refine sg ?_|exact kQ|(refine Br.mk ?_ ?_<;>intro _<;>try(exfalso;omega))|refine stq ?_|refine Chk.mk ⟨by omega,by omega,by omega,(by simp:(text.map i64).length=text.length*1)⟩ ?_|refine Chk.mk ⟨by omega,by omega,by omega⟩ ?_|(apply Yll.sx _ rfl rfl (SvX.region T0 ?_);rotate_left)|refine SvX.block ?_|refine SvX.seq ?_|refine SvX.region T0 ?_|refine dP.exp (tH (by omega) (by omega) (by omega)) ?_|refine Chk.mk (gO (fun _=>rfl) _) ?_|refine Chk.mk (by omega) ?_|exact⟨rfl,rfl,rfl⟩|refine⟨rfl,rfl,?_⟩|fail))
  all_goals(conv=>whnf)
  refine⟨k+1,by omega,by omega,?_⟩;exact Lf.of2 [] [] (by repeat(first|exact aM.nil|refine aM.cons rfl (by first|exact Rd.yf rfl|exact Rd.int (by omega)|exact rdA|fail) ?_)) (by repeat(first|exact Bxs.nil|refine Bxs.cons rfl rfl rfl (by first|exact Rb.dfr|exact rbR|exact Rb.cells (Rds.same (ae d)) rfl|exact Rb.cells (Rds.eqs (Ag hc hk (by omega) (kE (by simp;omega))) (oP _ _ _)) rfl|exact rbB|exact Rb.cells (by(repeat(first|exact Rds.nil|refine Rds.cons (by first|exact Rd.yf rfl|exact Rd.int (by omega)|exact rdA|fail) ?_|fail));(first|done|fail)) rfl|exact rbC|fail) ?_)) rfl rfl
 ·obtain rfl:k=P.length:=by omega
  repeat' ((conv=>whnf)<;>(first|refine sg ?_|exact kQ|(refine Br.mk ?_ ?_<;>intro _<;>try(exfalso;omega))|refine stq ?_|fail))
  all_goals(conv=>whnf)
  exact⟨Or.inl rfl,rfl,uh rfl⟩
theorem q9 {d:Db}{text:List Int}{P:List Rng}{n:Int}(hP:@Pu gtR Tryz.prog 17 [dbD d,i64 1,aQ text] (.tup [bc P,i64 0])) (hc:Chn 0 P text.length) (hx:text.length<=1000) (hn:n<=9223372036854775807):@Pu gtR Tryz.prog 20 [dbD d,aQ text,i64 n] (.tup [aQ (text.take (dv 0 P n.toNat).toNat),i64 0]):=by
 letI:=gtR;have hle:=fP n.toNat hc
 obtain⟨st,pe,hsp,hst⟩:∃ st pe,((P.length<=n.toNat∧st=LoopState.ready∧pe=none)∨(n.toNat<P.length∧st=.done∧pe=some (Code.exit 0)))∧(st≠.busy∧(pe=none∨pe=some (Code.exit 0))):=by
  by_cases h:n.toNat<P.length
  ·exact⟨_,_,.inr ⟨h,rfl,rfl⟩,by simp,.inr rfl⟩
  ·exact⟨_,_,.inl ⟨by omega,rfl,rfl⟩,by simp,.inl rfl⟩
 have h1:=Bl (d:=d) hc hx hn hsp;refine Pu.of_fw (ti:=iB Tryz.prog) Tryz.func20 rfl rfl (by simp[aJ,aB,aE,aG,aN,aK,aF]) ?_;repeat' ((conv=>whnf)<;>(first|refine sg ?_|exact kQ|(refine Br.mk ?_ ?_<;>intro _<;>try(exfalso;omega))|refine stq ?_|refine Cll.pu hP ?_|refine Cll.pk vB ?_|refine Fw.range aA T0 rfl h1 rfl hst.1 ?_ hst.2|refine Fw.split ?_|refine Fw.one aA T0 ?_|refine dP.lst ?_|refine Chk.mk (gO (fun _=>rfl) _) ?_|refine Chk.mk (zb _) ?_|fail))
 all_goals(conv=>whnf)
 exact⟨rfl,_,rfl,⟨.tup (.cons (cz (b:=text.take (dv 0 P n.toNat).toNat) rfl rfl (Aa (by omega)) (by rw[List.length_take];omega)) (.cons (.same rfl) .nil))⟩⟩
theorem sq {d:Db}{text:List Int}{P:List Rng}(hP:@Pu gtR Tryz.prog 17 [dbD d,i64 1,aQ text] (.tup [bc P,i64 0])) (hc:Chn 0 P text.length) (hx:text.length<=1000):@Pu gtR Tryz.prog 22 [dbD d,aQ text] (.tup [aQ (iF text P),i64 0]):=by
 letI:=gtR;have h1:=Bm (d:=d) hc hx;refine Pu.of_fw (ti:=iB Tryz.prog) Tryz.func22 rfl rfl (by simp[aJ,aB,aE,aG,aN,aK,aF]) ?_;repeat' ((conv=>whnf)<;>(first|refine sg ?_|exact kQ|(refine Br.mk ?_ ?_<;>intro _<;>try(exfalso;omega))|refine stq ?_|refine Cll.pu hP ?_|refine Cll.pk vB ?_|refine Fw.range aA T0 rfl h1 rfl (by simp) ?_|refine Fw.split ?_|refine Fw.one aA T0 ?_|fail))
 all_goals(conv=>whnf)
 have hrl:=iU (text:=text) hc (Int.le_refl _) (Int.le_refl _);exact⟨rfl,_,rfl,⟨.tup (.cons (cz (b:=iF text P) rfl rfl (DH hc) (by omega)) (.cons (.same rfl) .nil))⟩⟩
theorem wa {d:Db}{e n:Int}{x:D}(hx:(∃ l,x=aQ l)∨x=aT) (h0:e≠0) (hP:@Pu gtR Tryz.prog 17 [dbD d,i64 1,x] (.tup [aT,i64 e])):@Pu gtR Tryz.prog 20 [dbD d,x,i64 n] (.tup [aT,i64 e]):=by
 letI:=gtR;rcases hx with⟨l,rfl⟩|rfl
 all_goals
  refine Pu.of_v aA T0 Tryz.func20 rfl rfl (by simp[aJ,aB,aE,aG,aN,aK,aF]) ?_;repeat' ((conv=>whnf)<;>(first|refine sg ?_|exact kQ|(refine Br.mk ?_ ?_<;>intro _<;>try(exfalso;omega))|refine stq ?_|refine Cll.pu (hP) ?_|refine aO.pu (hP) ?_))
  all_goals(conv=>whnf)
  exact⟨Rd.eqd rfl rfl⟩
theorem x8 {d:Db}{e:Int}{x:D}(hx:(∃ l,x=aQ l)∨x=aT) (h0:e≠0) (hP:@Pu gtR Tryz.prog 17 [dbD d,i64 1,x] (.tup [aT,i64 e])):@Pu gtR Tryz.prog 22 [dbD d,x] (.tup [aT,i64 e]):=by
 letI:=gtR;rcases hx with⟨l,rfl⟩|rfl
 all_goals
  refine Pu.of_v aA T0 Tryz.func22 rfl rfl (by simp[aJ,aB,aE,aG,aN,aK,aF]) ?_;repeat' ((conv=>whnf)<;>(first|refine sg ?_|exact kQ|(refine Br.mk ?_ ?_<;>intro _<;>try(exfalso;omega))|refine stq ?_|refine Cll.pu (hP) ?_|refine aO.pu (hP) ?_))
  all_goals(conv=>whnf)
  exact⟨Rd.eqd rfl rfl⟩
end Go.Proofs.YtjpgpihbhicinaaGreatDoor
