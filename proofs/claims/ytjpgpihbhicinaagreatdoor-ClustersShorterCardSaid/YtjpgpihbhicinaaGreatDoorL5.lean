/-
  Contracts of functions over data: the first clusters of a text, and the clusters in reversed order (the program: loops over an iterator).
-/
import Derived.Test.YtjpgpihbhicinaaGreatDoorL3
import Derived.Test.YtjpgpihbhicinaaGreatDoorL0
import Derived.Test.YtjpgpihbhicinaaGreatDoorAmF
set_option linter.unusedSectionVars false
namespace Go.Proofs.YtjpgpihbhicinaaGreatDoor
open Go Go.Am Classical
set_option maxRecDepth 100000
theorem eR [GT] {h:aB}{fz:Nat→Bool}{σ:Nat→Option Nat}{id n cap:Nat}{b:List Int}{cs:List D}{ex bx:Bool}(hf:fz id=true) (hg:h.get id=some (.cells cs bx)) (ec:cs=b.map i64) (e:n=b.length):Rd h fz σ (.sl id 0 n cap 1 ex) (aQ b):=by
 subst e;subst ec;refine .frz hf hg (by simp) (.eqs ?_ (aY (fun _=>rfl) _));rw[List.drop_zero,kE (by simp)]
theorem fR:∀ {P:List Rng}{s e:Int},Chn s P e→(P.length:Int)≤e-s
 | [],s,e,h=>by rw[show s=e from h];simp
 | r::P,s,e,h=>by have:=fR h.2.2;have:=h.2.1;have:=h.1;simp only[kO];omega
theorem z4 [GT] {n m j:Nat}{b:Box}{l:List (Nat×Box)}(hn:Nat.ble n m=true) (hf:ag l j=none):Sub ⟨n,(j,b)::l⟩ ⟨m,l⟩:=⟨kD hn,fun id box hg=>by
 simp only[aB.get,ag] at hg ⊢;split
 ·rename_i e;subst e;rw[hf] at hg;cases hg
 ·exact hg⟩
theorem tv [GT] {n m:Nat}{l:List (Nat×Box)}(hn:Nat.ble n m=true):Sub ⟨n,l⟩ ⟨m,l⟩:=⟨kD hn,fun _ _ h=>h⟩
theorem uI {text:List Int}{P:List Rng}:@Pk gtR Tryz.prog 38 [aQ text,bQ P] 2 (fun n=>.fn (.func 66) [] [.ptr (n+1) 0,.ptr n 0]) (fun n=>[(n,.cells [aQ text] true),(n+1,.cells [bQ P] true)]):=by
 letI:=gtR;refine Pk.of_v aA T0 Tryz.func38 rfl rfl (by simp[aC,aD,aO]) ?_;repeat' ((conv=>whnf)<;>(first|refine aE.go aA T0 ?_|exact kQ|(refine Br.mk (fun _=>?_) (fun _=>?_)<;>(try(exfalso;omega)))|refine stq ?_))
 all_goals(conv=>whnf)
 exact⟨[0,1],rfl,⟨by simp,fun n=>.fn .nil (.cons (.ptr (by simp[sgn])) (.cons (.ptr (by simp[sgn])) .nil)),fun n=>.cons (id:=0) (by simp[sgn]) rfl rfl (.cells (.cons (.same (aD text)) .nil) rfl) (.cons (id:=1) (by simp[sgn]) rfl rfl (.cells (.cons (.same (aO P)) .nil) rfl) .nil)⟩⟩
noncomputable abbrev uc (d:Db) (P:List Rng) (text:List Int) (n:Int) (st:LoopState) (pe:Option Code):Box:=.loop st pe ([dbD d,aQ text,i64 n,.ptr 0 0,aX,.ptr 1 0,aU,i64 0,bQ P,i64 0,.ptr 14 0,aX,aX,.tup [bQ P,i64 0],dbD d,aQ text,.tup [bQ P,i64 0],bQ P,i64 0,i64 0,boo false,aX,aQ text,bQ P,.fn (.func 66) [] [.ptr 20 0,.ptr 19 0]]++List.replicate 15 aX) [25] (fnA Tryz.f20) (fnB Tryz.f20)
abbrev AW (d:Db) (P:List Rng) (text:List Int) (s m:Int):List (Nat×Box):=[(21,.dfr),(19,.cells [aQ text] true),(20,.cells [bQ P] true),(14,.cells [i64 s] true),(1,.cells [i64 m] true),(0,.cells (dbC d) true)]
theorem rbT [GT] {h:aB}{fz:Nat→Bool}{σl:List (Nat×Nat)}{d:Db}{P:List Rng}{text:List Int}{n:Int}{st:LoopState}{pe:Option Code}:Rb h fz (sgm 23 σl) (uc d P text n st pe) (uc d P text n st pe):=
 .loop (by
  (repeat(first|exact Rds.nil|refine Rds.cons (by first|exact Rd.same rfl|exact Rd.ptr rfl|exact Rd.fn .nil (.cons (.ptr rfl) (.cons (.ptr rfl) .nil))|exact Rd.same (by simp[aH,aC,aD,aG,aJ,aP,aO])|fail) ?_|fail))
  done)
theorem Ad {d:Db}{P:List Rng}{text:List Int}{n:Int}{st:LoopState}{pe:Option Code}(hc:Chn 0 P text.length) (hx:text.length≤1000) (hn:n≤9223372036854775807) (hsp:(P.length≤n.toNat∧st=.ready∧pe=none)∨(n.toNat<P.length∧st=.done∧pe=some (.exit 0))):@AC1 gtR Tryz.prog 66 [.yf 22,.ptr 20 0,.ptr 19 0] ⟨23,(22,uc d P text n .ready none)::AW d P text 0 n⟩ (.tup []) ⟨80,(22,uc d P text n st pe)::AW d P text (bK 0 P n.toNat) (n-(min n.toNat P.length:Nat))⟩:=by
 letI:=gtR;have hl:=fR hc;refine AC1.of_vs aA T0 Tryz.func66 rfl rfl ?_;repeat' ((conv=>whnf)<;>(first|refine aE.go aA T0 ?_|exact kQ|(refine Br.mk (fun _=>?_) (fun _=>?_)<;>(try(exfalso;omega)))|refine stq ?_))
 all_goals(conv=>whnf)
 refine aT.by aA T0 (fun(k:Nat)=>⟨tmp 22 [(0,.yf 22),(1,.ptr 20 0),(2,.ptr 19 0),(6,bQ P),(7,i64 P.length),(8,i64 (k:Int))],⟨23,(22,uc d P text n .ready none)::AW d P text (bK 0 P k) (n-(k:Int))⟩⟩)
  (fun k=>k≤P.length∧k≤n.toNat) (fun k=>P.length-k) 0 ⟨by omega,by omega⟩ ?_ ?_
 ·exact Lf.of2 [] [] (by repeat(first|exact aI.nil|refine aI.cons rfl (by first|exact Rd.yf rfl|exact Rd.int (by have:=@fb P 0;omega)|exact rdA|fail) ?_)) (by repeat(first|exact Bxs.nil|refine Bxs.cons rfl rfl rfl (by first|exact Rb.dfr|exact rbT|exact Rb.cells (Rds.same (aa d)) rfl|exact rbB|exact Rb.cells (by(repeat(first|exact Rds.nil|refine Rds.cons (by first|exact Rd.yf rfl|exact Rd.int (by have:=@fb P 0;omega)|exact rdA|fail) ?_|fail));(first|done|fail)) rfl|exact rbC|fail) ?_)) rfl rfl
 intro k ⟨h3,h4⟩;by_cases hk:k<P.length
 ·have hat:=gu hk hc;have hge:=jh (s:=0) hk;have hle:=(cQ k hc).1;by_cases hb:n≤(k:Int)
  ·repeat' ((conv=>whnf)<;>(first|refine aE.go aA T0 ?_|exact kQ|(refine Br.mk (fun _=>?_) (fun _=>?_)<;>(try(exfalso;omega)))|refine stq ?_|refine Chk.mk ⟨by omega,by omega,by omega,(by simp:(text.map i64).length=text.length*1)⟩ ?_|(apply Yll.sx _ rfl rfl (SvX.region T0 ?_);rotate_left)|refine SvX.block ?_|refine SvX.seq ?_|refine SvX.region T0 ?_|refine SvX.yes rfl ?_|refine SvX.no rfl ?_|refine SvX.skip ?_|refine SvX.exit ?_|exact⟨rfl,rfl,rfl⟩|refine⟨rfl,rfl,?_⟩|fail))
   all_goals(conv=>whnf)
   rcases hsp with⟨h5,_,_⟩|⟨_,rfl,rfl⟩
   ·exfalso;omega
   have e1:n.toNat=k:=by omega
   rw[e1,show min k P.length=k by omega];exact⟨Or.inr rfl,rfl,z4 rfl rfl⟩
  ·repeat' ((conv=>whnf)<;>(first|refine aE.go aA T0 ?_|exact kQ|(refine Br.mk (fun _=>?_) (fun _=>?_)<;>(try(exfalso;omega)))|refine stq ?_|refine Chk.mk ⟨by omega,by omega,by omega,(by simp:(text.map i64).length=text.length*1)⟩ ?_|(apply Yll.sx _ rfl rfl (SvX.region T0 ?_);rotate_left)|refine SvX.block ?_|refine SvX.seq ?_|refine SvX.region T0 ?_|refine SvX.yes rfl ?_|refine SvX.no rfl ?_|refine SvX.skip ?_|refine SvX.exit ?_|exact⟨rfl,rfl,rfl⟩|refine⟨rfl,rfl,?_⟩|fail))
   all_goals(conv=>whnf)
   refine⟨k+1,⟨by omega,by omega⟩,by omega,?_⟩;exact Lf.of2 [] [] (by repeat(first|exact aI.nil|refine aI.cons rfl (by first|exact Rd.yf rfl|exact Rd.int (by omega)|exact rdA|fail) ?_)) (by repeat(first|exact Bxs.nil|refine Bxs.cons rfl rfl rfl (by first|exact Rb.dfr|exact rbT|exact Rb.cells (Rds.same (aa d)) rfl|exact rbB|exact Rb.cells (by(repeat(first|exact Rds.nil|refine Rds.cons (by first|exact Rd.yf rfl|exact Rd.int (by omega)|exact rdA|fail) ?_|fail));(first|done|fail)) rfl|exact rbC|fail) ?_)) rfl rfl
 ·rcases hsp with⟨h5,rfl,rfl⟩|⟨h5,_,_⟩
  ·have e1:k=P.length:=by omega
   rw[ji hc h5,show min n.toNat P.length=k by omega,←ji hc (k:=k) (by omega)];repeat' ((conv=>whnf)<;>(first|refine aE.go aA T0 ?_|exact kQ|(refine Br.mk (fun _=>?_) (fun _=>?_)<;>(try(exfalso;omega)))|refine stq ?_|fail))
   all_goals(conv=>whnf)
   exact⟨Or.inl rfl,rfl,tv rfl⟩
  ·exfalso;omega
abbrev pce (text:List Int) (lo hi:Int):List Int:=(text.drop lo.toNat).take (hi-lo).toNat
theorem Cf [GT] {h:aB}{text:List Int}{lo hi:Int}(h0:0≤lo) (h1:lo≤hi) (h2:hi≤text.length):bw h 1 (.imm (hi-lo).toNat (((text.map i64).drop (lo.toNat*1)).take ((hi-lo).toNat*1)))=some ((hi-lo).toNat,(pce text lo hi).map i64):=by
 simp only[bw];rw[if_pos (by simp;omega)];simp[List.map_take,List.map_drop]
def oS (text:List Int) (P:List Rng) (k:Nat):List D:=List.replicate (text.length-(bK 0 P k).toNat) (i64 0)++(eU text (P.take k)).map i64
theorem ru:∀ {P:List Rng}{s:Int}(k:Nat),Chn s (P.take k) (bK s P k)∨¬∃ e,Chn s P e
 | [],s,k=>by cases k<;>exact .inl rfl
 | r::P,s,0=>.inl rfl
 | r::P,s,k+1=>by
  by_cases h:∃ e,Chn s (r::P) e
  ·obtain⟨e,h⟩:=h;rcases ru (P:=P) (s:=r.hi) k with h1|h1
   ·exact .inl ⟨h.1,h.2.1,h1⟩
   ·exact absurd ⟨e,h.2.2⟩ h1
  ·exact .inr h
theorem vA {P:List Rng}{s e:Int}(h:Chn s P e) (k:Nat):Chn s (P.take k) (bK s P k):=(ru k).resolve_right fun hn=>hn ⟨e,h⟩
theorem B4 {text:List Int}{P:List Rng}(hc:Chn 0 P text.length) (k:Nat):(oS text P k).length=text.length:=by
 have h1:=cQ k hc;have h2:=g9 (text:=text) (vA hc k) (Int.le_refl _) h1.2;simp only[oS,kG,List.length_replicate,List.length_map];omega
theorem zW {text:List Int}{P:List Rng}(hc:Chn 0 P text.length){k:Nat}(hk:k<P.length){o:Nat}{xs:List D}(ho:(o:Int)=text.length-P[k].hi) (hxs:xs=(pce text P[k].lo P[k].hi).map i64):splice (oS text P k) o xs=oS text P (k+1):=by
 have h1:=cQ k hc;have h2:=gu hk hc;have h3:=jh (s:=0) hk;have h4:=g9 (text:=text) (vA hc k) (Int.le_refl _) h1.2;have hl:xs.length=(P[k].hi-P[k].lo).toNat:=by rw[hxs];simp;omega
 have e1:P.take (k+1)=P.take k++[P[k]]:=by rw[List.take_add_one,List.getElem?_eq_getElem hk];rfl
 unfold splice oS;rw[e1,rK,List.map_append,hl,h3,hxs];have e2:text.length-(bK 0 P k).toNat=o+(P[k].hi-P[k].lo).toNat:=by omega
 have e3:text.length-P[k].hi.toNat=o:=by omega
 rw[e2,e3,List.take_append_of_le_length (by simp),List.drop_append_of_le_length (by simp)];simp
theorem B5 {text:List Int}{P:List Rng}(hc:Chn 0 P text.length):oS text P P.length=(eU text P).map i64:=by
 have h1:=ji hc (kP _);unfold oS;rw[h1,List.take_length];simp
theorem bufR_0 [GT] (text:List Int) (P:List Rng):eQ [i64 0] text.length=oS text P 0:=by
 rw[fT];have e:bK 0 P 0=0:=by cases P<;>rfl
 simp[oS,e,eU]
theorem yO [GT] (m:Nat):0+m*1≤(eQ [i64 0] m).length:=by rw[fT];simp
theorem zP [GT] {text:List Int}{m:Nat}(h:m≤text.length):splice (eQ [i64 0] m) 0 ((text.map i64).take (min text.length m*1))=(text.take m).map i64:=by
 unfold splice;rw[fT,Nat.mul_one,Nat.min_eq_right h,List.take_zero,List.drop_of_length_le (by simp;omega)];simp[List.map_take]
noncomputable abbrev ud (d:Db) (P:List Rng) (text:List Int):Box:=.loop .ready none ([dbD d,aQ text,.ptr 0 0,aX,aU,i64 0,bQ P,i64 0,.ptr 16 0,.ptr 20 0,aX,.tup [bQ P,i64 0],dbD d,aQ text,.tup [bQ P,i64 0],bQ P,i64 0,i64 0,boo false,aX,aQ text,i64 text.length,.sl 15 0 text.length text.length 1 true,.sl 15 0 text.length text.length 1 true,i64 text.length,aQ text,bQ P,.fn (.func 66) [] [.ptr 26 0,.ptr 25 0]]++List.replicate 11 aX) [28] (fnA Tryz.f22) (fnB Tryz.f22)
abbrev EF (d:Db) (P:List Rng) (text:List Int) (k:Nat):List (Nat×Box):=[(27,.dfr),(25,.cells [aQ text] true),(26,.cells [bQ P] true),(20,.cells [i64 (text.length-bK 0 P k)] true),(16,.cells [.sl 15 0 text.length text.length 1 true] true),(15,.cells (oS text P k) true),(0,.cells (dbC d) true)]
theorem rbR [GT] {h:aB}{fz:Nat→Bool}{σl:List (Nat×Nat)}{d:Db}{P:List Rng}{text:List Int}:Rb h fz (sgm 29 σl) (ud d P text) (ud d P text):=
 .loop (by
  (repeat(first|exact Rds.nil|refine Rds.cons (by first|exact Rd.same rfl|exact Rd.ptr rfl|exact Rd.fn .nil (.cons (.ptr rfl) (.cons (.ptr rfl) .nil))|exact Rd.sl' rfl rfl rfl|exact Rd.same (by simp[aH,aC,aD,aG,aJ,aP,aO])|fail) ?_|fail))
  done)
theorem nr [GT] (text:List Int) (P:List Rng) (k:Nat):aC (oS text P k)=true:=by
 unfold oS;rw[show List.replicate (text.length-(bK 0 P k).toNat) (i64 0)++(eU text (P.take k)).map i64=(List.replicate (text.length-(bK 0 P k).toNat) (0:Int)++eU text (P.take k)).map i64 by simp];exact aY (fun _=>rfl) _
theorem Ae {d:Db}{P:List Rng}{text:List Int}(hc:Chn 0 P text.length) (hx:text.length≤1000):@AC1 gtR Tryz.prog 66 [.yf 28,.ptr 26 0,.ptr 25 0] ⟨29,(28,ud d P text)::[(27,.dfr),(25,.cells [aQ text] true),(26,.cells [bQ P] true),(20,.cells [i64 text.length] true),(16,.cells [.sl 15 0 text.length text.length 1 true] true),(15,.cells (eQ [i64 0] text.length) true),(0,.cells (dbC d) true)]⟩ (.tup []) ⟨80,(28,ud d P text)::EF d P text P.length⟩:=by
 letI:=gtR;have hl:=fR hc;refine AC1.of_vs aA T0 Tryz.func66 rfl rfl ?_;repeat' ((conv=>whnf)<;>(first|refine aE.go aA T0 ?_|exact kQ|(refine Br.mk (fun _=>?_) (fun _=>?_)<;>(try(exfalso;omega)))|refine stq ?_))
 all_goals(conv=>whnf)
 refine aT.by aA T0 (fun(k:Nat)=>⟨tmp 22 [(0,.yf 28),(1,.ptr 26 0),(2,.ptr 25 0),(6,bQ P),(7,i64 P.length),(8,i64 (k:Int))],⟨29,(28,ud d P text)::EF d P text k⟩⟩)
  (fun k=>k≤P.length) (fun k=>P.length-k) 0 (by omega) ?_ ?_
 ·exact Lf.of2 [] [] (by repeat(first|exact aI.nil|refine aI.cons rfl (by first|exact Rd.yf rfl|exact Rd.int (by have:=@fb P 0;omega)|exact rdA|fail) ?_)) (by repeat(first|exact Bxs.nil|refine Bxs.cons rfl rfl rfl (by first|exact Rb.dfr|exact rbR|exact Rb.cells (Rds.same (aa d)) rfl|exact Rb.cells (Rds.eqs (bufR_0 text P) (nr _ _ _)) rfl|exact rbB|exact Rb.cells (by(repeat(first|exact Rds.nil|refine Rds.cons (by first|exact Rd.yf rfl|exact Rd.int (by have:=@fb P 0;omega)|exact rdA|fail) ?_|fail));(first|done|fail)) rfl|exact rbC|fail) ?_)) rfl rfl
 intro k h3;by_cases hk:k<P.length
 ·have hat:=gu hk hc;have hge:=jh (s:=0) hk;have hle:=(cQ k hc).1;have hbl:=B4 hc k;repeat' ((conv=>whnf)<;>(first|refine aE.go aA T0 ?_|exact kQ|(refine Br.mk (fun _=>?_) (fun _=>?_)<;>(try(exfalso;omega)))|refine stq ?_|refine Chk.mk ⟨by omega,by omega,by omega,(by simp:(text.map i64).length=text.length*1)⟩ ?_|refine Chk.mk ⟨by omega,by omega,by omega⟩ ?_|(apply Yll.sx _ rfl rfl (SvX.region T0 ?_);rotate_left)|refine SvX.block ?_|refine SvX.seq ?_|refine SvX.region T0 ?_|refine ef.exp (Cf (by omega) (by omega) (by omega)) ?_|refine Chk.mk (l8 (fun _=>rfl) _) ?_|refine Chk.mk (by omega) ?_|exact⟨rfl,rfl,rfl⟩|refine⟨rfl,rfl,?_⟩|fail))
  all_goals(conv=>whnf)
  refine⟨k+1,by omega,by omega,?_⟩;exact Lf.of2 [] [] (by repeat(first|exact aI.nil|refine aI.cons rfl (by first|exact Rd.yf rfl|exact Rd.int (by omega)|exact rdA|fail) ?_)) (by repeat(first|exact Bxs.nil|refine Bxs.cons rfl rfl rfl (by first|exact Rb.dfr|exact rbR|exact Rb.cells (Rds.same (aa d)) rfl|exact Rb.cells (Rds.eqs (zW hc hk (by omega) (kE (by simp;omega))) (nr _ _ _)) rfl|exact rbB|exact Rb.cells (by(repeat(first|exact Rds.nil|refine Rds.cons (by first|exact Rd.yf rfl|exact Rd.int (by omega)|exact rdA|fail) ?_|fail));(first|done|fail)) rfl|exact rbC|fail) ?_)) rfl rfl
 ·obtain rfl:k=P.length:=by omega
  repeat' ((conv=>whnf)<;>(first|refine aE.go aA T0 ?_|exact kQ|(refine Br.mk (fun _=>?_) (fun _=>?_)<;>(try(exfalso;omega)))|refine stq ?_|fail))
  all_goals(conv=>whnf)
  exact⟨Or.inl rfl,rfl,tv rfl⟩
theorem i5 {d:Db}{text:List Int}{P:List Rng}{n:Int}(hP:@Pu gtR Tryz.prog 17 [dbD d,i64 1,aQ text] (.tup [bQ P,i64 0])) (hc:Chn 0 P text.length) (hx:text.length≤1000) (hn:n≤9223372036854775807):@Pu gtR Tryz.prog 20 [dbD d,aQ text,i64 n] (.tup [aQ (text.take (bK 0 P n.toNat).toNat),i64 0]):=by
 letI:=gtR;have hle:=cQ n.toNat hc
 obtain⟨st,pe,hsp,hst⟩:∃ st pe,((P.length≤n.toNat∧st=LoopState.ready∧pe=none)∨(n.toNat<P.length∧st=.done∧pe=some (Code.exit 0)))∧(st≠.busy∧(pe=none∨pe=some (Code.exit 0))):=by
  by_cases h:n.toNat<P.length
  ·exact⟨_,_,.inr ⟨h,rfl,rfl⟩,by simp,.inr rfl⟩
  ·exact⟨_,_,.inl ⟨by omega,rfl,rfl⟩,by simp,.inl rfl⟩
 have h1:=Ad (d:=d) hc hx hn hsp;refine Pu.of_fw (ti:=iS Tryz.prog) Tryz.func20 rfl rfl (by simp[aH,aC,aG,aJ,aP,aO,aD]) ?_;repeat' ((conv=>whnf)<;>(first|refine aE.go aA T0 ?_|exact kQ|(refine Br.mk (fun _=>?_) (fun _=>?_)<;>(try(exfalso;omega)))|refine stq ?_|refine Cll.pu hP ?_|refine Cll.pk uI ?_|refine Fw.range aA T0 rfl h1 rfl hst.1 ?_ hst.2|refine Fw.split ?_|refine Fw.one aA T0 ?_|refine ef.lst ?_|refine Chk.mk (l8 (fun _=>rfl) _) ?_|refine Chk.mk (yO _) ?_|fail))
 all_goals(conv=>whnf)
 exact⟨rfl,_,rfl,⟨.tup (.cons (eR (b:=text.take (bK 0 P n.toNat).toNat) rfl rfl (zP (by omega)) (by rw[List.length_take];omega)) (.cons (.same rfl) .nil))⟩⟩
theorem nY {d:Db}{text:List Int}{P:List Rng}(hP:@Pu gtR Tryz.prog 17 [dbD d,i64 1,aQ text] (.tup [bQ P,i64 0])) (hc:Chn 0 P text.length) (hx:text.length≤1000):@Pu gtR Tryz.prog 22 [dbD d,aQ text] (.tup [aQ (eU text P),i64 0]):=by
 letI:=gtR;have h1:=Ae (d:=d) hc hx;refine Pu.of_fw (ti:=iS Tryz.prog) Tryz.func22 rfl rfl (by simp[aH,aC,aG,aJ,aP,aO,aD]) ?_;repeat' ((conv=>whnf)<;>(first|refine aE.go aA T0 ?_|exact kQ|(refine Br.mk (fun _=>?_) (fun _=>?_)<;>(try(exfalso;omega)))|refine stq ?_|refine Cll.pu hP ?_|refine Cll.pk uI ?_|refine Fw.range aA T0 rfl h1 rfl (by simp) ?_|refine Fw.split ?_|refine Fw.one aA T0 ?_|fail))
 all_goals(conv=>whnf)
 have hrl:=g9 (text:=text) hc (Int.le_refl _) (Int.le_refl _);exact⟨rfl,_,rfl,⟨.tup (.cons (eR (b:=eU text P) rfl rfl (B5 hc) (by omega)) (.cons (.same rfl) .nil))⟩⟩
theorem jz {d:Db}{e n:Int}{x:D}(hx:(∃ l,x=aQ l)∨x=aU) (h0:e≠0) (hP:@Pu gtR Tryz.prog 17 [dbD d,i64 1,x] (.tup [aU,i64 e])):@Pu gtR Tryz.prog 20 [dbD d,x,i64 n] (.tup [aU,i64 e]):=by
 letI:=gtR;rcases hx with⟨l,rfl⟩|rfl
 all_goals
  refine Pu.of_v aA T0 Tryz.func20 rfl rfl (by simp[aH,aC,aG,aJ,aP,aO,aD]) ?_;repeat' ((conv=>whnf)<;>(first|refine aE.go aA T0 ?_|exact kQ|(refine Br.mk (fun _=>?_) (fun _=>?_)<;>(try(exfalso;omega)))|refine stq ?_|refine Cll.pu (hP) ?_|refine aW.pu (hP) ?_))
  all_goals(conv=>whnf)
  exact⟨Rd.eqd rfl rfl⟩
theorem qf {d:Db}{e:Int}{x:D}(hx:(∃ l,x=aQ l)∨x=aU) (h0:e≠0) (hP:@Pu gtR Tryz.prog 17 [dbD d,i64 1,x] (.tup [aU,i64 e])):@Pu gtR Tryz.prog 22 [dbD d,x] (.tup [aU,i64 e]):=by
 letI:=gtR;rcases hx with⟨l,rfl⟩|rfl
 all_goals
  refine Pu.of_v aA T0 Tryz.func22 rfl rfl (by simp[aH,aC,aG,aJ,aP,aO,aD]) ?_;repeat' ((conv=>whnf)<;>(first|refine aE.go aA T0 ?_|exact kQ|(refine Br.mk (fun _=>?_) (fun _=>?_)<;>(try(exfalso;omega)))|refine stq ?_|refine Cll.pu (hP) ?_|refine aW.pu (hP) ?_))
  all_goals(conv=>whnf)
  exact⟨Rd.eqd rfl rfl⟩
end Go.Proofs.YtjpgpihbhicinaaGreatDoor
