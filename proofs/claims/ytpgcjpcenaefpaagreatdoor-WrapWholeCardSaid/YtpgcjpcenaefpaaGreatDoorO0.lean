/-
  The abstract machine, part 60: functions with a loop over a function that stand in a scope of labels, or end ahead of the loop.
-/
import Derived.Test.YtpgcjpcenaefpaaGreatDoorAmF
import Derived.Test.YtpgcjpcenaefpaaGreatDoorAmD
import Derived.Test.YtpgcjpcenaefpaaGreatDoorL3
import Derived.Test.YtpgcjpcenaefpaaGreatDoorJ1
set_option linter.unusedSectionVars false
namespace Go.Am
section
variable {F:Fence}{n:Nat}{P:Program}{Q:Exit->Act->World->Prop}{a:Act}{w:World}
theorem du {b:Frame}{k:List Item}{cs:List Frame}{c:Code}:step P (lone (b.atR a (.code (.scope c)::k)) cs w)=.next (lone (b.atR a (.code c::.inScope c::k)) cs w):=
 step_lone_go (by simp[stepG,stepG.exec,Frame.atR])
theorem r9 {b:Frame}{k:List Item}{cs:List Frame}{c:Code}:step P (lone (b.atR a (.inScope c::k)) cs w)=.next (lone (b.atR a k) cs w):=
 step_lone_go (by simp[stepG,stepG.exec,Frame.atR])
theorem qE {c:Code}(h:c.wpIn F n P Q a w) (hg:∀ l a w,¬Q (.goto l) a w):(Code.scope c).wpIn F n P Q a w:=by
 intro b k cs hro hb hr;have h0:(lone (b.atR a (.code (.scope c)::k)) cs w).fenced P F:=fenced_calm hb hr rfl;obtain⟨e,a₁,w₁,hq,harr⟩:=h b (.inScope c::k) cs hro hb hr;cases e with
 | normal=>exact⟨.normal,a₁,w₁,hq,.head h0 du (StepsIn.trans harr (.one (fenced_calm hb hr rfl) r9))⟩
 | exit id'=>
  have hx:exitTo id' (.inScope c::k)=exitTo id' k:=by simp[exitTo]
  exact⟨.exit id',a₁,w₁,hq,λk' hk=>.head h0 du (harr.1 k' (by rw[hx];exact hk)),
   λhr' hk=>let⟨k₁,h1,h2⟩:=harr.2 hr' (by rw[hx];exact hk);⟨k₁,h1,.head h0 du h2⟩⟩
 | goto l=>exact absurd hq (hg l _ _)
 | ret=>exact⟨_,a₁,w₁,hq,.of_steps (.one h0 du) harr⟩
 | panic ch=>exact⟨_,a₁,w₁,hq,.of_steps (.one h0 du) harr⟩
 | outgrown=>exact⟨_,a₁,w₁,hq,.of_steps (.one h0 du) harr⟩
end
section
variable [GT] {P:Program}{ti:TI}{fn:Func}{d:D}
theorem Fw.scope {c:Code}{s:St}(h:Fw P ti fn d [c] s):Fw P ti fn d [.scope c] s:=⟨λcb ct a R hB hf hd hR=>kW (qE (h.run cb ct a R hB hf hd hR) (λ_ _ _ hq=>hq)) λe a w hq=>by cases e<;>exact hq⟩
theorem Fw.label {l:Nat}{cs:List Code}{s:St}(h:Fw P ti fn d cs s):Fw P ti fn d (.label l::cs) s:=⟨λcb ct a R hB hf hd hR=>wpIn_label (h.run cb ct a R hB hf hd hR)⟩
def goQ (ti:TI) (fn:Func) (d:D) (K:St->Prop):Exit->St->Prop
 | .normal,s=>K s
 | .ret,s=>match iN ti fn s with|some d0=>aC s.h d0 d|none=>False
 | _,_=>False
theorem Fw.step (hm:P.follows .mixedOrders=true) (T:TOk P ti){x:Code}{cs:List Code}{s:St}(h:gG P ti 0 x (goQ ti fn d (Fw P ti fn d cs)) s):Fw P ti fn d (x::cs) s:=⟨λcb c a R hB hf hd hR=>by
 refine(bJ hm T x _ _ h).run cb ⟨0,[]⟩ c a _ hB hf λe s1 c1 a1 hq f1 b1 d1=>?_
 cases e with
 | normal=>exact hq.run cb c1 a1 R b1 f1 (d1.trans hd) hR
 | ret=>
  simp only[goQ] at hq;split at hq
  ·rename_i d0 hr;rw[show Exit.then (wpL (WF none) 0 P (bodyPostM (WF none) 0 P fn R) cs) (bodyPostM (WF none) 0 P fn R) .ret a1 c1.w=LeavesInM (WF none) 0 P fn a1.tmps R a1.defers .returning c1.w from rfl,d1,hd];refine fW (dl:=λ_ _ _=>none) (λ_ _ _ _ hx=>by cases hx) [] [] c1 s1.h s1.h rfl f1.rel rfl λc3 r3 g3 p3=>?_
   obtain⟨v,e1,v1⟩:=dD (P:=P) T (a:=a1) (⟨r3,VS.keep g3.keeps _ _ f1.tmps⟩:Fit c3 s1 a1) hr;exact⟨v,e1,hR v d0 c3 _ v1 r3 (b1.grow.trans g3) hq⟩
  ·exact hq.elim
 | _=>exact hq.elim⟩
end
end Go.Am
namespace Go.Proofs.YtpgcjpcenaefpaaGreatDoor
open Go Go.Am Classical
set_option maxRecDepth 100000
theorem xO1.rdX {p:Prop}(h:p:=by first|exact Rd.frzp rfl rfl (Rds.cons (Rd.same (ai _)) (Rds.cons (Rd.same (ae _)) Rds.nil))|exact Rd.frzp rfl rfl (Rds.cons (Rd.same rfl) Rds.nil)|fail):p:=h
open xO1
def sI (s:Str):Int:=if s=[90,101,114,111] then 0 else if s=[87,105,100,101]∨s=[70,117,108,108] then 2 else 1
theorem FL {s:Str}(h:s=[90,101,114,111]):0=sI s:=by subst h;simp[sI]
theorem FI {s:Str}(h:s=[87,105,100,101]):2=sI s:=by subst h;simp[sI]
theorem FJ {s:Str}(h:s=[70,117,108,108]):2=sI s:=by subst h;simp[sI]
theorem FK {s:Str}(h0:¬s=[90,101,114,111]) (h1:¬s=[87,105,100,101]) (h2:¬s=[70,117,108,108]):1=sI s:=by
 rw[sI,if_neg h0,if_neg λh=>h.elim h1 h2]
noncomputable def gc (p:Prp) (c:Int):Int:=sI (qp p c)
theorem jK (p:Prp) (c:Int):0<=gc p c∧gc p c<=2:=by
 unfold gc sI;split
 ·omega
 ·split<;>omega
section
variable [GT]
theorem Hg {p:Prp}{c:Int}{k:Nat}(hk:k<p.spans.length):Pu Tryz.prog 121 ([i64 (k:Int)]++[.iptr [strs p.names,cV p.spans],.iptr [i64 c]]) (boo (decide (c<=p.spans[k].hi))):=by
 refine pv Tryz.func121 ?_;repeat' ((conv=>whnf);first|exact kQ|(refine bk ?_ ?_<;>intro _<;>try(exfalso;omega))|refine stq ?_)
 all_goals(conv=>whnf)
 all_goals first
  | exact aC.yes om
  | exact aC.no om
theorem kn {p:Prp}(hv:PrV p){c v:Int}(e:v=fA p.spans c):0<=v∧∃ h:v.toNat<p.names.length,p.names[v.toNat]=qp p c:=by
 have h1:=lE (p:=p) c;have h2:cnt p=p:=by simp[cnt,hv]
 subst e;rw[h2] at h1;refine⟨h1.1,by omega,?_⟩;unfold qp;simp only[h2]
theorem FO {p:Prp}{c:Int}(hv:PrV p) (hn:p.spans.length<=1000):Pu Tryz.prog 88 [bw p,i64 c] (i64 (gc p c)):=by
 have hr:Cr p.spans:=by
  have:=xa p
  rwa [show cnt p=p by simp[cnt,hv]] at this
 have h0:=rJ p.spans c;have hg:=rC hr c
 have hse:Pu Tryz.prog 117 [i64 p.spans.length,.fn (.func 121) [] [.iptr [strs p.names,cV p.spans],.iptr [i64 c]]] (i64 (a6 p.spans c)):=
  wF (p:=λi=>∃ h:i<p.spans.length,c<=p.spans[i].hi) (by simp[aI,aF,ae,ai]) om h0 (λi hi ⟨h,hc⟩=>fX h hi hc)
   (λi h1 h2=>⟨h2,by
    have h3:=l9 (l:=p.spans) (c:=c) om;have h4:=uW hr (i-a6 p.spans c) (i:=a6 p.spans c) om om;have e:a6 p.spans c+(i-a6 p.spans c)=i:=by omega
    simp only[e] at h4
    omega⟩)
   (λi hi=>by
    have:=Hg (p:=p) (c:=c) hi
    exact(congrArg (λb=>Pu Tryz.prog _ _ (boo b)) (decide_eq_decide.2 ⟨λh=>⟨hi,h⟩,λ⟨_,h⟩=>h⟩)).mp this)
 have hA:∀ h:a6 p.spans c<p.spans.length,p.spans[a6 p.spans c].lo<=c->p.spans[a6 p.spans c].val=fA p.spans c:=λh h2=>by rw[hg,dif_pos h,if_pos h2]
 have hB:∀ h:a6 p.spans c<p.spans.length,¬p.spans[a6 p.spans c].lo<=c->(0:Int)=fA p.spans c:=λh h2=>by rw[hg,dif_pos h,if_neg h2]
 have hC:¬a6 p.spans c<p.spans.length->(0:Int)=fA p.spans c:=λh=>by rw[hg,dif_neg h]
 refine pv Tryz.func88 ?_
 conv=>whnf
 refine cF.weak aB T0 (s0:=⟨tmp 43 [(2,.iptr [strs p.names,cV p.spans]),(3,.iptr [i64 c])],⟨0,[]⟩⟩) ?_ ?_
 ·exact lq [] [0,1]
 repeat' ((conv=>whnf);first|exact kQ|(refine bk ?_ ?_<;>intro _<;>try(exfalso;omega))|refine stq ?_|refine cp hse ?_|refine Idx.at (p.spans[a6 p.spans c]'(by omega)).val.toNat (by have:=(kn hv (hA om asm)).1;omega) ((kn hv (hA om asm)).2.1) ?_|refine Idx.at 0 rfl (by have:=hv.1.1;omega) ?_)
 all_goals(conv=>whnf)
 all_goals
  obtain⟨_,h1,h2⟩:0<=fA p.spans c∧∃ h:(fA p.spans c).toNat<p.names.length,p.names[(fA p.spans c).toNat]=qp p c:=kn hv rfl
  first
  | (have e:=hA om asm;simp only[<-e] at h2;first
    | exact aC.int (FL (h2.symm.trans asm))
    | exact aC.int (FI (h2.symm.trans asm))
    | exact aC.int (FJ (h2.symm.trans asm))
    | exact aC.int (FK (λh=>absurd (h2.trans h) asm) (λh=>absurd (h2.trans h) asm) (λh=>absurd (h2.trans h) asm)))
  | (have e:(0:Int)=fA p.spans c:=(by first|exact hB om asm|exact hC om);simp only[<-e] at h2;first
    | exact aC.int (FL (h2.symm.trans asm))
    | exact aC.int (FI (h2.symm.trans asm))
    | exact aC.int (FJ (h2.symm.trans asm))
    | exact aC.int (FK (λh=>absurd (h2.trans h) asm) (λh=>absurd (h2.trans h) asm) (λh=>absurd (h2.trans h) asm)))
end
end Go.Proofs.YtpgcjpcenaefpaaGreatDoor
namespace Go.Proofs.YtpgcjpcenaefpaaGreatDoor
open Go Go.Am Classical
set_option maxRecDepth 100000
theorem xO2.rdX {p:Prop}(h:p:=by first|exact Rd.yf rfl|exact Rd.eqd (uj om om om) (aO _)|exact Rd.int (by first|(simp only[List.length_take,List.length_drop];omega;done)|fail)|fail):p:=h
theorem xO2.rbX {p:Prop}(h:p:=by first|exact Rb.dfr|exact rbW|exact Rb.cells (Rds.same (cT _)) rfl|exact Rb.cells (Rds.cons (Rd.int om) Rds.nil) rfl|fail):p:=h
open xO2
noncomputable def mxW (p:Prp) (l:List Int):Int:=l.foldl (λm c=>max m (gc p c)) 0
theorem D7 (p:Prp) (l:List Int) (c:Int):mxW p (l++[c])=max (mxW p l) (gc p c):=by simp[mxW]
theorem nk (p:Prp) (l:List Int):0<=mxW p l∧mxW p l<=2:=by
 have h:∀ (l:List Int) (m:Int),0<=m∧m<=2->0<=l.foldl (λm c=>max m (gc p c)) m∧l.foldl (λm c=>max m (gc p c)) m<=2:=by
  intro l
  induction l with
  | nil=>intro m h;exact h
  | cons c l ih=>
   intro m h;have:=jK p c
   exact ih (max m (gc p c)) om
 exact h l 0 om
noncomputable def jc (p:Prp) (text:List Int) (r:Rng):Int:=mxW p (pce text r.lo r.hi)
theorem qG (p:Prp) (text:List Int) (r:Rng):0<=jc p text r∧jc p text r<=2:=nk p _
noncomputable def dB (p:Prp) (text:List Int):List Rng->Int
 | []=>0
 | r::P=>jc p text r+dB p text P
theorem sX (p:Prp) (text:List Int) (r:Rng):∀ P:List Rng,dB p text (P++[r])=dB p text P+jc p text r
 | []=>by simp[dB]
 | q::P=>by simp only[List.cons_append,dB,sX p text r P];omega
theorem ee (p:Prp) (text:List Int):∀ P:List Rng,0<=dB p text P∧dB p text P<=2*P.length
 | []=>by simp[dB]
 | r::P=>by
  have h1:=ee p text P;have h2:=qG p text r;simp only[dB,kO];omega
theorem BU {p:Prp}{text:List Int}{P:List Rng}{k:Nat}(h:k<P.length):dB p text (P.take (k+1))=dB p text (P.take k)+jc p text P[k]:=by
 rw[List.take_add_one,List.getElem?_eq_getElem h];exact sX p text P[k] _
theorem xM {d:Db}{text:List Int}{P:List Rng}(hl:∀ k,k<7->(prop d k).names.length<=30∧(prop d k).spans.length<=16) (hP:@Pu gtR Tryz.prog 86 [dbD d,i64 1,aD text] (.tup [bB P,i64 0])):@Pk gtR Tryz.prog 63 [dbD d,aD text] 3 (λn=>.tup [.fn (.func 87) [] [.ptr (n+1) 0,.ptr n 0,.ptr (n+2) 0],i64 0]) (λn=>[(n,.cells [aD text] true),(n+1,.cells [bB P] true),(n+2,.cells [strs d.wid.names,cV d.wid.spans] true)]):=by
 letI:=gtR;have hp:Pu Tryz.prog 58 [dbD d,i64 1] (bw d.wid):=pa hl 1 om;refine Pk.of_v aB T0 Tryz.func63 rfl rfl (by simp[aI,aF,ai,ae,bn,aw,aO]) ?_;repeat' ((conv=>whnf);first|exact kQ|(refine bk ?_ ?_<;>intro _<;>try(exfalso;omega))|refine stq ?_|refine cp hP ?_|refine cp hp ?_|fail)
 all_goals(conv=>whnf)
 exact⟨[1,10,17],rfl,⟨by simp,λn=>.tup (.cons (.fn .nil (.cons (.ptr (by simp[sgn])) (.cons (.ptr (by simp[sgn])) (.cons (.ptr (by simp[sgn])) .nil)))) (.cons (.same rfl) .nil)),λn=>.cons (id:=1) (by simp[sgn]) rfl rfl (.cells (.cons (.same (aO text)) .nil) rfl) (.cons (id:=10) (by simp[sgn]) rfl rfl (.cells (.cons (.same (aw P)) .nil) rfl) (.cons (id:=17) (by simp[sgn]) rfl rfl (.cells (.cons (.same (ai _)) (.cons (.same (ae _)) .nil)) rfl) .nil))⟩⟩
theorem uj {text:List Int}{lo hi:Int}(h0:0<=lo) (h1:lo<=hi) (h2:hi<=text.length):D.imm (hi-lo).toNat (((text.map i64).drop (lo.toNat*1)).take ((hi-lo).toNat*1))=aD (pce text lo hi):=by
 simp only[lst,pce,Nat.mul_one,List.length_take,List.length_drop,List.map_take,List.map_drop];congr 1;omega
theorem D6 {p:Prp}{l:List Int}{k:Nat}(h:k<l.length):mxW p (l.take (k+1))=max (mxW p (l.take k)) (gc p l[k]):=by
 rw[List.take_add_one,List.getElem?_eq_getElem h];exact D7 p _ _
theorem Gt {p:Prp}{l:List Int}{k:Nat}(h:l.length<=k):mxW p (l.take k)=mxW p l:=by rw[kE h]
abbrev gFn (n:Nat):D:=.fn (.func 87) [] [.ptr (n+1) 0,.ptr n 0,.ptr (n+2) 0]
noncomputable abbrev tD (d:Db) (text:List Int):Box:=.loop .ready none ([dbD d,aD text,.ptr 0 0,aJ,i64 0,i64 0,gFn 6,i64 0,.ptr 16 0,aJ,aJ,.tup [gFn 6,i64 0],dbD d,aD text,.tup [gFn 6,i64 0],gFn 6,i64 0,i64 0,boo false,aJ,gFn 6]++List.replicate 6 aJ) [21,22] (fnA Tryz.f39) (fnB Tryz.f39)
abbrev AA (d:Db) (P:List Rng) (text:List Int) (s:Int):List (Nat×Box):=[(19,.dfr),(16,.cells [i64 s] true),(6,.cells [aD text] true),(7,.cells [bB P] true),(8,.cells [strs d.wid.names,cV d.wid.spans] true),(0,.cells (dbC d) true)]
theorem rbW [GT] {h:aA}{fz:Nat->Bool}{σl:List (Nat×Nat)}{d:Db}{text:List Int}:Rb h fz (sgm 21 σl) (tD d text) (tD d text):=
 .loop (by
  (repeat(first|exact Rds.nil|refine Rds.cons (by first|exact Rd.same rfl|exact Rd.ptr rfl|exact Rd.fn .nil (.cons (.ptr rfl) (.cons (.ptr rfl) (.cons (.ptr rfl) .nil)))|exact Rd.tup (.cons (Rd.fn .nil (.cons (.ptr rfl) (.cons (.ptr rfl) (.cons (.ptr rfl) .nil)))) (.cons (.same rfl) .nil))|exact Rd.same (by simp[aI,aF,aO,ai,ae,bn,aw])|fail) ?_|fail))
  done)
set_option maxHeartbeats 8000000 in
theorem HI {d:Db}{P:List Rng}{text:List Int}(hcode:∀ c:Int,@Pu gtR Tryz.prog 88 [bw d.wid,i64 c] (i64 (gc d.wid c))) (hc:Chn 0 P text.length) (hx:text.length<=1000):@AC1 gtR Tryz.prog 87 [.yf 20,.ptr 7 0,.ptr 6 0,.ptr 8 0] ⟨21,(20,tD d text)::AA d P text 0⟩ (.tup []) ⟨80,(20,tD d text)::AA d P text (dB d.wid text P)⟩:=by
 letI:=gtR;have hl:=my hc;refine AC1.of_vs aB T0 Tryz.func87 rfl rfl ?_;repeat' ((conv=>whnf);first|exact kQ|(refine bk ?_ ?_<;>intro _<;>try(exfalso;omega))|refine stq ?_)
 all_goals(conv=>whnf)
 refine aH.by aB T0 (λ(k:Nat)=>⟨tmp 39 [(0,.yf 20),(1,.ptr 7 0),(2,.ptr 6 0),(3,.ptr 8 0),(10,bB P),(11,i64 P.length),(12,i64 (k:Int))],⟨21,(20,tD d text)::AA d P text (dB d.wid text (P.take k))⟩⟩)
  (λk=>k<=P.length) (λk=>P.length-k) 0 om ?_ ?_
 ·exact lq0
 intro k h3;by_cases hk:k<P.length
 ·have hat:=zY hk hc;have hge:=rS (s:=0) hk;have hle:=(vK k hc).1;have hss:=BU (p:=d.wid) (text:=text) hk;have hsr:=ee d.wid text (P.take k);have hwr:=qG d.wid text P[k];have htl:(P.take k).length<=1000:=by rw[List.length_take];omega
  repeat' ((conv=>whnf);first|exact kQ|(refine bk ?_ ?_<;>intro _<;>try(exfalso;omega))|refine stq ?_|refine Chk.mk ⟨by omega,by omega,by omega,(by simp:(text.map i64).length=text.length*1)⟩ ?_|fail)
  refine aH.by2 aB T0 (λ(j:Nat) (m:Int)=>⟨tmp 39 [(0,.yf 20),(1,.ptr 7 0),(2,.ptr 6 0),(3,.ptr 8 0),(6,.ptr 21 0),(7,i64 m),(10,bB P),(11,i64 P.length),(12,i64 (k:Int)),(21,aD (pce text P[k].lo P[k].hi)),(22,i64 (pce text P[k].lo P[k].hi).length),(23,i64 (j:Int))],⟨22,(21,.cells [i64 P[k].lo,i64 P[k].hi] true)::(20,tD d text)::AA d P text (dB d.wid text (P.take k))⟩⟩)
   (λj m=>j<=(pce text P[k].lo P[k].hi).length∧m=mxW d.wid ((pce text P[k].lo P[k].hi).take j)) (λj _=>(pce text P[k].lo P[k].hi).length-j) 0 0 ⟨by omega,by simp[mxW]⟩ ?_ ?_
  ·exact lq [(21,_)] []
  intro j m ⟨h5,h6⟩;have hmr:=nk d.wid ((pce text P[k].lo P[k].hi).take j);have hpcl:(pce text P[k].lo P[k].hi).length<=text.length:=by simp only[List.length_take,List.length_drop];omega
  by_cases hj:j<(pce text P[k].lo P[k].hi).length
  ·have hC:=hcode ((pce text P[k].lo P[k].hi)[j]'hj);have hcr:=jK d.wid ((pce text P[k].lo P[k].hi)[j]'hj);have hms:=D6 (p:=d.wid) hj;generalize hcv:gc d.wid ((pce text P[k].lo P[k].hi)[j]'hj)=cv at *;repeat' ((conv=>whnf);first|exact kQ|(refine bk ?_ ?_<;>intro _<;>try(exfalso;omega))|refine stq ?_|refine cp hC ?_|fail)
   all_goals(conv=>whnf)
   all_goals
    refine⟨j+1,_,⟨by omega,by rw[hms,<-h6]<;>omega⟩,by omega,?_⟩;exact lq [(21,21)] []
  obtain rfl:j=(pce text P[k].lo P[k].hi).length:=by omega
  obtain rfl:m=jc d.wid text P[k]:=by rw[h6,Gt (kP _)];rfl
  repeat' ((conv=>whnf);first|exact kQ|(refine bk ?_ ?_<;>intro _<;>try(exfalso;omega))|refine stq ?_|(apply Yll.sx _ rfl rfl (SvX.region T0 ?_);rotate_left)|refine SvX.block ?_|refine SvX.seq ?_|refine SvX.region T0 ?_|exact⟨rfl,rfl,rfl⟩|refine⟨rfl,rfl,?_⟩|fail)
  all_goals(conv=>whnf)
  refine⟨k+1,by omega,by omega,?_⟩;exact lq0
 ·obtain rfl:k=P.length:=by omega
  rw[List.take_length];repeat' ((conv=>whnf);first|exact kQ|(refine bk ?_ ?_<;>intro _<;>try(exfalso;omega))|refine stq ?_|fail)
  all_goals(conv=>whnf)
  exact⟨Or.inl rfl,rfl,DF rfl⟩
theorem BB {d:Db}{text:List Int}{P:List Rng}(hcode:∀ c:Int,@Pu gtR Tryz.prog 88 [bw d.wid,i64 c] (i64 (gc d.wid c))) (hl:∀ k,k<7->(prop d k).names.length<=30∧(prop d k).spans.length<=16) (hP:@Pu gtR Tryz.prog 86 [dbD d,i64 1,aD text] (.tup [bB P,i64 0])) (hc:Chn 0 P text.length) (hx:text.length<=1000):@Pu gtR Tryz.prog 39 [dbD d,aD text] (.tup [i64 (dB d.wid text P),i64 0]):=by
 letI:=gtR;have hG:=xM hl hP;have h1:=HI hcode hc hx;refine Pu.of_fw (ti:=dM Tryz.prog) Tryz.func39 rfl rfl (by simp[aI,aF,ai,ae,bn,aw,aO]) ?_;repeat' ((conv=>whnf);first|exact kQ|(refine bk ?_ ?_<;>intro _<;>try(exfalso;omega))|refine stq ?_|refine Cll.pk hG ?_|refine Fw.range aB T0 rfl h1 rfl si ?_|refine Fw.split ?_|refine Fw.one aB T0 ?_|fail)
 all_goals(conv=>whnf)
 exact⟨rfl,_,rfl,⟨Rd.eqd rfl rfl⟩⟩
end Go.Proofs.YtpgcjpcenaefpaaGreatDoor
namespace Go.Proofs.YtpgcjpcenaefpaaGreatDoor
open Go Go.Am Classical
set_option maxRecDepth 100000
theorem Good.wid {d:Db}(g:Good d):PrV d.wid:=g.va 2 om
theorem Good.code {d:Db}(g:Good d) (c:Int):@Pu gtR Tryz.prog 88 [bw d.wid,i64 c] (i64 (gc d.wid c)):=by
 have h:d.wid.names.length<=30∧d.wid.spans.length<=16:=g.sm.2.1 1 om;exact @FO gtR _ _ g.wid om
end Go.Proofs.YtpgcjpcenaefpaaGreatDoor
namespace Go.Proofs.YtpgcjpcenaefpaaGreatDoor
open Go Go.Am Classical
set_option maxRecDepth 100000
theorem Good.width {d:Db}(g:Good d){text:List Int}(hx:text.length<=1000):@Pu gtR Tryz.prog 39 [dbD d,aD text] (.tup [i64 (dB d.wid text (gP d text)),i64 0]):=
 BB g.code (λk hk=>g.sm.2.1 k hk) (g.p1 hx) (zM d text) hx
end Go.Proofs.YtpgcjpcenaefpaaGreatDoor
namespace Go.Proofs.YtpgcjpcenaefpaaGreatDoor
open Go Go.Am Classical
set_option maxRecDepth 1000000
theorem wi (p:Prp) (c:Int) (l:List Int):mxW p (c::l)=max (gc p c) (mxW p l):=by
 have h:∀ (l:List Int) (m:Int),0<=m->l.foldl (λm c=>max m (gc p c)) m=max m (mxW p l):=by
  intro l
  induction l with
  | nil=>intro m h;simp[mxW];omega
  | cons c l ih=>
   intro m h;have h1:=jK p c;rw[List.foldl_cons,ih _ om];rw[show mxW p (c::l)=l.foldl (λm c=>max m (gc p c)) (max 0 (gc p c)) from rfl,ih _ om];omega
 have h1:=jK p c;rw[show mxW p (c::l)=l.foldl (λm c=>max m (gc p c)) (max 0 (gc p c)) from rfl,h _ _ om];omega
theorem AR (p:Prp):∀ a b:List Int,mxW p (a++b)=max (mxW p a) (mxW p b)
 | [],b=>by have:=nk p b;simp[show mxW p []=0 from rfl];omega
 | c::a,b=>by rw[List.cons_append,wi,wi,AR p a b];omega
theorem Bk {text:List Int}{a b c:Int}(h0:0<=a) (h1:a<=b) (h2:b<=c):pce text a c=pce text a b++pce text b c:=by
 unfold pce;rw[show(c-a).toNat=(b-a).toNat+(c-b).toNat by omega,List.take_add,List.drop_drop,show a.toNat+(b-a).toNat=b.toNat by omega]
theorem Dv {text:List Int}{lo hi a:Int}(h0:0<=lo) (h1:hi<=a):pce (text.take a.toNat) lo hi=pce text lo hi:=by
 unfold pce;rw[List.drop_take,List.take_take,show min (hi-lo).toNat (a.toNat-lo.toNat)=(hi-lo).toNat by omega]
theorem sW {p:Prp}{text:List Int}{a:Int}:∀ {P:List Rng}{s e:Int},Chn s P e->0<=s->e<=a->dB p (text.take a.toNat) P=dB p text P
 | [],s,e,_,_,_=>rfl
 | r::P,s,e,h,h0,h1=>by
  have h2:=h.1;have h3:=h.2.1;have h4:=oB h.2.2;simp only[dB,jc,Dv (text:=text) (lo:=r.lo) (hi:=r.hi) (a:=a) om om,sW (a:=a) h.2.2 om h1]
end Go.Proofs.YtpgcjpcenaefpaaGreatDoor
namespace Go.Proofs.YtpgcjpcenaefpaaGreatDoor
open Go Go.Am Classical
set_option maxRecDepth 1000000
theorem sQ {p:Prp}{text:List Int}{lo a b:Int}(h0:0<=lo) (h1:lo<=a) (h2:a<=b):jc p text ⟨lo,a⟩<=jc p text ⟨lo,b⟩:=by
 simp only[jc];rw[Bk h0 h1 h2,AR];omega
noncomputable abbrev F6 (d:Db) (text:List Int):Int:=dB d.wid text (gP d text)
theorem lb {p:Prp}{text:List Int}{n e:Int}:∀ (E:List Int) (s:Int),(s::(E++[e])).Pairwise (·<=·)->0<=s->s<=n->n<=e->dB p text (btw s (jY n E++[n]))<=dB p text (btw s (E++[e]))
 | [],s,hp,h0,h1,h2=>by
  simp only[jY,List.filter_nil,List.nil_append];by_cases h:s<n
  ·rw[eR h,eR om];have:=sQ (p:=p) (text:=text) (lo:=s) (a:=n) (b:=e) h0 h1 h2
   have e1:∀ x:Int,btw x []=[]:=λx=>rfl
   simp only[dB,e1];omega
  ·rw[jO h];exact(ee p text _).1
 | x::E,s,hp,h0,h1,h2=>by
  have hp1:=List.pairwise_cons.1 hp;have hp2:=List.pairwise_cons.1 hp1.2;have hx:s<=x:=hp1.1 x si;by_cases hn:x<n
  ·rw[Cg hn,List.cons_append,List.cons_append];by_cases hs:s<x
   ·rw[eR hs,eR hs];have:=lb (p:=p) (text:=text) (n:=n) (e:=e) E x hp1.2 om om h2
    simp only[dB];omega
   ·obtain rfl:s=x:=by omega
    rw[jO hs,jO hs];exact lb E s hp1.2 h0 h1 h2
  ·have hb:jY n (x::E)=[]:=ra λa ha=>by
    rcases List.mem_cons.1 ha with rfl|ha
    ·omega
    ·have:=hp2.1 a (by simp[ha]);omega
   rw[hb,List.nil_append];by_cases h:s<n
   ·rw[eR h,List.cons_append,eR om];have h3:=sQ (p:=p) (text:=text) (lo:=s) (a:=n) (b:=x) h0 h1 om;have h4:=ee p text (btw x (E++[e]));have e1:∀ x:Int,btw x []=[]:=λx=>rfl
    simp only[dB,e1];omega
   ·rw[jO h];exact(ee p text _).1
theorem C1 {d:Db}{text:List Int}{n:Nat}(hn:n<=text.length):F6 d (text.take n)<=F6 d text:=by
 letI:=gtR
 have hA:∀ text:List Int,gP d text=btw 0 (iE (acts t1 (av (prop d 3) t1.classes text)) (text.length+1)++[(text.length:Int)]):=λtext=>by
  show ue (prop d 3) t1 text=_;rw[ue,if_pos tv1.1,Jw,gg,if_pos tv1.1,dY];simp[av]
 have hCL:CL (av (prop d 3) t1.classes text) cl1.length:=qo (t:=t1) tv1.1;have hnl:(av (prop d 3) t1.classes text).length=text.length:=by simp[av]
 have hsrt:(0::(iE (acts t1 (av (prop d 3) t1.classes text)) (text.length+1)++[(text.length:Int)])).Pairwise (·<=·):=by
  have:=Aj (A:=acts t1 (av (prop d 3) t1.classes text)) (n:=text.length) (by rw[dY,hnl])
  rwa [show(acts t1 (av (prop d 3) t1.classes text)).length=text.length+1 by rw[dY,hnl]] at this
 have hcm:(text.take n).length=n:=by rw[List.length_take];omega
 have hnm:av (prop d 3) t1.classes (text.take n)=(av (prop d 3) t1.classes text).take n:=by simp[av,List.map_take]
 have hcg:iE (acts t1 ((av (prop d 3) t1.classes text).take n)) n=iE (acts t1 (av (prop d 3) t1.classes text)) n:=rR λi hi=>by
  rw[xv (by rw[List.length_take];omega),xv om,Fh hCL om hi]
 have hQ:gP d (text.take n)=btw 0 (jY n (iE (acts t1 (av (prop d 3) t1.classes text)) (text.length+1))++[(n:Int)]):=by
  rw[hA (text.take n),hcm,hnm,lA,hcg,show text.length+1=n+(text.length+1-n) by omega,oq];split
  ·exact vS _ _ _
  ·rw[List.append_nil]
 have hc:=zM d (text.take n);have hs:=sW (p:=d.wid) (text:=text) (a:=(n:Int)) hc (Int.le_refl _) (by rw[hcm];exact Int.le_refl _);rw[Int.toNat_natCast] at hs;show dB d.wid (text.take n) (gP d (text.take n))<=dB d.wid text (gP d text);rw[hs,hQ,hA text];exact lb _ 0 hsrt (Int.le_refl _) om om
end Go.Proofs.YtpgcjpcenaefpaaGreatDoor
namespace Go.Proofs.YtpgcjpcenaefpaaGreatDoor
open Go Go.Am Classical
set_option maxRecDepth 1000000
theorem sS (nv:List Int) (a:Nat):∀ {k m:Nat},k<=m->cG nv a k<=cG nv a m
 | k,0,h=>by
  obtain rfl:k=0:=by omega
  exact kP _
 | k,m+1,h=>by
  by_cases hk:k=m+1
  ·subst hk;exact kP _
  ·have ih:=sS nv a (k:=k) (m:=m) om;have hl:=uK nv a m;simp only[cG];split<;>omega
noncomputable def u4 (d:Db) (text:List Int) (a b:Nat):Int:=F6 d (pce text a (cG (nvL d text) a b:Nat))
theorem zB (d:Db){text:List Int}{a b:Nat}(hb:b<=text.length):0<=u4 d text a b∧u4 d text a b<=2*text.length:=by
 have h1:=ee d.wid (pce text a (cG (nvL d text) a b:Nat)) (gP d (pce text a (cG (nvL d text) a b:Nat)));have h2:=my (zM d (pce text a (cG (nvL d text) a b:Nat)));have h3:(pce text a (cG (nvL d text) a b:Nat)).length<=text.length:=by simp only[List.length_take,List.length_drop];omega
 unfold u4;simp only[F6];omega
theorem B3 (d:Db){text:List Int}{a b c:Nat}(h1:b<=c):u4 d text a b<=u4 d text a c:=by
 have h2:=sS (nvL d text) a h1;unfold u4
 have e:pce text a (cG (nvL d text) a b:Nat)=(pce text a (cG (nvL d text) a c:Nat)).take ((cG (nvL d text) a b-a:Nat)):=by
  unfold pce;rw[List.take_take];congr 1;omega
 by_cases h:(cG (nvL d text) a b-a:Nat)<=(pce text a (cG (nvL d text) a c:Nat)).length
 ·rw[e];exact C1 h
 ·rw[e,kE om];exact Int.le_refl _
end Go.Proofs.YtpgcjpcenaefpaaGreatDoor
