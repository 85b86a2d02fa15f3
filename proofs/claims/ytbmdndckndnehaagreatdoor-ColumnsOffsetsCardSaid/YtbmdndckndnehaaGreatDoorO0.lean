/-
  The abstract machine, part 60: functions with a loop over a function that stand in a scope of labels, or end ahead of the loop.
-/
import Derived.Test.YtbmdndckndnehaaGreatDoorAmF
import Derived.Test.YtbmdndckndnehaaGreatDoorAmD
import Derived.Test.YtbmdndckndnehaaGreatDoorL3
set_option linter.unusedSectionVars false
namespace Go.Am
section
variable {F:Fence}{n:Nat}{P:Program}{Q:Exit->Act->World->Prop}{a:Act}{w:World}
theorem eH {b:Frame}{k:List Item}{cs:List Frame}{c:Code}:step P (lone (b.atR a (.code (.scope c)::k)) cs w)=.next (lone (b.atR a (.code c::.inScope c::k)) cs w):=
 step_lone_go (by simp[stepG,stepG.exec,Frame.atR])
theorem tM {b:Frame}{k:List Item}{cs:List Frame}{c:Code}:step P (lone (b.atR a (.inScope c::k)) cs w)=.next (lone (b.atR a k) cs w):=
 step_lone_go (by simp[stepG,stepG.exec,Frame.atR])
theorem zK {c:Code}(h:c.wpIn F n P Q a w) (hg:∀ l a w,¬Q (.goto l) a w):(Code.scope c).wpIn F n P Q a w:=by
 intro b k cs hro hb hr;have h0:(lone (b.atR a (.code (.scope c)::k)) cs w).fenced P F:=fenced_calm hb hr rfl;obtain⟨e,a₁,w₁,hq,harr⟩:=h b (.inScope c::k) cs hro hb hr;cases e with
 | normal=>exact⟨.normal,a₁,w₁,hq,.head h0 eH (StepsIn.trans harr (.one (fenced_calm hb hr rfl) tM))⟩
 | exit id'=>
  have hx:exitTo id' (.inScope c::k)=exitTo id' k:=by simp[exitTo]
  exact⟨.exit id',a₁,w₁,hq,λk' hk=>.head h0 eH (harr.1 k' (by rw[hx];exact hk)),
   λhr' hk=>let⟨k₁,h1,h2⟩:=harr.2 hr' (by rw[hx];exact hk);⟨k₁,h1,.head h0 eH h2⟩⟩
 | goto l=>exact absurd hq (hg l _ _)
 | ret=>exact⟨_,a₁,w₁,hq,.of_steps (.one h0 eH) harr⟩
 | panic ch=>exact⟨_,a₁,w₁,hq,.of_steps (.one h0 eH) harr⟩
 | outgrown=>exact⟨_,a₁,w₁,hq,.of_steps (.one h0 eH) harr⟩
end
section
variable [GT] {P:Program}{ti:TI}{fn:Func}{d:D}
theorem Fw.scope {c:Code}{s:St}(h:Fw P ti fn d [c] s):Fw P ti fn d [.scope c] s:=⟨λcb ct a R hB hf hd hR=>oN (zK (h.run cb ct a R hB hf hd hR) (λ_ _ _ hq=>hq)) λe a w hq=>by cases e<;>exact hq⟩
theorem Fw.label {l:Nat}{cs:List Code}{s:St}(h:Fw P ti fn d cs s):Fw P ti fn d (.label l::cs) s:=⟨λcb ct a R hB hf hd hR=>wpIn_label (h.run cb ct a R hB hf hd hR)⟩
def goQ (ti:TI) (fn:Func) (d:D) (K:St->Prop):Exit->St->Prop
 | .normal,s=>K s
 | .ret,s=>match ii ti fn s with|some d0=>aC s.h d0 d|none=>False
 | _,_=>False
theorem Fw.step (hm:P.follows .mixedOrders=true) (T:TOk P ti){x:Code}{cs:List Code}{s:St}(h:gW P ti 0 x (goQ ti fn d (Fw P ti fn d cs)) s):Fw P ti fn d (x::cs) s:=⟨λcb c a R hB hf hd hR=>by
 refine(bM hm T x _ _ h).run cb ⟨0,[]⟩ c a _ hB hf λe s1 c1 a1 hq f1 b1 d1=>?_
 cases e with
 | normal=>exact hq.run cb c1 a1 R b1 f1 (d1.trans hd) hR
 | ret=>
  simp only[goQ] at hq;split at hq
  ·rename_i d0 hr;rw[show Exit.then (wpL (WF none) 0 P (bodyPostM (WF none) 0 P fn R) cs) (bodyPostM (WF none) 0 P fn R) .ret a1 c1.w=LeavesInM (WF none) 0 P fn a1.tmps R a1.defers .returning c1.w from rfl,d1,hd];refine fm (dl:=λ_ _ _=>none) (λ_ _ _ _ hx=>by cases hx) [] [] c1 s1.h s1.h rfl f1.rel rfl λc3 r3 g3 p3=>?_
   obtain⟨v,e1,v1⟩:=dL (P:=P) T (a:=a1) (⟨r3,VS.keep g3.keeps _ _ f1.tmps⟩:Fit c3 s1 a1) hr;exact⟨v,e1,hR v d0 c3 _ v1 r3 (b1.grow.trans g3) hq⟩
  ·exact hq.elim
 | _=>exact hq.elim⟩
end
end Go.Am
namespace Go.Proofs.YtbmdndckndnehaaGreatDoor
open Go Go.Am Classical
set_option maxRecDepth 100000
theorem xO1.rdX {p:Prop}(h:p:=by first|exact Rd.frzp rfl rfl (Rds.cons (Rd.same (aP _)) (Rds.cons (Rd.same (aW _)) Rds.nil))|exact Rd.frzp rfl rfl (Rds.cons (Rd.same rfl) Rds.nil)|fail):p:=h
open xO1
def tY (s:Str):Int:=if s=[90,101,114,111] then 0 else if s=[87,105,100,101]∨s=[70,117,108,108] then 2 else 1
theorem AZ {s:Str}(h:s=[90,101,114,111]):0=tY s:=by subst h;simp[tY]
theorem AV {s:Str}(h:s=[87,105,100,101]):2=tY s:=by subst h;simp[tY]
theorem AX {s:Str}(h:s=[70,117,108,108]):2=tY s:=by subst h;simp[tY]
theorem AY {s:Str}(h0:¬s=[90,101,114,111]) (h1:¬s=[87,105,100,101]) (h2:¬s=[70,117,108,108]):1=tY s:=by
 rw[tY,if_neg h0,if_neg λh=>h.elim h1 h2]
noncomputable def cL (p:Prp) (c:Int):Int:=tY (iw p c)
theorem cK (p:Prp) (c:Int):0<=cL p c∧cL p c<=2:=by
 unfold cL tY;split
 ·omega
 ·split<;>omega
section
variable [GT]
theorem BI {p:Prp}{c:Int}(hp:p.ok):Pu Tryz.prog 55 [bn p,i64 c] (i64 (cL p c)):=by
 refine pv Tryz.func55 ?_;repeat' ((conv=>whnf);first|exact kQ|(refine bk ?_ ?_<;>intro _<;>try(exfalso;omega))|refine stq ?_|refine cp (FL sd) ?_|fail)
 all_goals(conv=>whnf)
 all_goals first
  | exact aC.int (AZ asm)
  | exact aC.int (AV asm)
  | exact aC.int (AX asm)
  | exact aC.int (AY asm asm asm)
theorem Io {p:Prp}{c:Int}{k:Nat}(hk:k<p.spans.length):Pu Tryz.prog 89 ([i64 (k:Int)]++[.iptr [strs p.names,cg p.spans],.iptr [i64 c]]) (boo (decide (c<=p.spans[k].hi))):=by
 refine pv Tryz.func89 ?_;repeat' ((conv=>whnf);first|exact kQ|(refine bk ?_ ?_<;>intro _<;>try(exfalso;omega))|refine stq ?_)
 all_goals(conv=>whnf)
 all_goals first
  | exact aC.yes om
  | exact aC.no om
theorem gJ {p:Prp}(hv:PrV p){c v:Int}(e:v=dO p.spans c):0<=v∧∃ h:v.toNat<p.names.length,p.names[v.toNat]=iw p c:=by
 have h1:=i9 (p:=p) c;have h2:cnt p=p:=by simp[cnt,hv]
 subst e;rw[h2] at h1;refine⟨h1.1,by omega,?_⟩;unfold iw;simp only[h2]
theorem GS {p:Prp}{c:Int}(hv:PrV p) (hn:p.spans.length<=1000):Pu Tryz.prog 52 [bn p,i64 c] (i64 (cL p c)):=by
 have hr:D0 p.spans:=by
  have:=yY p
  rwa [show cnt p=p by simp[cnt,hv]] at this
 have h0:=sS p.spans c;have hg:=sK hr c
 have hse:Pu Tryz.prog 88 [i64 p.spans.length,.fn (.func 89) [] [.iptr [strs p.names,cg p.spans],.iptr [i64 c]]] (i64 (bB p.spans c)):=
  xC (p:=λi=>∃ h:i<p.spans.length,c<=p.spans[i].hi) (by simp[aN,aE,aW,aP]) om h0 (λi hi ⟨h,hc⟩=>fp h hi hc)
   (λi h1 h2=>⟨h2,by
    have h3:=my (l:=p.spans) (c:=c) om;have h4:=vV hr (i-bB p.spans c) (i:=bB p.spans c) om om;have e:bB p.spans c+(i-bB p.spans c)=i:=by omega
    simp only[e] at h4
    omega⟩)
   (λi hi=>by
    have:=Io (p:=p) (c:=c) hi
    exact(congrArg (λb=>Pu Tryz.prog _ _ (boo b)) (decide_eq_decide.2 ⟨λh=>⟨hi,h⟩,λ⟨_,h⟩=>h⟩)).mp this)
 have hA:∀ h:bB p.spans c<p.spans.length,p.spans[bB p.spans c].lo<=c->p.spans[bB p.spans c].val=dO p.spans c:=λh h2=>by rw[hg,dif_pos h,if_pos h2]
 have hB:∀ h:bB p.spans c<p.spans.length,¬p.spans[bB p.spans c].lo<=c->(0:Int)=dO p.spans c:=λh h2=>by rw[hg,dif_pos h,if_neg h2]
 have hC:¬bB p.spans c<p.spans.length->(0:Int)=dO p.spans c:=λh=>by rw[hg,dif_neg h]
 refine pv Tryz.func52 ?_
 conv=>whnf
 refine db.weak aB T0 (s0:=⟨tmp 43 [(2,.iptr [strs p.names,cg p.spans]),(3,.iptr [i64 c])],⟨0,[]⟩⟩) ?_ ?_
 ·exact lq [] [0,1]
 repeat' ((conv=>whnf);first|exact kQ|(refine bk ?_ ?_<;>intro _<;>try(exfalso;omega))|refine stq ?_|refine cp hse ?_|refine Idx.at (p.spans[bB p.spans c]'(by omega)).val.toNat (by have:=(gJ hv (hA om asm)).1;omega) ((gJ hv (hA om asm)).2.1) ?_|refine Idx.at 0 rfl (by have:=hv.1.1;omega) ?_)
 all_goals(conv=>whnf)
 all_goals
  obtain⟨_,h1,h2⟩:0<=dO p.spans c∧∃ h:(dO p.spans c).toNat<p.names.length,p.names[(dO p.spans c).toNat]=iw p c:=gJ hv rfl
  first
  | (have e:=hA om asm;simp only[<-e] at h2;first
    | exact aC.int (AZ (h2.symm.trans asm))
    | exact aC.int (AV (h2.symm.trans asm))
    | exact aC.int (AX (h2.symm.trans asm))
    | exact aC.int (AY (λh=>absurd (h2.trans h) asm) (λh=>absurd (h2.trans h) asm) (λh=>absurd (h2.trans h) asm)))
  | (have e:(0:Int)=dO p.spans c:=(by first|exact hB om asm|exact hC om);simp only[<-e] at h2;first
    | exact aC.int (AZ (h2.symm.trans asm))
    | exact aC.int (AV (h2.symm.trans asm))
    | exact aC.int (AX (h2.symm.trans asm))
    | exact aC.int (AY (λh=>absurd (h2.trans h) asm) (λh=>absurd (h2.trans h) asm) (λh=>absurd (h2.trans h) asm)))
end
end Go.Proofs.YtbmdndckndnehaaGreatDoor
namespace Go.Proofs.YtbmdndckndnehaaGreatDoor
open Go Go.Am Classical
set_option maxRecDepth 100000
theorem xO2.rdX {p:Prop}(h:p:=by first|exact Rd.yf rfl|exact Rd.eqd (vf om om om) (aI _)|exact Rd.int (by first|(simp only[List.length_take,List.length_drop];omega;done)|fail)|fail):p:=h
theorem xO2.rbX {p:Prop}(h:p:=by first|exact Rb.dfr|exact rbW|exact Rb.cells (Rds.same (cR _)) rfl|exact Rb.cells (Rds.cons (Rd.int om) Rds.nil) rfl|fail):p:=h
open xO2
noncomputable def mxW (p:Prp) (l:List Int):Int:=l.foldl (λm c=>max m (cL p c)) 0
theorem xj (p:Prp) (l:List Int) (c:Int):mxW p (l++[c])=max (mxW p l) (cL p c):=by simp[mxW]
theorem eP (p:Prp) (l:List Int):0<=mxW p l∧mxW p l<=2:=by
 have h:∀ (l:List Int) (m:Int),0<=m∧m<=2->0<=l.foldl (λm c=>max m (cL p c)) m∧l.foldl (λm c=>max m (cL p c)) m<=2:=by
  intro l
  induction l with
  | nil=>intro m h;exact h
  | cons c l ih=>
   intro m h;have:=cK p c
   exact ih (max m (cL p c)) om
 exact h l 0 om
noncomputable def dI (p:Prp) (text:List Int) (r:Rng):Int:=mxW p (pce text r.lo r.hi)
theorem dH (p:Prp) (text:List Int) (r:Rng):0<=dI p text r∧dI p text r<=2:=eP p _
noncomputable def bQ (p:Prp) (text:List Int):List Rng->Int
 | []=>0
 | r::P=>dI p text r+bQ p text P
theorem tn (p:Prp) (text:List Int) (r:Rng):∀ P:List Rng,bQ p text (P++[r])=bQ p text P+dI p text r
 | []=>by simp[bQ]
 | q::P=>by simp only[List.cons_append,bQ,tn p text r P];omega
theorem cY (p:Prp) (text:List Int):∀ P:List Rng,0<=bQ p text P∧bQ p text P<=2*P.length
 | []=>by simp[bQ]
 | r::P=>by
  have h1:=cY p text P;have h2:=dH p text r;simp only[bQ,kO];omega
theorem lT {p:Prp}{text:List Int}{P:List Rng}{k:Nat}(h:k<P.length):bQ p text (P.take (k+1))=bQ p text (P.take k)+dI p text P[k]:=by
 rw[List.take_add_one,List.getElem?_eq_getElem h];exact tn p text P[k] _
noncomputable def bT (p:Prp) (text:List Int) (n:Int):Int->List Rng->Nat
 | _,[]=>0
 | s,r::P=>if s+dI p text r > n then 0 else bT p text n (s+dI p text r) P+1
theorem i8 (p:Prp) (text:List Int) (n:Int):∀ (P:List Rng) (s:Int),bT p text n s P<=P.length
 | [],s=>by simp[bT]
 | r::P,s=>by
  have:=i8 p text n P (s+dI p text r)
  unfold bT;split<;>simp<;>omega
theorem nr {p:Prp}{text:List Int}{n:Int}:∀ {P:List Rng}{s:Int}{k:Nat},s<=n->k<=bT p text n s P->s+bQ p text (P.take k)<=n
 | [],s,k,h,_=>by simp[bQ];exact h
 | r::P,s,0,h,_=>by simp[bQ];exact h
 | r::P,s,k+1,h,hk=>by
  unfold bT at hk;split at hk
  ·omega
  ·have:=nr (p:=p) (text:=text) (n:=n) (P:=P) (s:=s+dI p text r) (k:=k) om om
   simp only[List.take_succ_cons,bQ];omega
theorem qt {p:Prp}{text:List Int}{n:Int}:∀ {P:List Rng}{s:Int},bT p text n s P<P.length->n<s+bQ p text (P.take (bT p text n s P+1))
 | [],s,h=>by simp[bT] at h
 | r::P,s,h=>by
  unfold bT at h ⊢;split
  ·simp[bQ];omega
  ·rename_i hn;rw[if_neg hn] at h;have:=qt (p:=p) (text:=text) (n:=n) (P:=P) (s:=s+dI p text r) (by simp at h;omega)
   simp only[List.take_succ_cons,bQ] at this ⊢;omega
theorem uk {p:Prp}{text:List Int}{n m:Int}(h:n<=m):∀ {P:List Rng}{s:Int},bT p text n s P<=bT p text m s P
 | [],s=>by simp[bT]
 | r::P,s=>by
  have:=uk (p:=p) (text:=text) h (P:=P) (s:=s+dI p text r)
  simp only[bT];split<;>split<;>omega
theorem kx {d:Db}{text:List Int}{P:List Rng}(hl:∀ k,k<7->(prop d k).names.length<=30∧(prop d k).spans.length<=16) (hP:@Pu gtR Tryz.prog 17 [dbD d,i64 1,aD text] (.tup [a7 P,i64 0])):@Pk gtR Tryz.prog 56 [dbD d,aD text] 3 (λn=>.tup [.fn (.func 95) [] [.ptr (n+1) 0,.ptr n 0,.ptr (n+2) 0],i64 0]) (λn=>[(n,.cells [aD text] true),(n+1,.cells [a7 P] true),(n+2,.cells [strs d.wid.names,cg d.wid.spans] true)]):=by
 letI:=gtR;have hp:Pu Tryz.prog 53 [dbD d,i64 1] (bn d.wid):=wL hl 1 om;refine Pk.of_v aB T0 Tryz.func56 rfl rfl (by simp[aN,aE,aP,aW,az,ad,aI]) ?_;repeat' ((conv=>whnf);first|exact kQ|(refine bk ?_ ?_<;>intro _<;>try(exfalso;omega))|refine stq ?_|refine cp hP ?_|refine cp hp ?_|fail)
 all_goals(conv=>whnf)
 exact⟨[1,10,17],rfl,⟨by simp,λn=>.tup (.cons (.fn .nil (.cons (.ptr (by simp[sgn])) (.cons (.ptr (by simp[sgn])) (.cons (.ptr (by simp[sgn])) .nil)))) (.cons (.same rfl) .nil)),λn=>.cons (id:=1) (by simp[sgn]) rfl rfl (.cells (.cons (.same (aI text)) .nil) rfl) (.cons (id:=10) (by simp[sgn]) rfl rfl (.cells (.cons (.same (ad P)) .nil) rfl) (.cons (id:=17) (by simp[sgn]) rfl rfl (.cells (.cons (.same (aP _)) (.cons (.same (aW _)) .nil)) rfl) .nil))⟩⟩
theorem vf {text:List Int}{lo hi:Int}(h0:0<=lo) (h1:lo<=hi) (h2:hi<=text.length):D.imm (hi-lo).toNat (((text.map i64).drop (lo.toNat*1)).take ((hi-lo).toNat*1))=aD (pce text lo hi):=by
 simp only[lst,pce,Nat.mul_one,List.length_take,List.length_drop,List.map_take,List.map_drop];congr 1;omega
theorem nY {p:Prp}{l:List Int}{k:Nat}(h:k<l.length):mxW p (l.take (k+1))=max (mxW p (l.take k)) (cL p l[k]):=by
 rw[List.take_add_one,List.getElem?_eq_getElem h];exact xj p _ _
theorem v7 {p:Prp}{l:List Int}{k:Nat}(h:l.length<=k):mxW p (l.take k)=mxW p l:=by rw[kE h]
abbrev gFn (n:Nat):D:=.fn (.func 95) [] [.ptr (n+1) 0,.ptr n 0,.ptr (n+2) 0]
noncomputable abbrev uR (d:Db) (text:List Int):Box:=.loop .ready none ([dbD d,aD text,.ptr 0 0,aM,i64 0,i64 0,gFn 6,i64 0,.ptr 16 0,aM,aM,.tup [gFn 6,i64 0],dbD d,aD text,.tup [gFn 6,i64 0],gFn 6,i64 0,i64 0,boo false,aM,gFn 6]++List.replicate 6 aM) [21,22] (fnA Tryz.f26) (fnB Tryz.f26)
abbrev BG (d:Db) (P:List Rng) (text:List Int) (s:Int):List (Nat×Box):=[(19,.dfr),(16,.cells [i64 s] true),(6,.cells [aD text] true),(7,.cells [a7 P] true),(8,.cells [strs d.wid.names,cg d.wid.spans] true),(0,.cells (dbC d) true)]
theorem rbW [GT] {h:aA}{fz:Nat->Bool}{σl:List (Nat×Nat)}{d:Db}{text:List Int}:Rb h fz (sgm 21 σl) (uR d text) (uR d text):=
 .loop (by
  (repeat(first|exact Rds.nil|refine Rds.cons (by first|exact Rd.same rfl|exact Rd.ptr rfl|exact Rd.fn .nil (.cons (.ptr rfl) (.cons (.ptr rfl) (.cons (.ptr rfl) .nil)))|exact Rd.tup (.cons (Rd.fn .nil (.cons (.ptr rfl) (.cons (.ptr rfl) (.cons (.ptr rfl) .nil)))) (.cons (.same rfl) .nil))|exact Rd.same (by simp[aN,aE,aI,aP,aW,az,ad])|fail) ?_|fail))
  done)
set_option maxHeartbeats 8000000 in
theorem IM {d:Db}{P:List Rng}{text:List Int}(hcode:∀ c:Int,@Pu gtR Tryz.prog 52 [bn d.wid,i64 c] (i64 (cL d.wid c))) (hc:Chn 0 P text.length) (hx:text.length<=1000):@AC1 gtR Tryz.prog 95 [.yf 20,.ptr 7 0,.ptr 6 0,.ptr 8 0] ⟨21,(20,uR d text)::BG d P text 0⟩ (.tup []) ⟨80,(20,uR d text)::BG d P text (bQ d.wid text P)⟩:=by
 letI:=gtR;have hl:=gE hc;refine AC1.of_vs aB T0 Tryz.func95 rfl rfl ?_;repeat' ((conv=>whnf);first|exact kQ|(refine bk ?_ ?_<;>intro _<;>try(exfalso;omega))|refine stq ?_)
 all_goals(conv=>whnf)
 refine aH.by aB T0 (λ(k:Nat)=>⟨tmp 39 [(0,.yf 20),(1,.ptr 7 0),(2,.ptr 6 0),(3,.ptr 8 0),(10,a7 P),(11,i64 P.length),(12,i64 (k:Int))],⟨21,(20,uR d text)::BG d P text (bQ d.wid text (P.take k))⟩⟩)
  (λk=>k<=P.length) (λk=>P.length-k) 0 om ?_ ?_
 ·exact lq0
 intro k h3;by_cases hk:k<P.length
 ·have hat:=lK hk hc;have hge:=gz (s:=0) hk;have hle:=(dG k hc).1;have hss:=lT (p:=d.wid) (text:=text) hk;have hsr:=cY d.wid text (P.take k);have hwr:=dH d.wid text P[k];have htl:(P.take k).length<=1000:=by rw[List.length_take];omega
  repeat' ((conv=>whnf);first|exact kQ|(refine bk ?_ ?_<;>intro _<;>try(exfalso;omega))|refine stq ?_|refine Chk.mk ⟨by omega,by omega,by omega,(by simp:(text.map i64).length=text.length*1)⟩ ?_|fail)
  refine aH.by2 aB T0 (λ(j:Nat) (m:Int)=>⟨tmp 39 [(0,.yf 20),(1,.ptr 7 0),(2,.ptr 6 0),(3,.ptr 8 0),(6,.ptr 21 0),(7,i64 m),(10,a7 P),(11,i64 P.length),(12,i64 (k:Int)),(21,aD (pce text P[k].lo P[k].hi)),(22,i64 (pce text P[k].lo P[k].hi).length),(23,i64 (j:Int))],⟨22,(21,.cells [i64 P[k].lo,i64 P[k].hi] true)::(20,uR d text)::BG d P text (bQ d.wid text (P.take k))⟩⟩)
   (λj m=>j<=(pce text P[k].lo P[k].hi).length∧m=mxW d.wid ((pce text P[k].lo P[k].hi).take j)) (λj _=>(pce text P[k].lo P[k].hi).length-j) 0 0 ⟨by omega,by simp[mxW]⟩ ?_ ?_
  ·exact lq [(21,_)] []
  intro j m ⟨h5,h6⟩;have hmr:=eP d.wid ((pce text P[k].lo P[k].hi).take j);have hpcl:(pce text P[k].lo P[k].hi).length<=text.length:=by simp only[List.length_take,List.length_drop];omega
  by_cases hj:j<(pce text P[k].lo P[k].hi).length
  ·have hC:=hcode ((pce text P[k].lo P[k].hi)[j]'hj);have hcr:=cK d.wid ((pce text P[k].lo P[k].hi)[j]'hj);have hms:=nY (p:=d.wid) hj;generalize hcv:cL d.wid ((pce text P[k].lo P[k].hi)[j]'hj)=cv at *;repeat' ((conv=>whnf);first|exact kQ|(refine bk ?_ ?_<;>intro _<;>try(exfalso;omega))|refine stq ?_|refine cp hC ?_|fail)
   all_goals(conv=>whnf)
   all_goals
    refine⟨j+1,_,⟨by omega,by rw[hms,<-h6]<;>omega⟩,by omega,?_⟩;exact lq [(21,21)] []
  obtain rfl:j=(pce text P[k].lo P[k].hi).length:=by omega
  obtain rfl:m=dI d.wid text P[k]:=by rw[h6,v7 (kP _)];rfl
  repeat' ((conv=>whnf);first|exact kQ|(refine bk ?_ ?_<;>intro _<;>try(exfalso;omega))|refine stq ?_|(apply Yll.sx _ rfl rfl (SvX.region T0 ?_);rotate_left)|refine SvX.block ?_|refine SvX.seq ?_|refine SvX.region T0 ?_|exact⟨rfl,rfl,rfl⟩|refine⟨rfl,rfl,?_⟩|fail)
  all_goals(conv=>whnf)
  refine⟨k+1,by omega,by omega,?_⟩;exact lq0
 ·obtain rfl:k=P.length:=by omega
  rw[List.take_length];repeat' ((conv=>whnf);first|exact kQ|(refine bk ?_ ?_<;>intro _<;>try(exfalso;omega))|refine stq ?_|fail)
  all_goals(conv=>whnf)
  exact⟨Or.inl rfl,rfl,rS rfl⟩
theorem wl {d:Db}{text:List Int}{P:List Rng}(hcode:∀ c:Int,@Pu gtR Tryz.prog 52 [bn d.wid,i64 c] (i64 (cL d.wid c))) (hl:∀ k,k<7->(prop d k).names.length<=30∧(prop d k).spans.length<=16) (hP:@Pu gtR Tryz.prog 17 [dbD d,i64 1,aD text] (.tup [a7 P,i64 0])) (hc:Chn 0 P text.length) (hx:text.length<=1000):@Pu gtR Tryz.prog 26 [dbD d,aD text] (.tup [i64 (bQ d.wid text P),i64 0]):=by
 letI:=gtR;have hG:=kx hl hP;have h1:=IM hcode hc hx;refine Pu.of_fw (ti:=fD Tryz.prog) Tryz.func26 rfl rfl (by simp[aN,aE,aP,aW,az,ad,aI]) ?_;repeat' ((conv=>whnf);first|exact kQ|(refine bk ?_ ?_<;>intro _<;>try(exfalso;omega))|refine stq ?_|refine Cll.pk hG ?_|refine Fw.range aB T0 rfl h1 rfl si ?_|refine Fw.split ?_|refine Fw.one aB T0 ?_|fail)
 all_goals(conv=>whnf)
 exact⟨rfl,_,rfl,⟨Rd.eqd rfl rfl⟩⟩
end Go.Proofs.YtbmdndckndnehaaGreatDoor
namespace Go.Proofs.YtbmdndckndnehaaGreatDoor
open Go Go.Am Classical
set_option maxRecDepth 100000
theorem xO5.rdX {p:Prop}(h:p:=by first|exact Rd.yf rfl|exact Rd.eqd (vf om om om) (aI _)|exact Rd.int (by first|(have:=@pB P 0;omega;done)|fail)|exact Rd.int (by first|(simp only[List.length_take,List.length_drop];omega;done)|fail)|fail):p:=h
theorem xO5.rbX {p:Prop}(h:p:=by first|exact Rb.dfr|exact rbFi|exact Rb.cells (Rds.same (cR _)) rfl|exact Rb.cells (Rds.cons (Rd.int om) Rds.nil) rfl|exact rbOf|exact Rb.cells (Rds.cons (Rd.int (by first|(have:=@pB P 0;omega;done)|fail)) Rds.nil) rfl|fail):p:=h
open xO5
theorem Az [GT] {n m j i:Nat}{b c:Box}{l:List (Nat×Box)}(hn:Nat.ble n m=true) (hf:aV l j=none) (hg:aV l i=none):Sub ⟨n,(j,b)::(i,c)::l⟩ ⟨m,l⟩:=⟨kD hn,λid box h=>by
 simp only[aA.get,aV] at h ⊢;split
 ·rename_i e;subst e;rw[hf] at h;cases h
 ·split
  ·rename_i e;subst e;rw[hg] at h;cases h
  ·exact h⟩
noncomputable abbrev uT (d:Db) (text:List Int) (n:Int) (st:LoopState) (pe:Option Code):Box:=.loop st pe ([dbD d,aD text,i64 n,.ptr 0 0,aM,.ptr 1 0,i64 0,i64 0,gFn 7,i64 0,.ptr 21 0,.ptr 22 0,aM,aM,.tup [gFn 7,i64 0],dbD d,aD text,.tup [gFn 7,i64 0],gFn 7,i64 0,i64 0,boo false,boo false,i64 n,boo false,boo false,aM,gFn 7]++List.replicate 12 aM) [28,29] (fnA Tryz.f30) (fnB Tryz.f30)
noncomputable abbrev uS (d:Db) (text:List Int) (n:Int) (st:LoopState) (pe:Option Code):Box:=.loop st pe ([dbD d,aD text,i64 n,.ptr 0 0,aM,.ptr 1 0,i64 0,i64 0,gFn 7,i64 0,.ptr 21 0,.ptr 22 0,aM,aM,.tup [gFn 7,i64 0],dbD d,aD text,.tup [gFn 7,i64 0],gFn 7,i64 0,i64 0,boo false,aM,i64 n,boo false,aD text,i64 text.length,gFn 7]++List.replicate 12 aM) [28,29] (fnA Tryz.f31) (fnB Tryz.f31)
abbrev pm (d:Db) (P:List Rng) (text:List Int) (n e s:Int):List (Nat×Box):=[(26,.dfr),(22,.cells [i64 e] true),(21,.cells [i64 s] true),(7,.cells [aD text] true),(8,.cells [a7 P] true),(9,.cells [strs d.wid.names,cg d.wid.spans] true),(1,.cells [i64 n] true),(0,.cells (dbC d) true)]
theorem rdG [GT] {h:aA}{fz:Nat->Bool}{σl:List (Nat×Nat)}:Rd h fz (sgm 28 σl) (gFn 7) (gFn 7):=Rd.fn .nil (.cons (.ptr rfl) (.cons (.ptr rfl) (.cons (.ptr rfl) .nil)))
theorem rbFi [GT] {h:aA}{fz:Nat->Bool}{σl:List (Nat×Nat)}{d:Db}{text:List Int}{n:Int}{st:LoopState}{pe:Option Code}:Rb h fz (sgm 28 σl) (uT d text n st pe) (uT d text n st pe):=
 .loop (by
  (repeat(first|exact Rds.nil|refine Rds.cons (by first|exact Rd.same rfl|exact Rd.ptr rfl|exact rdG|exact Rd.tup (.cons rdG (.cons (.same rfl) .nil))|exact Rd.same (by simp[aN,aE,aI,aP,aW,az,ad])|fail) ?_|fail))
  done)
theorem rbOf [GT] {h:aA}{fz:Nat->Bool}{σl:List (Nat×Nat)}{d:Db}{text:List Int}{n:Int}{st:LoopState}{pe:Option Code}:Rb h fz (sgm 28 σl) (uS d text n st pe) (uS d text n st pe):=
 .loop (by
  (repeat(first|exact Rds.nil|refine Rds.cons (by first|exact Rd.same rfl|exact Rd.ptr rfl|exact rdG|exact Rd.tup (.cons rdG (.cons (.same rfl) .nil))|exact Rd.same (by simp[aN,aE,aI,aP,aW,az,ad])|fail) ?_|fail))
  done)
theorem uj {p:Prp}{text:List Int}{n:Int}{P:List Rng}{k:Nat}(hk:k<P.length) (h1:k<=bT p text n 0 P) (h2:bQ p text (P.take (k+1))<=n):k+1<=bT p text n 0 P:=by
 refine Nat.lt_of_not_le λh=>?_
 have e:bT p text n 0 P=k:=by omega
 have:=qt (p:=p) (text:=text) (n:=n) (P:=P) (s:=0) om
 rw[e] at this;omega
theorem ui {p:Prp}{text:List Int}{n:Int}{P:List Rng}{k:Nat}(hn:0<=n) (h1:k<=bT p text n 0 P) (h2:n<bQ p text (P.take (k+1))):bT p text n 0 P=k:=by
 refine Nat.le_antisymm (Nat.le_of_not_lt λh=>?_) h1;have:=nr (p:=p) (text:=text) (n:=n) (P:=P) (s:=0) (k:=k+1) hn h
 omega
set_option maxHeartbeats 8000000 in
theorem IP {d:Db}{P:List Rng}{text:List Int}{n:Int}{st:LoopState}{pe:Option Code}(hcode:∀ c:Int,@Pu gtR Tryz.prog 52 [bn d.wid,i64 c] (i64 (cL d.wid c))) (hc:Chn 0 P text.length) (hx:text.length<=1000) (hn:0<=n∧n<=9223372036854775807) (hsp:(bT d.wid text n 0 P=P.length∧st=.ready∧pe=none)∨(bT d.wid text n 0 P<P.length∧st=.done∧pe=some (.exit 0))):@AC1 gtR Tryz.prog 95 [.yf 27,.ptr 8 0,.ptr 7 0,.ptr 9 0] ⟨28,(27,uT d text n .ready none)::pm d P text n 0 0⟩ (.tup []) ⟨100,(27,uT d text n st pe)::pm d P text n (b6 0 P (bT d.wid text n 0 P)) (bQ d.wid text (P.take (bT d.wid text n 0 P+1)))⟩:=by
 letI:=gtR;have hl:=gE hc;refine AC1.of_vs aB T0 Tryz.func95 rfl rfl ?_;repeat' ((conv=>whnf);first|exact kQ|(refine bk ?_ ?_<;>intro _<;>try(exfalso;omega))|refine stq ?_)
 all_goals(conv=>whnf)
 refine aH.by aB T0 (λ(k:Nat)=>⟨tmp 39 [(0,.yf 27),(1,.ptr 8 0),(2,.ptr 7 0),(3,.ptr 9 0),(10,a7 P),(11,i64 P.length),(12,i64 (k:Int))],⟨28,(27,uT d text n .ready none)::pm d P text n (b6 0 P k) (bQ d.wid text (P.take k))⟩⟩)
  (λk=>k<=P.length∧k<=bT d.wid text n 0 P) (λk=>P.length-k) 0 ⟨by omega,by omega⟩ ?_ ?_
 ·exact lq0
 intro k ⟨h3,h4⟩;by_cases hk:k<P.length
 ·have hat:=lK hk hc;have hge:=gz (s:=0) hk;have hle:=(dG k hc).1;have hss:=lT (p:=d.wid) (text:=text) hk;have hsr:=cY d.wid text (P.take k);have hwr:=dH d.wid text P[k];have htl:(P.take k).length<=1000:=by rw[List.length_take];omega
  repeat' ((conv=>whnf);first|exact kQ|(refine bk ?_ ?_<;>intro _<;>try(exfalso;omega))|refine stq ?_|refine Chk.mk ⟨by omega,by omega,by omega,(by simp:(text.map i64).length=text.length*1)⟩ ?_|fail)
  refine aH.by2 aB T0 (λ(j:Nat) (m:Int)=>⟨tmp 39 [(0,.yf 27),(1,.ptr 8 0),(2,.ptr 7 0),(3,.ptr 9 0),(6,.ptr 28 0),(7,i64 m),(10,a7 P),(11,i64 P.length),(12,i64 (k:Int)),(21,aD (pce text P[k].lo P[k].hi)),(22,i64 (pce text P[k].lo P[k].hi).length),(23,i64 (j:Int))],⟨29,(28,.cells [i64 P[k].lo,i64 P[k].hi] true)::(27,uT d text n .ready none)::pm d P text n (b6 0 P k) (bQ d.wid text (P.take k))⟩⟩)
   (λj m=>j<=(pce text P[k].lo P[k].hi).length∧m=mxW d.wid ((pce text P[k].lo P[k].hi).take j)) (λj _=>(pce text P[k].lo P[k].hi).length-j) 0 0 ⟨by omega,by simp[mxW]⟩ ?_ ?_
  ·exact lq [(28,_)] []
  intro j m ⟨h5,h6⟩;have hmr:=eP d.wid ((pce text P[k].lo P[k].hi).take j);have hpcl:(pce text P[k].lo P[k].hi).length<=text.length:=by simp only[List.length_take,List.length_drop];omega
  by_cases hj:j<(pce text P[k].lo P[k].hi).length
  ·have hC:=hcode ((pce text P[k].lo P[k].hi)[j]'hj);have hcr:=cK d.wid ((pce text P[k].lo P[k].hi)[j]'hj);have hms:=nY (p:=d.wid) hj;generalize hcv:cL d.wid ((pce text P[k].lo P[k].hi)[j]'hj)=cv at *;repeat' ((conv=>whnf);first|exact kQ|(refine bk ?_ ?_<;>intro _<;>try(exfalso;omega))|refine stq ?_|refine cp hC ?_|fail)
   all_goals(conv=>whnf)
   all_goals
    refine⟨j+1,_,⟨by omega,by rw[hms,<-h6]<;>omega⟩,by omega,?_⟩;exact lq [(28,28)] []
  obtain rfl:j=(pce text P[k].lo P[k].hi).length:=by omega
  obtain rfl:m=dI d.wid text P[k]:=by rw[h6,v7 (kP _)];rfl
  by_cases hb:n<bQ d.wid text (P.take (k+1))
  ·have e1:=ui hn.1 h4 hb;repeat' ((conv=>whnf);first|exact kQ|(refine bk ?_ ?_<;>intro _<;>try(exfalso;omega))|refine stq ?_|(apply Yll.sx _ rfl rfl (SvX.seq (SvX.region T0 ?_));rotate_left)|refine SvX.block ?_|refine SvX.seq ?_|refine SvX.region T0 ?_|refine SvX.yes rfl ?_|refine SvX.no rfl ?_|refine SvX.skip ?_|refine SvX.exit ?_|exact⟨rfl,rfl,rfl⟩|refine⟨rfl,rfl,?_⟩|fail)
   all_goals(conv=>whnf)
   rcases hsp with⟨h5,_,_⟩|⟨_,rfl,rfl⟩
   ·exfalso;omega
   rw[e1,hss];exact⟨Or.inr rfl,rfl,Az rfl rfl rfl⟩
  ·have e1:=uj (n:=n) hk h4 om;repeat' ((conv=>whnf);first|exact kQ|(refine bk ?_ ?_<;>intro _<;>try(exfalso;omega))|refine stq ?_|(apply Yll.sx _ rfl rfl (SvX.seq (SvX.region T0 ?_));rotate_left)|refine SvX.block ?_|refine SvX.seq ?_|refine SvX.region T0 ?_|refine SvX.yes rfl ?_|refine SvX.no rfl ?_|refine SvX.skip ?_|refine SvX.exit ?_|exact⟨rfl,rfl,rfl⟩|refine⟨rfl,rfl,?_⟩|fail)
   all_goals(conv=>whnf)
   refine⟨k+1,⟨by omega,by omega⟩,by omega,?_⟩;exact lq0
 ·rcases hsp with⟨h5,rfl,rfl⟩|⟨h5,_,_⟩
  ·have e1:bT d.wid text n 0 P=k:=by omega
   have e2:=nz hc (k:=k) om;rw[e1,show P.take (k+1)=P.take k by rw[kE om,kE om]];repeat' ((conv=>whnf);first|exact kQ|(refine bk ?_ ?_<;>intro _<;>try(exfalso;omega))|refine stq ?_|fail)
   all_goals(conv=>whnf)
   exact⟨Or.inl rfl,rfl,rS rfl⟩
  ·exfalso;omega
set_option maxHeartbeats 8000000 in
theorem IO {d:Db}{P:List Rng}{text:List Int}{n:Int}{st:LoopState}{pe:Option Code}(hcode:∀ c:Int,@Pu gtR Tryz.prog 52 [bn d.wid,i64 c] (i64 (cL d.wid c))) (hc:Chn 0 P text.length) (hx:text.length<=1000) (hn:0<=n∧n<=9223372036854775807) (hsp:(bT d.wid text n 0 P=P.length∧st=.ready∧pe=none)∨(bT d.wid text n 0 P<P.length∧st=.done∧pe=some (.exit 0))):@AC1 gtR Tryz.prog 95 [.yf 27,.ptr 8 0,.ptr 7 0,.ptr 9 0] ⟨28,(27,uS d text n .ready none)::pm d P text n (text.length:Int) 0⟩ (.tup []) ⟨100,(27,uS d text n st pe)::pm d P text n (b6 0 P (bT d.wid text n 0 P)) (bQ d.wid text (P.take (bT d.wid text n 0 P+1)))⟩:=by
 letI:=gtR;have hl:=gE hc;refine AC1.of_vs aB T0 Tryz.func95 rfl rfl ?_;repeat' ((conv=>whnf);first|exact kQ|(refine bk ?_ ?_<;>intro _<;>try(exfalso;omega))|refine stq ?_)
 all_goals(conv=>whnf)
 refine aH.by aB T0 (λ(k:Nat)=>⟨tmp 39 [(0,.yf 27),(1,.ptr 8 0),(2,.ptr 7 0),(3,.ptr 9 0),(10,a7 P),(11,i64 P.length),(12,i64 (k:Int))],⟨28,(27,uS d text n .ready none)::pm d P text n (text.length:Int) (bQ d.wid text (P.take k))⟩⟩)
  (λk=>k<=P.length∧k<=bT d.wid text n 0 P) (λk=>P.length-k) 0 ⟨by omega,by omega⟩ ?_ ?_
 ·exact lq0
 intro k ⟨h3,h4⟩;by_cases hk:k<P.length
 ·have hat:=lK hk hc;have hge:=gz (s:=0) hk;have hle:=(dG k hc).1;have hss:=lT (p:=d.wid) (text:=text) hk;have hsr:=cY d.wid text (P.take k);have hwr:=dH d.wid text P[k];have htl:(P.take k).length<=1000:=by rw[List.length_take];omega
  repeat' ((conv=>whnf);first|exact kQ|(refine bk ?_ ?_<;>intro _<;>try(exfalso;omega))|refine stq ?_|refine Chk.mk ⟨by omega,by omega,by omega,(by simp:(text.map i64).length=text.length*1)⟩ ?_|fail)
  refine aH.by2 aB T0 (λ(j:Nat) (m:Int)=>⟨tmp 39 [(0,.yf 27),(1,.ptr 8 0),(2,.ptr 7 0),(3,.ptr 9 0),(6,.ptr 28 0),(7,i64 m),(10,a7 P),(11,i64 P.length),(12,i64 (k:Int)),(21,aD (pce text P[k].lo P[k].hi)),(22,i64 (pce text P[k].lo P[k].hi).length),(23,i64 (j:Int))],⟨29,(28,.cells [i64 P[k].lo,i64 P[k].hi] true)::(27,uS d text n .ready none)::pm d P text n (text.length:Int) (bQ d.wid text (P.take k))⟩⟩)
   (λj m=>j<=(pce text P[k].lo P[k].hi).length∧m=mxW d.wid ((pce text P[k].lo P[k].hi).take j)) (λj _=>(pce text P[k].lo P[k].hi).length-j) 0 0 ⟨by omega,by simp[mxW]⟩ ?_ ?_
  ·exact lq [(28,_)] []
  intro j m ⟨h5,h6⟩;have hmr:=eP d.wid ((pce text P[k].lo P[k].hi).take j);have hpcl:(pce text P[k].lo P[k].hi).length<=text.length:=by simp only[List.length_take,List.length_drop];omega
  by_cases hj:j<(pce text P[k].lo P[k].hi).length
  ·have hC:=hcode ((pce text P[k].lo P[k].hi)[j]'hj);have hcr:=cK d.wid ((pce text P[k].lo P[k].hi)[j]'hj);have hms:=nY (p:=d.wid) hj;generalize hcv:cL d.wid ((pce text P[k].lo P[k].hi)[j]'hj)=cv at *;repeat' ((conv=>whnf);first|exact kQ|(refine bk ?_ ?_<;>intro _<;>try(exfalso;omega))|refine stq ?_|refine cp hC ?_|fail)
   all_goals(conv=>whnf)
   all_goals
    refine⟨j+1,_,⟨by omega,by rw[hms,<-h6]<;>omega⟩,by omega,?_⟩;exact lq [(28,28)] []
  obtain rfl:j=(pce text P[k].lo P[k].hi).length:=by omega
  obtain rfl:m=dI d.wid text P[k]:=by rw[h6,v7 (kP _)];rfl
  by_cases hb:n<bQ d.wid text (P.take (k+1))
  ·have e1:=ui hn.1 h4 hb;repeat' ((conv=>whnf);first|exact kQ|(refine bk ?_ ?_<;>intro _<;>try(exfalso;omega))|refine stq ?_|(apply Yll.sx _ rfl rfl (SvX.seq (SvX.region T0 ?_));rotate_left)|refine SvX.block ?_|refine SvX.seq ?_|refine SvX.region T0 ?_|refine SvX.yes rfl ?_|refine SvX.no rfl ?_|refine SvX.skip ?_|refine SvX.exit ?_|exact⟨rfl,rfl,rfl⟩|refine⟨rfl,rfl,?_⟩|fail)
   all_goals(conv=>whnf)
   rcases hsp with⟨h5,_,_⟩|⟨_,rfl,rfl⟩
   ·exfalso;omega
   rw[e1,hss,show b6 0 P k=P[k].lo by omega];exact⟨Or.inr rfl,rfl,Az rfl rfl rfl⟩
  ·have e1:=uj (n:=n) hk h4 om;repeat' ((conv=>whnf);first|exact kQ|(refine bk ?_ ?_<;>intro _<;>try(exfalso;omega))|refine stq ?_|(apply Yll.sx _ rfl rfl (SvX.seq (SvX.region T0 ?_));rotate_left)|refine SvX.block ?_|refine SvX.seq ?_|refine SvX.region T0 ?_|refine SvX.yes rfl ?_|refine SvX.no rfl ?_|refine SvX.skip ?_|refine SvX.exit ?_|exact⟨rfl,rfl,rfl⟩|refine⟨rfl,rfl,?_⟩|fail)
   all_goals(conv=>whnf)
   refine⟨k+1,⟨by omega,by omega⟩,by omega,?_⟩;exact lq0
 ·rcases hsp with⟨h5,rfl,rfl⟩|⟨h5,_,_⟩
  ·have e1:bT d.wid text n 0 P=k:=by omega
   have e2:=nz hc (k:=k) om;rw[e1,show P.take (k+1)=P.take k by rw[kE om,kE om],e2];repeat' ((conv=>whnf);first|exact kQ|(refine bk ?_ ?_<;>intro _<;>try(exfalso;omega))|refine stq ?_|fail)
   all_goals(conv=>whnf)
   exact⟨Or.inl rfl,rfl,rS rfl⟩
  ·exfalso;omega
theorem Jm {d:Db}{text:List Int}{P:List Rng}{n:Int}(hcode:∀ c:Int,@Pu gtR Tryz.prog 52 [bn d.wid,i64 c] (i64 (cL d.wid c))) (hl:∀ k,k<7->(prop d k).names.length<=30∧(prop d k).spans.length<=16) (hP:@Pu gtR Tryz.prog 17 [dbD d,i64 1,aD text] (.tup [a7 P,i64 0])) (hc:Chn 0 P text.length) (hx:text.length<=1000) (hn:0<=n∧n<=9223372036854775807):@Pu gtR Tryz.prog 30 [dbD d,aD text,i64 n] (.tup [i64 (b6 0 P (bT d.wid text n 0 P)),i64 0]):=by
 letI:=gtR;have hG:=kx hl hP
 obtain⟨st,pe,hsp,hst⟩:∃ st pe,((bT d.wid text n 0 P=P.length∧st=LoopState.ready∧pe=none)∨(bT d.wid text n 0 P<P.length∧st=.done∧pe=some (Code.exit 0)))∧(st≠.busy∧(pe=none∨pe=some (Code.exit 0))):=by
  have:=i8 d.wid text n P 0
  by_cases h:bT d.wid text n 0 P<P.length
  ·exact⟨_,_,.inr ⟨h,rfl,rfl⟩,by simp,.inr rfl⟩
  ·exact⟨_,_,.inl ⟨by omega,rfl,rfl⟩,by simp,.inl rfl⟩
 have h1:=IP hcode hc hx hn hsp;refine Pu.of_fw (ti:=fD Tryz.prog) Tryz.func30 rfl rfl (by simp[aN,aE,aP,aW,az,ad,aI]) ?_;repeat' ((conv=>whnf);first|exact kQ|(refine bk ?_ ?_<;>intro _<;>try(exfalso;omega))|refine stq ?_|refine Cll.pk hG ?_|refine Fw.range aB T0 rfl h1 rfl hst.1 ?_ hst.2|refine Fw.split ?_|refine Fw.scope ?_|refine Fw.label ?_|refine Fw.one aB T0 ?_|fail)
 all_goals(conv=>whnf)
 exact⟨rfl,_,rfl,⟨Rd.eqd rfl rfl⟩⟩
theorem y5 {d:Db}{text:List Int}{P:List Rng}{n:Int}(hcode:∀ c:Int,@Pu gtR Tryz.prog 52 [bn d.wid,i64 c] (i64 (cL d.wid c))) (hl:∀ k,k<7->(prop d k).names.length<=30∧(prop d k).spans.length<=16) (hP:@Pu gtR Tryz.prog 17 [dbD d,i64 1,aD text] (.tup [a7 P,i64 0])) (hc:Chn 0 P text.length) (hx:text.length<=1000) (hn:0<=n∧n<=9223372036854775807):@Pu gtR Tryz.prog 31 [dbD d,aD text,i64 n] (.tup [i64 (b6 0 P (bT d.wid text n 0 P)),i64 0]):=by
 letI:=gtR;have hG:=kx hl hP
 obtain⟨st,pe,hsp,hst⟩:∃ st pe,((bT d.wid text n 0 P=P.length∧st=LoopState.ready∧pe=none)∨(bT d.wid text n 0 P<P.length∧st=.done∧pe=some (Code.exit 0)))∧(st≠.busy∧(pe=none∨pe=some (Code.exit 0))):=by
  have:=i8 d.wid text n P 0
  by_cases h:bT d.wid text n 0 P<P.length
  ·exact⟨_,_,.inr ⟨h,rfl,rfl⟩,by simp,.inr rfl⟩
  ·exact⟨_,_,.inl ⟨by omega,rfl,rfl⟩,by simp,.inl rfl⟩
 have h1:=IO hcode hc hx hn hsp;refine Pu.of_fw (ti:=fD Tryz.prog) Tryz.func31 rfl rfl (by simp[aN,aE,aP,aW,az,ad,aI]) ?_;repeat' ((conv=>whnf);first|exact kQ|(refine bk ?_ ?_<;>intro _<;>try(exfalso;omega))|refine stq ?_|refine Cll.pk hG ?_|refine Fw.range aB T0 rfl h1 rfl hst.1 ?_ hst.2|refine Fw.split ?_|refine Fw.scope ?_|refine Fw.label ?_|refine Fw.one aB T0 ?_|fail)
 all_goals(conv=>whnf)
 exact⟨rfl,_,rfl,⟨Rd.eqd rfl rfl⟩⟩
end Go.Proofs.YtbmdndckndnehaaGreatDoor
