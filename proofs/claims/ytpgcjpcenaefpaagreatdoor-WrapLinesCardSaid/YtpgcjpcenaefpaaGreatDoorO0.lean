/-
  The abstract machine, part 60: functions with a loop over a function that stand in a scope of labels, or end ahead of the loop.
-/
import Derived.Test.YtpgcjpcenaefpaaGreatDoorAmF
import Derived.Test.YtpgcjpcenaefpaaGreatDoorAmD
import Derived.Test.YtpgcjpcenaefpaaGreatDoorL3
import Derived.Test.YtpgcjpcenaefpaaGreatDoorJ1
set_option linter.unusedSectionVars false
namespace Go.Am
section
variable {F:Fence}{n:Nat}{P:Program}{Q:Exit->Act->World->Prop}{a:Act}{w:World}
theorem eF {b:Frame}{k:List Item}{cs:List Frame}{c:Code}:step P (lone (b.atR a (.code (.scope c)::k)) cs w)=.next (lone (b.atR a (.code c::.inScope c::k)) cs w):=
 step_lone_go (by simp[stepG,stepG.exec,Frame.atR])
theorem r7 {b:Frame}{k:List Item}{cs:List Frame}{c:Code}:step P (lone (b.atR a (.inScope c::k)) cs w)=.next (lone (b.atR a k) cs w):=
 step_lone_go (by simp[stepG,stepG.exec,Frame.atR])
theorem qA {c:Code}(h:c.wpIn F n P Q a w) (hg:∀ l a w,¬Q (.goto l) a w):(Code.scope c).wpIn F n P Q a w:=by
 intro b k cs hro hb hr;have h0:(lone (b.atR a (.code (.scope c)::k)) cs w).fenced P F:=fenced_calm hb hr rfl;obtain⟨e,a₁,w₁,hq,harr⟩:=h b (.inScope c::k) cs hro hb hr;cases e with
 | normal=>exact⟨.normal,a₁,w₁,hq,.head h0 eF (StepsIn.trans harr (.one (fenced_calm hb hr rfl) r7))⟩
 | exit id'=>
  have hx:exitTo id' (.inScope c::k)=exitTo id' k:=by simp[exitTo]
  exact⟨.exit id',a₁,w₁,hq,λk' hk=>.head h0 eF (harr.1 k' (by rw[hx];exact hk)),
   λhr' hk=>let⟨k₁,h1,h2⟩:=harr.2 hr' (by rw[hx];exact hk);⟨k₁,h1,.head h0 eF h2⟩⟩
 | goto l=>exact absurd hq (hg l _ _)
 | ret=>exact⟨_,a₁,w₁,hq,.of_steps (.one h0 eF) harr⟩
 | panic ch=>exact⟨_,a₁,w₁,hq,.of_steps (.one h0 eF) harr⟩
 | outgrown=>exact⟨_,a₁,w₁,hq,.of_steps (.one h0 eF) harr⟩
end
section
variable [GT] {P:Program}{ti:TI}{fn:Func}{d:D}
theorem Fw.scope {c:Code}{s:St}(h:Fw P ti fn d [c] s):Fw P ti fn d [.scope c] s:=⟨λcb ct a R hB hf hd hR=>kp (qA (h.run cb ct a R hB hf hd hR) (λ_ _ _ hq=>hq)) λe a w hq=>by cases e<;>exact hq⟩
theorem Fw.label {l:Nat}{cs:List Code}{s:St}(h:Fw P ti fn d cs s):Fw P ti fn d (.label l::cs) s:=⟨λcb ct a R hB hf hd hR=>wpIn_label (h.run cb ct a R hB hf hd hR)⟩
def goQ (ti:TI) (fn:Func) (d:D) (K:St->Prop):Exit->St->Prop
 | .normal,s=>K s
 | .ret,s=>match ia ti fn s with|some d0=>aC s.h d0 d|none=>False
 | _,_=>False
theorem Fw.step (hm:P.follows .mixedOrders=true) (T:TOk P ti){x:Code}{cs:List Code}{s:St}(h:gW P ti 0 x (goQ ti fn d (Fw P ti fn d cs)) s):Fw P ti fn d (x::cs) s:=⟨λcb c a R hB hf hd hR=>by
 refine(bO hm T x _ _ h).run cb ⟨0,[]⟩ c a _ hB hf λe s1 c1 a1 hq f1 b1 d1=>?_
 cases e with
 | normal=>exact hq.run cb c1 a1 R b1 f1 (d1.trans hd) hR
 | ret=>
  simp only[goQ] at hq;split at hq
  .rename_i d0 hr;rw[show Exit.then (wpL (WF none) 0 P (bodyPostM (WF none) 0 P fn R) cs) (bodyPostM (WF none) 0 P fn R) .ret a1 c1.w=LeavesInM (WF none) 0 P fn a1.tmps R a1.defers .returning c1.w from rfl,d1,hd];refine fh (dl:=λ_ _ _=>none) (λ_ _ _ _ hx=>by cases hx) [] [] c1 s1.h s1.h rfl f1.rel rfl λc3 r3 g3 p3=>?_
   obtain⟨v,e1,v1⟩:=dL (P:=P) T (a:=a1) (⟨r3,VS.keep g3.keeps _ _ f1.tmps⟩:Fit c3 s1 a1) hr;exact⟨v,e1,hR v d0 c3 _ v1 r3 (b1.grow.trans g3) hq⟩
  .exact hq.elim
 | _=>exact hq.elim⟩
end
end Go.Am
namespace Go.Proofs.YtpgcjpcenaefpaaGreatDoor
open Go Go.Am Classical
set_option maxRecDepth 100000
theorem xO1.rdX {p:Prop}(h:p:=by first|exact Rd.frzp rfl rfl (Rds.cons (Rd.same (aY _)) (Rds.cons (Rd.same (aj _)) Rds.nil))|exact Rd.frzp rfl rfl (Rds.cons (Rd.same rfl) Rds.nil)|fail):p:=h
open xO1
def sN (s:Str):Int:=if s=[90,101,114,111] then 0 else if s=[87,105,100,101]\/s=[70,117,108,108] then 2 else 1
theorem z5 {s:Str}(h:s=[90,101,114,111]):0=sN s:=by subst h;simp[sN]
theorem zx {s:Str}(h:s=[87,105,100,101]):2=sN s:=by subst h;simp[sN]
theorem zy {s:Str}(h:s=[70,117,108,108]):2=sN s:=by subst h;simp[sN]
theorem zz {s:Str}(h0:¬s=[90,101,114,111]) (h1:¬s=[87,105,100,101]) (h2:¬s=[70,117,108,108]):1=sN s:=by
 rw[sN,if_neg h0,if_neg λh=>h.elim h1 h2]
noncomputable def ez (p:Prp) (c:Int):Int:=sN (fv p c)
theorem fS (p:Prp) (c:Int):0<=ez p c/\ez p c<=2:=by
 unfold ez sN;split
 .omega
 .split<;>omega
section
variable [GT]
theorem G6 {p:Prp}{c:Int}(hp:p.ok):Pu Tryz.prog 104 [bV p,i64 c] (i64 (ez p c)):=by
 refine pv Tryz.func104 ?_;repeat' ((conv=>whnf);first|exact kQ|(refine bk ?_ ?_<;>intro _<;>try exact exo)|refine stq ?_|refine cp (vB sd) ?_|fail)
 all_goals(conv=>whnf)
 all_goals first
  | exact aC.int (z5 asm)
  | exact aC.int (zx asm)
  | exact aC.int (zy asm)
  | exact aC.int (zz asm asm asm)
theorem IH {p:Prp}{c:Int}{k:Nat}(hk:k<p.spans.length):Pu Tryz.prog 121 ([i64 (k:Int)]++[.iptr [strs p.names,cf p.spans],.iptr [i64 c]]) (boo (decide (c<=p.spans[k].hi))):=by
 refine pv Tryz.func121 ?_;repeat' ((conv=>whnf);first|exact kQ|(refine bk ?_ ?_<;>intro _<;>try exact exo)|refine stq ?_)
 all_goals(conv=>whnf)
 all_goals first
  | exact aC.yes om
  | exact aC.no om
theorem lD {p:Prp}(hv:PrV p){c v:Int}(e:v=de p.spans c):0<=v/\∃ h:v.toNat<p.names.length,p.names[v.toNat]=fv p c:=by
 have h1:=i4 (p:=p) c;have h2:cnt p=p:=by simp[cnt,hv]
 subst e;rw[h2] at h1;refine⟨h1.1,om,?_⟩;unfold fv;simp only[h2]
theorem Fs {p:Prp}{c:Int}(hv:PrV p) (hn:p.spans.length<=1000):Pu Tryz.prog 88 [bV p,i64 c] (i64 (ez p c)):=by
 have hr:DM p.spans:=by
  have:=yE p
  rwa [show cnt p=p by simp[cnt,hv]] at this
 have h0:=rJ p.spans c;have hg:=rC hr c
 have hse:Pu Tryz.prog 117 [i64 p.spans.length,.fn (.func 121) [] [.iptr [strs p.names,cf p.spans],.iptr [i64 c]]] (i64 (bA p.spans c)):=
  wS (p:=λi=>∃ h:i<p.spans.length,c<=p.spans[i].hi) (by simp[aK,aF,aj,aY]) om h0 (λi hi ⟨h,hc⟩=>fj h hi hc)
   (λi h1 h2=>⟨h2,by
    have h3:=mL (l:=p.spans) (c:=c) om;have h4:=uf hr (i-bA p.spans c) (i:=bA p.spans c) om om;have e:bA p.spans c+(i-bA p.spans c)=i:=by omega
    simp only[e] at h4
    omega⟩)
   (λi hi=>by
    have:=IH (p:=p) (c:=c) hi
    exact(congrArg (λb=>Pu Tryz.prog _ _ (boo b)) (decide_eq_decide.2 ⟨λh=>⟨hi,h⟩,λ⟨_,h⟩=>h⟩)).mp this)
 have hA:∀ h:bA p.spans c<p.spans.length,p.spans[bA p.spans c].lo<=c->p.spans[bA p.spans c].val=de p.spans c:=λh h2=>by rw[hg,dif_pos h,if_pos h2]
 have hB:∀ h:bA p.spans c<p.spans.length,¬p.spans[bA p.spans c].lo<=c->(0:Int)=de p.spans c:=λh h2=>by rw[hg,dif_pos h,if_neg h2]
 have hC:¬bA p.spans c<p.spans.length->(0:Int)=de p.spans c:=λh=>by rw[hg,dif_neg h]
 refine pv Tryz.func88 ?_
 conv=>whnf
 refine cZ.weak aB T0 (s0:=⟨tmp 43 [(2,.iptr [strs p.names,cf p.spans]),(3,.iptr [i64 c])],⟨0,[]⟩⟩) ?_ ?_
 .exact lq [] [0,1]
 repeat' ((conv=>whnf);first|exact kQ|(refine bk ?_ ?_<;>intro _<;>try exact exo)|refine stq ?_|refine cp hse ?_|refine Idx.at (p.spans[bA p.spans c]'(by omega)).val.toNat (by have:=(lD hv (hA om asm)).1;omega) ((lD hv (hA om asm)).2.1) ?_|refine Idx.at 0 rfl (by have:=hv.1.1;omega) ?_)
 all_goals(conv=>whnf)
 all_goals
  obtain⟨_,h1,h2⟩:0<=de p.spans c/\∃ h:(de p.spans c).toNat<p.names.length,p.names[(de p.spans c).toNat]=fv p c:=lD hv rfl
  first
  | (have e:=hA om asm;simp only[<-e] at h2;first
    | exact aC.int (z5 (h2.symm.trans asm))
    | exact aC.int (zx (h2.symm.trans asm))
    | exact aC.int (zy (h2.symm.trans asm))
    | exact aC.int (zz (λh=>absurd (h2.trans h) asm) (λh=>absurd (h2.trans h) asm) (λh=>absurd (h2.trans h) asm)))
  | (have e:(0:Int)=de p.spans c:=(by first|exact hB om asm|exact hC om);simp only[<-e] at h2;first
    | exact aC.int (z5 (h2.symm.trans asm))
    | exact aC.int (zx (h2.symm.trans asm))
    | exact aC.int (zy (h2.symm.trans asm))
    | exact aC.int (zz (λh=>absurd (h2.trans h) asm) (λh=>absurd (h2.trans h) asm) (λh=>absurd (h2.trans h) asm)))
end
end Go.Proofs.YtpgcjpcenaefpaaGreatDoor
namespace Go.Proofs.YtpgcjpcenaefpaaGreatDoor
open Go Go.Am Classical
set_option maxRecDepth 100000
theorem xO2.rdX {p:Prop}(h:p:=by first|exact Rd.yf rfl|exact Rd.eqd (un om om om) (aM _)|exact Rd.int (by first|(simp only[List.length_take,List.length_drop];omega;done)|fail)|fail):p:=h
theorem xO2.rbX {p:Prop}(h:p:=by first|exact Rb.dfr|exact rbW|exact Rb.cells (Rds.same (cS _)) rfl|exact Rb.cells (Rds.cons (Rd.int om) Rds.nil) rfl|fail):p:=h
open xO2
noncomputable def mxW (p:Prp) (l:List Int):Int:=l.foldl (λm c=>max m (ez p c)) 0
theorem xA (p:Prp) (l:List Int) (c:Int):mxW p (l++[c])=max (mxW p l) (ez p c):=by simp[mxW]
theorem iq (p:Prp) (l:List Int):0<=mxW p l/\mxW p l<=2:=by
 have h:∀ (l:List Int) (m:Int),0<=m/\m<=2->0<=l.foldl (λm c=>max m (ez p c)) m/\l.foldl (λm c=>max m (ez p c)) m<=2:=by
  intro l
  induction l with
  | nil=>intro m h;exact h
  | cons c l ih=>
   intro m h;have:=fS p c
   exact ih (max m (ez p c)) om
 exact h l 0 om
noncomputable def eT (p:Prp) (text:List Int) (r:Rng):Int:=mxW p (pce text r.lo r.hi)
theorem jE (p:Prp) (text:List Int) (r:Rng):0<=eT p text r/\eT p text r<=2:=iq p _
noncomputable def cu (p:Prp) (text:List Int):List Rng->Int
 | []=>0
 | r::P=>eT p text r+cu p text P
theorem se (p:Prp) (text:List Int) (r:Rng):∀ P:List Rng,cu p text (P++[r])=cu p text P+eT p text r
 | []=>by simp[cu]
 | q::P=>by simp only[List.cons_append,cu,se p text r P];omega
theorem fE (p:Prp) (text:List Int):∀ P:List Rng,0<=cu p text P/\cu p text P<=2*P.length
 | []=>by simp[cu]
 | r::P=>by
  have h1:=fE p text P;have h2:=jE p text r;simp only[cu,kO];omega
theorem Bu {p:Prp}{text:List Int}{P:List Rng}{k:Nat}(h:k<P.length):cu p text (P.take (k+1))=cu p text (P.take k)+eT p text P[k]:=by
 rw[List.take_add_one,List.getElem?_eq_getElem h];exact se p text P[k] _
theorem xn {d:Db}{text:List Int}{P:List Rng}(hl:∀ k,k<7->(prop d k).names.length<=30/\(prop d k).spans.length<=16) (hP:@Pu gtR Tryz.prog 86 [dbD d,i64 1,aD text] (.tup [aq P,i64 0])):@Pk gtR Tryz.prog 63 [dbD d,aD text] 3 (λn=>.tup [.fn (.func 87) [] [.ptr (n+1) 0,.ptr n 0,.ptr (n+2) 0],i64 0]) (λn=>[(n,.cells [aD text] true),(n+1,.cells [aq P] true),(n+2,.cells [strs d.wid.names,cf d.wid.spans] true)]):=by
 letI:=gtR;have hp:Pu Tryz.prog 58 [dbD d,i64 1] (bV d.wid):=pZ hl 1 om;refine Pk.of_v aB T0 Tryz.func63 rfl rfl (by simp[aK,aF,aY,aj,cC,am,aM]) ?_;repeat' ((conv=>whnf);first|exact kQ|(refine bk ?_ ?_<;>intro _<;>try exact exo)|refine stq ?_|refine cp hP ?_|refine cp hp ?_|fail)
 all_goals(conv=>whnf)
 exact⟨[1,10,17],rfl,⟨si,λn=>.tup (.cons (.fn .nil (.cons (.ptr (by simp[sgn])) (.cons (.ptr (by simp[sgn])) (.cons (.ptr (by simp[sgn])) .nil)))) (.cons (.same rfl) .nil)),λn=>.cons (id:=1) (by simp[sgn]) rfl rfl (.cells (.cons (.same (aM text)) .nil) rfl) (.cons (id:=10) (by simp[sgn]) rfl rfl (.cells (.cons (.same (am P)) .nil) rfl) (.cons (id:=17) (by simp[sgn]) rfl rfl (.cells (.cons (.same (aY _)) (.cons (.same (aj _)) .nil)) rfl) .nil))⟩⟩
theorem un {text:List Int}{lo hi:Int}(h0:0<=lo) (h1:lo<=hi) (h2:hi<=text.length):D.imm (hi-lo).toNat (((text.map i64).drop (lo.toNat*1)).take ((hi-lo).toNat*1))=aD (pce text lo hi):=by
 simp only[lst,pce,Nat.mul_one,List.length_take,List.length_drop,List.map_take,List.map_drop];congr 1;omega
theorem Eo {p:Prp}{l:List Int}{k:Nat}(h:k<l.length):mxW p (l.take (k+1))=max (mxW p (l.take k)) (ez p l[k]):=by
 rw[List.take_add_one,List.getElem?_eq_getElem h];exact xA p _ _
theorem Hb {p:Prp}{l:List Int}{k:Nat}(h:l.length<=k):mxW p (l.take k)=mxW p l:=by rw[kE h]
abbrev gFn (n:Nat):D:=.fn (.func 87) [] [.ptr (n+1) 0,.ptr n 0,.ptr (n+2) 0]
noncomputable abbrev tO (d:Db) (text:List Int):Box:=.loop .ready none ([dbD d,aD text,.ptr 0 0,aO,i64 0,i64 0,gFn 6,i64 0,.ptr 16 0,aO,aO,.tup [gFn 6,i64 0],dbD d,aD text,.tup [gFn 6,i64 0],gFn 6,i64 0,i64 0,boo false,aO,gFn 6]++List.replicate 6 aO) [21,22] (fnA Tryz.f39) (fnB Tryz.f39)
abbrev Ai (d:Db) (P:List Rng) (text:List Int) (s:Int):List (Nat×Box):=[(19,.dfr),(16,.cells [i64 s] true),(6,.cells [aD text] true),(7,.cells [aq P] true),(8,.cells [strs d.wid.names,cf d.wid.spans] true),(0,.cells (dbC d) true)]
theorem rbW [GT] {h:aA}{fz:Nat->Bool}{σl:List (Nat×Nat)}{d:Db}{text:List Int}:Rb h fz (sgm 21 σl) (tO d text) (tO d text):=
 .loop (by
  (repeat(first|exact Rds.nil|refine Rds.cons (by first|exact Rd.same rfl|exact Rd.ptr rfl|exact Rd.fn .nil (.cons (.ptr rfl) (.cons (.ptr rfl) (.cons (.ptr rfl) .nil)))|exact Rd.tup (.cons (Rd.fn .nil (.cons (.ptr rfl) (.cons (.ptr rfl) (.cons (.ptr rfl) .nil)))) (.cons (.same rfl) .nil))|exact Rd.same (by simp[aK,aF,aM,aY,aj,cC,am])|fail) ?_|fail))
  done)
set_option maxHeartbeats 8000000 in
theorem H0 {d:Db}{P:List Rng}{text:List Int}(hcode:∀ c:Int,@Pu gtR Tryz.prog 88 [bV d.wid,i64 c] (i64 (ez d.wid c))) (hc:Chn 0 P text.length) (hx:text.length<=1000):@AC1 gtR Tryz.prog 87 [.yf 20,.ptr 7 0,.ptr 6 0,.ptr 8 0] ⟨21,(20,tO d text)::Ai d P text 0⟩ (.tup []) ⟨80,(20,tO d text)::Ai d P text (cu d.wid text P)⟩:=by
 letI:=gtR;have hl:=iL hc;refine AC1.of_vs aB T0 Tryz.func87 rfl rfl ?_;repeat' ((conv=>whnf);first|exact kQ|(refine bk ?_ ?_<;>intro _<;>try exact exo)|refine stq ?_)
 all_goals(conv=>whnf)
 refine aG.by aB T0 (λ(k:Nat)=>⟨tmp 39 [(0,.yf 20),(1,.ptr 7 0),(2,.ptr 6 0),(3,.ptr 8 0),(10,aq P),(11,i64 P.length),(12,i64 (k:Int))],⟨21,(20,tO d text)::Ai d P text (cu d.wid text (P.take k))⟩⟩)
  (λk=>k<=P.length) (λk=>P.length-k) 0 om ?_ ?_
 .exact lq0
 intro k h3;by_cases hk:k<P.length
 .have hat:=vW hk hc;have hge:=rU (s:=0) hk;have hle:=(pW k hc).1;have hss:=Bu (p:=d.wid) (text:=text) hk;have hsr:=fE d.wid text (P.take k);have hwr:=jE d.wid text P[k];have htl:(P.take k).length<=1000:=by rw[List.length_take];omega
  repeat' ((conv=>whnf);first|exact kQ|(refine bk ?_ ?_<;>intro _<;>try exact exo)|refine stq ?_|refine Chk.mk ⟨om,om,om,(by simp:(text.map i64).length=text.length*1)⟩ ?_|fail)
  refine aG.by2 aB T0 (λ(j:Nat) (m:Int)=>⟨tmp 39 [(0,.yf 20),(1,.ptr 7 0),(2,.ptr 6 0),(3,.ptr 8 0),(6,.ptr 21 0),(7,i64 m),(10,aq P),(11,i64 P.length),(12,i64 (k:Int)),(21,aD (pce text P[k].lo P[k].hi)),(22,i64 (pce text P[k].lo P[k].hi).length),(23,i64 (j:Int))],⟨22,(21,.cells [i64 P[k].lo,i64 P[k].hi] true)::(20,tO d text)::Ai d P text (cu d.wid text (P.take k))⟩⟩)
   (λj m=>j<=(pce text P[k].lo P[k].hi).length/\m=mxW d.wid ((pce text P[k].lo P[k].hi).take j)) (λj _=>(pce text P[k].lo P[k].hi).length-j) 0 0 ⟨om,by simp[mxW]⟩ ?_ ?_
  .exact lq [(21,_)] []
  intro j m ⟨h5,h6⟩;have hmr:=iq d.wid ((pce text P[k].lo P[k].hi).take j);have hpcl:(pce text P[k].lo P[k].hi).length<=text.length:=by simp only[List.length_take,List.length_drop];omega
  by_cases hj:j<(pce text P[k].lo P[k].hi).length
  .have hC:=hcode ((pce text P[k].lo P[k].hi)[j]'hj);have hcr:=fS d.wid ((pce text P[k].lo P[k].hi)[j]'hj);have hms:=Eo (p:=d.wid) hj;generalize hcv:ez d.wid ((pce text P[k].lo P[k].hi)[j]'hj)=cv at *;repeat' ((conv=>whnf);first|exact kQ|(refine bk ?_ ?_<;>intro _<;>try exact exo)|refine stq ?_|refine cp hC ?_|fail)
   all_goals(conv=>whnf)
   all_goals
    refine⟨j+1,_,⟨om,by rw[hms,<-h6]<;>omega⟩,om,?_⟩;exact lq [(21,21)] []
  obtain rfl:j=(pce text P[k].lo P[k].hi).length:=by omega
  obtain rfl:m=eT d.wid text P[k]:=by rw[h6,Hb (kP _)];rfl
  repeat' ((conv=>whnf);first|exact kQ|(refine bk ?_ ?_<;>intro _<;>try exact exo)|refine stq ?_|(apply Yll.sx _ rfl rfl (SvX.region T0 ?_);rotate_left)|refine SvX.block ?_|refine SvX.seq ?_|refine SvX.region T0 ?_|exact⟨rfl,rfl,rfl⟩|refine⟨rfl,rfl,?_⟩|fail)
  all_goals(conv=>whnf)
  refine⟨k+1,om,om,?_⟩;exact lq0
 .obtain rfl:k=P.length:=by omega
  rw[List.take_length];repeat' ((conv=>whnf);first|exact kQ|(refine bk ?_ ?_<;>intro _<;>try exact exo)|refine stq ?_|fail)
  all_goals(conv=>whnf)
  exact⟨Or.inl rfl,rfl,Dp rfl⟩
theorem Bh {d:Db}{text:List Int}{P:List Rng}(hcode:∀ c:Int,@Pu gtR Tryz.prog 88 [bV d.wid,i64 c] (i64 (ez d.wid c))) (hl:∀ k,k<7->(prop d k).names.length<=30/\(prop d k).spans.length<=16) (hP:@Pu gtR Tryz.prog 86 [dbD d,i64 1,aD text] (.tup [aq P,i64 0])) (hc:Chn 0 P text.length) (hx:text.length<=1000):@Pu gtR Tryz.prog 39 [dbD d,aD text] (.tup [i64 (cu d.wid text P),i64 0]):=by
 letI:=gtR;have hG:=xn hl hP;have h1:=H0 hcode hc hx;refine Pu.of_fw (ti:=cg Tryz.prog) Tryz.func39 rfl rfl (by simp[aK,aF,aY,aj,cC,am,aM]) ?_;repeat' ((conv=>whnf);first|exact kQ|(refine bk ?_ ?_<;>intro _<;>try exact exo)|refine stq ?_|refine Cll.pk hG ?_|refine Fw.range aB T0 rfl h1 rfl si ?_|refine Fw.split ?_|refine Fw.one aB T0 ?_|fail)
 all_goals(conv=>whnf)
 exact⟨rfl,_,rfl,⟨Rd.eqd rfl rfl⟩⟩
end Go.Proofs.YtpgcjpcenaefpaaGreatDoor
namespace Go.Proofs.YtpgcjpcenaefpaaGreatDoor
open Go Go.Am Classical
set_option maxRecDepth 100000
theorem Good.wid {d:Db}(g:Good d):PrV d.wid:=g.va 2 om
theorem Good.code {d:Db}(g:Good d) (c:Int):@Pu gtR Tryz.prog 88 [bV d.wid,i64 c] (i64 (ez d.wid c)):=by
 have h:d.wid.names.length<=30/\d.wid.spans.length<=16:=g.sm.2.1 1 om;exact @Fs gtR _ _ g.wid om
end Go.Proofs.YtpgcjpcenaefpaaGreatDoor
namespace Go.Proofs.YtpgcjpcenaefpaaGreatDoor
open Go Go.Am Classical
set_option maxRecDepth 100000
theorem Good.width {d:Db}(g:Good d){text:List Int}(hx:text.length<=1000):@Pu gtR Tryz.prog 39 [dbD d,aD text] (.tup [i64 (cu d.wid text (gP d text)),i64 0]):=
 Bh g.code (λk hk=>g.sm.2.1 k hk) (g.p1 hx) (rE d text) hx
end Go.Proofs.YtpgcjpcenaefpaaGreatDoor
namespace Go.Proofs.YtpgcjpcenaefpaaGreatDoor
open Go Go.Am Classical
set_option maxRecDepth 1000000
theorem xC (p:Prp) (c:Int) (l:List Int):mxW p (c::l)=max (ez p c) (mxW p l):=by
 have h:∀ (l:List Int) (m:Int),0<=m->l.foldl (λm c=>max m (ez p c)) m=max m (mxW p l):=by
  intro l
  induction l with
  | nil=>intro m h;simp[mxW];omega
  | cons c l ih=>
   intro m h;have h1:=fS p c;rw[List.foldl_cons,ih _ om];rw[show mxW p (c::l)=l.foldl (λm c=>max m (ez p c)) (max 0 (ez p c)) from rfl,ih _ om];omega
 have h1:=fS p c;rw[show mxW p (c::l)=l.foldl (λm c=>max m (ez p c)) (max 0 (ez p c)) from rfl,h _ _ om];omega
theorem Ax (p:Prp):∀ a b:List Int,mxW p (a++b)=max (mxW p a) (mxW p b)
 | [],b=>by have:=iq p b;simp[show mxW p []=0 from rfl];omega
 | c::a,b=>by rw[List.cons_append,xC,xC,Ax p a b];omega
theorem CD {text:List Int}{a b c:Int}(h0:0<=a) (h1:a<=b) (h2:b<=c):pce text a c=pce text a b++pce text b c:=by
 unfold pce;rw[show(c-a).toNat=(b-a).toNat+(c-b).toNat by omega,List.take_add,List.drop_drop,show a.toNat+(b-a).toNat=b.toNat by omega]
theorem Ea {text:List Int}{lo hi a:Int}(h0:0<=lo) (h1:hi<=a):pce (text.take a.toNat) lo hi=pce text lo hi:=by
 unfold pce;rw[List.drop_take,List.take_take,show min (hi-lo).toNat (a.toNat-lo.toNat)=(hi-lo).toNat by omega]
theorem sc {p:Prp}{text:List Int}{a:Int}:∀ {P:List Rng}{s e:Int},Chn s P e->0<=s->e<=a->cu p (text.take a.toNat) P=cu p text P
 | [],s,e,_,_,_=>rfl
 | r::P,s,e,h,h0,h1=>by
  have h2:=h.1;have h3:=h.2.1;have h4:=oG h.2.2;simp only[cu,eT,Ea (text:=text) (lo:=r.lo) (hi:=r.hi) (a:=a) om om,sc (a:=a) h.2.2 om h1]
end Go.Proofs.YtpgcjpcenaefpaaGreatDoor
namespace Go.Proofs.YtpgcjpcenaefpaaGreatDoor
open Go Go.Am Classical
set_option maxRecDepth 1000000
theorem sW {p:Prp}{text:List Int}{lo a b:Int}(h0:0<=lo) (h1:lo<=a) (h2:a<=b):eT p text ⟨lo,a⟩<=eT p text ⟨lo,b⟩:=by
 simp only[eT];rw[CD h0 h1 h2,Ax];omega
noncomputable abbrev Gf (d:Db) (text:List Int):Int:=cu d.wid text (gP d text)
theorem ls {p:Prp}{text:List Int}{n e:Int}:∀ (E:List Int) (s:Int),(s::(E++[e])).Pairwise (·<=·)->0<=s->s<=n->n<=e->cu p text (btw s (jo n E++[n]))<=cu p text (btw s (E++[e]))
 | [],s,hp,h0,h1,h2=>by
  simp only[jo,List.filter_nil,List.nil_append];by_cases h:s<n
  .rw[cF h,cF om];have:=sW (p:=p) (text:=text) (lo:=s) (a:=n) (b:=e) h0 h1 h2
   have e1:∀ x:Int,btw x []=[]:=λx=>rfl
   simp only[cu,e1];omega
  .rw[dW h];exact(fE p text _).1
 | x::E,s,hp,h0,h1,h2=>by
  have hp1:=List.pairwise_cons.1 hp;have hp2:=List.pairwise_cons.1 hp1.2;have hx:s<=x:=hp1.1 x si;by_cases hn:x<n
  .rw[C9 hn,List.cons_append,List.cons_append];by_cases hs:s<x
   .rw[cF hs,cF hs];have:=ls (p:=p) (text:=text) (n:=n) (e:=e) E x hp1.2 om om h2
    simp only[cu];omega
   .obtain rfl:s=x:=by omega
    rw[dW hs,dW hs];exact ls E s hp1.2 h0 h1 h2
  .have hb:jo n (x::E)=[]:=rh λa ha=>by
    rcases List.mem_cons.1 ha with rfl|ha
    .omega
    .have:=hp2.1 a (by simp[ha]);omega
   rw[hb,List.nil_append];by_cases h:s<n
   .rw[cF h,List.cons_append,cF om];have h3:=sW (p:=p) (text:=text) (lo:=s) (a:=n) (b:=x) h0 h1 om;have h4:=fE p text (btw x (E++[e]));have e1:∀ x:Int,btw x []=[]:=λx=>rfl
    simp only[cu,e1];omega
   .rw[dW h];exact(fE p text _).1
theorem Da {d:Db}{text:List Int}{n:Nat}(hn:n<=text.length):Gf d (text.take n)<=Gf d text:=by
 letI:=gtR
 have hA:∀ text:List Int,gP d text=btw 0 (ends (acts t1 (aV (prop d 3) t1.classes text)) (text.length+1)++[(text.length:Int)]):=λtext=>by
  show qR (prop d 3) t1 text=_;rw[qR,if_pos tv1.1,yN,cm,if_pos tv1.1,cj];simp[aV]
 have hCL:CL (aV (prop d 3) t1.classes text) cl1.length:=ip (t:=t1) tv1.1;have hnl:(aV (prop d 3) t1.classes text).length=text.length:=by simp[aV]
 have hsrt:(0::(ends (acts t1 (aV (prop d 3) t1.classes text)) (text.length+1)++[(text.length:Int)])).Pairwise (·<=·):=by
  have:=BG (A:=acts t1 (aV (prop d 3) t1.classes text)) (n:=text.length) (by rw[cj,hnl])
  rwa [show(acts t1 (aV (prop d 3) t1.classes text)).length=text.length+1 by rw[cj,hnl]] at this
 have hcm:(text.take n).length=n:=by rw[List.length_take];omega
 have hnm:aV (prop d 3) t1.classes (text.take n)=(aV (prop d 3) t1.classes text).take n:=by simp[aV,List.map_take]
 have hcg:ends (acts t1 ((aV (prop d 3) t1.classes text).take n)) n=ends (acts t1 (aV (prop d 3) t1.classes text)) n:=rS λi hi=>by
  rw[yV (by rw[List.length_take];omega),yV om,GA hCL om hi]
 have hQ:gP d (text.take n)=btw 0 (jo n (ends (acts t1 (aV (prop d 3) t1.classes text)) (text.length+1))++[(n:Int)]):=by
  rw[hA (text.take n),hcm,hnm,lM,hcg,show text.length+1=n+(text.length+1-n) by omega,oz];split
  .exact vZ _ _ _
  .rw[List.append_nil]
 have hc:=rE d (text.take n);have hs:=sc (p:=d.wid) (text:=text) (a:=(n:Int)) hc (Int.le_refl _) (by rw[hcm];exact Int.le_refl _);rw[Int.toNat_natCast] at hs;show cu d.wid (text.take n) (gP d (text.take n))<=cu d.wid text (gP d text);rw[hs,hQ,hA text];exact ls _ 0 hsrt (Int.le_refl _) om om
end Go.Proofs.YtpgcjpcenaefpaaGreatDoor
namespace Go.Proofs.YtpgcjpcenaefpaaGreatDoor
open Go Go.Am Classical
set_option maxRecDepth 1000000
theorem sZ (nv:List Int) (a:Nat):∀ {k m:Nat},k<=m->b6 nv a k<=b6 nv a m
 | k,0,h=>by
  obtain rfl:k=0:=by omega
  exact kP _
 | k,m+1,h=>by
  by_cases hk:k=m+1
  .subst hk;exact kP _
  .have ih:=sZ nv a (k:=k) (m:=m) om;have hl:=pH nv a m;simp only[b6];split<;>omega
noncomputable def mH (d:Db) (text:List Int) (a b:Nat):Int:=Gf d (pce text a (b6 (nvL d text) a b:Nat))
theorem zi (d:Db){text:List Int}{a b:Nat}(hb:b<=text.length):0<=mH d text a b/\mH d text a b<=2*text.length:=by
 have h1:=fE d.wid (pce text a (b6 (nvL d text) a b:Nat)) (gP d (pce text a (b6 (nvL d text) a b:Nat)));have h2:=iL (rE d (pce text a (b6 (nvL d text) a b:Nat)));have h3:(pce text a (b6 (nvL d text) a b:Nat)).length<=text.length:=by simp only[List.length_take,List.length_drop];omega
 unfold mH;simp only[Gf];omega
theorem tT (d:Db){text:List Int}{a b c:Nat}(h1:b<=c):mH d text a b<=mH d text a c:=by
 have h2:=sZ (nvL d text) a h1;unfold mH
 have e:pce text a (b6 (nvL d text) a b:Nat)=(pce text a (b6 (nvL d text) a c:Nat)).take ((b6 (nvL d text) a b-a:Nat)):=by
  unfold pce;rw[List.take_take];congr 1;omega
 by_cases h:(b6 (nvL d text) a b-a:Nat)<=(pce text a (b6 (nvL d text) a c:Nat)).length
 .rw[e];exact Da h
 .rw[e,kE om];exact Int.le_refl _
end Go.Proofs.YtpgcjpcenaefpaaGreatDoor
