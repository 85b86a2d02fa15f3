/-
  The abstract machine, part 60: functions with a loop over a function that stand in a scope of labels, or end ahead of the loop.
-/
import Derived.Test.YtlimkdlhldlolaaGreatDoorL3
import Derived.Test.YtlimkdlhldlolaaGreatDoorJ1
set_option linter.unusedSectionVars false
set_option maxRecDepth 1000000
namespace Go.Am
section
variable {F:Fence}{n:Nat}{P:Program}{Q:Exit->Act->World->Prop}{a:Act}{w:World}
theorem eL {b:Frame}{k:List Item}{cs:List Frame}{c:Code}:step P (lone (b.atR a (.code (.scope c)::k)) cs w)=.next (lone (b.atR a (.code c::.inScope c::k)) cs w):=
 step_lone_go (by simp[stepG,stepG.exec,Frame.atR])
theorem sJ {b:Frame}{k:List Item}{cs:List Frame}{c:Code}:step P (lone (b.atR a (.inScope c::k)) cs w)=.next (lone (b.atR a k) cs w):=
 step_lone_go (by simp[stepG,stepG.exec,Frame.atR])
theorem zD {c:Code}(h:c.wpIn F n P Q a w) (hg:∀ l a w,¬Q (.goto l) a w):(Code.scope c).wpIn F n P Q a w:=by
 intro b k cs hro hb hr;have h0:(lone (b.atR a (.code (.scope c)::k)) cs w).fenced P F:=fenced_calm hb hr rfl;obtain⟨e,a₁,w₁,hq,harr⟩:=h b (.inScope c::k) cs hro hb hr;cases e with
 | normal=>exact⟨.normal,a₁,w₁,hq,.head h0 eL (StepsIn.trans harr (.one (fenced_calm hb hr rfl) sJ))⟩
 | exit id'=>
  have hx:exitTo id' (.inScope c::k)=exitTo id' k:=by simp[exitTo]
  exact⟨.exit id',a₁,w₁,hq,λk' hk=>.head h0 eL (harr.1 k' (by rw[hx];exact hk)),
   λhr' hk=>let⟨k₁,h1,h2⟩:=harr.2 hr' (by rw[hx];exact hk);⟨k₁,h1,.head h0 eL h2⟩⟩
 | goto l=>exact absurd hq (hg l _ _)
 | ret=>exact⟨_,a₁,w₁,hq,.of_steps (.one h0 eL) harr⟩
 | panic ch=>exact⟨_,a₁,w₁,hq,.of_steps (.one h0 eL) harr⟩
 | outgrown=>exact⟨_,a₁,w₁,hq,.of_steps (.one h0 eL) harr⟩
end
section
variable [GT] {P:Program}{ti:TI}{fn:Func}{d:D}
end
end Go.Am
namespace Go.Proofs.YtlimkdlhldlolaaGreatDoor
open Go Go.Am Classical
theorem xO1.rdX {p:Prop}(h:p:=by first|exact Rd.frzp rfl rfl (Rds.cons (Rd.same (aX _)) (Rds.cons (Rd.same (ah _)) Rds.nil))|exact Rd.frzp rfl rfl (Rds.cons (Rd.same rfl) Rds.nil)|fail):p:=h
open xO1
def sa (s:Str):Int:=if s=[90,101,114,111] then 0 else if s=[87,105,100,101]\/s=[70,117,108,108] then 2 else 1
theorem AK {s:Str}(h:s=[90,101,114,111]):0=sa s:=by subst h;simp[sa]
theorem AG {s:Str}(h:s=[87,105,100,101]):2=sa s:=by subst h;simp[sa]
theorem AH {s:Str}(h:s=[70,117,108,108]):2=sa s:=by subst h;simp[sa]
theorem AJ {s:Str}(h0:¬s=[90,101,114,111]) (h1:¬s=[87,105,100,101]) (h2:¬s=[70,117,108,108]):1=sa s:=by
 rw[sa,if_neg h0,if_neg λh=>h.elim h1 h2]
noncomputable def fB (p:Prp) (c:Int):Int:=sa (fu p c)
theorem fV (p:Prp) (c:Int):0<=fB p c/\fB p c<=2:=by
 unfold fB sa;split
 .omega
 .split<;>omega
section
variable [GT]
theorem Ha {p:Prp}{c:Int}(hp:p.ok):Pu Tryz.prog 102 [bY p,i64 c] (i64 (fB p c)):=by
 refine pv Tryz.func102 ?_;repeat' ((conv=>whnf);first|exact kQ|(refine bk ?_ ?_<;>intro _<;>try exact exo)|refine stq ?_|refine cp (vJ sd) ?_|fail)
 all_goals(conv=>whnf)
 all_goals first
  | exact aD.int (AK asm)
  | exact aD.int (AG asm)
  | exact aD.int (AH asm)
  | exact aD.int (AJ asm asm asm)
theorem Ip {p:Prp}{c:Int}{k:Nat}(hk:k<p.spans.length):Pu Tryz.prog 119 ([i64 (k:Int)]++[.iptr [strs p.names,cg p.spans],.iptr [i64 c]]) (boo (decide (c<=p.spans[k].hi))):=by
 refine pv Tryz.func119 ?_;repeat' ((conv=>whnf);first|exact kQ|(refine bk ?_ ?_<;>intro _<;>try exact exo)|refine stq ?_)
 all_goals(conv=>whnf)
 all_goals first
  | exact aD.yes om
  | exact aD.no om
theorem lJ {p:Prp}(hv:PrV p){c v:Int}(e:v=dj p.spans c):0<=v/\∃ h:v.toNat<p.names.length,p.names[v.toNat]=fu p c:=by
 have h1:=i6 (p:=p) c;have h2:cnt p=p:=by simp[cnt,hv]
 subst e;rw[h2] at h1;refine⟨h1.1,om,?_⟩;unfold fu;simp only[h2]
theorem GG {p:Prp}{c:Int}(hv:PrV p) (hn:p.spans.length<=1000):Pu Tryz.prog 87 [bY p,i64 c] (i64 (fB p c)):=by
 have hr:Di p.spans:=by
  have:=yT p
  rwa [show cnt p=p by simp[cnt,hv]] at this
 have h0:=rR p.spans c;have hg:=rJ hr c
 have hse:Pu Tryz.prog 115 [i64 p.spans.length,.fn (.func 119) [] [.iptr [strs p.names,cg p.spans],.iptr [i64 c]]] (i64 (bD p.spans c)):=
  wg (p:=λi=>∃ h:i<p.spans.length,c<=p.spans[i].hi) (by simp[aK,aF,ah,aX]) om h0 (λi hi ⟨h,hc⟩=>fj h hi hc)
   (λi h1 h2=>⟨h2,by
    have h3:=mU (l:=p.spans) (c:=c) om;have h4:=un hr (i-bD p.spans c) (i:=bD p.spans c) om om;have e:bD p.spans c+(i-bD p.spans c)=i:=by omega
    simp only[e] at h4
    omega⟩)
   (λi hi=>by
    have:=Ip (p:=p) (c:=c) hi
    exact(congrArg (λb=>Pu Tryz.prog _ _ (boo b)) (decide_eq_decide.2 ⟨λh=>⟨hi,h⟩,λ⟨_,h⟩=>h⟩)).mp this)
 have hA:∀ h:bD p.spans c<p.spans.length,p.spans[bD p.spans c].lo<=c->p.spans[bD p.spans c].val=dj p.spans c:=λh h2=>by rw[hg,dif_pos h,if_pos h2]
 have hB:∀ h:bD p.spans c<p.spans.length,¬p.spans[bD p.spans c].lo<=c->(0:Int)=dj p.spans c:=λh h2=>by rw[hg,dif_pos h,if_neg h2]
 have hC:¬bD p.spans c<p.spans.length->(0:Int)=dj p.spans c:=λh=>by rw[hg,dif_neg h]
 refine pv Tryz.func87 ?_
 conv=>whnf
 refine bX.weak aB T0 (s0:=⟨tmp 43 [(2,.iptr [strs p.names,cg p.spans]),(3,.iptr [i64 c])],⟨0,[]⟩⟩) ?_ ?_
 .exact lq [] [0,1]
 repeat' ((conv=>whnf);first|exact kQ|(refine bk ?_ ?_<;>intro _<;>try exact exo)|refine stq ?_|refine cp hse ?_|refine Idx.at (p.spans[bD p.spans c]'(by omega)).val.toNat (by have:=(lJ hv (hA om asm)).1;omega) ((lJ hv (hA om asm)).2.1) ?_|refine Idx.at 0 rfl (by have:=hv.1.1;omega) ?_)
 all_goals(conv=>whnf)
 all_goals
  obtain⟨_,h1,h2⟩:0<=dj p.spans c/\∃ h:(dj p.spans c).toNat<p.names.length,p.names[(dj p.spans c).toNat]=fu p c:=lJ hv rfl
  first
  | (have e:=hA om asm;simp only[<-e] at h2;first
    | exact aD.int (AK (h2.symm.trans asm))
    | exact aD.int (AG (h2.symm.trans asm))
    | exact aD.int (AH (h2.symm.trans asm))
    | exact aD.int (AJ (λh=>absurd (h2.trans h) asm) (λh=>absurd (h2.trans h) asm) (λh=>absurd (h2.trans h) asm)))
  | (have e:(0:Int)=dj p.spans c:=(by first|exact hB om asm|exact hC om);simp only[<-e] at h2;first
    | exact aD.int (AK (h2.symm.trans asm))
    | exact aD.int (AG (h2.symm.trans asm))
    | exact aD.int (AH (h2.symm.trans asm))
    | exact aD.int (AJ (λh=>absurd (h2.trans h) asm) (λh=>absurd (h2.trans h) asm) (λh=>absurd (h2.trans h) asm)))
end
end Go.Proofs.YtlimkdlhldlolaaGreatDoor
namespace Go.Proofs.YtlimkdlhldlolaaGreatDoor
open Go Go.Am Classical
theorem xO2.rdX {p:Prop}(h:p:=by first|exact Rd.yf rfl|exact Rd.eqd (uz om om om) (aM _)|exact Rd.int (by first|(simp only[List.length_take,List.length_drop];omega;done)|fail)|fail):p:=h
theorem xO2.rbX {p:Prop}(h:p:=by first|exact Rb.dfr|exact rbW|exact Rb.cells (Rds.same (cV _)) rfl|exact Rb.cells (Rds.cons (Rd.int om) Rds.nil) rfl|fail):p:=h
open xO2
noncomputable def mxW (p:Prp) (l:List Int):Int:=l.foldl (λm c=>max m (fB p c)) 0
theorem xM (p:Prp) (l:List Int) (c:Int):mxW p (l++[c])=max (mxW p l) (fB p c):=by simp[mxW]
theorem iq (p:Prp) (l:List Int):0<=mxW p l/\mxW p l<=2:=by
 have h:∀ (l:List Int) (m:Int),0<=m/\m<=2->0<=l.foldl (λm c=>max m (fB p c)) m/\l.foldl (λm c=>max m (fB p c)) m<=2:=by
  intro l
  induction l with
  | nil=>intro m h;exact h
  | cons c l ih=>
   intro m h;have:=fV p c
   exact ih (max m (fB p c)) om
 exact h l 0 om
noncomputable def eY (p:Prp) (text:List Int) (r:Rng):Int:=mxW p (pce text r.lo r.hi)
theorem jG (p:Prp) (text:List Int) (r:Rng):0<=eY p text r/\eY p text r<=2:=iq p _
noncomputable def cw (p:Prp) (text:List Int):List Rng->Int
 | []=>0
 | r::P=>eY p text r+cw p text P
theorem s7 (p:Prp) (text:List Int) (r:Rng):∀ P:List Rng,cw p text (P++[r])=cw p text P+eY p text r
 | []=>by simp[cw]
 | q::P=>by simp only[List.cons_append,cw,s7 p text r P];omega
theorem fI (p:Prp) (text:List Int):∀ P:List Rng,0<=cw p text P/\cw p text P<=2*P.length
 | []=>by simp[cw]
 | r::P=>by
  have h1:=fI p text P;have h2:=jG p text r;simp only[cw,kO];omega
theorem CB {p:Prp}{text:List Int}{P:List Rng}{k:Nat}(h:k<P.length):cw p text (P.take (k+1))=cw p text (P.take k)+eY p text P[k]:=by
 rw[List.take_add_one,List.getElem?_eq_getElem h];exact s7 p text P[k] _
theorem x9 {d:Db}{text:List Int}{P:List Rng}(hl:∀ k,k<7->(prop d k).names.length<=30/\(prop d k).spans.length<=16) (hP:@Pu gtR Tryz.prog 85 [dbD d,i64 1,aC text] (.tup [ax P,i64 0])):@Pk gtR Tryz.prog 57 [dbD d,aC text] 3 (λn=>.tup [.fn (.func 86) [] [.ptr (n+1) 0,.ptr n 0,.ptr (n+2) 0],i64 0]) (λn=>[(n,.cells [aC text] true),(n+1,.cells [ax P] true),(n+2,.cells [strs d.wid.names,cg d.wid.spans] true)]):=by
 letI:=gtR;have hp:Pu Tryz.prog 52 [dbD d,i64 1] (bY d.wid):=pw hl 1 om;refine Pk.of_v aB T0 Tryz.func57 rfl rfl (by simp[aK,aF,aX,ah,bn,ak,aM]) ?_;repeat' ((conv=>whnf);first|exact kQ|(refine bk ?_ ?_<;>intro _<;>try exact exo)|refine stq ?_|refine cp hP ?_|refine cp hp ?_|fail)
 (conv=>whnf)
 exact⟨[1,10,17],rfl,⟨si,λn=>.tup (.cons (.fn .nil (.cons (.ptr (by simp[sgn])) (.cons (.ptr (by simp[sgn])) (.cons (.ptr (by simp[sgn])) .nil)))) (.cons (.same rfl) .nil)),λn=>.cons (id:=1) (by simp[sgn]) rfl rfl (.cells (.cons (.same (aM text)) .nil) rfl) (.cons (id:=10) (by simp[sgn]) rfl rfl (.cells (.cons (.same (ak P)) .nil) rfl) (.cons (id:=17) (by simp[sgn]) rfl rfl (.cells (.cons (.same (aX _)) (.cons (.same (ah _)) .nil)) rfl) .nil))⟩⟩
theorem uz {text:List Int}{lo hi:Int}(h0:0<=lo) (h1:lo<=hi) (h2:hi<=text.length):D.imm (hi-lo).toNat (((text.map i64).drop (lo.toNat*1)).take ((hi-lo).toNat*1))=aC (pce text lo hi):=by
 simp only[lst,pce,Nat.mul_one,List.length_take,List.length_drop,List.map_take,List.map_drop];congr 1;omega
theorem FC {p:Prp}{l:List Int}{k:Nat}(h:k<l.length):mxW p (l.take (k+1))=max (mxW p (l.take k)) (fB p l[k]):=by
 rw[List.take_add_one,List.getElem?_eq_getElem h];exact xM p _ _
theorem H0 {p:Prp}{l:List Int}{k:Nat}(h:l.length<=k):mxW p (l.take k)=mxW p l:=by rw[kE h]
abbrev gFn (n:Nat):D:=.fn (.func 86) [] [.ptr (n+1) 0,.ptr n 0,.ptr (n+2) 0]
noncomputable abbrev tY (d:Db) (text:List Int):Box:=.loop .ready none ([dbD d,aC text,.ptr 0 0,aO,i64 0,i64 0,gFn 6,i64 0,.ptr 16 0,aO,aO,.tup [gFn 6,i64 0],dbD d,aC text,.tup [gFn 6,i64 0],gFn 6,i64 0,i64 0,boo false,aO,gFn 6]++List.replicate 6 aO) [21,22] (fnA Tryz.f42) (fnB Tryz.f42)
abbrev Ay (d:Db) (P:List Rng) (text:List Int) (s:Int):List (Nat×Box):=[(19,.dfr),(16,.cells [i64 s] true),(6,.cells [aC text] true),(7,.cells [ax P] true),(8,.cells [strs d.wid.names,cg d.wid.spans] true),(0,.cells (dbC d) true)]
theorem rbW [GT] {h:aA}{fz:Nat->Bool}{σl:List (Nat×Nat)}{d:Db}{text:List Int}:Rb h fz (sgm 21 σl) (tY d text) (tY d text):=
 .loop (by
  (repeat(first|exact Rds.nil|refine Rds.cons (by first|exact Rd.same rfl|exact Rd.ptr rfl|exact Rd.fn .nil (.cons (.ptr rfl) (.cons (.ptr rfl) (.cons (.ptr rfl) .nil)))|exact Rd.tup (.cons (Rd.fn .nil (.cons (.ptr rfl) (.cons (.ptr rfl) (.cons (.ptr rfl) .nil)))) (.cons (.same rfl) .nil))|exact Rd.same (by simp[aK,aF,aM,aX,ah,bn,ak])|fail) ?_|fail))
  done)
set_option maxHeartbeats 8000000 in
theorem IX {d:Db}{P:List Rng}{text:List Int}(hcode:∀ c:Int,@Pu gtR Tryz.prog 87 [bY d.wid,i64 c] (i64 (fB d.wid c))) (hc:Chn 0 P text.length) (hx:text.length<=1000):@AC1 gtR Tryz.prog 86 [.yf 20,.ptr 7 0,.ptr 6 0,.ptr 8 0] ⟨21,(20,tY d text)::Ay d P text 0⟩ (.tup []) ⟨80,(20,tY d text)::Ay d P text (cw d.wid text P)⟩:=by
 letI:=gtR;have hl:=gD hc;refine AC1.of_vs aB T0 Tryz.func86 rfl rfl ?_;repeat' ((conv=>whnf);first|exact kQ|(refine bk ?_ ?_<;>intro _<;>try exact exo)|refine stq ?_)
 (conv=>whnf)
 refine aG.by aB T0 (λ(k:Nat)=>⟨tmp 39 [(0,.yf 20),(1,.ptr 7 0),(2,.ptr 6 0),(3,.ptr 8 0),(10,ax P),(11,i64 P.length),(12,i64 (k:Int))],⟨21,(20,tY d text)::Ay d P text (cw d.wid text (P.take k))⟩⟩)
  (λk=>k<=P.length) (λk=>P.length-k) 0 om ?_ ?_
 .exact lq0
 intro k h3;by_cases hk:k<P.length
 .have hat:=vh hk hc;have hge:=re (s:=0) hk;have hle:=(pm k hc).1;have hss:=CB (p:=d.wid) (text:=text) hk;have hsr:=fI d.wid text (P.take k);have hwr:=jG d.wid text P[k];have htl:(P.take k).length<=1000:=by rw[List.length_take];omega
  repeat' ((conv=>whnf);first|exact kQ|(refine bk ?_ ?_<;>intro _<;>try exact exo)|refine stq ?_|refine Chk.mk ⟨om,om,om,(by simp:(text.map i64).length=text.length*1)⟩ ?_|fail)
  refine aG.by2 aB T0 (λ(j:Nat) (m:Int)=>⟨tmp 39 [(0,.yf 20),(1,.ptr 7 0),(2,.ptr 6 0),(3,.ptr 8 0),(6,.ptr 21 0),(7,i64 m),(10,ax P),(11,i64 P.length),(12,i64 (k:Int)),(21,aC (pce text P[k].lo P[k].hi)),(22,i64 (pce text P[k].lo P[k].hi).length),(23,i64 (j:Int))],⟨22,(21,.cells [i64 P[k].lo,i64 P[k].hi] true)::(20,tY d text)::Ay d P text (cw d.wid text (P.take k))⟩⟩)
   (λj m=>j<=(pce text P[k].lo P[k].hi).length/\m=mxW d.wid ((pce text P[k].lo P[k].hi).take j)) (λj _=>(pce text P[k].lo P[k].hi).length-j) 0 0 ⟨om,by simp[mxW]⟩ ?_ ?_
  .exact lq [(21,_)] []
  intro j m ⟨h5,h6⟩;have hmr:=iq d.wid ((pce text P[k].lo P[k].hi).take j);have hpcl:(pce text P[k].lo P[k].hi).length<=text.length:=by simp only[List.length_take,List.length_drop];omega
  by_cases hj:j<(pce text P[k].lo P[k].hi).length
  .have hC:=hcode ((pce text P[k].lo P[k].hi)[j]'hj);have hcr:=fV d.wid ((pce text P[k].lo P[k].hi)[j]'hj);have hms:=FC (p:=d.wid) hj;generalize hcv:fB d.wid ((pce text P[k].lo P[k].hi)[j]'hj)=cv at *;repeat' ((conv=>whnf);first|exact kQ|(refine bk ?_ ?_<;>intro _<;>try exact exo)|refine stq ?_|refine cp hC ?_|fail)
   all_goals(conv=>whnf)
   all_goals
    refine⟨j+1,_,⟨om,by rw[hms,<-h6]<;>omega⟩,om,?_⟩;exact lq [(21,21)] []
  obtain rfl:j=(pce text P[k].lo P[k].hi).length:=by omega
  obtain rfl:m=eY d.wid text P[k]:=by rw[h6,H0 (kP _)];rfl
  repeat' ((conv=>whnf);first|exact kQ|(refine bk ?_ ?_<;>intro _<;>try exact exo)|refine stq ?_|(apply Yll.sx _ rfl rfl (SvX.region T0 ?_);rotate_left)|refine SvX.block ?_|refine SvX.seq ?_|refine SvX.region T0 ?_|exact⟨rfl,rfl,rfl⟩|refine⟨rfl,rfl,?_⟩|fail)
  (conv=>whnf)
  refine⟨k+1,om,om,?_⟩;exact lq0
 .obtain rfl:k=P.length:=by omega
  rw[List.take_length];repeat' ((conv=>whnf);first|exact kQ|(refine bk ?_ ?_<;>intro _<;>try exact exo)|refine stq ?_|fail)
  (conv=>whnf)
  exact⟨Or.inl rfl,rfl,EB rfl⟩
theorem Bx {d:Db}{text:List Int}{P:List Rng}(hcode:∀ c:Int,@Pu gtR Tryz.prog 87 [bY d.wid,i64 c] (i64 (fB d.wid c))) (hl:∀ k,k<7->(prop d k).names.length<=30/\(prop d k).spans.length<=16) (hP:@Pu gtR Tryz.prog 85 [dbD d,i64 1,aC text] (.tup [ax P,i64 0])) (hc:Chn 0 P text.length) (hx:text.length<=1000):@Pu gtR Tryz.prog 42 [dbD d,aC text] (.tup [i64 (cw d.wid text P),i64 0]):=by
 letI:=gtR;have hG:=x9 hl hP;have h1:=IX hcode hc hx;refine Pu.of_fw (ti:=ci Tryz.prog) Tryz.func42 rfl rfl (by simp[aK,aF,aX,ah,bn,ak,aM]) ?_;repeat' ((conv=>whnf);first|exact kQ|(refine bk ?_ ?_<;>intro _<;>try exact exo)|refine stq ?_|refine Cll.pk hG ?_|refine Fw.range aB T0 rfl h1 rfl si ?_|refine Fw.split ?_|refine Fw.one aB T0 ?_|fail)
 (conv=>whnf)
 exact⟨rfl,_,rfl,⟨Rd.eqd rfl rfl⟩⟩
end Go.Proofs.YtlimkdlhldlolaaGreatDoor
namespace Go.Proofs.YtlimkdlhldlolaaGreatDoor
open Go Go.Am Classical
theorem Good.wid {d:Db}(g:Good d):PrV d.wid:=g.va 2 om
theorem Good.code {d:Db}(g:Good d) (c:Int):@Pu gtR Tryz.prog 87 [bY d.wid,i64 c] (i64 (fB d.wid c)):=by
 have h:d.wid.names.length<=30/\d.wid.spans.length<=16:=g.sm.2.1 1 om;exact @GG gtR _ _ g.wid om
end Go.Proofs.YtlimkdlhldlolaaGreatDoor
namespace Go.Proofs.YtlimkdlhldlolaaGreatDoor
open Go Go.Am Classical
theorem Good.width {d:Db}(g:Good d){text:List Int}(hx:text.length<=1000):@Pu gtR Tryz.prog 42 [dbD d,aC text] (.tup [i64 (cw d.wid text (gP d text)),i64 0]):=
 Bx g.code (λk hk=>g.sm.2.1 k hk) (g.p1 hx) (rL d text) hx
end Go.Proofs.YtlimkdlhldlolaaGreatDoor
namespace Go.Proofs.YtlimkdlhldlolaaGreatDoor
open Go Go.Am Classical
theorem xO (p:Prp) (c:Int) (l:List Int):mxW p (c::l)=max (fB p c) (mxW p l):=by
 have h:∀ (l:List Int) (m:Int),0<=m->l.foldl (λm c=>max m (fB p c)) m=max m (mxW p l):=by
  intro l
  induction l with
  | nil=>intro m h;simp[mxW];omega
  | cons c l ih=>
   intro m h;have h1:=fV p c;rw[List.foldl_cons,ih _ om];rw[show mxW p (c::l)=l.foldl (λm c=>max m (fB p c)) (max 0 (fB p c)) from rfl,ih _ om];omega
 have h1:=fV p c;rw[show mxW p (c::l)=l.foldl (λm c=>max m (fB p c)) (max 0 (fB p c)) from rfl,h _ _ om];omega
theorem BE (p:Prp):∀ a b:List Int,mxW p (a++b)=max (mxW p a) (mxW p b)
 | [],b=>by have:=iq p b;simp[show mxW p []=0 from rfl];omega
 | c::a,b=>by rw[List.cons_append,xO,xO,BE p a b];omega
theorem CV {text:List Int}{a b c:Int}(h0:0<=a) (h1:a<=b) (h2:b<=c):pce text a c=pce text a b++pce text b c:=by
 unfold pce;rw[show(c-a).toNat=(b-a).toNat+(c-b).toNat by omega,List.take_add,List.drop_drop,show a.toNat+(b-a).toNat=b.toNat by omega]
theorem Ey {text:List Int}{lo hi a:Int}(h0:0<=lo) (h1:hi<=a):pce (text.take a.toNat) lo hi=pce text lo hi:=by
 unfold pce;rw[List.drop_take,List.take_take,show min (hi-lo).toNat (a.toNat-lo.toNat)=(hi-lo).toNat by omega]
theorem s6 {p:Prp}{text:List Int}{a:Int}:∀ {P:List Rng}{s e:Int},Chn s P e->0<=s->e<=a->cw p (text.take a.toNat) P=cw p text P
 | [],s,e,_,_,_=>rfl
 | r::P,s,e,h,h0,h1=>by
  have h2:=h.1;have h3:=h.2.1;have h4:=oQ h.2.2;simp only[cw,eY,Ey (text:=text) (lo:=r.lo) (hi:=r.hi) (a:=a) om om,s6 (a:=a) h.2.2 om h1]
end Go.Proofs.YtlimkdlhldlolaaGreatDoor
namespace Go.Proofs.YtlimkdlhldlolaaGreatDoor
open Go Go.Am Classical
theorem sn {p:Prp}{text:List Int}{lo a b:Int}(h0:0<=lo) (h1:lo<=a) (h2:a<=b):eY p text ⟨lo,a⟩<=eY p text ⟨lo,b⟩:=by
 simp only[eY];rw[CV h0 h1 h2,BE];omega
noncomputable abbrev G9 (d:Db) (text:List Int):Int:=cw d.wid text (gP d text)
theorem mB {p:Prp}{text:List Int}{n e:Int}:∀ (E:List Int) (s:Int),(s::(E++[e])).Pairwise (·<=·)->0<=s->s<=n->n<=e->cw p text (btw s (jq n E++[n]))<=cw p text (btw s (E++[e]))
 | [],s,hp,h0,h1,h2=>by
  simp only[jq,List.filter_nil,List.nil_append];by_cases h:s<n
  .rw[cJ h,cJ om];have:=sn (p:=p) (text:=text) (lo:=s) (a:=n) (b:=e) h0 h1 h2
   have e1:∀ x:Int,btw x []=[]:=λx=>rfl
   simp only[cw,e1];omega
  .rw[dW h];exact(fI p text _).1
 | x::E,s,hp,h0,h1,h2=>by
  have hp1:=List.pairwise_cons.1 hp;have hp2:=List.pairwise_cons.1 hp1.2;have hx:s<=x:=hp1.1 x si;by_cases hn:x<n
  .rw[DW hn,List.cons_append,List.cons_append];by_cases hs:s<x
   .rw[cJ hs,cJ hs];have:=mB (p:=p) (text:=text) (n:=n) (e:=e) E x hp1.2 om om h2
    simp only[cw];omega
   .obtain rfl:s=x:=by omega
    rw[dW hs,dW hs];exact mB E s hp1.2 h0 h1 h2
  .have hb:jq n (x::E)=[]:=rx λa ha=>by
    rcases List.mem_cons.1 ha with rfl|ha
    .omega
    .have:=hp2.1 a (by simp[ha]);omega
   rw[hb,List.nil_append];by_cases h:s<n
   .rw[cJ h,List.cons_append,cJ om];have h3:=sn (p:=p) (text:=text) (lo:=s) (a:=n) (b:=x) h0 h1 om;have h4:=fI p text (btw x (E++[e]));have e1:∀ x:Int,btw x []=[]:=λx=>rfl
    simp only[cw,e1];omega
   .rw[dW h];exact(fI p text _).1
theorem Dw {d:Db}{text:List Int}{n:Nat}(hn:n<=text.length):G9 d (text.take n)<=G9 d text:=by
 letI:=gtR
 have hA:∀ text:List Int,gP d text=btw 0 (ends (acts t1 (aW (prop d 3) t1.classes text)) (text.length+1)++[(text.length:Int)]):=λtext=>by
  show qY (prop d 3) t1 text=_;rw[qY,if_pos tv1.1,yc,cn,if_pos tv1.1,cm];simp[aW]
 have hCL:CL (aW (prop d 3) t1.classes text) cl1.length:=ip (t:=t1) tv1.1;have hnl:(aW (prop d 3) t1.classes text).length=text.length:=by simp[aW]
 have hsrt:(0::(ends (acts t1 (aW (prop d 3) t1.classes text)) (text.length+1)++[(text.length:Int)])).Pairwise (·<=·):=by
  have:=BX (A:=acts t1 (aW (prop d 3) t1.classes text)) (n:=text.length) (by rw[cm,hnl])
  rwa [show(acts t1 (aW (prop d 3) t1.classes text)).length=text.length+1 by rw[cm,hnl]] at this
 have hcm:(text.take n).length=n:=by rw[List.length_take];omega
 have hnm:aW (prop d 3) t1.classes (text.take n)=(aW (prop d 3) t1.classes text).take n:=by simp[aW,List.map_take]
 have hcg:ends (acts t1 ((aW (prop d 3) t1.classes text).take n)) n=ends (acts t1 (aW (prop d 3) t1.classes text)) n:=ra λi hi=>by
  rw[yl (by rw[List.length_take];omega),yl om,GZ hCL om hi]
 have hQ:gP d (text.take n)=btw 0 (jq n (ends (acts t1 (aW (prop d 3) t1.classes text)) (text.length+1))++[(n:Int)]):=by
  rw[hA (text.take n),hcm,hnm,lS,hcg,show text.length+1=n+(text.length+1-n) by omega,pA];split
  .exact vo _ _ _
  .rw[List.append_nil]
 have hc:=rL d (text.take n);have hs:=s6 (p:=d.wid) (text:=text) (a:=(n:Int)) hc (Int.le_refl _) (by rw[hcm];exact Int.le_refl _);rw[Int.toNat_natCast] at hs;show cw d.wid (text.take n) (gP d (text.take n))<=cw d.wid text (gP d text);rw[hs,hQ,hA text];exact mB _ 0 hsrt (Int.le_refl _) om om
end Go.Proofs.YtlimkdlhldlolaaGreatDoor
namespace Go.Proofs.YtlimkdlhldlolaaGreatDoor
open Go Go.Am Classical
theorem su (nv:List Int) (a:Nat):∀ {k m:Nat},k<=m->cA nv a k<=cA nv a m
 | k,0,h=>by
  obtain rfl:k=0:=by omega
  exact kP _
 | k,m+1,h=>by
  by_cases hk:k=m+1
  .subst hk;exact kP _
  .have ih:=su nv a (k:=k) (m:=m) om;have hl:=pS nv a m;simp only[cA];split<;>omega
noncomputable def ix (d:Db) (text:List Int) (a b:Nat):Int:=G9 d (pce text a (cA (nvL d text) a b:Nat))
theorem qz (d:Db){text:List Int}{a b:Nat}(hb:b<=text.length):0<=ix d text a b/\ix d text a b<=2*text.length:=by
 have h1:=fI d.wid (pce text a (cA (nvL d text) a b:Nat)) (gP d (pce text a (cA (nvL d text) a b:Nat)));have h2:=gD (rL d (pce text a (cA (nvL d text) a b:Nat)));have h3:(pce text a (cA (nvL d text) a b:Nat)).length<=text.length:=by simp only[List.length_take,List.length_drop];omega
 unfold ix;simp only[G9];omega
theorem Cp (d:Db){text:List Int}{a b c:Nat}(h1:b<=c):ix d text a b<=ix d text a c:=by
 have h2:=su (nvL d text) a h1;unfold ix
 have e:pce text a (cA (nvL d text) a b:Nat)=(pce text a (cA (nvL d text) a c:Nat)).take ((cA (nvL d text) a b-a:Nat)):=by
  unfold pce;rw[List.take_take];congr 1;omega
 by_cases h:(cA (nvL d text) a b-a:Nat)<=(pce text a (cA (nvL d text) a c:Nat)).length
 .rw[e];exact Dw h
 .rw[e,kE om];exact Int.le_refl _
end Go.Proofs.YtlimkdlhldlolaaGreatDoor
