/-
  Contracts over data: the reference's second elements, boundaries and number of checks.
-/
import Derived.Test.YtihggclfifimoaaGreatDoorUI
import Derived.Test.YtihggclfifimoaaGreatDoorYI
set_option linter.unusedSectionVars false
namespace Go.Proofs.YtihggclfifimoaaGreatDoor
open Go Go.Am Classical
set_option maxHeartbeats 4000000
set_option maxRecDepth 100000
section
set_option linter.unusedVariables false
theorem xUL.rdX {p:Prop}(h:p:=by first|exact Rd.same (mB _)|exact Rd.frzL aa aU rfl rfl rfl rfl rfl|exact Rd.sl' rfl sim sim|fail):p:=h
theorem xUL.rbX {p:Prop}(h:p:=by first|exact Rb.cells (Rds.eqs rfl rfl) rfl|exact Rb.cells (Rds.eqs (ae (c:=bq) (sz:=2) aa o (mY P[0])) (aG aU _)) rfl|exact Rb.cells (Rds.eqs (ae (c:=bq) (sz:=2) aa o (mY P[(i+1)])) (aG aU _)) rfl|fail):p:=h
open xUL
abbrev mY (t:Tri):Rng:=⟨t.2.1,t.2.1⟩
noncomputable def lb (n:Nm):List Rng:=d8++(ef n n.dc).map mY
noncomputable def gq (n:Nm):List Rng:=fx (lb n)
theorem yb (rs:List Rng):(fx rs).length<=2*rs.length+2:=by
 have h:∀ (p:Int->Bool) (l:List Int) (o:List Rng) (op:Bool),(cmb p o op l).length<=o.length+l.length:=λp l=>by
  induction l with
  | nil=>intro o op;simp[cmb]
  | cons c l ih=>
   intro o op;simp only[cmb,kO];refine Nat.le_trans (ih _ _) ?_;split
   ·split
    ·split
     ·omega
     ·rename_i x hx;simp only[kG,List.length_dropLast,kO,List.length_nil]
      have:0<o.length:=List.length_pos_iff.2 (by rintro rfl;simp at hx)
      omega
    ·simp only[kG,kO,List.length_nil];omega
   ·omega
 have h1:=h (λc=>bM rs c) (bJ rs) [] false;have h2:=oO rs;have h3:fx rs=cmb (λc=>bM rs c) [] false (bJ rs):=rfl;rw[h3];simp only[List.length_nil] at h1;omega
theorem ED {l:List Rng}{c:Int}:bM (fx l) c=bM l c:=by
 rw[Bool.eq_iff_iff,cG,cG];exact⟨λ⟨h,h'⟩=>⟨h,((lJ l).2 c h.1 h.2).1 h'⟩,λ⟨h,h'⟩=>⟨h,((lJ l).2 c h.1 h.2).2 h'⟩⟩
theorem GA {n:Nm}{a x w:Int}(h:jn n a x=some w):hc a x=some w∨(hc a x=none∧∃ m∈n.dc,ci n a x m∧w=m.frm):=by
 unfold jn at h;cases hh:hc a x with
 | some w'=>rw[hh] at h;exact .inl h
 | none=>
  rw[hh] at h;simp only at h;cases hf:n.dc.find? (λm=>decide (ci n a x m)) with
  | none=>rw[hf] at h;cases h
  | some m=>
   rw[hf] at h;simp at h;exact .inr ⟨rfl,m,List.mem_of_find?_eq_some hf,by simpa using List.find?_some hf,h.symm⟩
theorem HV {a x:Int}(h:(hk a=1∧hk x=2)∨(hk a=4∧hk x=3)):hc a x≠none:=by
 unfold hc;rcases h with h|h
 ·rw[if_pos h];simp
 ·rw[if_neg om,if_pos h];simp
theorem rsecOk {n:Nm}(hG:NmG n):kz n (gq n):=by
 intro x;unfold gq;rw[ED,cG];constructor
 ·rintro⟨h,r,hr,h1,h2⟩;rcases List.mem_append.1 hr with hr|hr
  ·have hx:(4449<=x∧x<=4469)∨(4520<=x∧x<=4546):=by
    rcases List.mem_cons.1 hr with rfl|hr
    ·exact .inl ⟨h1,h2⟩
    ·rw[List.mem_singleton.1 hr] at h1 h2;exact .inr ⟨h1,h2⟩
   have hxc:=aj x
   have key:∀ a,hc a x≠none->jn n a x≠none:=λa h=>by
    unfold jn;cases hh:hc a x with
    | none=>exact absurd hh h
    | some w=>simp
   rcases hx with hx|hx
   ·exact⟨4352,key _ (HV (.inl ⟨by decide,by omega⟩))⟩
   ·exact⟨44032,key _ (HV (.inr ⟨by decide,by omega⟩))⟩
  ·obtain⟨t,ht,rfl⟩:=List.mem_map.1 hr;obtain⟨m,hm,hk,rfl⟩:=qe.1 ht;have h3:=(of_decide_eq_true hk).2;have e:x=m.to.getD 1 0:=by simp only[tri] at h1 h2;omega
   subst e;exact⟨m.to.getD 0 0,by rw[h3];simp⟩
 ·rintro⟨a,ha⟩;cases hj:jn n a x with
  | none=>exact absurd hj ha
  | some w=>
   have hxc:=aj x;rcases GA hj with hh|⟨hh,m,hm,hq,rfl⟩
   ·have hx:hk x=2∨hk x=3:=by
     unfold hc at hh;split at hh
     ·rename_i h;exact .inl h.2
     ·split at hh
      ·rename_i h;exact .inr h.2
      ·cases hh
    have hx:(4449<=x∧x<=4469)∨(4520<=x∧x<=4546):=by omega
    rcases hx with hx|hx
    ·exact⟨by omega,⟨4449,4469⟩,by simp[lb,d8],hx.1,hx.2⟩
    ·exact⟨by omega,⟨4520,4546⟩,by simp[lb,d8],hx.1,hx.2⟩
   ·obtain⟨h1,h2,h3⟩:=iy.1 hq;have hk:kpM n m=true:=decide_eq_true ⟨h1,by rw[h2,h3];exact hj⟩;have h4:=(fj hG hm).2 1 (by have:=h1.2.1;omega);have h5:cpQ x:=by rw[<-h3,gDe (by have:=h1.2.1;omega)];exact h4
    exact⟨h5,mY (tri m),List.mem_append_right _ (List.mem_map_of_mem (qe.2 ⟨m,hm,hk,rfl⟩)),by show m.to.getD 1 0<=x;omega,by show x<=m.to.getD 1 0;omega⟩
theorem BL {n:Nm}(hn:n.ok) (hl:(okN n).dc.length<=20):Pu Tryz.prog 84 [nmD n] (fJ (gq (okN n))):=by
 have h1:=Fk hn;have hPl:=jL (n:=okN n) (l:=(okN n).dc);have hM:=zo (rs:=lb (okN n)) (by unfold lb;simp;omega);unfold gq;generalize hP:ef (okN n) (okN n).dc=P at *;have hL:lb (okN n)=d8++P.map mY:=by unfold lb;rw[hP]
 rw[hL] at hM;rw[hL];refine Pu.of_v aA T0 Tryz.func84 rfl rfl (aD (aQ n) rfl) ?_;repeat' ((conv=>whnf);first|exact kQ|(refine bk ?_ ?_<;>intro _<;>try(exfalso;omega))|refine stq ?_|refine cp h1 ?_|fail)
 refine aH.by2 aA T0 (λ(i:Nat) (o:List Rng)=>⟨tmp 33 [(2,.ptr 0 0),(3,.sl 1 0 o.length o.length 2 (i == 0)),(4,pG P),(5,i64 (i:Int))],⟨2,[(0,.cells [aO] true),(1,.cells (o.flatMap bq) (i == 0))]⟩⟩) (λi o=>i<=P.length∧o=d8++(P.take i).map mY) (λi _=>P.length-i) 0 d8 ⟨by omega,by simp⟩ ?_ ?_
 ·show Lf _ _ ⟨tmp 33 [(2,.ptr 0 0),(3,.sl 1 0 2 2 2 true),(4,pG P),(5,i64 ((0:Nat):Int))],⟨2,[(0,.cells [aO] true),(1,.cells (d8.flatMap bq) true)]⟩⟩;exact lq [(0,1),(1,4)] []
 intro i o ⟨g1,g2⟩;have hol:o.length=2+i:=by rw[g2];simp;omega
 by_cases hi:i<P.length
 ·cases i with
  | zero=>
   repeat' ((conv=>whnf);first|refine Idx.atS dM 0 om om ?_|exact kQ|(refine bk ?_ ?_<;>intro _<;>try(exfalso;omega))|refine stq ?_|refine aX.by (id:=6) aA T0 [0,0,0,6,14,30,0,0,192,448,960,2046,4094,8191,16383] (by kernel_rfl) ?_|refine Chk.growX 16 2 rfl rfl om om (by rw[aW aa];omega) ?_|fail)
   all_goals(conv=>whnf)
   refine⟨0+1,o++[mY P[0]],⟨by omega,by rw[g2,aS hi,List.map_append,List.append_assoc];rfl⟩,by omega,?_⟩;show Lf _ _ ⟨tmp 33 [(2,.ptr 0 0),(3,.sl 1 0 (o++[mY P[0]]).length (o++[mY P[0]]).length 2 false),(4,pG P),(5,i64 ((0+1:Nat):Int))],⟨2,[(0,.cells [aO] true),(1,.cells ((o++[mY P[0]]).flatMap bq) false)]⟩⟩;exact lq [(0,0),(1,19)] []
  | succ i=>
   repeat' ((conv=>whnf);first|refine Idx.atS dM (i+1) om om ?_|exact kQ|(refine bk ?_ ?_<;>intro _<;>try(exfalso;omega))|refine stq ?_|refine aX.by (id:=6) aA T0 [0,0,0,6,14,30,0,0,192,448,960,2046,4094,8191,16383] (by kernel_rfl) ?_|refine Chk.growX 16 2 rfl rfl om om (by rw[aW aa];omega) ?_|fail)
   all_goals(conv=>whnf)
   refine⟨(i+1)+1,o++[mY P[(i+1)]],⟨by omega,by rw[g2,aS hi,List.map_append,List.append_assoc];rfl⟩,by omega,?_⟩;show Lf _ _ ⟨tmp 33 [(2,.ptr 0 0),(3,.sl 1 0 (o++[mY P[(i+1)]]).length (o++[mY P[(i+1)]]).length 2 false),(4,pG P),(5,i64 (((i+1)+1:Nat):Int))],⟨2,[(0,.cells [aO] true),(1,.cells ((o++[mY P[(i+1)]]).flatMap bq) false)]⟩⟩;exact lq [(0,0),(1,19)] []
 ·rw[kE om] at g2;rw[<-g2] at hM ⊢;cases i with
  | zero=>
   repeat' ((conv=>whnf);first|refine cm.weak (x:=Code.seq (Code.region 7 _ false) _) aA T0 (s0:=⟨tmp 33 [(2,.ptr 0 0),(3,bD o)],⟨1,[(0,.cells [aO] true)]⟩⟩) ?_ ?_|exact kQ|(refine bk ?_ ?_<;>intro _<;>try(exfalso;omega))|refine stq ?_|refine cp hM ?_|fail)
   ·exact lq [(0,0)] [1]
   all_goals(conv=>whnf)
   exact⟨Rd.eqd rfl (by simp[aL,aK,aV])⟩
  | succ i=>
   repeat' ((conv=>whnf);first|refine cm.weak (x:=Code.seq (Code.region 7 _ false) _) aA T0 (s0:=⟨tmp 33 [(2,.ptr 0 0),(3,bD o)],⟨1,[(0,.cells [aO] true)]⟩⟩) ?_ ?_|exact kQ|(refine bk ?_ ?_<;>intro _<;>try(exfalso;omega))|refine stq ?_|refine cp hM ?_|fail)
   ·exact lq [(0,0)] [1]
   all_goals(conv=>whnf)
   exact⟨Rd.eqd rfl (by simp[aL,aK,aV])⟩
theorem DC {f:Int}(hf:isF f):Pu Tryz.prog 160 [i64 f] (boo true):=by
 unfold isF at hf;refine pv Tryz.func160 ?_;repeat' ((conv=>whnf);first|exact kQ|(refine bk ?_ ?_<;>intro _<;>try(exfalso;omega))|refine stq ?_)
 all_goals(conv=>whnf)
 all_goals first
  | (exfalso;omega)
  | exact aE.same rfl rfl
theorem BK {f:Int}:Pu Tryz.prog 283 [i64 f] (boo (kF f)):=by
 refine pv Tryz.func283 ?_;repeat' ((conv=>whnf);first|exact kQ|(refine bk ?_ ?_<;>intro _<;>try(exfalso;omega))|refine stq ?_)
 all_goals(conv=>whnf)
 all_goals first
  | exact aE.yes om
  | exact aE.no om
theorem vv {f:Int}:Pu Tryz.prog 286 [i64 f] (boo (cF f)):=by
 refine pv Tryz.func286 ?_;repeat' ((conv=>whnf);first|exact kQ|(refine bk ?_ ?_<;>intro _<;>try(exfalso;omega))|refine stq ?_)
 all_goals(conv=>whnf)
 all_goals first
  | exact aE.yes om
  | exact aE.no om
def stD:List Int->D
 | []=>.tup [i64 0,boo false]
 | x::_=>.tup [i64 x,boo true]
theorem vn {n:Nm}{f c:Int}(hn:n.ok):Pu Tryz.prog 161 [nmD n,i64 f,i64 c] (stD (bA (once (okN n) (kF f)) c)):=by
 have h1:=BK (f:=f);have h2:=Fi (k:=kF f) (c:=c) hn;generalize bA (once (okN n) (kF f)) c=l at *;generalize kF f=k at *;refine Pu.of_v aA T0 Tryz.func161 rfl rfl (aD (aQ n) (aD rfl (aD rfl rfl))) ?_;cases l with
 | nil=>
  repeat' ((conv=>whnf);first|exact kQ|(refine bk ?_ ?_<;>intro _<;>try(exfalso;omega))|refine stq ?_|refine cp h1 ?_|refine cp h2 ?_|fail)
  all_goals(conv=>whnf)
  all_goals first
   | exact⟨.tup (.cons (.same rfl) (.cons (.same rfl) .nil))⟩
   | (exfalso;rename_i h;exact h rfl)
 | cons x xs=>
  have hx:(x::xs).length=xs.length+1:=rfl;repeat' ((conv=>whnf);first|refine Idx.at (l:=x::xs) (f:=i64) 0 rfl om ?_|exact kQ|(refine bk ?_ ?_<;>intro _<;>try(exfalso;omega))|refine stq ?_|refine cp h1 ?_|refine cp h2 ?_|fail)
  all_goals(conv=>whnf)
  all_goals first
   | exact⟨.tup (.cons (.same rfl) (.cons (.same rfl) .nil))⟩
   | (exfalso;omega)
end
section
set_option linter.unusedVariables false
theorem xUM.rdX {p:Prop}(h:p:=by first|exact Rd.int om|exact Rd.sl' rfl sim sim|fail):p:=h
theorem xUM.rbX {p:Prop}(h:p:=by first|exact rbN|exact Rb.cells (Rds.same (aD (aV _) rfl)) rfl|exact Rb.cells (Rds.eqs (ae (c:=ek) (sz:=1) (by intro _;rfl) (x::xs) (i:Int)) (aG (by intro _;rfl) _)) rfl|fail):p:=h
open xUM
def scB (f:Int) (s:List Rng):List Int->Bool
 | []=>false
 | x::_=>cF f&&bM s x
theorem BF {n:Nm}{f c:Int}{s:List Rng}(hn:n.ok) (hs:s.length<=60):Pu Tryz.prog 164 [nmD n,i64 f,i64 c,fJ s] (boo (scB f s (bA (once (okN n) (kF f)) c))):=by
 have h1:=vn (f:=f) (c:=c) hn;have h2:=vv (f:=f);generalize bA (once (okN n) (kF f)) c=l at *;cases l with
 | nil=>
  cases hc:cF f
  ·rw[hc] at h2;refine Pu.of_v aA T0 Tryz.func164 rfl rfl (aD (aQ n) (aD rfl (aD rfl (aD (kY (aD (aV _) rfl)) rfl)))) ?_;repeat' ((conv=>whnf);first|exact kQ|(refine bk ?_ ?_<;>intro _<;>try(exfalso;omega))|refine stq ?_|refine cp h1 ?_|refine cp h2 ?_|fail)
   all_goals(conv=>whnf)
   exact aE.same rfl rfl
  ·rw[hc] at h2;refine Pu.of_v aA T0 Tryz.func164 rfl rfl (aD (aQ n) (aD rfl (aD rfl (aD (kY (aD (aV _) rfl)) rfl)))) ?_;repeat' ((conv=>whnf);first|exact kQ|(refine bk ?_ ?_<;>intro _<;>try(exfalso;omega))|refine stq ?_|refine cp h1 ?_|refine cp h2 ?_|fail)
   all_goals(conv=>whnf)
   exact aE.same rfl rfl
 | cons x xs=>
  have h3:Pu Tryz.prog 287 [jd s,i64 x] (boo (bM s x)):=rn om;cases hc:cF f
  ·rw[hc] at h2;rw[show scB f s (x::xs)=false from by simp[scB,hc]];refine Pu.of_v aA T0 Tryz.func164 rfl rfl (aD (aQ n) (aD rfl (aD rfl (aD (kY (aD (aV _) rfl)) rfl)))) ?_;repeat' ((conv=>whnf);first|exact kQ|(refine bk ?_ ?_<;>intro _<;>try(exfalso;omega))|refine stq ?_|refine cp h1 ?_|refine cp h2 ?_|fail)
   all_goals(conv=>whnf)
   exact aE.same rfl rfl
  ·rw[hc] at h2;rw[show scB f s (x::xs)=bM s x from by simp[scB,hc]];refine Pu.of_v aA T0 Tryz.func164 rfl rfl (aD (aQ n) (aD rfl (aD rfl (aD (kY (aD (aV _) rfl)) rfl)))) ?_;repeat' ((conv=>whnf);first|exact kQ|(refine bk ?_ ?_<;>intro _<;>try(exfalso;omega))|refine stq ?_|refine cp h1 ?_|refine cp h2 ?_|refine cp h3 ?_|fail)
   all_goals(conv=>whnf)
   exact aE.same rfl rfl
noncomputable def bdB (n:Nm) (f:Int) (s:List Rng) (l:List Int):Bool:=match l with
 | []=>false
 | x::_=>decide (aJ n.cl x=0)&&!(cF f&&bM s x)
theorem Gv {n:Nm}(hG:NmG n){f c:Int}{s:List Rng}:bdB n f s (bA (once n (kF f)) c)=!ga n f (bW f s) c:=by
 have hp:=hG.v.cls_pos
 have e:d7 n (kF f) [c]=can (aJ n.cl) (bA (once n (kF f)) c):=by
  show can _ (exs _ [c])=_;simp[exs]
 unfold ga bdB;rw[e];cases hx:bA (once n (kF f)) c with
 | nil=>simp[can]
 | cons x t=>
  simp only;by_cases h0:aJ n.cl x=0
  ·rw[kw h0,decide_eq_true h0];unfold bW;cases hc:cF f
   ·simp[bM,h0]
   ·simp[h0]
  ·rw[decide_eq_false h0];cases hd:can (aJ n.cl) (x::t) with
   | nil=>simp
   | cons y es=>
    simp only;by_cases h1:aJ n.cl y=0
    ·obtain⟨s',hs'⟩:=xb hp hd h1;injection hs' with hs' _
     rw[hs'] at h0;exact absurd h1 h0
    ·rw[decide_eq_false h1];simp
theorem vw {n:Nm}{f c:Int}{s:List Rng}(hf:isF f) (hn:n.ok) (hs:s.length<=60):Pu Tryz.prog 85 [nmD n,i64 f,i64 c,fJ s] (boo (bdB (okN n) f s (bA (once (okN n) (kF f)) c))):=by
 have h0:=DC hf;have h1:=vn (f:=f) (c:=c) hn;have h2:=BF (f:=f) (c:=c) (s:=s) hn hs;have h3:=zp hn;have hN:=qn hn;have hu:fG (okN n).cl=(okN n).cl:=if_pos hN.g.cls
 have hS:∀ c:Int,Pu Tryz.prog 162 [bC (okN n).cl,i64 c] (boo (decide (aJ (okN n).cl c=0))):=λc=>by
  have:=qX (c:=c) hN.ok.cl
  rwa [hu] at this
 generalize bA (once (okN n) (kF f)) c=l at *;generalize okN n=n' at *;cases l with
 | nil=>
  refine Pu.of_v aA T0 Tryz.func85 rfl rfl (aD (aQ n) (aD rfl (aD rfl (aD (kY (aD (aV _) rfl)) rfl)))) ?_;repeat' ((conv=>whnf);first|exact kQ|(refine bk ?_ ?_<;>intro _<;>try(exfalso;omega))|refine stq ?_|refine cp h0 ?_|refine cp h1 ?_|refine cp h2 ?_|refine cp h3 ?_|fail)
  all_goals(conv=>whnf)
  exact aE.same rfl rfl
 | cons x xs=>
  have h4:=hS x;by_cases hx:aJ n'.cl x=0
  ·rw[decide_eq_true hx] at h4;rw[show bdB n' f s (x::xs)=!scB f s (x::xs) from by simp[bdB,scB,hx]];refine Pu.of_v aA T0 Tryz.func85 rfl rfl (aD (aQ n) (aD rfl (aD rfl (aD (kY (aD (aV _) rfl)) rfl)))) ?_;repeat' ((conv=>whnf);first|exact kQ|(refine bk ?_ ?_<;>intro _<;>try(exfalso;omega))|refine stq ?_|refine cp h0 ?_|refine cp h1 ?_|refine cp h2 ?_|refine cp h3 ?_|refine cp h4 ?_|fail)
   all_goals(conv=>whnf)
   exact aE.same rfl rfl
  ·rw[decide_eq_false hx] at h4;rw[show bdB n' f s (x::xs)=false from by simp[bdB,hx]];refine Pu.of_v aA T0 Tryz.func85 rfl rfl (aD (aQ n) (aD rfl (aD rfl (aD (kY (aD (aV _) rfl)) rfl)))) ?_;repeat' ((conv=>whnf);first|exact kQ|(refine bk ?_ ?_<;>intro _<;>try(exfalso;omega))|refine stq ?_|refine cp h0 ?_|refine cp h1 ?_|refine cp h2 ?_|refine cp h3 ?_|refine cp h4 ?_|fail)
   all_goals(conv=>whnf)
   exact aE.same rfl rfl
theorem ry {n:Nm}{f:Int}{t:List Int}(hf:isF f) (hn:n.ok) (hl:(okN n).dc.length<=20) (ht:t.length<=100):Pu Tryz.prog 28 [nmD n,i64 f,aF t] (aF (fD (okN n) f (bW f (gq (okN n))) t t.length)):=by
 have h1:=BL hn om;have hN:=qn hn
 have hsl:(gq (okN n)).length<=60:=by
  have h2:=yb (lb (okN n))
  have h3:(lb (okN n)).length<=2+(okN n).dc.length:=by
   unfold lb;have:=jL (n:=okN n) (l:=(okN n).dc)
   simp;omega
  unfold gq;have:=jL (n:=okN n) (l:=(okN n).dc)
  omega
 have hB:∀ c:Int,Pu Tryz.prog 85 [nmD n,i64 f,i64 c,fJ (gq (okN n))] (boo (!ga (okN n) f (bW f (gq (okN n))) c)):=λc=>by
  have:=vw (c:=c) (s:=gq (okN n)) hf hn hsl
  rwa [Gv hN.g] at this
 generalize gq (okN n)=s at *;generalize okN n=n' at *;refine Pu.of_v aA T0 Tryz.func28 rfl rfl (aD (aQ n) (aD rfl (aD (aC _) rfl))) ?_;repeat' ((conv=>whnf);first|exact kQ|(refine bk ?_ ?_<;>intro _<;>try(exfalso;omega))|refine stq ?_|refine cp h1 ?_|fail)
 refine aH.by2 aA T0 (λ(i:Nat) (o:List Int)=>⟨tmp 31 [(1,i64 f),(2,aF t),(3,.ptr 0 0),(7,.ptr 1 0),(8,fB 2 1 o),(9,i64 (i:Int))],⟨3,gA 2 ek o++((1,.cells [bD s] true)::nmX n)⟩⟩) (λi o=>i<=t.length∧o=fD n' f (bW f s) t i) (λi _=>t.length-i) 0 [] ⟨by omega,rfl⟩ ?_ ?_
 ·exact lq [(0,0),(1,4)] []
 intro i o ⟨g1,g2⟩;have hol:o.length<=i:=by rw[g2];exact kx
 by_cases hi:i<t.length
 ·have hs1:=tH (n:=n') (f:=f) (s:=bW f s) hi;rw[<-g2] at hs1;have hb:=hB t[i];cases hI:ga n' f (bW f s) t[i] with
  | true=>
   rw[hI] at hb hs1;rw[if_pos rfl] at hs1;cases o with
   | nil=>
    repeat' ((conv=>whnf);first|exact kQ|(refine bk ?_ ?_<;>intro _<;>try(exfalso;omega))|refine stq ?_|refine cp hb ?_|fail)
    all_goals(conv=>whnf)
    refine⟨i+1,[],⟨by omega,hs1.symm⟩,by omega,?_⟩;exact lq [(0,0),(1,1)] []
   | cons x xs=>
    repeat' ((conv=>whnf);first|exact kQ|(refine bk ?_ ?_<;>intro _<;>try(exfalso;omega))|refine stq ?_|refine cp hb ?_|fail)
    all_goals(conv=>whnf)
    refine⟨i+1,x::xs,⟨by omega,hs1.symm⟩,by omega,?_⟩;exact lq [(0,0),(1,1),(2,2)] []
  | false=>
   rw[hI] at hb hs1;rw[if_neg si] at hs1;cases o with
   | nil=>
    repeat' ((conv=>whnf);first|exact kQ|(refine bk ?_ ?_<;>intro _<;>try(exfalso;omega))|refine stq ?_|refine cp hb ?_|fail)
    all_goals(conv=>whnf)
    refine⟨i+1,[(i:Int)],⟨by omega,hs1.symm⟩,by omega,?_⟩;exact lq [(0,0),(1,1),(2,18)] []
   | cons x xs=>
    repeat' ((conv=>whnf);first|exact kQ|(refine bk ?_ ?_<;>intro _<;>try(exfalso;omega))|refine stq ?_|refine cp hb ?_|fail)
    all_goals(conv=>whnf)
    refine⟨i+1,(x::xs)++[(i:Int)],⟨by omega,hs1.symm⟩,by omega,?_⟩;exact lq [(0,0),(1,1),(2,18)] []
 ·rw[show i=t.length from by omega] at g2;rw[<-g2];cases o with
  | nil=>
   repeat' ((conv=>whnf);first|exact kQ|(refine bk ?_ ?_<;>intro _<;>try(exfalso;omega))|refine stq ?_)
   all_goals(conv=>whnf)
   exact⟨Rd.nil⟩
  | cons x xs=>
   repeat' ((conv=>whnf);first|exact kQ|(refine bk ?_ ?_<;>intro _<;>try(exfalso;omega))|refine stq ?_)
   all_goals(conv=>whnf)
   exact⟨Rd.frzI rfl rfl rfl rfl rfl⟩
def uC (B:List Int):Nat:=(B.filter λk=>decide (0<k)).length
noncomputable def jm (n:Nm) (s:List Rng) (t:List Int):Nat->Nat
 | 0=>12
 | m+1=>jm n s t m+uC (fD n ((m+1:Nat):Int) (bW ((m+1:Nat):Int) s) t t.length)
theorem BO {B:List Int}{k:Nat}(h:k<B.length):uC (B.take (k+1))=uC (B.take k)+(if 0<B[k] then 1 else 0):=by
 unfold uC;rw[aS h,List.filter_append,kG];split
 ·rename_i hp;rw[List.filter_cons_of_pos (by simpa using hp)];rfl
 ·rename_i hp;rw[List.filter_cons_of_neg (by simpa using hp)];rfl
theorem zr {B:List Int}:uC B<=B.length:=List.length_filter_le _ _
theorem Aa {n:Nm}{s:List Rng}{t:List Int}:∀ m,jm n s t m<=12+m*t.length
 | 0=>by simp[jm]
 | m+1=>by
  have h1:=Aa (n:=n) (s:=s) (t:=t) m;have h2:=zr (B:=fD n ((m+1:Nat):Int) (bW ((m+1:Nat):Int) s) t t.length);have h3:=kx (n:=n) (f:=((m+1:Nat):Int)) (s:=bW ((m+1:Nat):Int) s) (t:=t) (k:=t.length);rw[jm,Nat.add_mul];omega
theorem xW {n n':Nm}{s:List Rng}{t:List Int}:∀ m,m<=4->(gF n n' s t m).length+12=jm n' s t m+3*m
 | 0,_=>by simp[gF,jm]
 | m+1,h=>by
  have h1:=xW (n:=n) (n':=n') (s:=s) (t:=t) m om
  have h2:(xX n n' s t ((m+1:Nat):Int)).length=3+uC (fD n' ((m+1:Nat):Int) (bW ((m+1:Nat):Int) s) t t.length):=by
   unfold xX sA uC;rw[kG,List.length_map];rfl
  rw[gF,jm,kG,h2];omega
theorem Bl {n:Nm}{f c:Int}{s s':List Rng}(h:∀ x,bM s x=bM s' x):ga n f (bW f s) c=ga n f (bW f s') c:=by
 have e:∀ x,bM (bW f s) x=bM (bW f s') x:=λx=>by unfold bW;split<;>simp[h]
 unfold ga;cases d7 n (kF f) [c] with
 | nil=>rfl
 | cons x _=>simp only[e x]
theorem CO {n:Nm}{f:Int}{s s':List Rng}{t:List Int}{k:Nat}(h:∀ x,bM s x=bM s' x):fD n f (bW f s) t k=fD n f (bW f s') t k:=by
 unfold fD;congr 1;refine List.filter_congr λi _=>?_
 rw[Bl h]
theorem tE {n:Nm}{s s':List Rng}{t:List Int}(h:∀ x,bM s x=bM s' x):∀ m,jm n s t m=jm n s' t m
 | 0=>rfl
 | m+1=>by rw[jm,jm,tE h m,CO h]
theorem yS {n:Nm}{s s':List Rng}(h:kz n s) (h':kz n s') (x:Int):bM s x=bM s' x:=by
 rw[Bool.eq_iff_iff,h x,h' x]
theorem Fe {n:Nm}{t:List Int}(hn:n.ok) (hl:(okN n).dc.length<=20) (ht:t.length<=100):Pu Tryz.prog 8 [nmD n,aF t] (i64 (jm (okN n) (gq (okN n)) t 4:Nat)):=by
 refine Pu.of_v aA T0 Tryz.func8 rfl rfl (aD (aQ n) (aD (aC _) rfl)) ?_;repeat' ((conv=>whnf);first|exact kQ|(refine bk ?_ ?_<;>intro _<;>try(exfalso;omega))|refine stq ?_)
 refine aH.by aA T0 (λm:Nat=>⟨tmp 28 [(1,aF t),(2,.ptr 0 0),(5,i64 (jm (okN n) (gq (okN n)) t m:Nat)),(6,i64 ((m+1:Nat):Int))],⟨1,nmX n⟩⟩) (λm=>m<=4) (λm=>4-m) 0 om ?_ ?_
 ·exact lq [(0,0)] []
 intro m hm;have hc:=Aa (n:=okN n) (s:=gq (okN n)) (t:=t) m;have hmul:m*t.length<=400:=Nat.le_trans (Nat.mul_le_mul (show m<=4 by omega) ht) om;by_cases h4:m<4
 ·have hf:isF ((m+1:Nat):Int):=by unfold isF;omega
  have hB:=ry hf hn hl ht;have hlB:=kx (n:=okN n) (f:=((m+1:Nat):Int)) (s:=bW ((m+1:Nat):Int) (gq (okN n))) (t:=t) (k:=t.length);have hcs:jm (okN n) (gq (okN n)) t (m+1)=jm (okN n) (gq (okN n)) t m+uC (fD (okN n) ((m+1:Nat):Int) (bW ((m+1:Nat):Int) (gq (okN n))) t t.length):=rfl;generalize fD (okN n) ((m+1:Nat):Int) (bW ((m+1:Nat):Int) (gq (okN n))) t t.length=B at *;generalize hcc:jm (okN n) (gq (okN n)) t m=c at *;repeat' ((conv=>whnf);first|exact kQ|(refine bk ?_ ?_<;>intro _<;>try(exfalso;omega))|refine stq ?_|refine cp hB ?_|fail)
  refine aH.by aA T0 (λk:Nat=>⟨tmp 28 [(1,aF t),(2,.ptr 0 0),(5,i64 ((c+uC (B.take k):Nat):Int)),(6,i64 ((m+1:Nat):Int)),(16,aF B),(17,i64 (B.length:Int)),(18,i64 (k:Int))],⟨1,nmX n⟩⟩) (λk=>k<=B.length) (λk=>B.length-k) 0 om ?_ ?_
  ·show Lf _ _ ⟨tmp 28 [(1,aF t),(2,.ptr 0 0),(5,i64 ((c:Nat):Int)),(6,i64 ((m+1:Nat):Int)),(16,aF B),(17,i64 (B.length:Int)),(18,i64 ((0:Nat):Int))],⟨1,nmX n⟩⟩;exact lq [(0,0)] []
  intro k hk;have hp1:=zr (B:=B.take k);rw[List.length_take] at hp1;by_cases hk2:k<B.length
  ·have hps:=BO hk2;by_cases hp:0<B[k]
   ·rw[if_pos hp] at hps;repeat' ((conv=>whnf);first|exact kQ|(refine bk ?_ ?_<;>intro _<;>try(exfalso;omega))|refine stq ?_)
    all_goals(conv=>whnf)
    all_goals first
     | (exfalso;omega)
     | (refine⟨k+1,by omega,by omega,?_⟩
        simp only[hps]
        exact lq [(0,0)] [])
   ·rw[if_neg hp] at hps;repeat' ((conv=>whnf);first|exact kQ|(refine bk ?_ ?_<;>intro _<;>try(exfalso;omega))|refine stq ?_)
    all_goals(conv=>whnf)
    all_goals first
     | (exfalso;omega)
     | (refine⟨k+1,by omega,by omega,?_⟩
        simp only[hps]
        exact lq [(0,0)] [])
  ·rw[kE om];have hmul2:B.length<=100:=by omega
   repeat' ((conv=>whnf);first|exact kQ|(refine bk ?_ ?_<;>intro _<;>try(exfalso;omega))|refine stq ?_)
   all_goals(conv=>whnf)
   refine⟨m+1,by omega,by omega,?_⟩;show Lf _ _ ⟨tmp 28 [(1,aF t),(2,.ptr 0 0),(5,i64 (jm (okN n) (gq (okN n)) t (m+1):Nat)),(6,i64 ((m+1+1:Nat):Int))],⟨1,nmX n⟩⟩;simp only[hcs];exact lq [(0,0)] []
 ·have hm4:m=4:=by omega
  subst hm4;repeat' ((conv=>whnf);first|exact kQ|(refine bk ?_ ?_<;>intro _<;>try(exfalso;omega))|refine stq ?_)
  all_goals(conv=>whnf)
  exact aE.same rfl rfl
end
end Go.Proofs.YtihggclfifimoaaGreatDoor
