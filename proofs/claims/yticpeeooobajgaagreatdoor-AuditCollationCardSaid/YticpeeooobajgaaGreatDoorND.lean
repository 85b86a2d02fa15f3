/-
  What is known of package-level variables in layer 57; contracts of functions over data: canonical classes.
-/
import Derived.Test.YticpeeooobajgaaGreatDoorNA
import Derived.Test.YticpeeooobajgaaGreatDoorH5
import Derived.Test.YticpeeooobajgaaGreatDoorAmF
set_option linter.unusedSectionVars false
namespace Go.Proofs.YticpeeooobajgaaGreatDoor
section
open Go Go.Am Classical
set_option maxRecDepth 100000
abbrev gH:Nat:=0
def xD:List Int:=[4352,4370,4449,4469,4520,4546,44032,55203]
@[reducible] def gtH:GT where
 inv c:=c.S gH∧Holds c.w gH 0 (xD.map λk=>.int .i64 k)
 keep h1 h2 h:=⟨h1 _ h.1,h.2.keep (h2 _ h.1)⟩
 tab g:=if g=gH then some [i64 4352,i64 4370,i64 4449,i64 4469,i64 4520,i64 4546,i64 44032,i64 55203] else none
 tabOk {c g cs} h e:=by
  split at e
  ·rename_i hg;subst hg;injection e with e;subst e
   simp only[V];refine⟨gH,0,xD.map λk=>.int .i64 k,rfl,?_,.inr ⟨h.1,h.2⟩⟩;repeat' first|exact VS.nil|refine VS.cons (by simp[V,cW]) ?_
  ·cases e
instance instH:GT:=gtH
def spA (s:Spn):Prop:=0<=s.lo∧s.lo<=s.hi∧s.hi<=1114111∧1<=s.val∧s.val<=254
def t8 (s:Spn):Prop:=¬(s.lo<=4370∧4352<=s.hi)∧¬(s.lo<=4469∧4449<=s.hi)∧¬(s.lo<=4546∧4520<=s.hi)∧¬(s.lo<=55203∧44032<=s.hi)
structure OrV (l:List Spn):Prop where
 cl:ClV l
 hang:∀ i (h:i<l.length),t8 l[i]
def spB (l:List Spn) (i:Nat) (s:Spn):Prop:=i≠0->(l.getD (i-1) default).hi<s.lo∧¬(s.lo=(l.getD (i-1) default).hi+1∧s.val=(l.getD (i-1) default).val)
theorem OrV.of {l:List Spn}(h1:∀ i (h:i<l.length),spA l[i]) (h2:∀ i (h:i<l.length),spB l i l[i]) (h3:∀ i (h:i<l.length),t8 l[i]):OrV l:=⟨λi hi=>⟨h1 i hi,h2 i hi⟩,h3⟩
set_option maxHeartbeats 4000000 in
theorem kq {l:List Spn}(hl:l.length<=1000):∃ e:Int,Pu Tryz.prog 169 [cB l] (i64 e)∧(e=0↔OrV l):=by
 by_cases hA:∀ i (h:i<l.length),spA l[i]
 ·by_cases hB:∀ i (h:i<l.length),spB l i l[i]
  ·refine⟨if OrV l then 0 else 11,?_,by split<;>simp_all⟩;refine pv Tryz.func169 ?_;repeat' ((conv=>whnf);first|exact kQ|(refine bk ?_ ?_<;>intro _<;>try(exfalso;omega))|refine stq ?_)
   refine aH.by aA T0 (λk:Nat=>⟨tmp 103 [(0,cB l),(12,cB l),(13,i64 l.length),(14,i64 (k:Int))],⟨0,[]⟩⟩) (λk=>k<=l.length) (λk=>l.length-k) 0 om ?_ ?_
   ·exact lq0
   intro k h3;by_cases hk:k<l.length
   ·have h5:=hA k hk;unfold spA at h5;repeat' ((conv=>whnf);first|exact kQ|(refine bk ?_ ?_<;>intro _<;>try(exfalso;omega))|refine stq ?_)
    all_goals(conv=>whnf)
    all_goals first
     | (refine⟨k+1,by omega,by omega,?_⟩
        exact lq0)
   repeat' ((conv=>whnf);first|exact kQ|(refine bk ?_ ?_<;>intro _<;>try(exfalso;omega))|refine stq ?_)
   refine aH.by aA T0 (λk:Nat=>⟨tmp 103 [(0,cB l),(5,i64 ((k+1:Nat):Int))],⟨0,[]⟩⟩) (λk=>k<=l.length) (λk=>l.length-k) 0 om ?_ ?_
   ·exact lq0
   intro k h3;by_cases hk:k+1<l.length
   ·have h5:=hB (k+1) hk om;have h6:=hA k om;unfold spA at h6;have e:l.getD (k+1-1) default=l[k]:=cE om;rw[e] at h5;repeat' ((conv=>whnf);first|exact kQ|(refine bk ?_ ?_<;>intro _<;>try(exfalso;omega))|refine stq ?_|refine ab.by (id:=10) aA T0 [0,0,2,7,15,0,0,96,224,0,0,1567,4095] (by kernel_rfl) ?_|refine Idx.atS (by intro _;rfl) k om om ?_|refine Idx.atS (by intro _;rfl) (k+1) om om ?_|refine Chk.mk ⟨_,rfl⟩ ?_|fail)
    all_goals(conv=>whnf)
    all_goals first
     | (refine⟨k+1,by omega,by omega,?_⟩
        exact lq0)
   repeat' ((conv=>whnf);first|exact kQ|(refine bk ?_ ?_<;>intro _<;>try(exfalso;omega))|refine stq ?_)
   refine aH.by aA T0 (λk:Nat=>⟨tmp 103 [(79,cB l),(80,i64 l.length),(81,i64 (k:Int))],⟨0,[]⟩⟩) (λk=>k<=l.length∧∀ i (h:i<l.length),i<k->t8 l[i]) (λk=>l.length-k) 0 ⟨by omega,λ_ _ h=>by omega⟩ ?_ ?_
   ·exact lq0
   intro k ⟨h3,h4⟩;repeat' ((conv=>whnf);first|exact kQ|(refine bk ?_ ?_<;>intro _<;>try(exfalso;omega))|refine stq ?_|refine aH.times aA T0 5 ?_|refine az.lit ?_|fail)
   all_goals(conv=>whnf)
   all_goals first
    | exact aI.int (by rw[if_neg λh=>by have:=h.hang k om;unfold t8 at this;omega])
    | exact aI.int (by rw[if_pos (OrV.of hA hB λi hi=>h4 i hi om)])
    | (refine⟨k+1,⟨by omega,bv om h4 (by unfold t8;omega)⟩,by omega,?_⟩
       exact lq0)
  ·refine⟨4,?_,by refine⟨λh=>om,λh=>absurd (λi hi=>(h.cl i hi).2) hB⟩⟩;refine pv Tryz.func169 ?_;repeat' ((conv=>whnf);first|exact kQ|(refine bk ?_ ?_<;>intro _<;>try(exfalso;omega))|refine stq ?_)
   refine aH.by aA T0 (λk:Nat=>⟨tmp 103 [(0,cB l),(12,cB l),(13,i64 l.length),(14,i64 (k:Int))],⟨0,[]⟩⟩) (λk=>k<=l.length) (λk=>l.length-k) 0 om ?_ ?_
   ·exact lq0
   intro k h3;by_cases hk:k<l.length
   ·have h5:=hA k hk;unfold spA at h5;repeat' ((conv=>whnf);first|exact kQ|(refine bk ?_ ?_<;>intro _<;>try(exfalso;omega))|refine stq ?_)
    all_goals(conv=>whnf)
    all_goals first
     | (refine⟨k+1,by omega,by omega,?_⟩
        exact lq0)
   repeat' ((conv=>whnf);first|exact kQ|(refine bk ?_ ?_<;>intro _<;>try(exfalso;omega))|refine stq ?_)
   refine aH.by aA T0 (λk:Nat=>⟨tmp 103 [(0,cB l),(5,i64 ((k+1:Nat):Int))],⟨0,[]⟩⟩) (λk=>k<=l.length∧∀ i (h:i<l.length),i<k+1->spB l i l[i]) (λk=>l.length-k) 0 ⟨by omega,λi _ h h0=>by omega⟩ ?_ ?_
   ·exact lq0
   intro k ⟨h3,h4⟩;by_cases hk:k+1<l.length
   ·have h6:=hA k om;have h7:=hA (k+1) hk;unfold spA at h6 h7;have e:l.getD (k+1-1) default=l[k]:=cE om;repeat' ((conv=>whnf);first|exact kQ|(refine bk ?_ ?_<;>intro _<;>try(exfalso;omega))|refine stq ?_|refine ab.by (id:=10) aA T0 [0,0,2,7,15,0,0,96,224,0,0,1567,4095] (by kernel_rfl) ?_|refine Idx.atS (by intro _;rfl) k om om ?_|refine Idx.atS (by intro _;rfl) (k+1) om om ?_|refine Chk.mk ⟨_,rfl⟩ ?_|fail)
    all_goals(conv=>whnf)
    all_goals first
     | exact aI.int rfl
     | (refine⟨k+1,⟨by omega,bv hk h4 (λ_=>by rw[e];omega)⟩,by omega,?_⟩
        exact lq0)
   ·exact absurd (λi hi=>h4 i hi om) hB
 ·refine⟨1,?_,by refine⟨λh=>om,λh=>absurd (λi hi=>(h.cl i hi).1) hA⟩⟩;refine pv Tryz.func169 ?_;repeat' ((conv=>whnf);first|exact kQ|(refine bk ?_ ?_<;>intro _<;>try(exfalso;omega))|refine stq ?_)
  refine aH.by aA T0 (λk:Nat=>⟨tmp 103 [(0,cB l),(12,cB l),(13,i64 l.length),(14,i64 (k:Int))],⟨0,[]⟩⟩) (λk=>k<=l.length∧∀ i (h:i<l.length),i<k->spA l[i]) (λk=>l.length-k) 0 ⟨by omega,λ_ _ h=>by omega⟩ ?_ ?_
  ·exact lq0
  intro k ⟨h3,h4⟩;by_cases hk:k<l.length
  ·repeat' ((conv=>whnf);first|exact kQ|(refine bk ?_ ?_<;>intro _<;>try(exfalso;omega))|refine stq ?_)
   all_goals(conv=>whnf)
   all_goals first
    | exact aI.int rfl
    | (refine⟨k+1,⟨by omega,bv hk h4 (by unfold spA;omega)⟩,by omega,?_⟩
       exact lq0)
  ·exact absurd (λi hi=>h4 i hi om) hA
end
section
open Go Go.Am Classical
set_option maxRecDepth 100000
theorem xNE.rdX {p:Prop}(h:p:=by first|exact Rd.int em|exact Rd.int (by first|(rw[em];omega;done)|fail)|fail):p:=h
open xNE
def c3 (s:Spn) (c:Int):Int:=if s.hi<c then -1 else if c<s.lo then 1 else 0
theorem Dj {s:Spn}{c:Int}:c3 s c<0↔s.hi<c:=by
 unfold c3;split
 ·simp_all
 ·split<;>simp_all
theorem Dk {s:Spn}{c:Int}(h:c<=s.hi):c3 s c=0↔s.lo<=c:=by
 unfold c3;rw[if_neg om];split<;>omega
theorem BL {s:Spn}{c:Int}:Pu Tryz.prog 327 [.agg (spnC s),i64 c] (i64 (c3 s c)):=by
 refine pv Tryz.func327 ?_;repeat' ((conv=>whnf);first|exact kQ|(refine bk ?_ ?_<;>intro _<;>try(exfalso;omega))|refine stq ?_)
 all_goals(conv=>whnf)
 all_goals first
  | exact aI.int (by unfold c3;rw[if_pos om])
  | exact aI.int (by unfold c3;rw[if_neg om,if_pos om])
  | exact aI.int (by unfold c3;rw[if_neg om,if_neg om])
theorem gq {i j n:Nat}(h:i+j<=n) (hn:n<=4611686018427387903):IntKind.i64.wrap ((IntKind.u64.wrap ((i:Int)+(j:Int))).fdiv (2 ^ min (Int.toNat 1) IntKind.u64.bits))=(((i+j) / 2:Nat):Int):=by
 have e1:IntKind.u64.wrap ((i:Int)+(j:Int))=(i:Int)+(j:Int):=by
  simp[IntKind.wrap,IntKind.bits,IntKind.signed];omega
 rw[e1,Int.fdiv_eq_ediv_of_nonneg _ (by decide)];simp[IntKind.wrap,IntKind.bits,IntKind.signed];omega
abbrev clF:D:=.fn (.func 327) [] []
theorem Dm {l:List Spn}{c:Int}(hn:l.length<=1000) (hr:ic l):Pu Tryz.prog 326 [cB l,i64 c,clF] (.tup [i64 (ah l c:Nat),boo (decide (∃ h:ah l c<l.length,l[ah l c].lo<=c))]):=by
 refine pv Tryz.func326 ?_;have hle:=pH l c;have h1:∀ m (h:m<l.length),m<ah l c->l[m].hi<c:=λm h hlt=>by have:=fJ h hlt;omega
 have h2:∀ m (h:m<l.length),ah l c<=m->c<=l[m].hi:=λm h hle=>by
  have h3:=kz (l:=l) (c:=c) om;have h4:=rW hr (m-ah l c) (i:=ah l c) om om;have e:ah l c+(m-ah l c)=m:=by omega
  simp only[e] at h4;omega
 repeat' ((conv=>whnf);first|exact kQ|(refine bk ?_ ?_<;>intro _<;>try(exfalso;omega))|refine stq ?_)
 refine aH.by2 aA T0 (λi j:Nat=>⟨tmp 49 [(0,cB l),(1,i64 c),(2,clF),(8,i64 l.length),(9,i64 (i:Int)),(10,i64 (j:Int))],⟨0,[]⟩⟩)
  (λi j=>i<=ah l c∧ah l c<=j∧j<=l.length) (λi j=>j-i) 0 l.length ⟨by omega,by omega,by omega⟩ ?_ ?_
 ·exact lq0
 intro i j ⟨h3,h4,h5⟩;by_cases hij:i<j
 ·have em:=gq (i:=i) (j:=j) (n:=2000) om om;have hm:(i+j) / 2<l.length:=by omega
  repeat' ((conv=>whnf);first|exact kQ|(refine bk ?_ ?_<;>intro _<;>try(exfalso;omega))|refine stq ?_|refine cp (BL (s:=l[(i+j) / 2]'hm) (c:=c)) ?_|refine Idx.atS (by intro _;rfl) ((i+j) / 2) em hm ?_|refine Chk.mk (gM (by rw[em];omega) (by rw[em];omega)) ?_|fail)
  all_goals(conv=>whnf)
  all_goals first
   | (refine⟨(i+j) / 2+1,j,⟨Nat.succ_le_of_lt (Nat.lt_of_not_le λhle=>by have:=h2 _ hm hle;have:=Dj.1 asm;omega),by omega,by omega⟩,by omega,?_⟩
      exact lq0)
   | (refine⟨i,(i+j) / 2,⟨by omega,Nat.le_of_not_lt λhlt=>absurd (Dj.2 (h1 _ hm hlt)) asm,by omega⟩,by omega,?_⟩
      exact lq0)
 ·have e:i=ah l c:=by omega
  subst e;by_cases hs:ah l c<l.length
  ·have h6:=h2 _ hs (kP _);repeat' ((conv=>whnf);first|exact kQ|(refine bk ?_ ?_<;>intro _<;>try(exfalso;omega))|refine stq ?_|refine cp (BL (s:=l[ah l c]'hs) (c:=c)) ?_|fail)
   all_goals(conv=>whnf)
   all_goals first
    | exact aI.same rfl (by rw[decide_eq_true ⟨hs,(Dk h6).1 asm⟩];rfl)
    | exact aI.same rfl (by rw[decide_eq_false λ⟨_,h⟩=>absurd ((Dk h6).2 h) asm];rfl)
  ·repeat' ((conv=>whnf);first|exact kQ|(refine bk ?_ ?_<;>intro _<;>try(exfalso;omega))|refine stq ?_)
   all_goals(conv=>whnf)
   exact aI.same rfl (by rw[decide_eq_false λ⟨h,_⟩=>hs h];rfl)
theorem OrV.rise {l:List Spn}(h:OrV l):ic l:=λi hi=>by
 have h1:=h.cl i hi;refine⟨by have:=h1.1;omega,λh0=>?_⟩;have:=(h1.2 h0).1
 rwa [cE om] at this
theorem lz {l:List Spn}{c:Int}(hn:l.length<=1000) (hr:ic l):Pu Tryz.prog 268 [cB l,i64 c] (i64 (aK l c)):=by
 refine pv Tryz.func268 ?_;have hg:=pF hr c;by_cases h:∃ h:ah l c<l.length,l[ah l c].lo<=c
 ·have hb:Pu Tryz.prog 326 [cB l,i64 c,clF] (.tup [i64 (ah l c:Nat),boo true]):=by
   have:=Dm (c:=c) hn hr;rwa [decide_eq_true h] at this
  obtain⟨h1,h2⟩:=h;rw[dif_pos h1,if_pos h2] at hg;repeat' ((conv=>whnf);first|exact kQ|(refine bk ?_ ?_<;>intro _<;>try(exfalso;omega))|refine stq ?_|refine cp hb ?_|fail)
  all_goals(conv=>whnf)
  exact aI.int hg.symm
 ·have hb:Pu Tryz.prog 326 [cB l,i64 c,clF] (.tup [i64 (ah l c:Nat),boo false]):=by
   have:=Dm (c:=c) hn hr;rwa [decide_eq_false h] at this
  have hz:aK l c=0:=by
   rw[hg];split
   ·rename_i h1;rw[if_neg λh2=>h ⟨h1,h2⟩]
   ·rfl
  repeat' ((conv=>whnf);first|exact kQ|(refine bk ?_ ?_<;>intro _<;>try(exfalso;omega))|refine stq ?_|refine cp hb ?_|fail)
  all_goals(conv=>whnf)
  exact aI.int hz.symm
noncomputable def gZ (l:List Spn):List Spn:=if OrV l then l else []
theorem rI (l:List Spn):OrV (gZ l):=by
 unfold gZ;split
 ·assumption
 ·exact⟨λi h=>by simp at h,λi h=>by simp at h⟩
theorem oF {l:List Spn}{n:Nat}(h:l.length<=n):(gZ l).length<=n:=by
 unfold gZ;split
 ·exact h
 ·simp
theorem oG {l:List Spn}(hn:l.length<=1000):Pu Tryz.prog 264 [cB l] (cB (gZ l)):=by
 refine pv Tryz.func264 ?_;obtain⟨e,h1,h2⟩:=kq hn;repeat' ((conv=>whnf);first|exact kQ|(refine bk ?_ ?_<;>intro _<;>try(exfalso;omega))|refine stq ?_|refine cp h1 ?_|fail)
 all_goals(conv=>whnf)
 all_goals first
  | (have h:OrV l:=h2.1 asm
     exact aI.same (aO _) (by unfold gZ;rw[if_pos h];rfl))
  | (have h:¬OrV l:=λh=>absurd (h2.2 h) asm
     rw[show gZ l=[] by unfold gZ;rw[if_neg h]]
     exact⟨.nil⟩)
end
section
open Go Go.Am Classical
set_option maxRecDepth 100000
theorem xNF.rdX {p:Prop}(h:p:=by first|exact Rd.yf rfl|exact Rd.same (nbT l t).1|exact Rd.same (nbT l t).2|exact Rd.int om|exact Rd.same rfl|exact Rd.sl' rfl sim sim|fail):p:=h
theorem xNF.rbX {p:Prop}(h:p:=by first|exact Rb.dfr|exact rbR|exact Rb.cells (Rds.eqs (ai (c:=dK) (sz:=2) (by intro _;rfl) (x::xs) (⟨s,k⟩:Rng)) (aC (by intro _;rfl) _)) rfl|exact Rb.cells (Rds.eqs (ai (c:=dK) (sz:=2) (by intro _;rfl) (x::xs) (⟨s,t.length⟩:Rng)) (aC (by intro _;rfl) _)) rfl|fail):p:=h
open xNF
def rnF (cl:Int->Int):Nat->Int->List Int->List Rng
 | i,s,[]=>if 0<=s then [⟨s,i⟩] else []
 | i,s,c::t=>if cl c=0 then(if 0<=s then⟨s,i⟩::rnF cl (i+1) (-1) t else rnF cl (i+1) (-1) t) else if 0<=s then rnF cl (i+1) s t else rnF cl (i+1) i t
abbrev mQ (l:List Spn) (t:List Int):List Rng:=rnF (aK l) 0 (-1) t
abbrev qB (l:List Spn) (t:List Int):D:=.fn (.func 324) [] [.iptr [aE t],.iptr [cB l]]
noncomputable abbrev tf (l:List Spn) (t:List Int):Box:=.loop .ready none [aT,qB l t,.ptr 0 0,aP,aT,aP,qB l t,aP,aP,aP,aP,aP,aP] [7] (fnA Tryz.f213) (fnB Tryz.f213)
theorem nbT (l:List Spn) (t:List Int):aL (.iptr [aE t])=true∧aL (.iptr [cB l])=true:=by simp[aL,aJ,aG,aO]
theorem rbR {h:aB}{fz:Nat->Bool}{σl:List (Nat×Nat)}{l:List Spn}{t:List Int}:Rb h fz (sgm 5 σl) (tf l t) (tf l t):=
 .loop (by repeat(first|exact Rds.nil|refine Rds.cons (by first|exact Rd.same rfl|exact Rd.ptr rfl|exact Rd.same (by simp[aL,aJ,aG,aO])) ?_))
theorem mR {cl:Int->Int}{i:Nat}{s:Int}{t:List Int}{k:Nat}(h:k<t.length):rnF cl i s (t.drop k)=rnF cl i s (t[k]::t.drop (k+1)):=by rw[<-kK h]
set_option maxHeartbeats 4000000 in
theorem yC {l:List Spn}{t:List Int}(hl:l.length<=1000) (hr:ic l) (ht:t.length<=100000) :
  AC1 Tryz.prog 324 [.yf 4,.iptr [aE t],.iptr [cB l]] ⟨5,[(4,tf l t),(3,.dfr),(0,.cells [aT] true)]⟩ (.tup []) ⟨7,bJ 5 dK (mQ l t)++[(4,tf l t),(3,.dfr),(0,.cells [bG 5 2 (mQ l t)] true)]⟩:=by
 refine AC1.of_vf aA T0 Tryz.func324 rfl rfl ?_;repeat' ((conv=>whnf);first|exact kQ|(refine bk ?_ ?_<;>intro _<;>try(exfalso;omega))|refine stq ?_)
 all_goals(conv=>whnf)
 refine aH.by3 aA T0 (λ(k:Nat) (s:Int) (o:List Rng)=>⟨tmp 48 [(0,.yf 4),(1,.iptr [aE t]),(2,.iptr [cB l]),(4,i64 s),(8,aE t),(9,i64 t.length),(10,i64 (k:Int))],⟨6,bJ 5 dK o++[(4,tf l t),(3,.dfr),(0,.cells [bG 5 2 o] true)]⟩⟩)
  (λk s o=>(k<=t.length∧o.length<=k∧-1<=s∧s<=k)∧mQ l t=o++rnF (aK l) k s (t.drop k)) (λk _ _=>t.length-k) 0 (-1) [] ⟨⟨by omega,by simp,by omega,by omega⟩,rfl⟩ ?_ ?_
 ·exact lq0
 intro k s o ⟨⟨h3,h5,h6,h7⟩,h4⟩;cases o with
 | nil=>
  repeat' ((conv=>whnf);first|exact kQ|(refine bk ?_ ?_<;>intro _<;>try(exfalso;omega))|refine stq ?_|refine cp (lz hl hr) ?_|(apply Yll.sv rfl rfl (SvR.region T0 ?_);rotate_left)|exact And.intro rfl rfl|refine And.intro rfl (SvR.block (SvR.region T0 ?_))|fail)
  all_goals(conv=>whnf)
  all_goals first
   | (refine⟨k+1,-1,[⟨s,k⟩],⟨⟨by omega,by simp,by omega,by omega⟩,by rw[h4,mR om,rnF,if_pos asm,if_pos asm];rfl⟩,by omega,?_⟩
      exact lq [(5,38)] [])
   | (refine⟨k+1,s,[],⟨⟨by omega,by simp,by omega,by omega⟩,by rw[h4,mR om,rnF];first|rw[if_neg asm,if_pos om]|(rw[if_pos asm,if_neg om,show s = -1 by omega])⟩,by omega,?_⟩
      exact lq0)
   | (refine⟨k+1,k,[],⟨⟨by omega,by simp,by omega,by omega⟩,by rw[h4,mR om,rnF,if_neg asm,if_neg om]⟩,by omega,?_⟩
      exact lq0)
   | (refine⟨Or.inl rfl,_,rfl,?_⟩
      rw[show mQ l t=[⟨s,t.length⟩] by rw[h4,List.drop_of_length_le om,rnF,if_pos asm,show(k:Int)=t.length by omega];rfl]
      exact lq [(5,20)] [])
   | (refine⟨Or.inl rfl,_,rfl,?_⟩
      rw[show mQ l t=[] by rw[h4,List.drop_of_length_le om,rnF,if_neg asm];rfl]
      exact lq0)
 | cons x xs=>
  have hlen:(x::xs).length<=100000:=by omega
  repeat' ((conv=>whnf);first|exact kQ|(refine bk ?_ ?_<;>intro _<;>try(exfalso;omega))|refine stq ?_|refine cp (lz hl hr) ?_|(apply Yll.sv rfl rfl (SvR.region T0 ?_);rotate_left)|exact And.intro rfl rfl|refine And.intro rfl (SvR.block (SvR.region T0 ?_))|fail)
  all_goals(conv=>whnf)
  all_goals first
   | (refine⟨k+1,-1,(x::xs)++[⟨s,k⟩],⟨⟨by omega,by simp only[kG,List.length_singleton];omega,by omega,by omega⟩,by rw[h4,mR om,rnF,if_pos asm,if_pos asm,List.append_assoc];rfl⟩,by omega,?_⟩
      exact lq [(5,38)] [])
   | (refine⟨k+1,s,x::xs,⟨⟨by omega,by omega,by omega,by omega⟩,by rw[h4,mR om,rnF];first|rw[if_neg asm,if_pos om]|(rw[if_pos asm,if_neg om,show s = -1 by omega])⟩,by omega,?_⟩
      exact lq [(5,5)] [])
   | (refine⟨k+1,k,x::xs,⟨⟨by omega,by omega,by omega,by omega⟩,by rw[h4,mR om,rnF,if_neg asm,if_neg om]⟩,by omega,?_⟩
      exact lq [(5,5)] [])
   | (refine⟨Or.inl rfl,_,rfl,?_⟩
      rw[show mQ l t=(x::xs)++[⟨s,t.length⟩] by rw[h4,List.drop_of_length_le om,rnF,if_pos asm,show(k:Int)=t.length by omega]]
      exact lq [(5,20)] [])
   | (refine⟨Or.inl rfl,_,rfl,?_⟩
      rw[show mQ l t=x::xs by rw[h4,List.drop_of_length_le om,rnF,if_neg asm,List.append_nil]]
      exact lq [(5,5)] [])
end
section
open Go Go.Am Classical
set_option maxRecDepth 100000
theorem AppR_c {l:List Spn}{t:List Int}(hl:l.length<=1000) (hr:ic l) (ht:t.length<=100000):Pu Tryz.prog 213 [aT,qB l t] (dJ (mQ l t)):=by
 have h1:=yC hl hr ht;refine Pu.of_fw (ti:=lP Tryz.prog) Tryz.func213 rfl rfl (by simp[aL,aJ,aG,aO]) ?_;generalize mQ l t=o at h1 ⊢;cases o with
 | nil=>
  repeat' ((conv=>whnf);first|exact kQ|(refine bk ?_ ?_<;>intro _<;>try(exfalso;omega))|refine stq ?_|refine Fw.range aA T0 rfl h1 rfl si ?_|refine Fw.split ?_|refine Fw.one aA T0 ?_|fail)
  all_goals(conv=>whnf)
  exact⟨rfl,_,rfl,⟨.nil⟩⟩
 | cons x xs=>
  repeat' ((conv=>whnf);first|exact kQ|(refine bk ?_ ?_<;>intro _<;>try(exfalso;omega))|refine stq ?_|refine Fw.range aA T0 rfl h1 rfl si ?_|refine Fw.split ?_|refine Fw.one aA T0 ?_|fail)
  all_goals(conv=>whnf)
  exact⟨rfl,_,rfl,aI.own (id:=5) (es:=2) (c:=dK) (l:=x::xs) (λ_=>rfl) (λ_=>rfl)⟩
theorem DG {l:List Spn}{t:List Int}(hl:l.length<=1000) (hr:ic l) (ht:t.length<=100000):Pu Tryz.prog 119 [qB l t] (dJ (mQ l t)):=by
 refine pv Tryz.func119 ?_;repeat' ((conv=>whnf);first|exact kQ|(refine bk ?_ ?_<;>intro _<;>try(exfalso;omega))|refine stq ?_|refine cp (AppR_c hl hr ht) ?_|fail)
 all_goals(conv=>whnf)
 exact aI.same (cC _) rfl
theorem rV {l:List Spn}{t:List Int}:Pk Tryz.prog 265 [cB l,aE t] 2 (λn=>.fn (.func 324) [] [.ptr (n+1) 0,.ptr n 0]) (λn=>[(n+1,.cells [aE t] true),(n,.cells [cB l] true)]):=by
 refine Pk.of_v aA T0 Tryz.func265 rfl rfl (by simp[aJ,aG,aO]) ?_;repeat' ((conv=>whnf);first|exact kQ|(refine bk ?_ ?_<;>intro _<;>try(exfalso;omega))|refine stq ?_)
 all_goals(conv=>whnf)
 exact⟨[0,1],rfl,⟨by simp,λn=>.fn .nil (.cons (.ptr (by simp[sgn])) (.cons (.ptr (by simp[sgn])) .nil)),λn=>.cons (id:=1) (by simp[sgn]) rfl rfl (.cells (.cons (.same (aG t)) .nil) rfl) (.cons (id:=0) (by simp[sgn]) rfl rfl (.cells (.cons (.same (aO l)) .nil) rfl) .nil)⟩⟩
theorem Runs_c {l:List Spn}{t:List Int}(hl:l.length<=1000) (ht:t.length<=100000):Pu Tryz.prog 173 [cB l,aE t] (dJ (mQ (gZ l) t)):=by
 refine pv Tryz.func173 ?_;repeat' ((conv=>whnf);first|exact kQ|(refine bk ?_ ?_<;>intro _<;>try(exfalso;omega))|refine stq ?_|refine cp (oG hl) ?_|refine Cll.pk rV ?_|refine Cll.give (.cons (.fn .nil (.cons (.frzp rfl rfl (.cons (.same (aG t)) .nil)) (.cons (.frzp rfl rfl (.cons (.same (aO _)) .nil)) .nil))) .nil) (DG (oF hl) (rI l).rise ht) ?_|fail)
 all_goals(conv=>whnf)
 exact aI.same (cC _) rfl
theorem zy {l:List Spn}{t:List Int}:mQ l t=[]↔∀ c∈t,aK l c=0:=by
 have h1:∀ (t:List Int) (i:Nat) (s:Int),0<=s->rnF (aK l) i s t≠[]:=λt=>by
  induction t with
  | nil=>intro i s hs;simp[rnF,hs]
  | cons c t ih=>
   intro i s hs;simp only[rnF,if_pos hs];split
   ·simp
   ·exact ih _ _ hs
 have h2:∀ (t:List Int) (i:Nat),rnF (aK l) i (-1) t=[]↔∀ c∈t,aK l c=0:=λt=>by
  induction t with
  | nil=>intro i;simp[rnF]
  | cons c t ih=>
   intro i;simp only[rnF,show ¬(0:Int)<=-1 from by omega,if_false];split
   ·rename_i hc;rw[ih];simp[hc]
   ·rename_i hc;exact⟨λh=>absurd h (h1 _ _ _ om),λh=>absurd (h c si) hc⟩
 exact h2 t 0
end
section
open Go Go.Am Classical
set_option maxRecDepth 100000
abbrev fI (l:List Int):Array Value:=(l.map λk=>Value.int .i64 k).toArray
theorem kS {P:Program}{d:Nat}{e:TypeId}{k:IntKind}(he:P.underlying e=some (.int k)):∀ (us ws xs ys:List Int) (i:Nat),xs.drop i=us->ys.drop i=ws->us.length=ws.length ->
  aw P (Op.eqItems (d+1) e 1 (fI xs) (fI ys) (List.range' i us.length))=some (decide (us=ws))
 | [],[],_,_,_,_,_,_=>rfl
 | [],_::_,_,_,_,_,_,h=>by simp at h
 | _::_,[],_,_,_,_,_,h=>by simp at h
 | a::us,b::ws,xs,ys,i,hx,hy,hl=>by
  have gx:xs[i]?=some a:=by have:=congrArg (·[0]?) hx;simpa using this
  have gy:ys[i]?=some b:=by have:=congrArg (·[0]?) hy;simpa using this
  have ih:=kS (d:=d) he us ws xs ys (i+1) (by rw[<-List.drop_drop,hx];rfl) (by rw[<-List.drop_drop,hy];rfl) (by simpa using hl);have e1:aw P (part e (fI xs) (i*1))=some (.int .i64 a):=iK he (by simp[fI,gx]);have e2:aw P (part e (fI ys) (i*1))=some (.int .i64 b):=iK he (by simp[fI,gy]);simp only[kO,List.range'_succ,Op.eqItems,bU,e1,e2,Option.bind_some,jN he];by_cases h:a=b
  ·subst h;simp[ih]
  ·simp[h,cR]
theorem nC {P:Program}{d:Nat}{t e:TypeId}{n:Nat}{k:IntKind}(h:P.underlying t=some (.array n e)) (he:P.underlying e=some (.int k)) (hs:aw P (sizeOf e)=some 1) (us ws:List Int) (ha:us.length=n) (hb:ws.length=n) :
  aw P (Op.equalIn (d+2) t (.agg (fI us)) (.agg (fI ws)))=some (decide (us=ws)):=by
 have key:∀ is:List Nat,aw P (do
   let r <-forIn is ((none,()):Option Bool×Unit) λj r=>do
    if(!(<-Op.equalIn (d+1) e (<-part e (fI us) (j*1)) (<-part e (fI ws) (j*1))))=true then pure (ForInStep.done (some false,())) else pure (ForInStep.yield (none,()))
   match r.fst with|some a=>pure a|none=>pure true)=aw P (Op.eqItems (d+1) e 1 (fI us) (fI ws) is):=by
  intro is
  induction is with
  | nil=>rfl
  | cons j is ih=>
   simp only[List.forIn_cons,Op.eqItems,bU] at ih ⊢;cases aw P (part e (fI us) (j*1)) with
   | none=>rfl
   | some x=>
    simp only[Option.bind_some];cases aw P (part e (fI ws) (j*1)) with
    | none=>rfl
    | some y=>
     simp only[Option.bind_some];cases aw P (Op.equalIn (d+1) e x y) with
     | none=>rfl
     | some r=>
      cases r with
      | false=>simp[cR]
      | true=>
       simp only[Option.bind_some,Bool.not_true,Bool.false_eq_true,if_false,cR];exact ih
 have hi:=kS (d:=d) he us ws us ws 0 rfl rfl om;rw[<-key,ha] at hi;rw[Op.equalIn];simp only[bU,dT h,Option.bind_some,hs,Std.Legacy.Range.forIn_eq_forIn_range',Std.Legacy.Range.size,Nat.sub_zero,Nat.add_one_sub_one,Nat.div_one];simp only[bU] at hi;refine Eq.trans (_root_.congr (congrArg Option.bind ?_) ?_) hi
 ·rfl
 ·funext a;cases a.fst<;>rfl
theorem dO {c:Int}:Pu Tryz.prog 172 [i64 c] (i64 (hk c)):=by
 refine pv Tryz.func172 ?_;repeat' ((conv=>whnf);first|exact kQ|(refine bk ?_ ?_<;>intro _<;>try(exfalso;omega))|refine stq ?_)
 all_goals(conv=>whnf)
 all_goals first
  | (have:=gv c;exact aI.int om)
  | (have:=gv c;have h0:(c-44032).tmod 28=(c-44032) % 28:=Int.tmod_eq_emod_of_nonneg om
     exact aI.int om)
end
section
open Go Go.Am Classical
set_option maxRecDepth 100000
theorem mM:∀ l:List Int,kj (l.map i64)=some (l.map λk=>Value.int .i64 k)
 | []=>rfl
 | k::l=>by simp only[List.map_cons,kj,p8,mM l]
theorem Be {P:Program}{t e:TypeId}{n:Nat}{k:IntKind}{ox oy:Operand}(h:P.underlying t=some (.array n e)) (he:P.underlying e=some (.int k)) (hs:aw P (sizeOf e)=some 1) (hg:P.eqGuardType P.depth t=false) (us ws:List Int) (ha:us.length=n) (hb:ws.length=n) :
  bA P .eql t ox oy (.agg (us.map i64)) (.agg (ws.map i64))=some (boo (decide (us=ws))):=by
 have e1:aw P (do eqGuard .eql t ox oy (.agg (fI us)) (.agg (fI ws));binOp .eql t (.agg (fI us)) (.agg (fI ws)))=some (.bool (decide (us=ws))):=by
  have e2:aw P (Op.equalIn 10000 t (.agg (fI us)) (.agg (fI ws)))=some (decide (us=ws)):=nC (d:=9998) h he hs us ws ha hb;simp[eqGuard,binOp,bU,dh,hg,Op.equal,Op.maxDepth,e2,cR,mT]
 have e3:bA P .eql t ox oy (.agg (us.map i64)) (.agg (ws.map i64))=(match toV (.agg (us.map i64)),toV (.agg (ws.map i64)) with
  | some a,some b=>(match aw P (do eqGuard .eql t ox oy a b;binOp .eql t a b) with|some r=>ofV r|none=>none)
  | _,_=>none):=rfl
 rw[e3];simp only[toV,mM,kF];rw[e1];rfl
theorem eq3 {us ws:List Int}{ox oy:Operand}(ha:us.length=3) (hb:ws.length=3):bA Tryz.prog .eql 448 ox oy (.agg (us.map i64)) (.agg (ws.map i64))=some (boo (decide (us=ws))):=
 Be (k:=.i64) rfl rfl (by kernel_rfl) (by kernel_rfl) us ws ha hb
def vZ (c:Int):List Int:=if 4<=hk c then [4352+(c-44032) / 28 / 21,4449+(c-44032) / 28 % 21,if(c-44032) % 28=0 then 0 else 4519+(c-44032) % 28] else [0,0,0]
theorem tdm {a b:Int}(h:0<=a):a.tdiv b=a / b∧a.tmod b=a % b:=⟨Int.tdiv_eq_ediv_of_nonneg h,Int.tmod_eq_emod_of_nonneg h⟩
set_option maxHeartbeats 2000000 in
theorem AH {c:Int}:Pu Tryz.prog 353 [i64 c] (.agg ((vZ c).map i64)):=by
 refine pv Tryz.func353 ?_;have hh:=gv c;by_cases h4:hk c<4
 ·repeat' ((conv=>whnf);first|exact kQ|(refine bk ?_ ?_<;>intro _<;>try(exfalso;omega))|refine stq ?_|refine cp dO ?_|fail)
  all_goals(conv=>whnf)
  all_goals first
   | exact aI.same rfl (by unfold vZ;rw[if_neg om];rfl)
 ·have hb:44032<=c∧c<=55203:=by omega
  have w1:IntKind.i64.wrap ((c-44032).tdiv 28)=(c-44032) / 28:=by
   rw[(tdm om).1];simp[IntKind.wrap,IntKind.bits,IntKind.signed];omega
  have w2:IntKind.i64.wrap (((c-44032) / 28).tdiv 21)=(c-44032) / 28 / 21:=by
   rw[(tdm om).1];simp[IntKind.wrap,IntKind.bits,IntKind.signed];omega
  have m1:((c-44032) / 28).tmod 21=(c-44032) / 28 % 21:=(tdm om).2;have m2:(c-44032).tmod 28=(c-44032) % 28:=(tdm om).2;repeat' ((conv=>whnf);first|exact kQ|(refine bk ?_ ?_<;>intro _<;>try(exfalso;omega))|refine stq ?_|refine cp dO ?_|refine az.lit ?_|refine Chk.mk (gM (by simp only[w1,w2,m1];omega) (by simp only[w1,w2,m1];omega)) ?_|fail)
  all_goals(conv=>whnf)
  all_goals first
   | (rw[show vZ c=[4352+(c-44032) / 28 / 21,4449+(c-44032) / 28 % 21,4519+(c-44032) % 28] by unfold vZ;rw[if_pos om,if_neg (by simp only[m2] at *;omega)]]
      exact⟨.agg (.cons (Rd.int (by rw[w1,w2])) (.cons (Rd.int (by rw[w1,m1])) (.cons (Rd.int (by rw[m2];omega)) .nil)))⟩)
   | (rw[show vZ c=[4352+(c-44032) / 28 / 21,4449+(c-44032) / 28 % 21,0] by unfold vZ;rw[if_pos om,if_pos (by simp only[m2] at *;omega)]]
      exact⟨.agg (.cons (Rd.int (by rw[w1,w2])) (.cons (Rd.int (by rw[w1,m1])) (.cons (Rd.int rfl) .nil)))⟩)
theorem eq3_no {a b d:Int}(h:a≠0){ox oy:Operand}:bA Tryz.prog .eql 448 ox oy (.agg [i64 a,i64 b,i64 d]) (.agg [i64 0,i64 0,i64 0])=some (boo false):=by
 have:=eq3 (us:=[a,b,d]) (ws:=[0,0,0]) (ox:=ox) (oy:=oy) rfl rfl
 rw[decide_eq_false (λe=>h (by injection e))] at this;exact this
theorem xH {ox oy:Operand}:bA Tryz.prog .eql 448 ox oy (.agg [i64 0,i64 0,i64 0]) (.agg [i64 0,i64 0,i64 0])=some (boo true):=by
 have:=eq3 (us:=[0,0,0]) (ws:=[0,0,0]) (ox:=ox) (oy:=oy) rfl rfl
 rw[decide_eq_true rfl] at this;exact this
theorem hDec_c {c:Int}:Pu Tryz.prog 321 [i64 c] (aE (hd c)):=by
 refine pv Tryz.func321 ?_;have hp:=AH (c:=c);have hh:=gv c;unfold vZ at hp;by_cases h4:4<=hk c
 ·rw[if_pos h4] at hp;have hb:44032<=c∧c<=55203:=by omega
  have e3:=λox oy=>eq3_no (a:=4352+(c-44032) / 28 / 21) (b:=4449+(c-44032) / 28 % 21) (d:=if(c-44032) % 28=0 then 0 else 4519+(c-44032) % 28) om (ox:=ox) (oy:=oy)
  by_cases hz:(c-44032) % 28=0
  ·rw[if_pos hz] at hp e3;repeat' ((conv=>whnf);first|exact kQ|(refine bk ?_ ?_<;>intro _<;>try(exfalso;omega))|refine stq ?_|refine cp hp ?_|(split<;>rename_i heq<;>first|(obtain rfl:=Option.some.inj ((e3 _ _).symm.trans heq))|exact absurd ((e3 _ _).symm.trans heq) si)|refine az.lit ?_|fail)
   all_goals(conv=>whnf)
   all_goals first
    | exact aI.frz1 rfl (by unfold hd;rw[if_pos h4,if_pos hz];rfl) (by unfold hd;rw[if_pos h4,if_pos hz];rfl) (λ_=>rfl) rfl
  ·rw[if_neg hz] at hp e3;repeat' ((conv=>whnf);first|exact kQ|(refine bk ?_ ?_<;>intro _<;>try(exfalso;omega))|refine stq ?_|refine cp hp ?_|(split<;>rename_i heq<;>first|(obtain rfl:=Option.some.inj ((e3 _ _).symm.trans heq))|exact absurd ((e3 _ _).symm.trans heq) si)|refine az.lit ?_|fail)
   all_goals(conv=>whnf)
   all_goals first
    | exact aI.frz1 rfl (by unfold hd;rw[if_pos h4,if_neg hz];rfl) (by unfold hd;rw[if_pos h4,if_neg hz];rfl) (λ_=>rfl) rfl
 ·rw[if_neg h4] at hp;repeat' ((conv=>whnf);first|exact kQ|(refine bk ?_ ?_<;>intro _<;>try(exfalso;omega))|refine stq ?_|refine cp hp ?_|(split<;>rename_i heq<;>first|(obtain rfl:=Option.some.inj (xH.symm.trans heq))|exact absurd (xH.symm.trans heq) si)|fail)
  all_goals(conv=>whnf)
  all_goals first
   | exact aI.frz1 rfl (by unfold hd;rw[if_neg h4];rfl) (by unfold hd;rw[if_neg h4];rfl) (λ_=>rfl) rfl
end
end Go.Proofs.YticpeeooobajgaaGreatDoor
