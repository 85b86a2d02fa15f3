/-
  What is known of package-level variables in layer 57; contracts of functions over data: canonical classes.
-/
import Derived.Test.YtihggclfifimoaaGreatDoorH8
import Derived.Test.YtihggclfifimoaaGreatDoorH7
set_option linter.unusedSectionVars false
namespace Go.Proofs.YtihggclfifimoaaGreatDoor
open Go Go.Am Classical
set_option maxRecDepth 100000
section
abbrev gH:Nat:=0
def AL:List Int:=[4352,4370,4449,4469,4520,4546,44032,55203]
@[reducible] def gtH:GT where
 inv c:=c.S gH∧Holds c.w gH 0 (AL.map λk=>.int .i64 k)
 keep h1 h2 h:=⟨h1 _ h.1,h.2.keep (h2 _ h.1)⟩
 tab g:=if g=gH then some [i64 4352,i64 4370,i64 4449,i64 4469,i64 4520,i64 4546,i64 44032,i64 55203] else none
 tabOk {c g cs} h e:=by
  split at e
  ·rename_i hg;subst hg;injection e with e;subst e
   simp only[V];refine⟨gH,0,AL.map λk=>.int .i64 k,rfl,?_,.inr ⟨h.1,h.2⟩⟩;repeat' first|exact VS.nil|refine VS.cons (by simp[V,c7]) ?_
  ·cases e
instance instH:GT:=gtH
def spA (s:Spn):Prop:=0<=s.lo∧s.lo<=s.hi∧s.hi<=1114111∧1<=s.val∧s.val<=254
def nI (s:Spn):Prop:=¬(s.lo<=4370∧4352<=s.hi)∧¬(s.lo<=4469∧4449<=s.hi)∧¬(s.lo<=4546∧4520<=s.hi)∧¬(s.lo<=55203∧44032<=s.hi)
structure OrV (l:List Spn):Prop where
 cl:ClV l
 hang:∀ i (h:i<l.length),nI l[i]
def spB (l:List Spn) (i:Nat) (s:Spn):Prop:=i≠0->(l.getD (i-1) default).hi<s.lo∧¬(s.lo=(l.getD (i-1) default).hi+1∧s.val=(l.getD (i-1) default).val)
theorem OrV.of {l:List Spn}(h1:∀ i (h:i<l.length),spA l[i]) (h2:∀ i (h:i<l.length),spB l i l[i]) (h3:∀ i (h:i<l.length),nI l[i]):OrV l:=⟨λi hi=>⟨h1 i hi,h2 i hi⟩,h3⟩
set_option maxHeartbeats 4000000 in
theorem l8 {l:List Spn}(hl:l.length<=1000):∃ e:Int,Pu Tryz.prog 179 [bC l] (i64 e)∧(e=0↔OrV l):=by
 by_cases hA:∀ i (h:i<l.length),spA l[i]
 ·by_cases hB:∀ i (h:i<l.length),spB l i l[i]
  ·refine⟨if OrV l then 0 else 11,?_,by split<;>simp_all⟩;refine pv Tryz.func179 ?_;repeat' ((conv=>whnf);first|exact kQ|(refine bk ?_ ?_<;>intro _<;>try(exfalso;omega))|refine stq ?_)
   refine aH.by aA T0 (λk:Nat=>⟨tmp 103 [(0,bC l),(12,bC l),(13,i64 l.length),(14,i64 (k:Int))],⟨0,[]⟩⟩) (λk=>k<=l.length) (λk=>l.length-k) 0 om ?_ ?_
   ·exact lq0
   intro k h3;by_cases hk:k<l.length
   ·have h5:=hA k hk;unfold spA at h5;repeat' ((conv=>whnf);first|exact kQ|(refine bk ?_ ?_<;>intro _<;>try(exfalso;omega))|refine stq ?_)
    all_goals(conv=>whnf)
    all_goals first
     | (refine⟨k+1,by omega,by omega,?_⟩
        exact lq0)
   repeat' ((conv=>whnf);first|exact kQ|(refine bk ?_ ?_<;>intro _<;>try(exfalso;omega))|refine stq ?_)
   refine aH.by aA T0 (λk:Nat=>⟨tmp 103 [(0,bC l),(5,i64 ((k+1:Nat):Int))],⟨0,[]⟩⟩) (λk=>k<=l.length) (λk=>l.length-k) 0 om ?_ ?_
   ·exact lq0
   intro k h3;by_cases hk:k+1<l.length
   ·have h5:=hB (k+1) hk om;have h6:=hA k om;unfold spA at h6;have e:l.getD (k+1-1) default=l[k]:=bR om;rw[e] at h5;repeat' ((conv=>whnf);first|exact kQ|(refine bk ?_ ?_<;>intro _<;>try(exfalso;omega))|refine stq ?_|refine aX.by (id:=10) aA T0 [0,0,2,7,15,0,0,96,224,0,0,1567,4095] (by kernel_rfl) ?_|refine Idx.atS (by intro _;rfl) k om om ?_|refine Idx.atS (by intro _;rfl) (k+1) om om ?_|refine Chk.mk ⟨_,rfl⟩ ?_|fail)
    all_goals(conv=>whnf)
    all_goals first
     | (refine⟨k+1,by omega,by omega,?_⟩
        exact lq0)
   repeat' ((conv=>whnf);first|exact kQ|(refine bk ?_ ?_<;>intro _<;>try(exfalso;omega))|refine stq ?_)
   refine aH.by aA T0 (λk:Nat=>⟨tmp 103 [(79,bC l),(80,i64 l.length),(81,i64 (k:Int))],⟨0,[]⟩⟩) (λk=>k<=l.length∧∀ i (h:i<l.length),i<k->nI l[i]) (λk=>l.length-k) 0 ⟨by omega,λ_ _ h=>by omega⟩ ?_ ?_
   ·exact lq0
   intro k ⟨h3,h4⟩;repeat' ((conv=>whnf);first|exact kQ|(refine bk ?_ ?_<;>intro _<;>try(exfalso;omega))|refine stq ?_|refine aH.times aA T0 5 ?_|refine cA.lit ?_|fail)
   all_goals(conv=>whnf)
   all_goals first
    | exact aE.int (by rw[if_neg λh=>by have:=h.hang k om;unfold nI at this;omega])
    | exact aE.int (by rw[if_pos (OrV.of hA hB λi hi=>h4 i hi om)])
    | (refine⟨k+1,⟨by omega,ad om h4 (by unfold nI;omega)⟩,by omega,?_⟩
       exact lq0)
  ·refine⟨4,?_,by refine⟨λh=>om,λh=>absurd (λi hi=>(h.cl i hi).2) hB⟩⟩;refine pv Tryz.func179 ?_;repeat' ((conv=>whnf);first|exact kQ|(refine bk ?_ ?_<;>intro _<;>try(exfalso;omega))|refine stq ?_)
   refine aH.by aA T0 (λk:Nat=>⟨tmp 103 [(0,bC l),(12,bC l),(13,i64 l.length),(14,i64 (k:Int))],⟨0,[]⟩⟩) (λk=>k<=l.length) (λk=>l.length-k) 0 om ?_ ?_
   ·exact lq0
   intro k h3;by_cases hk:k<l.length
   ·have h5:=hA k hk;unfold spA at h5;repeat' ((conv=>whnf);first|exact kQ|(refine bk ?_ ?_<;>intro _<;>try(exfalso;omega))|refine stq ?_)
    all_goals(conv=>whnf)
    all_goals first
     | (refine⟨k+1,by omega,by omega,?_⟩
        exact lq0)
   repeat' ((conv=>whnf);first|exact kQ|(refine bk ?_ ?_<;>intro _<;>try(exfalso;omega))|refine stq ?_)
   refine aH.by aA T0 (λk:Nat=>⟨tmp 103 [(0,bC l),(5,i64 ((k+1:Nat):Int))],⟨0,[]⟩⟩) (λk=>k<=l.length∧∀ i (h:i<l.length),i<k+1->spB l i l[i]) (λk=>l.length-k) 0 ⟨by omega,λi _ h h0=>by omega⟩ ?_ ?_
   ·exact lq0
   intro k ⟨h3,h4⟩;by_cases hk:k+1<l.length
   ·have h6:=hA k om;have h7:=hA (k+1) hk;unfold spA at h6 h7;have e:l.getD (k+1-1) default=l[k]:=bR om;repeat' ((conv=>whnf);first|exact kQ|(refine bk ?_ ?_<;>intro _<;>try(exfalso;omega))|refine stq ?_|refine aX.by (id:=10) aA T0 [0,0,2,7,15,0,0,96,224,0,0,1567,4095] (by kernel_rfl) ?_|refine Idx.atS (by intro _;rfl) k om om ?_|refine Idx.atS (by intro _;rfl) (k+1) om om ?_|refine Chk.mk ⟨_,rfl⟩ ?_|fail)
    all_goals(conv=>whnf)
    all_goals first
     | exact aE.int rfl
     | (refine⟨k+1,⟨by omega,ad hk h4 (λ_=>by rw[e];omega)⟩,by omega,?_⟩
        exact lq0)
   ·exact absurd (λi hi=>h4 i hi om) hB
 ·refine⟨1,?_,by refine⟨λh=>om,λh=>absurd (λi hi=>(h.cl i hi).1) hA⟩⟩;refine pv Tryz.func179 ?_;repeat' ((conv=>whnf);first|exact kQ|(refine bk ?_ ?_<;>intro _<;>try(exfalso;omega))|refine stq ?_)
  refine aH.by aA T0 (λk:Nat=>⟨tmp 103 [(0,bC l),(12,bC l),(13,i64 l.length),(14,i64 (k:Int))],⟨0,[]⟩⟩) (λk=>k<=l.length∧∀ i (h:i<l.length),i<k->spA l[i]) (λk=>l.length-k) 0 ⟨by omega,λ_ _ h=>by omega⟩ ?_ ?_
  ·exact lq0
  intro k ⟨h3,h4⟩;by_cases hk:k<l.length
  ·repeat' ((conv=>whnf);first|exact kQ|(refine bk ?_ ?_<;>intro _<;>try(exfalso;omega))|refine stq ?_)
   all_goals(conv=>whnf)
   all_goals first
    | exact aE.int rfl
    | (refine⟨k+1,⟨by omega,ad hk h4 (by unfold spA;omega)⟩,by omega,?_⟩
       exact lq0)
  ·exact absurd (λi hi=>h4 i hi om) hA
end
section
theorem xNE.rdX {p:Prop}(h:p:=by first|exact Rd.int em|exact Rd.int (by first|(rw[em];omega;done)|fail)|fail):p:=h
open xNE
def c3 (s:Spn) (c:Int):Int:=if s.hi<c then -1 else if c<s.lo then 1 else 0
theorem Ha {s:Spn}{c:Int}:c3 s c<0↔s.hi<c:=by
 unfold c3;split
 ·simp_all
 ·split<;>simp_all
theorem Hb {s:Spn}{c:Int}(h:c<=s.hi):c3 s c=0↔s.lo<=c:=by
 unfold c3;rw[if_neg om];split<;>omega
theorem Eg {s:Spn}{c:Int}:Pu Tryz.prog 348 [.agg (spnC s),i64 c] (i64 (c3 s c)):=by
 refine pv Tryz.func348 ?_;repeat' ((conv=>whnf);first|exact kQ|(refine bk ?_ ?_<;>intro _<;>try(exfalso;omega))|refine stq ?_)
 all_goals(conv=>whnf)
 all_goals first
  | exact aE.int (by unfold c3;rw[if_pos om])
  | exact aE.int (by unfold c3;rw[if_neg om,if_pos om])
  | exact aE.int (by unfold c3;rw[if_neg om,if_neg om])
theorem im {i j n:Nat}(h:i+j<=n) (hn:n<=4611686018427387903):IntKind.i64.wrap ((IntKind.u64.wrap ((i:Int)+(j:Int))).fdiv (2 ^ min (Int.toNat 1) IntKind.u64.bits))=(((i+j) / 2:Nat):Int):=by
 have e1:IntKind.u64.wrap ((i:Int)+(j:Int))=(i:Int)+(j:Int):=by
  simp[IntKind.wrap,IntKind.bits,IntKind.signed];omega
 rw[e1,Int.fdiv_eq_ediv_of_nonneg _ (by decide)];simp[IntKind.wrap,IntKind.bits,IntKind.signed];omega
abbrev clF:D:=.fn (.func 348) [] []
theorem Hc {l:List Spn}{c:Int}(hn:l.length<=1000) (hr:lA l):Pu Tryz.prog 347 [bC l,i64 c,clF] (.tup [i64 (ax l c:Nat),boo (decide (∃ h:ax l c<l.length,l[ax l c].lo<=c))]):=by
 refine pv Tryz.func347 ?_;have hle:=yz l c;have h1:∀ m (h:m<l.length),m<ax l c->l[m].hi<c:=λm h hlt=>by have:=iF h hlt;omega
 have h2:∀ m (h:m<l.length),ax l c<=m->c<=l[m].hi:=λm h hle=>by
  have h3:=rH (l:=l) (c:=c) om;have h4:=zn hr (m-ax l c) (i:=ax l c) om om;have e:ax l c+(m-ax l c)=m:=by omega
  simp only[e] at h4;omega
 repeat' ((conv=>whnf);first|exact kQ|(refine bk ?_ ?_<;>intro _<;>try(exfalso;omega))|refine stq ?_)
 refine aH.by2 aA T0 (λi j:Nat=>⟨tmp 49 [(0,bC l),(1,i64 c),(2,clF),(8,i64 l.length),(9,i64 (i:Int)),(10,i64 (j:Int))],⟨0,[]⟩⟩)
  (λi j=>i<=ax l c∧ax l c<=j∧j<=l.length) (λi j=>j-i) 0 l.length ⟨by omega,by omega,by omega⟩ ?_ ?_
 ·exact lq0
 intro i j ⟨h3,h4,h5⟩;by_cases hij:i<j
 ·have em:=im (i:=i) (j:=j) (n:=2000) om om;have hm:(i+j) / 2<l.length:=by omega
  repeat' ((conv=>whnf);first|exact kQ|(refine bk ?_ ?_<;>intro _<;>try(exfalso;omega))|refine stq ?_|refine cp (Eg (s:=l[(i+j) / 2]'hm) (c:=c)) ?_|refine Idx.atS (by intro _;rfl) ((i+j) / 2) em hm ?_|refine Chk.mk (fg (by rw[em];omega) (by rw[em];omega)) ?_|fail)
  all_goals(conv=>whnf)
  all_goals first
   | (refine⟨(i+j) / 2+1,j,⟨Nat.succ_le_of_lt (Nat.lt_of_not_le λhle=>by have:=h2 _ hm hle;have:=Ha.1 asm;omega),by omega,by omega⟩,by omega,?_⟩
      exact lq0)
   | (refine⟨i,(i+j) / 2,⟨by omega,Nat.le_of_not_lt λhlt=>absurd (Ha.2 (h1 _ hm hlt)) asm,by omega⟩,by omega,?_⟩
      exact lq0)
 ·have e:i=ax l c:=by omega
  subst e;by_cases hs:ax l c<l.length
  ·have h6:=h2 _ hs (kP _);repeat' ((conv=>whnf);first|exact kQ|(refine bk ?_ ?_<;>intro _<;>try(exfalso;omega))|refine stq ?_|refine cp (Eg (s:=l[ax l c]'hs) (c:=c)) ?_|fail)
   all_goals(conv=>whnf)
   all_goals first
    | exact aE.same rfl (by rw[decide_eq_true ⟨hs,(Hb h6).1 asm⟩];rfl)
    | exact aE.same rfl (by rw[decide_eq_false λ⟨_,h⟩=>absurd ((Hb h6).2 h) asm];rfl)
  ·repeat' ((conv=>whnf);first|exact kQ|(refine bk ?_ ?_<;>intro _<;>try(exfalso;omega))|refine stq ?_)
   all_goals(conv=>whnf)
   exact aE.same rfl (by rw[decide_eq_false λ⟨h,_⟩=>hs h];rfl)
theorem OrV.rise {l:List Spn}(h:OrV l):lA l:=λi hi=>by
 have h1:=h.cl i hi;refine⟨by have:=h1.1;omega,λh0=>?_⟩;have:=(h1.2 h0).1
 rwa [bR om] at this
theorem lT {l:List Spn}{c:Int}(hn:l.length<=1000) (hr:lA l):Pu Tryz.prog 275 [bC l,i64 c] (i64 (aJ l c)):=by
 refine pv Tryz.func275 ?_;have hg:=yx hr c;by_cases h:∃ h:ax l c<l.length,l[ax l c].lo<=c
 ·have hb:Pu Tryz.prog 347 [bC l,i64 c,clF] (.tup [i64 (ax l c:Nat),boo true]):=by
   have:=Hc (c:=c) hn hr;rwa [decide_eq_true h] at this
  obtain⟨h1,h2⟩:=h;rw[dif_pos h1,if_pos h2] at hg;repeat' ((conv=>whnf);first|exact kQ|(refine bk ?_ ?_<;>intro _<;>try(exfalso;omega))|refine stq ?_|refine cp hb ?_|fail)
  all_goals(conv=>whnf)
  exact aE.int hg.symm
 ·have hb:Pu Tryz.prog 347 [bC l,i64 c,clF] (.tup [i64 (ax l c:Nat),boo false]):=by
   have:=Hc (c:=c) hn hr;rwa [decide_eq_false h] at this
  have hz:aJ l c=0:=by
   rw[hg];split
   ·rename_i h1;rw[if_neg λh2=>h ⟨h1,h2⟩]
   ·rfl
  repeat' ((conv=>whnf);first|exact kQ|(refine bk ?_ ?_<;>intro _<;>try(exfalso;omega))|refine stq ?_|refine cp hb ?_|fail)
  all_goals(conv=>whnf)
  exact aE.int hz.symm
noncomputable def fG (l:List Spn):List Spn:=if OrV l then l else []
theorem tY (l:List Spn):OrV (fG l):=by
 unfold fG;split
 ·assumption
 ·exact⟨λi h=>by simp at h,λi h=>by simp at h⟩
theorem qB {l:List Spn}{n:Nat}(h:l.length<=n):(fG l).length<=n:=by
 unfold fG;split
 ·exact h
 ·simp
theorem qC {l:List Spn}(hn:l.length<=1000):Pu Tryz.prog 271 [bC l] (bC (fG l)):=by
 refine pv Tryz.func271 ?_;obtain⟨e,h1,h2⟩:=l8 hn;repeat' ((conv=>whnf);first|exact kQ|(refine bk ?_ ?_<;>intro _<;>try(exfalso;omega))|refine stq ?_|refine cp h1 ?_|fail)
 all_goals(conv=>whnf)
 all_goals first
  | (have h:OrV l:=h2.1 asm
     exact aE.same (aY _) (by unfold fG;rw[if_pos h];rfl))
  | (have h:¬OrV l:=λh=>absurd (h2.2 h) asm
     rw[show fG l=[] by unfold fG;rw[if_neg h]]
     exact⟨.nil⟩)
theorem Aq {l:List Spn}{c:Int}(hn:l.length<=1000):Pu Tryz.prog 156 [bC l,i64 c] (i64 (aJ (fG l) c)):=by
 refine pv Tryz.func156 ?_;repeat' ((conv=>whnf);first|exact kQ|(refine bk ?_ ?_<;>intro _<;>try(exfalso;omega))|refine stq ?_|refine cp (qC hn) ?_|refine cp (lT (qB hn) (tY _).rise) ?_|fail)
 all_goals(conv=>whnf)
 exact aE.int rfl
theorem oW {l:List Spn}{c:Int}(hn:l.length<=1000):Pu Tryz.prog 81 [bC l,i64 c] (boo (decide (aJ (fG l) c=0))):=by
 refine pv Tryz.func81 ?_;repeat' ((conv=>whnf);first|exact kQ|(refine bk ?_ ?_<;>intro _<;>try(exfalso;omega))|refine stq ?_|refine cp (Aq hn) ?_|fail)
 all_goals(conv=>whnf)
 all_goals first
  | exact aE.yes asm
  | exact aE.no asm
end
end Go.Proofs.YtihggclfifimoaaGreatDoor
