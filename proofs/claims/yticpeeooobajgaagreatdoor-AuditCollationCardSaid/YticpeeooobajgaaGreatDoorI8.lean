/-
  Contracts over data: a collation as a whole is checked; its table is made.
-/
import Derived.Test.YticpeeooobajgaaGreatDoorI5
import Derived.Test.YticpeeooobajgaaGreatDoorI2
import Derived.Test.YticpeeooobajgaaGreatDoorH8
set_option linter.unusedSectionVars false
namespace Go.Proofs.YticpeeooobajgaaGreatDoor
section
open Go Go.Am Classical
set_option maxRecDepth 100000
set_option linter.unusedVariables false
theorem xI8.rdX {p:Prop}(h:p:=by first|exact Rd.same (bO _)|fail):p:=h
theorem xI8.rbX {p:Prop}(h:p:=by first|exact Rb.cells (Rds.same (dw _)) rfl|fail):p:=h
open xI8
theorem pC {w:Int}:Pu Tryz.prog 155 [i64 w] (boo (decide (1<=w∧w<=65535))):=by
 refine pv Tryz.func155 ?_;repeat' ((conv=>whnf);first|exact kQ|(refine bk ?_ ?_<;>intro _<;>try(exfalso;omega))|refine stq ?_)
 all_goals(conv=>whnf)
 all_goals first
  | exact aI.yes om
  | exact aI.no om
noncomputable def enE (b:Int):Option (List Int)->List Ent->Int
 | _,[]=>0
 | none,e::l=>if i0 b e=0 then enE b (some e.cs) l else i0 b e
 | some p,e::l=>if i0 b e=0 then(if 0<=bq p e.cs then 4 else enE b (some e.cs) l) else i0 b e
def yF (l:List Ent) (k:Nat):Option (List Int):=if h:0<k∧k<=l.length then some (l[k-1]'(by omega)).cs else none
theorem qa {l:List Ent}{k:Nat}(h:k<l.length):yF l (k+1)=some l[k].cs:=by unfold yF;rw[dif_pos ⟨by omega,by omega⟩];rfl
theorem r8 {b:Int}:∀ {l:List Ent}{p:Option (List Int)},enE b p l=0->∀ e∈l,i0 b e=0
 | [],_,_,e,he=>by simp at he
 | x::l,none,h,e,he=>by
  simp only[enE] at h;split at h
  ·rename_i h0;rcases List.mem_cons.1 he with rfl|he
   ·exact h0
   ·exact r8 h e he
  ·contradiction
 | x::l,some p,h,e,he=>by
  simp only[enE] at h;split at h
  ·rename_i h0;split at h
   ·omega
   ·rcases List.mem_cons.1 he with rfl|he
    ·exact h0
    ·exact r8 h e he
  ·contradiction
noncomputable def qK (c:Col):Int:=
 if c.b<1∨65502<c.b∨¬(1<=c.s∧c.s<=65535)∨¬(1<=c.t∧c.t<=65535) then 1 else if grE c=0 then enE c.b none c.es else grE c
structure Col.ok (c:Col):Prop where
 es:c.es.length<=1000
 gs:c.gs.length<=1000
 nm:∀ g∈c.gs,g.nm.length<=9223372036854775807
 cs:∀ e∈c.es,e.cs.length<=1000∧e.es.length<=1000
set_option maxHeartbeats 4000000 in
theorem pT {c:Col}(hc:c.ok):Pu Tryz.prog 74 [qL c] (i64 (qK c)):=by
 have hs:=pC (w:=c.s);have ht:=pC (w:=c.t);refine Pu.of_v aA T0 Tryz.func74 rfl rfl (aQ (c7 c) rfl) ?_;by_cases h0:c.b<1∨65502<c.b∨¬(1<=c.s∧c.s<=65535)∨¬(1<=c.t∧c.t<=65535)
 ·have e0:qK c=1:=if_pos h0;rw[e0];by_cases h1:1<=c.s∧c.s<=65535
  ·rw[decide_eq_true h1] at hs;by_cases h2:1<=c.t∧c.t<=65535
   ·rw[decide_eq_true h2] at ht;repeat' ((conv=>whnf);first|exact kQ|(refine bk ?_ ?_<;>intro _<;>try(exfalso;omega))|refine stq ?_|refine cp hs ?_|refine cp ht ?_|fail)
    all_goals(conv=>whnf)
    all_goals exact aI.int rfl
   ·rw[decide_eq_false h2] at ht;repeat' ((conv=>whnf);first|exact kQ|(refine bk ?_ ?_<;>intro _<;>try(exfalso;omega))|refine stq ?_|refine cp hs ?_|refine cp ht ?_|fail)
    all_goals(conv=>whnf)
    all_goals exact aI.int rfl
  ·rw[decide_eq_false h1] at hs;repeat' ((conv=>whnf);first|exact kQ|(refine bk ?_ ?_<;>intro _<;>try(exfalso;omega))|refine stq ?_|refine cp hs ?_|fail)
   all_goals(conv=>whnf)
   all_goals exact aI.int rfl
 have e0:qK c=if grE c=0 then enE c.b none c.es else grE c:=if_neg h0
 rw[e0];rw[decide_eq_true om] at hs ht;have hg:=qM (c:=c) om (by have:=hc.gs;omega) hc.nm;have hel:=hc.es;by_cases hg0:grE c=0
 ·rw[if_pos hg0];rw[hg0] at hg;repeat' ((conv=>whnf);first|exact kQ|(refine bk ?_ ?_<;>intro _<;>try(exfalso;omega))|refine stq ?_|refine cp hs ?_|refine cp ht ?_|refine cp hg ?_|fail)
  refine aH.by aA T0 (λk:Nat=>⟨tmp 63 [(1,.ptr 0 0),(33,r7 c.es),(34,i64 c.es.length),(35,i64 (k:Int))],⟨1,[(0,.cells (iW c) true)]⟩⟩) (λk=>k<=c.es.length∧enE c.b none c.es=enE c.b (yF c.es k) (c.es.drop k)) (λk=>c.es.length-k) 0 ⟨by omega,rfl⟩ ?_ ?_
  ·exact lq [(0,0)] []
  intro k ⟨h1,h2⟩;by_cases hk:k<c.es.length
  ·have hcs:=hc.cs _ (kM hk);have hce:=sD (b:=c.b) (e:=c.es[k]) om om;have hps:=qa hk;rw[kK hk] at h2;cases k with
   | zero=>
    have e0:yF c.es 0=none:=by unfold yF;rw[dif_neg om]
    rw[e0,enE,<-hps] at h2;repeat' ((conv=>whnf);first|exact kQ|(refine bk ?_ ?_<;>intro _<;>try(exfalso;omega))|refine stq ?_|refine cp hce ?_|refine ab.by (id:=12) aA T0 [0,1,3,7,15,7,39,127,255,511,7,1031,4095,8191,16383] (by kernel_rfl) ?_|fail)
    all_goals(conv=>whnf)
    ·have e1:i0 c.b c.es[0]=0:=by assumption
     rw[if_pos e1] at h2;refine⟨1,⟨by omega,h2⟩,by omega,?_⟩;exact lq [(0,0)] []
    ·have e1:¬i0 c.b c.es[0]=0:=by assumption
     rw[if_neg e1] at h2;exact aI.int h2.symm
   | succ k=>
    have hcs2:=hc.cs _ (kM (show k<c.es.length by omega));have hcp:=nS (a:=(c.es[k]'(by omega)).cs) (b:=c.es[k+1].cs) om om;rw[qa (by omega:k<c.es.length),enE,<-hps] at h2;repeat' ((conv=>whnf);first|exact kQ|(refine bk ?_ ?_<;>intro _<;>try(exfalso;omega))|refine stq ?_|refine cp hce ?_|refine cp hcp ?_|refine ab.by (id:=12) aA T0 [0,1,3,7,15,7,39,127,255,511,7,1031,4095,8191,16383] (by kernel_rfl) ?_|refine Idx.atS (by intro _;rfl) k om om ?_|fail)
    all_goals(conv=>whnf)
    all_goals first
     | (have e1:¬i0 c.b c.es[k+1]=0:=by assumption
        rw[if_neg e1] at h2
        exact aI.int h2.symm)
     | (have e1:i0 c.b c.es[k+1]=0:=by assumption
        rw[if_pos e1,if_pos om] at h2
        exact aI.int h2.symm)
     | (have e1:i0 c.b c.es[k+1]=0:=by assumption
        rw[if_pos e1,if_neg om] at h2;refine⟨k+1+1,⟨by omega,h2⟩,by omega,?_⟩
        exact lq [(0,0)] [])
  ·rw[List.drop_of_length_le om] at h2;have h3:enE c.b none c.es=0:=by rw[h2];cases yF c.es k<;>rfl
   repeat' ((conv=>whnf);first|exact kQ|(refine bk ?_ ?_<;>intro _<;>try(exfalso;omega))|refine stq ?_)
   all_goals(conv=>whnf)
   exact aI.int h3.symm
 ·rw[if_neg hg0];repeat' ((conv=>whnf);first|exact kQ|(refine bk ?_ ?_<;>intro _<;>try(exfalso;omega))|refine stq ?_|refine cp hs ?_|refine cp ht ?_|refine cp hg ?_|fail)
  all_goals(conv=>whnf)
  all_goals exact aI.int rfl
end
section
open Go Go.Am Classical
set_option maxRecDepth 100000
set_option linter.unusedVariables false
theorem xI9.rdX {p:Prop}(h:p:=by first|exact Rd.same (bO _)|exact Rd.same (bN _)|exact Rd.same (aO _)|exact Rd.nil|exact Rd.map rfl|exact Rd.int (by first|(rw[hls];omega;done)|fail)|fail):p:=h
theorem xI9.rbX {p:Prop}(h:p:=by first|exact Rb.map (Res.same (vU _))|exact Rb.map (Res.eqs (by first|(rw[hms,hp1 _ _ asm];done)|fail) (vU _))|exact Rb.map (Res.eqs (by first|(rw[hms,hp2 asm];done)|fail) (vU _))|fail):p:=h
open xI9
abbrev col0:Col:=⟨[],[],64448,32,2⟩
noncomputable def dZ (c:Col):Col:=if qK c=0 then c else col0
def lgE (l:List Ent):Nat:=l.foldl (λa e=>max a e.cs.length) 0
def mpE (l:List Ent):List (List Int×List Elm):=l.foldl (λm e=>rc e.cs e.es m) []
abbrev fB (c:Col) (m lg:Nat) (cl:List Spn) (tp:Int):List D:=[r7 c.es,pE c.gs,i64 c.b,i64 c.s,i64 c.t,.map m,i64 lg,cB cl,i64 tp]
theorem rdsT {h:aB}{fz:Nat->Bool}{σ:Nat->Option Nat}{c:Col}{m m' lg':Nat}{cl:List Spn}{tp':Int}{a b:D}(hm:σ m'=some m) (h1:Rd h fz σ a (i64 lg')) (h2:Rd h fz σ b (i64 tp')):Rds h fz σ [r7 c.es,pE c.gs,i64 c.b,i64 c.s,i64 c.t,.map m,a,cB cl,b] (fB c m' lg' cl tp'):=
 .cons (.same (bO _)) (.cons (.same (bN _)) (.cons (.same rfl) (.cons (.same rfl) (.cons (.same rfl) (.cons (.map hm) (.cons h1 (.cons (.same (aO _)) (.cons h2 .nil))))))))
theorem Al {l:List Ent}{k:Nat}(h:k<l.length):lgE (l.take (k+1))=max (lgE (l.take k)) l[k].cs.length:=by unfold lgE;rw[ao h,List.foldl_append];rfl
theorem Ab {l:List Ent}{k:Nat}(h:k<l.length):mpE (l.take (k+1))=rc l[k].cs l[k].es (mpE (l.take k)):=by unfold mpE;rw[ao h,List.foldl_append];rfl
theorem wl:∀ {l:List Ent}{m:List (List Int×List Elm)}{p:List Int×List Elm},p∈l.foldl (λm e=>rc e.cs e.es m) m->p∈m∨∃ e∈l,p=(e.cs,e.es)
 | [],m,p,h=>.inl h
 | e::l,m,p,h=>by
  rcases wl (l:=l) h with h|⟨e',h1,h2⟩
  ·rcases AA h with h|h
   ·exact .inl h
   ·exact .inr ⟨e,by simp,h⟩
  ·exact .inr ⟨e',List.mem_cons_of_mem _ h1,h2⟩
theorem tX {l:List Ent}{k:Nat}{p:List Int×List Elm}(h:p∈mpE (l.take k)):∃ e∈l,p=(e.cs,e.es):=by
 rcases wl h with h|⟨e,h1,h2⟩
 ·simp at h
 ·exact⟨e,List.mem_of_mem_take h1,h2⟩
theorem jb {b:Int}{e:Ent}(h:i0 b e=0):1<=e.cs.length∧e.cs.length<=8∧e.es.length<=16:=by
 unfold i0 at h;split at h
 ·omega
 ·omega
theorem jf {c:Col}:∀ e∈(dZ c).es,i0 (dZ c).b e=0:=by
 unfold dZ;split
 ·rename_i h;unfold qK at h;split at h
  ·omega
  ·split at h
   ·exact r8 h
   ·contradiction
 ·intro e he;simp at he
theorem colU_n {c:Col}(h:c.es.length<=1000):(dZ c).es.length<=1000:=by
 unfold dZ;split
 ·exact h
 ·simp
theorem qz {c:Col}:1<=(dZ c).b∧(dZ c).b<=65502∧(1<=(dZ c).s∧(dZ c).s<=65535)∧1<=(dZ c).t∧(dZ c).t<=65535:=by
 unfold dZ;split
 ·rename_i h;unfold qK at h;split at h
  ·omega
  ·omega
 ·simp
theorem lgE_le {l:List Ent}{n:Nat}(h:∀ e∈l,e.cs.length<=n):lgE l<=n:=by
 unfold lgE
 have:∀ (l:List Ent) (a:Nat),a<=n->(∀ e∈l,e.cs.length<=n)->l.foldl (λa e=>max a e.cs.length) a<=n:=λl=>by
  induction l with
  | nil=>intro a ha _;exact ha
  | cons e l ih=>intro a ha hl;exact ih _ (Nat.max_le.2 ⟨ha,hl e si⟩) λx hx=>hl x (List.mem_cons_of_mem _ hx)
 exact this l 0 om h
set_option maxHeartbeats 8000000 in
theorem made_c {c:Col}(hc:c.ok):Pk Tryz.prog 148 [qL c] 2 (λn=>.ptr n 0) (λn=>[(n,.cells (fB (dZ c) (n+1) (lgE (dZ c).es) [] 0) true),(n+1,.map (d5 (mpE (dZ c).es)))]):=by
 have hk:=pT hc;have hU:=jf (c:=c);have hun:=colU_n hc.es;refine Pk.of_v aA T0 Tryz.func148 rfl rfl (aQ (c7 c) rfl) ?_;by_cases h0:qK c=0
 ·have e0:dZ c=c:=if_pos h0;rw[h0] at hk;rw[e0] at hU hun ⊢;repeat' ((conv=>whnf);first|exact kQ|(refine bk ?_ ?_<;>intro _<;>try(exfalso;omega))|refine stq ?_|refine cp hk ?_|fail)
  refine aH.by aA T0 (λk:Nat=>⟨tmp 43 [(3,.ptr 0 0),(15,r7 c.es),(16,i64 c.es.length),(17,i64 (k:Int))],⟨2,[(0,.cells (fB c 1 (lgE (c.es.take k)) [] 0) true),(1,.map (d5 (mpE (c.es.take k))))]⟩⟩) (λk=>k<=c.es.length) (λk=>c.es.length-k) 0 om ?_ ?_
  ·exact lq [(0,8),(1,6)] []
  intro k h1;by_cases hkl:k<c.es.length
  ·have hl:=jb (hU _ (kM hkl));have hko:=As (l:=c.es[k].cs) om
   have hml:∀ p∈mpE (c.es.take k),p.1.length<=8:=λp hp=>by
    obtain⟨e,h2,rfl⟩:=tX hp;exact(jb (hU e h2)).2.1
   have hms:=Ab hkl;have hls:=Al hkl;have hp1:∀ i v,lkE c.es[k].cs (mpE (c.es.take k)) 0=some (i,v)->(d5 (mpE (c.es.take k))).set i (mh c.es[k].cs,elms c.es[k].es)=d5 (rc c.es[k].cs c.es[k].es (mpE (c.es.take k))):=λi v h=>by simp only[d5,rc,h,List.map_set]
   have hp2:lkE c.es[k].cs (mpE (c.es.take k)) 0=none->d5 (mpE (c.es.take k))++[(mh c.es[k].cs,elms c.es[k].es)]=d5 (rc c.es[k].cs c.es[k].es (mpE (c.es.take k))):=λh=>by simp only[d5,rc,h,List.map_append,List.map_cons,List.map_nil]
   repeat' ((conv=>whnf);first|exact kQ|(refine bk ?_ ?_<;>intro _<;>try(exfalso;omega))|refine stq ?_|refine cp hko ?_|refine ab.by (id:=7) aA T0 [0,1,3,7,0,16,48,0,128,511] (by kernel_rfl) ?_|refine ab.by (id:=8) aA T0 [0,0,2,6,14,0,32,96,254,511,1023,2047] (by kernel_rfl) ?_|refine eV.num9 om hml (λi x hq=>?_) (λhq=>?_)|refine Chk.mk ⟨_,rfl⟩ ?_|fail)
   all_goals(conv=>whnf)
   all_goals
    refine⟨k+1,by omega,by omega,?_⟩;exact lq [(0,0),(1,1)] []
  ·rw[kE om];repeat' ((conv=>whnf);first|exact kQ|(refine bk ?_ ?_<;>intro _<;>try(exfalso;omega))|refine stq ?_)
   all_goals(conv=>whnf)
   exact⟨[0,1],rfl,⟨by simp,λn=>.ptr (by simp[sgn]),λn=>.cons (id:=0) (by simp[sgn]) rfl rfl (.cells (rdsT (by simp[sgn]) (.same rfl) (.same rfl)) rfl) (.cons (id:=1) (by simp[sgn]) rfl rfl (.map (.same (vU _))) .nil)⟩⟩
 ·have e0:dZ c=col0:=if_neg h0;rw[e0];repeat' ((conv=>whnf);first|exact kQ|(refine bk ?_ ?_<;>intro _<;>try(exfalso;omega))|refine stq ?_|refine cp hk ?_|refine aH.times aA T0 1 ?_|fail)
  all_goals(conv=>whnf)
  exact⟨[10,8],rfl,⟨by simp,λn=>.ptr (by simp[sgn]),λn=>.cons (id:=10) (by simp[sgn]) rfl rfl (.cells (.cons .nil (.cons .nil (.cons (.same rfl) (.cons (.same rfl) (.cons (.same rfl) (.cons (.map (by simp[sgn])) (.cons (.same rfl) (.cons .nil (.cons (.same rfl) .nil))))))))) rfl) (.cons (id:=8) (by simp[sgn]) rfl rfl (.map .nil) .nil)⟩⟩
end
section
open Go Go.Am Classical
set_option maxRecDepth 100000
set_option linter.unusedVariables false
theorem xIT.rdX {p:Prop}(h:p:=by first|exact Rd.same (bO _)|exact Rd.same (bN _)|fail):p:=h
open xIT
def SmN (n:Nm):Prop:=n.cl.length<=16∧SmM n.dc∧n.xc.length<=12
def SmC (c:Col):Prop:=(c.es.length<=12∧c.gs.length<=8)∧∀ i (h:i<c.es.length),c.es[i].cs.length<=10∧c.es[i].es.length<=20
structure Nm.len (n:Nm):Prop where
 cl:n.cl.length<=9223372036854775807
 dc:n.dc.length<=9223372036854775807
 xc:n.xc.length<=9223372036854775807
 to:∀ i (h:i<n.dc.length),n.dc[i].to.length<=9223372036854775807∧n.dc[i].tag.length<=9223372036854775807
structure Col.len (c:Col):Prop where
 es:c.es.length<=9223372036854775807
 gs:c.gs.length<=9223372036854775807
 nm:∀ g∈c.gs,g.nm.length<=9223372036854775807
 cs:∀ i (h:i<c.es.length),c.es[i].cs.length<=9223372036854775807∧c.es[i].es.length<=9223372036854775807
theorem csml_c {l:List Spn}(hl:l.length<=9223372036854775807):Pu Tryz.prog 9 [cB l] (boo (decide (l.length<=16))):=by
 refine pv Tryz.func9 ?_;repeat' ((conv=>whnf);first|exact kQ|(refine bk ?_ ?_<;>intro _<;>try(exfalso;omega))|refine stq ?_)
 all_goals(conv=>whnf)
 all_goals first
  | exact aI.yes om
  | exact aI.no om
theorem Dh {l:List Int}{m:Int}(hl:l.length<=9223372036854775807):Pu Tryz.prog 6 [aE l,i64 m] (boo (decide ((l.length:Int)<=m))):=by
 refine pv Tryz.func6 ?_;repeat' ((conv=>whnf);first|exact kQ|(refine bk ?_ ?_<;>intro _<;>try(exfalso;omega))|refine stq ?_)
 all_goals(conv=>whnf)
 all_goals first
  | exact aI.yes om
  | exact aI.no om
theorem AL {n:Nm}(hn:n.len):Pu Tryz.prog 4 [nmD n] (boo (decide (SmN n))):=by
 have h1:=csml_c hn.cl;have h2:=AY hn.dc hn.to;have h3:=zn (l:=n.xc);refine Pu.of_v aA T0 Tryz.func4 rfl rfl (aQ (eP n) rfl) ?_;by_cases k1:n.cl.length<=16
 ·rw[decide_eq_true k1] at h1;by_cases k2:SmM n.dc
  ·rw[decide_eq_true k2] at h2;by_cases k3:n.xc.length<=12
   ·rw[decide_eq_true k3] at h3;repeat' ((conv=>whnf);first|exact kQ|(refine bk ?_ ?_<;>intro _<;>try(exfalso;omega))|refine stq ?_|refine cp h1 ?_|refine cp h2 ?_|refine cp h3 ?_|fail)
    all_goals(conv=>whnf)
    exact aI.yes ⟨k1,k2,k3⟩
   ·rw[decide_eq_false k3] at h3;repeat' ((conv=>whnf);first|exact kQ|(refine bk ?_ ?_<;>intro _<;>try(exfalso;omega))|refine stq ?_|refine cp h1 ?_|refine cp h2 ?_|refine cp h3 ?_|fail)
    all_goals(conv=>whnf)
    exact aI.no λh=>k3 h.2.2
  ·rw[decide_eq_false k2] at h2;repeat' ((conv=>whnf);first|exact kQ|(refine bk ?_ ?_<;>intro _<;>try(exfalso;omega))|refine stq ?_|refine cp h1 ?_|refine cp h2 ?_|fail)
   all_goals(conv=>whnf)
   exact aI.no λh=>k2 h.2.1
 ·rw[decide_eq_false k1] at h1;repeat' ((conv=>whnf);first|exact kQ|(refine bk ?_ ?_<;>intro _<;>try(exfalso;omega))|refine stq ?_|refine cp h1 ?_|fail)
  all_goals(conv=>whnf)
  exact aI.no λh=>k1 h.1
set_option maxHeartbeats 2000000 in
theorem BB {c:Col}(hc:c.len):Pu Tryz.prog 5 [qL c] (boo (decide (SmC c))):=by
 have k1:=hc.es;have k2:=hc.gs;refine Pu.of_v aA T0 Tryz.func5 rfl rfl (aQ (c7 c) rfl) ?_;by_cases h0:c.es.length<=12∧c.gs.length<=8
 ·repeat' ((conv=>whnf);first|exact kQ|(refine bk ?_ ?_<;>intro _<;>try(exfalso;omega))|refine stq ?_)
  refine aH.by aA T0 (λk:Nat=>⟨tmp 39 [(1,.ptr 0 0),(3,i64 (k:Int))],⟨1,[(0,.cells (iW c) true)]⟩⟩)
   (λk=>k<=c.es.length∧∀ i (h:i<c.es.length),i<k->c.es[i].cs.length<=10∧c.es[i].es.length<=20) (λk=>c.es.length-k) 0 ⟨by omega,λ_ _ h=>by omega⟩ ?_ ?_
  ·exact lq [(0,0)] []
  intro k ⟨h3,h4⟩;by_cases hk:k<c.es.length
  ·have hto:=hc.cs k hk;repeat' ((conv=>whnf);first|exact kQ|(refine bk ?_ ?_<;>intro _<;>try(exfalso;omega))|refine stq ?_)
   all_goals(conv=>whnf)
   all_goals first
    | exact aI.no (λhc=>by have:=hc.2 k hk;omega)
    | (refine⟨k+1,⟨by omega,bv hk h4 om⟩,by omega,?_⟩
       exact lq [(0,0)] [])
  ·repeat' ((conv=>whnf);first|exact kQ|(refine bk ?_ ?_<;>intro _<;>try(exfalso;omega))|refine stq ?_)
   all_goals(conv=>whnf)
   all_goals exact aI.yes ⟨h0,λi h=>h4 i h om⟩
 ·repeat' ((conv=>whnf);first|exact kQ|(refine bk ?_ ?_<;>intro _<;>try(exfalso;omega))|refine stq ?_)
  all_goals(conv=>whnf)
  all_goals exact aI.no λh=>h0 h.1
end
end Go.Proofs.YticpeeooobajgaaGreatDoor
