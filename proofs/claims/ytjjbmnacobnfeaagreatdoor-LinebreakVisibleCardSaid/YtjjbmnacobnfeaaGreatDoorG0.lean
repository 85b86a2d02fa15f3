/-
  Contracts of functions over data: properties.
-/
import Derived.Test.YtjjbmnacobnfeaaGreatDoorQ1
import Derived.Test.YtjjbmnacobnfeaaGreatDoorAmF
import Derived.Test.YtjjbmnacobnfeaaGreatDoorH0
set_option linter.unusedSectionVars false
namespace Go.Proofs.YtjjbmnacobnfeaaGreatDoor
section
open Go Go.Am Classical
set_option maxRecDepth 100000
variable [GT]
theorem kO {s:Str}(hs:s.length≤9223372036854775807):Pu Tryz.prog 136 [.str s] (boo (decide (s≠[]∧s.length≤32∧uh s))):=by
 refine Pu.of_v aA T0 Tryz.func136 rfl rfl rfl ?_
 repeat' ((conv=>whnf)<;>(first|refine aB.go aA T0 ?_|exact True.intro|(refine Br.mk (fun _=>?_) (fun _=>?_)<;>(try(exfalso;omega)))|refine stq ?_))
 all_goals(conv=>whnf)
 all_goals first
  | exact aI.no (fun hc=>hc.1 (by assumption))
  | exact aI.no (fun hc=>by omega)
  | skip
 refine aT.by aA T0 (fun k:Nat=>⟨tmp 51 [(0,.str s),(14,i64 s.length),(15,i64 (k:Int))],⟨0,[]⟩⟩) (fun k=>k≤s.length∧∀ i (h:i<s.length),i<k→wb (s[i].toNat:Int)) (fun k=>s.length-k) 0 ⟨by omega,fun _ _ h=>by omega⟩ ?_ ?_
 ·exact Lf.of2 [] [] enA bxA rfl rfl
 intro k ⟨h1,h2⟩
 repeat' ((conv=>whnf)<;>(first|refine aB.go aA T0 ?_|exact True.intro|(refine Br.mk (fun _=>?_) (fun _=>?_)<;>(try(exfalso;omega)))|refine stq ?_))
 all_goals(conv=>whnf)
 all_goals first
  | exact aI.no (fun hc=>absurd (hc.2.2 k (by omega)) (by unfold wb;omega))
  | exact aI.yes ⟨by assumption,by omega,bn (by omega) h2⟩
  | (refine⟨k+1,⟨by omega,ay (by omega) h2 (by unfold wb;omega)⟩,by omega,?_⟩
     exact Lf.of2 [] [] enA bxA rfl rfl)
def PV (l:List Str):Prop:=1≤l.length∧l.length≤250∧∀ i (h:i<l.length),lU l[i]∧¬l[i]∈l.take i
theorem wp {l:List Str}(hn:l.length≤9223372036854775807) (hl:long l):Pu Tryz.prog 99 [strs l] (boo (decide (PV l))):=by
 refine Pu.of_v aA T0 Tryz.func99 rfl rfl (by simp[aD,aF]) ?_
 repeat' ((conv=>whnf)<;>(first|refine aB.go aA T0 ?_|exact True.intro|(refine Br.mk (fun _=>?_) (fun _=>?_)<;>(try(exfalso;omega)))|refine stq ?_))
 all_goals(conv=>whnf)
 all_goals first
  | exact aI.no (fun hc=>by have:=hc.1;have:=hc.2.1;omega)
  | skip
 refine aT.by aA T0 (fun k:Nat=>⟨tmp 39 [(0,strs l),(3,i64 (k:Int))],⟨0,[]⟩⟩)
  (fun k=>k≤l.length∧∀ i (h:i<l.length),i<k→lU l[i]∧¬l[i]∈l.take i) (fun k=>l.length-k) 0 ⟨by omega,fun _ _ h=>by omega⟩ ?_ ?_
 ·exact Lf.of2 [] [] enA bxA rfl rfl
 intro k ⟨h1,h2⟩
 repeat' ((conv=>whnf)<;>(first|refine aB.go aA T0 ?_|exact True.intro|(refine Br.mk (fun _=>?_) (fun _=>?_)<;>(try(exfalso;omega)))|refine stq ?_|refine Cll.dec (tY sd) (fun _=>?_) (fun _=>?_)|refine aG.dec (tY sd) (fun _=>?_) (fun _=>?_)))
 all_goals(conv=>whnf)
 all_goals first
  | exact aI.no (fun hc=>by obtain⟨⟨_,_,_⟩,_⟩:=hc.2.2 k (by omega);first|omega|contradiction|simp_all)
  | exact aI.yes ⟨by omega,by omega,bn (by omega) h2⟩
  | skip
 rename_i a1
 refine aT.by aA T0 (fun j:Nat=>⟨tmp 39 [(0,strs l),(3,i64 (k:Int)),(4,i64 (j:Int))],⟨0,[]⟩⟩)
  (fun j=>j≤k∧∀ i (h:i<l.length),i<j→l[i]≠l[k]) (fun j=>k-j) 0 ⟨by omega,fun _ _ h=>by omega⟩ ?_ ?_
 ·exact Lf.of2 [] [] enA bxA rfl rfl
 intro j ⟨h3,h4⟩
 repeat' ((conv=>whnf)<;>(first|refine aB.go aA T0 ?_|exact True.intro|(refine Br.mk (fun _=>?_) (fun _=>?_)<;>(try(exfalso;omega)))|refine stq ?_))
 all_goals(conv=>whnf)
 all_goals first
  | exact aI.no (fun hc=>(hc.2.2 k (by omega)).2 (i0.2 ⟨j,by omega,by omega,by assumption⟩))
  | (refine⟨j+1,⟨by omega,ay (by omega) h4 (by assumption)⟩,by omega,?_⟩
     exact Lf.of2 [] [] enA bxA rfl rfl)
  | (refine⟨k+1,⟨by omega,ay (by omega) h2 ⟨a1,fun hm=>by obtain⟨i,hi,hlt,e⟩:=i0.1 hm;exact h4 i hi (by omega) e⟩⟩,by omega,?_⟩
     exact Lf.of2 [] [] enA bxA rfl rfl)
abbrev nilM:D:=.v (.map none)
theorem AP {l:List Str}(hl:long l) (hp:¬PV l):Pu Tryz.prog 95 [strs l] (.tup [nilM,boo false]):=by
 refine Pu.of_v aA T0 Tryz.func95 rfl rfl (by simp[aD,aF]) ?_
 repeat' ((conv=>whnf)<;>(first|refine aB.go aA T0 ?_|exact True.intro|(refine Br.mk (fun _=>?_) (fun _=>?_)<;>(try(exfalso;omega)))|refine stq ?_))
 all_goals(conv=>whnf)
 all_goals first
  | exact aI.same rfl rfl
  | skip
 refine aT.by aA T0 (fun k:Nat=>⟨tmp 42 [(4,.map 0),(18,strs l),(19,i64 l.length),(20,i64 (k:Int))],⟨1,[(0,.map (pos (l.take k) 0))]⟩⟩)
  (fun k=>k≤l.length∧∀ i (h:i<l.length),i<k→lU l[i]∧¬l[i]∈l.take i) (fun k=>l.length-k) 0 ⟨by omega,fun _ _ h=>by omega⟩ ?_ ?_
 ·exact Lf.of2 [(0,_)] [] enA bxA rfl rfl
 intro k ⟨h1,h2⟩
 repeat' ((conv=>whnf)<;>(first|refine aB.go aA T0 ?_|exact True.intro|(refine Br.mk (fun _=>?_) (fun _=>?_)<;>(try(exfalso;omega)))|refine stq ?_|refine Cll.dec (kO sd) (fun _=>?_) (fun _=>?_)|refine aG.dec (kO sd) (fun _=>?_) (fun _=>?_)|(refine fS.pos (fun _ _=>?_) (fun _=>?_)<;>(try contradiction))))
 all_goals(conv=>whnf)
 all_goals first
  | exact aI.same rfl rfl
  | (exfalso;exact hp ⟨by omega,by omega,bn (by omega) h2⟩)
  | skip
 rename_i a1 a2 a3
 refine⟨k+1,⟨by omega,ay (by omega) h2 ⟨a2,a1⟩⟩,by omega,?_⟩
 exact Lf.of2 [(0,_)] [] enA bxA rfl rfl
theorem yN {l:List Str}(hl:long l) (hp:PV l):Pk Tryz.prog 95 [strs l] 1 (fun n=>.tup [.map n,boo true]) (fun n=>[(n,.map (pos l 0))]):=by
 refine Pk.of_v aA T0 Tryz.func95 rfl rfl (by simp[aD,aF]) ?_
 repeat' ((conv=>whnf)<;>(first|refine aB.go aA T0 ?_|exact True.intro|(refine Br.mk (fun _=>?_) (fun _=>?_)<;>(try(exfalso;omega)))|refine stq ?_))
 all_goals(conv=>whnf)
 all_goals first
  | (exfalso;have:=hp.1;have:=hp.2.1;omega)
  | skip
 refine aT.by aA T0 (fun k:Nat=>⟨tmp 42 [(4,.map 0),(18,strs l),(19,i64 l.length),(20,i64 (k:Int))],⟨1,[(0,.map (pos (l.take k) 0))]⟩⟩)
  (fun k=>k≤l.length) (fun k=>l.length-k) 0 (by omega) ?_ ?_
 ·exact Lf.of2 [(0,_)] [] enA bxA rfl rfl
 intro k h1
 repeat' ((conv=>whnf)<;>(first|refine aB.go aA T0 ?_|exact True.intro|(refine Br.mk (fun _=>?_) (fun _=>?_)<;>(try(exfalso;omega)))|refine stq ?_|refine Cll.dec (kO sd) (fun _=>?_) (fun _=>?_)|refine aG.dec (kO sd) (fun _=>?_) (fun _=>?_)|(refine fS.pos (fun _ _=>?_) (fun _=>?_)<;>(try contradiction))))
 all_goals(conv=>whnf)
 all_goals first
  | (exfalso;obtain⟨a1,a2⟩:=hp.2.2 k (by omega);first|contradiction|(rename_i a3;exact a3 a1))
  | (refine⟨k+1,by omega,by omega,?_⟩
     exact Lf.of2 [(0,_)] [] enA bxA rfl rfl)
  | exact⟨[0],rfl,⟨by simp,fun n=>.tup (.cons (.map (by simp[sgn])) (.cons (.same rfl) .nil)),fun n=>.cons (id:=0) (by simp[sgn]) rfl rfl (.map (.eqs (by rw[List.take_of_length_le (by omega)]) (aY _ _))) .nil⟩⟩
structure Spn where
 lo:Int
 hi:Int
 val:Int
 deriving Inhabited
structure Prp where
 names:List Str
 spans:List Spn
abbrev zO (s:Spn):List D:=[i64 s.lo,i64 s.hi,i64 s.val]
abbrev c6 (l:List Spn):D:=lstS zO l
abbrev fW (p:Prp):D:=.agg [strs p.names,c6 p.spans]
theorem aH (l:List Spn):aM (c6 l)=true:=eh (fun _=>rfl) l
theorem kT (p:Prp):aM (fW p)=true:=by simp[aM,aD,aF,aH]
structure Prp.ok (p:Prp):Prop where
 names:p.names.length≤9223372036854775807
 long:long p.names
 spans:p.spans.length≤9223372036854775807
def SpQ (l:List Spn) (n:Int) (i:Nat) (s:Spn):Prop:=(0≤s.lo∧s.lo≤s.hi∧s.hi≤1114111∧1≤s.val∧s.val<n) ∧
 (i≠0→(l.getD (i-1) default).hi<s.lo∧¬(s.lo=(l.getD (i-1) default).hi+1∧s.val=(l.getD (i-1) default).val))
def PrV (p:Prp):Prop:=PV p.names∧∀ i (h:i<p.spans.length),SpQ p.spans p.names.length i p.spans[i]
theorem d8 {n:Int}:Pu Tryz.prog 137 [i64 n] (boo (decide (0≤n∧n≤1114111))):=by
 refine Pu.of_v aA T0 Tryz.func137 rfl rfl rfl ?_
 repeat' ((conv=>whnf)<;>(first|refine aB.go aA T0 ?_|exact True.intro|(refine Br.mk (fun _=>?_) (fun _=>?_)<;>(try(exfalso;omega)))|refine stq ?_))
 all_goals(conv=>whnf)
 all_goals first
  | exact aI.yes (by omega)
  | exact aI.no (by omega)
theorem mJ {s:Spn}:Pu Tryz.prog 96 [.agg (zO s)] (boo (decide (0≤s.lo∧s.lo≤s.hi∧s.hi≤1114111))):=by
 refine Pu.of_v aA T0 Tryz.func96 rfl rfl rfl ?_
 repeat' ((conv=>whnf)<;>(first|refine aB.go aA T0 ?_|exact True.intro|(refine Br.mk (fun _=>?_) (fun _=>?_)<;>(try(exfalso;omega)))|refine stq ?_|refine Cll.dec (d8) (fun _=>?_) (fun _=>?_)|refine aG.dec (d8) (fun _=>?_) (fun _=>?_)))
 all_goals(conv=>whnf)
 all_goals first
  | exact aI.yes (by omega)
  | exact aI.no (by omega)
theorem l5 {p:Prp}(hp:p.ok):Pu Tryz.prog 70 [fW p] (boo (decide (PrV p))):=by
 have hl:=hp.long
 have hs:=hp.spans
 by_cases hv:PV p.names
 ·refine Pu.of_v aA T0 Tryz.func70 rfl rfl (by simp[aM,aD,aF,aH]) ?_
  repeat' ((conv=>whnf)<;>(first|refine aB.go aA T0 ?_|exact True.intro|(refine Br.mk (fun _=>?_) (fun _=>?_)<;>(try(exfalso;omega)))|refine stq ?_|refine Cll.pk (yN (by assumption) (by assumption)) ?_))
  all_goals(conv=>whnf)
  refine aT.by aA T0 (fun k:Nat=>⟨tmp 69 [(1,.ptr 0 0),(17,c6 p.spans),(18,i64 p.spans.length),(19,i64 (k:Int))],⟨1,[(0,.cells [strs p.names,c6 p.spans] true)]⟩⟩)
   (fun k=>k≤p.spans.length∧∀ i (h:i<p.spans.length),i<k→SpQ p.spans p.names.length i p.spans[i]) (fun k=>p.spans.length-k) 0 ⟨by omega,fun _ _ h=>by omega⟩ ?_ ?_
  ·exact Lf.of2 [(0,_)] [] enA bxA rfl rfl
  intro k ⟨h3,h4⟩
  by_cases hk:k=0
  ·subst hk
   repeat' ((conv=>whnf)<;>(first|refine aB.go aA T0 ?_|exact True.intro|(refine Br.mk (fun _=>?_) (fun _=>?_)<;>(try(exfalso;omega)))|refine stq ?_|refine Cll.dec (mJ) (fun _=>?_) (fun _=>?_)|refine aG.dec (mJ) (fun _=>?_) (fun _=>?_)))
   all_goals(conv=>whnf)
   all_goals first
    | exact aI.no (fun hc=>by have:=(hc.2 0 (by omega)).1;omega)
    | exact aI.yes ⟨hv,fun i h=>by omega⟩
    | (refine⟨0+1,⟨by omega,ay (by omega) h4 ⟨by omega,fun h=>absurd rfl h⟩⟩,by omega,?_⟩
       exact Lf.of2 [(0,_)] [] enA bxA rfl rfl)
  ·have h5:=h4 (k-1) (by omega) (by omega)
   have h6:=h5.1
   have e:p.spans.getD (k-1) default=p.spans[k-1]:=aW (by omega)
   repeat' ((conv=>whnf)<;>(first|refine aB.go aA T0 ?_|exact True.intro|(refine Br.mk (fun _=>?_) (fun _=>?_)<;>(try(exfalso;omega)))|refine stq ?_|refine Cll.dec (mJ) (fun _=>?_) (fun _=>?_)|refine aG.dec (mJ) (fun _=>?_) (fun _=>?_)|refine Idx.atS (by intro _;rfl) (k-1) (by omega) (by omega) ?_))
   all_goals(conv=>whnf)
   all_goals first
    | exact aI.no (fun hc=>by have h7:=hc.2 k (by omega);have:=h7.1;have:=h7.2 hk;rw[e] at this;omega)
    | exact aI.yes ⟨hv,bn (by omega) h4⟩
    | (refine⟨k+1,⟨by omega,ay (by omega) h4 ⟨by omega,fun _=>by rw[e];omega⟩⟩,by omega,?_⟩
       exact Lf.of2 [(0,_)] [] enA bxA rfl rfl)
 ·refine Pu.of_v aA T0 Tryz.func70 rfl rfl (by simp[aM,aD,aF,aH]) ?_
  repeat' ((conv=>whnf)<;>(first|refine aB.go aA T0 ?_|exact True.intro|(refine Br.mk (fun _=>?_) (fun _=>?_)<;>(try(exfalso;omega)))|refine stq ?_|refine Cll.pu (AP (by assumption) (by assumption)) ?_))
  all_goals(conv=>whnf)
  exact aI.no (fun hc=>hv hc.1)
theorem dP {p:Prp}(hp:p.ok):Pu Tryz.prog 72 [fW p] (boo (decide (PrV p))):=by
 have hn:=hp.names
 have hl:=hp.long
 have hs:=hp.spans
 refine Pu.of_v aA T0 Tryz.func72 rfl rfl (by simp[aM,aD,aF,aH]) ?_
 repeat' ((conv=>whnf)<;>(first|refine aB.go aA T0 ?_|exact True.intro|(refine Br.mk (fun _=>?_) (fun _=>?_)<;>(try(exfalso;omega)))|refine stq ?_|refine Cll.dec (wp sd sd) (fun _=>?_) (fun _=>?_)|refine aG.dec (wp sd sd) (fun _=>?_) (fun _=>?_)))
 all_goals(conv=>whnf)
 all_goals first
  | exact aI.no (fun hc=>by have:=hc.1;contradiction)
  | skip
 rename_i hv
 refine aT.by aA T0 (fun k:Nat=>⟨tmp 88 [(1,.ptr 0 0),(3,i64 (k:Int))],⟨1,[(0,.cells [strs p.names,c6 p.spans] true)]⟩⟩)
  (fun k=>k≤p.spans.length∧∀ i (h:i<p.spans.length),i<k→SpQ p.spans p.names.length i p.spans[i]) (fun k=>p.spans.length-k) 0 ⟨by omega,fun _ _ h=>by omega⟩ ?_ ?_
 ·exact Lf.of2 [(0,_)] [] enA bxA rfl rfl
 intro k ⟨h3,h4⟩
 by_cases hk:k=0
 ·subst hk
  repeat' ((conv=>whnf)<;>(first|refine aB.go aA T0 ?_|exact True.intro|(refine Br.mk (fun _=>?_) (fun _=>?_)<;>(try(exfalso;omega)))|refine stq ?_))
  all_goals(conv=>whnf)
  all_goals first
   | exact aI.no (fun hc=>by have:=(hc.2 0 (by omega)).1;omega)
   | exact aI.yes ⟨hv,fun i h=>by omega⟩
   | (refine⟨0+1,⟨by omega,ay (by omega) h4 ⟨by omega,fun h=>absurd rfl h⟩⟩,by omega,?_⟩
      exact Lf.of2 [(0,_)] [] enA bxA rfl rfl)
 ·have h5:=h4 (k-1) (by omega) (by omega)
  have h6:=h5.1
  have e:p.spans.getD (k-1) default=p.spans[k-1]:=aW (by omega)
  repeat' ((conv=>whnf)<;>(first|refine aB.go aA T0 ?_|exact True.intro|(refine Br.mk (fun _=>?_) (fun _=>?_)<;>(try(exfalso;omega)))|refine stq ?_|refine Idx.atS (by intro _;rfl) (k-1) (by omega) (by omega) ?_))
  all_goals(conv=>whnf)
  all_goals first
   | exact aI.no (fun hc=>by have h7:=hc.2 k (by omega);have:=h7.1;have:=h7.2 hk;rw[e] at this;omega)
   | exact aI.yes ⟨hv,bn (by omega) h4⟩
   | (refine⟨k+1,⟨by omega,ay (by omega) h4 ⟨by omega,fun _=>by rw[e];omega⟩⟩,by omega,?_⟩
      exact Lf.of2 [(0,_)] [] enA bxA rfl rfl)
end
section
open Go Go.Am Classical
set_option maxRecDepth 100000
variable [GT]
def other:Str:=[79,116,104,101,114]
noncomputable def cnt (p:Prp):Prp:=if PrV p then p else⟨[other],[]⟩
def fY:List Spn→Int→Int
 | [],_=>0
 | s::l,c=>if s.lo≤c∧c≤s.hi then s.val else fY l c
theorem rF {l:List Spn}{k:Nat}(h:k<l.length) (c:Int):fY (l.drop k) c=if l[k].lo≤c∧c≤l[k].hi then l[k].val else fY (l.drop (k+1)) c:=by
 rw[List.drop_eq_getElem_cons h];rfl
theorem kd {p:Prp}(hp:p.ok):Pu Tryz.prog 87 [fW p] (fW (cnt p)):=by
 refine Pu.of_v aA T0 Tryz.func87 rfl rfl (by simp[aM,aD,aF,aH]) ?_
 repeat' ((conv=>whnf)<;>(first|refine aB.go aA T0 ?_|exact True.intro|(refine Br.mk (fun _=>?_) (fun _=>?_)<;>(try(exfalso;omega)))|refine stq ?_|refine Cll.dec (dP sd) (fun _=>?_) (fun _=>?_)|refine aG.dec (dP sd) (fun _=>?_) (fun _=>?_)))
 all_goals(conv=>whnf)
 ·rename_i hv
  rw[show cnt p=p from by simp[cnt,hv]]
  exact aI.same (kT p) rfl
 ·rename_i hv
  rw[show cnt p=⟨[other],[]⟩ from by simp[cnt,hv]]
  exact⟨.agg (.cons (.frz rfl rfl (Nat.le_of_ble_eq_true rfl) (.cons (.same rfl) .nil)) (.cons .nil .nil))⟩
theorem DW {p:Prp}{c:Int}(hp:p.ok):Pu Tryz.prog 88 [fW p,i64 c] (i64 (fY (cnt p).spans c)):=by
 have hs:(cnt p).spans.length≤9223372036854775807:=by
  unfold cnt
  split
  ·exact hp.spans
  ·simp
 refine Pu.of_v aA T0 Tryz.func88 rfl rfl (by simp[aM,aD,aF,aH]) ?_
 repeat' ((conv=>whnf)<;>(first|refine aB.go aA T0 ?_|exact True.intro|(refine Br.mk (fun _=>?_) (fun _=>?_)<;>(try(exfalso;omega)))|refine stq ?_|refine Cll.pu (kd sd) ?_|refine aG.pu (kd sd) ?_))
 all_goals(conv=>whnf)
 generalize cnt p=q at *
 refine aT.by aA T0 (fun k:Nat=>⟨tmp 40 [(1,i64 c),(5,.ptr 0 0),(6,i64 (k:Int))],⟨1,[(0,.cells [strs q.names,c6 q.spans] true)]⟩⟩)
  (fun k=>k≤q.spans.length∧fY (q.spans.drop k) c=fY q.spans c) (fun k=>q.spans.length-k) 0 ⟨by omega,rfl⟩ ?_ ?_
 ·exact Lf.of2 [(0,_)] [] (by(repeat(first|exact aP.nil|refine aP.cons rfl (by first|exact Rd.same (aH _)|exact rdA|fail) ?_|fail));(first|done|fail)) (by(repeat(first|exact Bxs.nil|refine Bxs.cons rfl rfl rfl (by first|exact Rb.cells (Rds.cons (Rd.same (aF _)) (Rds.cons (Rd.same (aH _)) Rds.nil)) rfl|exact rbB|exact Rb.cells (by(repeat(first|exact Rds.nil|refine Rds.cons (by first|exact Rd.same (aH _)|exact rdA|fail) ?_|fail));(first|done|fail)) rfl|exact rbC|fail) ?_|fail));(first|done|fail)) rfl rfl
 intro k ⟨h3,h4⟩
 repeat' ((conv=>whnf)<;>(first|refine aB.go aA T0 ?_|exact True.intro|(refine Br.mk (fun _=>?_) (fun _=>?_)<;>(try(exfalso;omega)))|refine stq ?_))
 all_goals(conv=>whnf)
 all_goals first
  | exact aI.int (by rw[←h4,rF (by omega),if_pos (by omega)])
  | exact aI.int (by rw[←h4,List.drop_eq_nil_of_le (by omega)];rfl)
  | (refine⟨k+1,⟨by omega,by rw[←h4,rF (k:=k) (by omega),if_neg (by omega)]⟩,by omega,?_⟩
     exact Lf.of2 [(0,_)] [] enA bxA rfl rfl)
theorem vo {l:List Spn}{n:Int}(hn:1≤n) (h:∀ i (h:i<l.length),1≤l[i].val∧l[i].val<n) (c:Int):0≤fY l c∧fY l c<n:=by
 induction l with
 | nil=>simp only[fY];omega
 | cons s l ih=>
  simp only[fY]
  split
  ·have:=h 0 (by simp);simp at this;omega
  ·exact ih fun i hi=>by have:=h (i+1) (by simp;omega);simpa using this
theorem kg {p:Prp}(c:Int):0≤fY (cnt p).spans c∧fY (cnt p).spans c<(cnt p).names.length:=by
 unfold cnt
 split
 ·rename_i hv
  exact vo (by have:=hv.1.1;omega) (fun i h=>by have:=(hv.2 i h).1;omega) c
 ·simp[fY]
theorem Ck {p:Prp}(c:Int):(fY (cnt p).spans c).toNat<(cnt p).names.length:=by have:=kg (p:=p) c;omega
noncomputable def nh (p:Prp) (c:Int):Str:=(cnt p).names[(fY (cnt p).spans c).toNat]'(Ck c)
theorem sP {p:Prp}{c:Int}(hp:p.ok):Pu Tryz.prog 55 [fW p,i64 c] (.str (nh p c)):=by
 have hr:=kg (p:=p) c
 refine Pu.of_v aA T0 Tryz.func55 rfl rfl (by simp[aM,aD,aF,aH]) ?_
 repeat' ((conv=>whnf)<;>(first|refine aB.go aA T0 ?_|exact True.intro|(refine Br.mk (fun _=>?_) (fun _=>?_)<;>(try(exfalso;omega)))|refine stq ?_|refine Cll.pu (kd sd) ?_|refine aG.pu (kd sd) ?_|refine Cll.pu (DW sd) ?_|refine aG.pu (DW sd) ?_|refine Idx.at (fY (cnt p).spans c).toNat (by omega) (by omega) ?_))
 all_goals(conv=>whnf)
 exact aI.same rfl rfl
def gS (l:List Str) (s:Str):Int:=if s∈l then l.idxOf s else 0
theorem AR {l:List Str}{s:Str}{k:Nat}(h:k<l.length) (e:l[k]=s) (hn:¬s∈l.take k):gS l s=k:=by
 have hm:s∈l:=e▸List.getElem_mem h
 unfold gS
 rw[if_pos hm]
 have h1:l.idxOf s≤k:=by
  refine Nat.le_of_not_lt fun hlt=>?_
  have:=List.not_of_lt_findIdx hlt
  simp[e] at this
 have h2:¬l.idxOf s<k:=fun hlt=>hn (i0.2 ⟨l.idxOf s,by omega,hlt,by simp⟩)
 congr 1
 omega
theorem l3 {l:List Str}{s:Str}(hn:l.length≤9223372036854775807):Pu Tryz.prog 54 [strs l,.str s] (i64 (gS l s)):=by
 refine Pu.of_v aA T0 Tryz.func54 rfl rfl (by simp[aM,aD,aF]) ?_
 repeat' ((conv=>whnf)<;>(first|refine aB.go aA T0 ?_|exact True.intro|(refine Br.mk (fun _=>?_) (fun _=>?_)<;>(try(exfalso;omega)))|refine stq ?_))
 refine aT.by aA T0 (fun k:Nat=>⟨tmp 19 [(0,strs l),(1,.str s),(5,i64 (k:Int))],⟨0,[]⟩⟩)
  (fun k=>k≤l.length∧¬s∈l.take k) (fun k=>l.length-k) 0 ⟨by omega,by simp⟩ ?_ ?_
 ·exact Lf.of2 [] [] enA bxA rfl rfl
 intro k ⟨h3,h4⟩
 repeat' ((conv=>whnf)<;>(first|refine aB.go aA T0 ?_|exact True.intro|(refine Br.mk (fun _=>?_) (fun _=>?_)<;>(try(exfalso;omega)))|refine stq ?_))
 all_goals(conv=>whnf)
 all_goals first
  | exact aI.int (AR (by omega) (by assumption) h4).symm
  | exact aI.int (by rw[List.take_of_length_le (by omega)] at h4;simp[gS,h4])
  | (refine⟨k+1,⟨by omega,by rw[bU (by omega)];simp only[List.mem_append,List.mem_singleton,not_or];exact⟨h4,fun e=>by simp_all⟩⟩,by omega,?_⟩
     exact Lf.of2 [] [] enA bxA rfl rfl)
noncomputable def bI (p:Prp) (l:List Str) (text:List Int):List Int:=text.map fun c=>gS l (nh p c)
theorem ng {p:Prp}{l:List Str}{text:List Int}{k:Nat}(h:k<text.length):bI p l (text.take (k+1))=bI p l (text.take k)++[gS l (nh p text[k])]:=(jq h).symm
theorem xa {p:Prp}{l:List Str}{text:List Int}(hp:p.ok) (hl:l.length≤9223372036854775807) (ht:text.length≤1000):Pu Tryz.prog 25 [fW p,strs l,aa text] (aa (bI p l text)):=by
 refine Pu.of_v aA T0 Tryz.func25 rfl rfl (by simp[aM,aD,aF,aH,aN]) ?_
 repeat' ((conv=>whnf)<;>(first|refine aB.go aA T0 ?_|exact True.intro|(refine Br.mk (fun _=>?_) (fun _=>?_)<;>(try(exfalso;omega)))|refine stq ?_))
 refine aT.by2 aA T0 (fun(k:Nat) (o:List Int)=>⟨tmp 27 [(1,strs l),(2,aa text),(3,.ptr 0 0),(7,ah 1 1 o),(8,i64 (k:Int))],⟨2,cj 1 (fun x=>[i64 x]) o++[(0,.cells [strs p.names,c6 p.spans] true)]⟩⟩)
  (fun k o=>k≤text.length∧o=bI p l (text.take k)) (fun k _=>text.length-k) 0 [] ⟨by omega,rfl⟩ ?_ ?_
 ·exact Lf.of2 [(0,_)] [] enA bxA rfl rfl
 intro k o ⟨h3,h4⟩
 cases o with
 | nil=>
  repeat' ((conv=>whnf)<;>(first|refine aB.go aA T0 ?_|exact True.intro|(refine Br.mk (fun _=>?_) (fun _=>?_)<;>(try(exfalso;omega)))|refine stq ?_|refine Cll.pu (sP sd) ?_|refine aG.pu (sP sd) ?_|refine Cll.pu (l3 sd) ?_|refine aG.pu (l3 sd) ?_|refine bD.by aA T0 [0,0,0,0,0,24,56,124,254,510,1023,2047] (by kernel_rfl) ?_))
  all_goals(conv=>whnf)
  ·refine⟨k+1,([]:List Int)++[gS l (nh p text[k])],⟨by omega,by simp only[ng (show k<text.length by omega),←h4]⟩,by omega,?_⟩
   exact Lf.of2 [(0,_),(1,_)] [] enA bxA rfl rfl
  ·rw[show bI p l text=[] from by rw[h4,List.take_of_length_le (by omega)]]
   exact⟨.nil⟩
 | cons x xs=>
  have hk:(x::xs).length≤1000:=by rw[h4];simp[bI];omega
  repeat' ((conv=>whnf)<;>(first|refine aB.go aA T0 ?_|exact True.intro|(refine Br.mk (fun _=>?_) (fun _=>?_)<;>(try(exfalso;omega)))|refine stq ?_|refine Cll.pu (sP sd) ?_|refine aG.pu (sP sd) ?_|refine Cll.pu (l3 sd) ?_|refine aG.pu (l3 sd) ?_|refine bD.by aA T0 [0,0,0,0,0,24,56,124,254,510,1023,2047] (by kernel_rfl) ?_))
  all_goals(conv=>whnf)
  ·refine⟨k+1,(x::xs)++[gS l (nh p text[k])],⟨by omega,by simp only[ng (show k<text.length by omega),←h4]⟩,by omega,?_⟩
   exact Lf.of2 [(0,_),(1,_)] [] (by(repeat(first|exact aP.nil|refine aP.cons rfl (by first|exact Rd.sl' rfl (by simp) (by simp)|exact rdA|fail) ?_|fail));(first|done|fail)) (by(repeat(first|exact Bxs.nil|refine Bxs.cons rfl rfl rfl (by first|exact Rb.cells (Rds.eqs (ak (by intro _;rfl) (x::xs) _) (aO (by intro _;rfl) _)) rfl|exact rbB|exact Rb.cells (by(repeat(first|exact Rds.nil|refine Rds.cons (by first|exact Rd.sl' rfl (by simp) (by simp)|exact rdA|fail) ?_|fail));(first|done|fail)) rfl|exact rbC|fail) ?_|fail));(first|done|fail)) rfl rfl
  ·rw[show bI p l text=x::xs from by rw[h4,List.take_of_length_le (by omega)]]
   exact aI.own1 (id:=1) (l:=x::xs) (fun _=>rfl)
theorem zQ {n s:Nat}{g:FuncId}{cap:List D}{p:Nat→Prop}(hc:aD cap=true) (hn:n≤4611686018427387903) (hs:s≤n) (h1:∀ i,i<s→¬p i) (h2:∀ i,s≤i→i<n→p i)
  (hf:∀ i:Nat,i<n→Pu Tryz.prog g ([i64 i]++cap) (boo (decide (p i)))):Pu Tryz.prog 97 [i64 n,.fn (.func g) [] cap] (i64 s):=by
 refine Pu.of_v aA T0 Tryz.func97 rfl rfl (by simp[aM,aD,hc]) ?_
 repeat' ((conv=>whnf)<;>(first|refine aB.go aA T0 ?_|exact True.intro|(refine Br.mk (fun _=>?_) (fun _=>?_)<;>(try(exfalso;omega)))|refine stq ?_))
 refine aT.by2 aA T0 (fun i j:Nat=>⟨tmp 26 [(1,.fn (.func g) [] cap),(5,i64 i),(6,i64 j)],⟨0,[]⟩⟩)
  (fun i j=>i≤s∧s≤j∧j≤n) (fun i j=>j-i) 0 n ⟨by omega,by omega,by omega⟩ ?_ ?_
 ·exact Lf.of2 [] [] (by(repeat(first|exact aP.nil|refine aP.cons rfl (by first|exact Rd.same (by simp[aM,aD,hc])|exact rdA|fail) ?_|fail));(first|done|fail)) (by(repeat(first|exact Bxs.nil|refine Bxs.cons rfl rfl rfl (by first|exact rbB|exact Rb.cells (by(repeat(first|exact Rds.nil|refine Rds.cons (by first|exact Rd.same (by simp[aM,aD,hc])|exact rdA|fail) ?_|fail));(first|done|fail)) rfl|exact rbC|fail) ?_|fail));(first|done|fail)) rfl rfl
 intro i j ⟨h3,h4,h5⟩
 have em:IntKind.i64.wrap ((IntKind.u64.wrap ((i:Int)+(j:Int))).fdiv (2 ^ min (Int.toNat 1) IntKind.u64.bits))=(((i+j) / 2:Nat):Int):=by
  have e1:IntKind.u64.wrap ((i:Int)+(j:Int))=(i:Int)+(j:Int):=by
   simp[IntKind.wrap,IntKind.bits,IntKind.signed];omega
  rw[e1,Int.fdiv_eq_ediv_of_nonneg _ (by decide)]
  simp[IntKind.wrap,IntKind.bits,IntKind.signed]
  omega
 repeat' ((conv=>whnf)<;>(first|refine aB.go aA T0 ?_|exact True.intro|(refine Br.mk (fun _=>?_) (fun _=>?_)<;>(try(exfalso;omega)))|refine stq ?_|refine Cll.dec (p:=p ((i+j) / 2)) (by rw[em];exact hf _ (by omega)) (fun _=>?_) (fun _=>?_)|refine Chk.mk (rD (by rw[em];omega) (by rw[em];omega)) ?_))
 all_goals(conv=>whnf)
 all_goals first
  | exact aI.int (by omega)
  | (refine⟨i,(i+j) / 2,⟨by omega,Nat.le_of_not_lt fun hlt=>h1 _ hlt (by assumption),by omega⟩,by omega,?_⟩
     exact Lf.of2 [] [] (by(repeat(first|exact aP.nil|refine aP.cons rfl (by first|exact Rd.same (by simp[aM,aD,hc])|exact Rd.int em|exact rdA|fail) ?_|fail));(first|done|fail)) (by(repeat(first|exact Bxs.nil|refine Bxs.cons rfl rfl rfl (by first|exact rbB|exact Rb.cells (by(repeat(first|exact Rds.nil|refine Rds.cons (by first|exact Rd.same (by simp[aM,aD,hc])|exact Rd.int em|exact rdA|fail) ?_|fail));(first|done|fail)) rfl|exact rbC|fail) ?_|fail));(first|done|fail)) rfl rfl)
  | (refine⟨(i+j) / 2+1,j,⟨Nat.succ_le_of_lt (Nat.lt_of_not_le fun hle=>absurd (h2 _ hle (by omega)) (by assumption)),by omega,by omega⟩,by omega,?_⟩
     exact Lf.of2 [] [] (by(repeat(first|exact aP.nil|refine aP.cons rfl (by first|exact Rd.same (by simp[aM,aD,hc])|exact Rd.int (by rw[em];omega)|exact rdA|fail) ?_|fail));(first|done|fail)) (by(repeat(first|exact Bxs.nil|refine Bxs.cons rfl rfl rfl (by first|exact rbB|exact Rb.cells (by(repeat(first|exact Rds.nil|refine Rds.cons (by first|exact Rd.same (by simp[aM,aD,hc])|exact Rd.int (by rw[em];omega)|exact rdA|fail) ?_|fail));(first|done|fail)) rfl|exact rbC|fail) ?_|fail));(first|done|fail)) rfl rfl)
theorem y6 {l:List Spn}{c:Int}{k:Nat}(hk:k<l.length):Pu Tryz.prog 98 ([i64 (k:Int)]++[.iptr [c6 l],.iptr [i64 c]]) (boo (decide (c≤l[k].hi))):=by
 refine Pu.of_v aA T0 Tryz.func98 rfl rfl (by simp[aM,aD,aH]) ?_
 repeat' ((conv=>whnf)<;>(first|refine aB.go aA T0 ?_|exact True.intro|(refine Br.mk (fun _=>?_) (fun _=>?_)<;>(try(exfalso;omega)))|refine stq ?_))
 all_goals(conv=>whnf)
 all_goals first
  | exact aI.yes (by omega)
  | exact aI.no (by omega)
def BN (l:List Spn):Prop:=∀ i (h:i<l.length),l[i].lo≤l[i].hi∧∀ h0:i≠0,(l[i-1]'(by omega)).hi<l[i].lo
theorem Bs {l:List Spn}{n:Int}(h:∀ i (h:i<l.length),SpQ l n i l[i]):BN l:=fun i hi=>by
 obtain⟨h1,h2⟩:=h i hi
 refine⟨by omega,fun h0=>?_⟩
 have:=(h2 h0).1
 rwa [aW (by omega)] at this
theorem wZ {l:List Spn}(h:BN l){i:Nat}(j:Nat) (hi:i<l.length) (hj:i+j<l.length):l[i].hi≤l[i+j].hi:=by
 induction j with
 | zero=>exact Int.le_refl _
 | succ j ih=>
  have h1:=ih (by omega)
  have h2:=h (i+(j+1)) hj
  have h3:=h2.2 (by omega)
  have h4:=h2.1
  have e:i+(j+1)-1=i+j:=by omega
  simp only[e] at h3
  omega
theorem rE {l:List Spn}{c:Int}(h:∀ i (h:i<l.length),¬(l[i].lo≤c∧c≤l[i].hi)):fY l c=0:=by
 induction l with
 | nil=>rfl
 | cons s l ih=>
  simp only[fY]
  rw[if_neg (show ¬(s.lo≤c∧c≤s.hi) from h 0 (by simp))]
  exact ih fun i hi=>h (i+1) (by simpa using hi)
theorem CY {l:List Spn}{c:Int}{s:Nat}(hs:s<l.length) (h:∀ i (hi:i<l.length),i<s→¬(l[i].lo≤c∧c≤l[i].hi)) (h2:l[s].lo≤c∧c≤l[s].hi):fY l c=l[s].val:=by
 induction l generalizing s with
 | nil=>simp at hs
 | cons x l ih=>
  simp only[fY]
  cases s with
  | zero=>rw[if_pos (show x.lo≤c∧c≤x.hi from h2)];rfl
  | succ s=>
   rw[if_neg (show ¬(x.lo≤c∧c≤x.hi) from h 0 (by simp) (by omega))]
   exact ih (s:=s) (by simpa using hs) (fun i hi hlt=>h (i+1) (by simpa using hi) (by omega)) h2
noncomputable def ca (l:List Spn) (c:Int):Nat:=l.findIdx fun s=>decide (c≤s.hi)
theorem vt (l:List Spn) (c:Int):ca l c≤l.length:=List.findIdx_le_length
theorem gk {l:List Spn}{c:Int}{i:Nat}(h:i<l.length) (hlt:i<ca l c):¬c≤l[i].hi:=by
 have:=List.not_of_lt_findIdx hlt
 simpa using this
theorem po {l:List Spn}{c:Int}(h:ca l c<l.length):c≤l[ca l c].hi:=by
 have:=List.findIdx_getElem (p:=fun s:Spn=>decide (c≤s.hi)) (w:=h)
 exact of_decide_eq_true this
theorem vp {l:List Spn}(hr:BN l) (c:Int):fY l c=if h:ca l c<l.length then(if l[ca l c].lo≤c then l[ca l c].val else 0) else 0:=by
 split
 ·rename_i hs
  have h1:=po hs
  split
  ·rename_i h2
   exact CY hs (fun i hi hlt=>by have:=gk hi hlt;omega) ⟨h2,h1⟩
  ·rename_i h2
   refine rE fun i hi=>?_
   rcases Nat.lt_trichotomy i (ca l c) with hlt|he|hgt
   ·have:=gk hi hlt;omega
   ·subst he;omega
   ·have h3:=wZ hr (i-1-ca l c) hs (by omega)
    have h4:=(hr i hi).2 (by omega)
    have e:ca l c+(i-1-ca l c)=i-1:=by omega
    simp only[e] at h3
    omega
 ·rename_i hs
  refine rE fun i hi=>?_
  have:=gk (c:=c) hi (by omega)
  omega
theorem oD {l:List Spn}{c:Int}(hn:l.length≤4611686018427387903) (hr:BN l):Pu Tryz.prog 71 [c6 l,i64 c] (i64 (fY l c)):=by
 rw[vp hr c]
 have h0:=vt l c
 have hse:Pu Tryz.prog 97 [i64 l.length,.fn (.func 98) [] [.iptr [c6 l],.iptr [i64 c]]] (i64 (ca l c)):=
  zQ (p:=fun i=>∃ h:i<l.length,c≤l[i].hi) (by simp[aM,aD,aH]) hn h0 (fun i hi ⟨h,hc⟩=>gk h hi hc)
   (fun i h1 h2=>⟨h2,by
    have h3:=po (l:=l) (c:=c) (by omega)
    have h4:=wZ hr (i-ca l c) (i:=ca l c) (by omega) (by omega)
    have e:ca l c+(i-ca l c)=i:=by omega
    simp only[e] at h4
    omega⟩)
   (fun i hi=>by
    have:=y6 (l:=l) (c:=c) hi
    exact(congrArg (fun b=>Pu Tryz.prog _ _ (boo b)) (decide_eq_decide.2 ⟨fun h=>⟨hi,h⟩,fun⟨_,h⟩=>h⟩)).mp this)
 refine Pu.of_v aA T0 Tryz.func71 rfl rfl (by simp[aM,aD,aH]) ?_
 conv=>whnf
 refine aB.weak aA T0 (s0:=⟨tmp 28 [(2,.iptr [c6 l]),(3,.iptr [i64 c])],⟨0,[]⟩⟩) ?_ ?_
 ·exact Lf.of2 [] [0,1] (by(repeat(first|exact aP.nil|refine aP.cons rfl (by first|exact Rd.frzp rfl rfl (Rds.cons (Rd.same (aH _)) Rds.nil)|exact Rd.frzp rfl rfl (Rds.cons (Rd.same rfl) Rds.nil)|exact rdA|fail) ?_|fail));(first|done|fail)) (by(repeat(first|exact Bxs.nil|refine Bxs.cons rfl rfl rfl (by first|exact rbB|exact Rb.cells (by(repeat(first|exact Rds.nil|refine Rds.cons (by first|exact Rd.frzp rfl rfl (Rds.cons (Rd.same (aH _)) Rds.nil)|exact Rd.frzp rfl rfl (Rds.cons (Rd.same rfl) Rds.nil)|exact rdA|fail) ?_|fail));(first|done|fail)) rfl|exact rbC|fail) ?_|fail));(first|done|fail)) rfl rfl
 repeat' ((conv=>whnf)<;>(first|refine aB.go aA T0 ?_|exact True.intro|(refine Br.mk (fun _=>?_) (fun _=>?_)<;>(try(exfalso;omega)))|refine stq ?_|refine Cll.pu hse ?_))
 all_goals(conv=>whnf)
 all_goals first
  | exact aI.int (by rw[dif_pos (by omega),if_pos (by assumption)])
  | exact aI.int (by rw[dif_pos (by omega),if_neg (by assumption)])
  | exact aI.int (by rw[dif_neg (by omega)])
theorem As (p:Prp):BN (cnt p).spans:=by
 unfold cnt
 split
 ·rename_i hv;exact Bs hv.2
 ·intro i h;simp at h
theorem yh {p:Prp}(h:p.spans.length≤1000):(cnt p).spans.length≤1000:=by
 unfold cnt
 split
 ·exact h
 ·simp
theorem yi {p:Prp}(h:p.names.length≤1000):(cnt p).names.length≤1000:=by
 unfold cnt
 split
 ·exact h
 ·simp
theorem re {p:Prp}{t:Tbl}{text:List Int}(hp:p.ok) (ht:t.ok) (hx:text.length≤1000) (hs:p.spans.length≤1000) (hnn:p.names.length≤1000):Pu Tryz.prog 44 [fW p,oh t,aa text] (aa (if TV t then bI p t.classes text else [])):=by
 have h1:=ht.classes
 have hr:=As p
 have hs2:=yh hs
 have hn2:=yi hnn
 refine Pu.of_v aA T0 Tryz.func44 rfl rfl (by simp[aM,aD,aF,aH,aN,cL]) ?_
 repeat' ((conv=>whnf)<;>(first|refine aB.go aA T0 ?_|exact True.intro|(refine Br.mk (fun _=>?_) (fun _=>?_)<;>(try(exfalso;omega)))|refine stq ?_|refine Cll.dec (ij sd) (fun _=>?_) (fun _=>?_)|refine aG.dec (ij sd) (fun _=>?_) (fun _=>?_)|refine Cll.dec (l5 sd) (fun _=>?_) (fun _=>?_)|refine aG.dec (l5 sd) (fun _=>?_) (fun _=>?_)))
 all_goals(conv=>whnf)
 ·rename_i hv hpv
  have hcp:cnt p=p:=by simp[cnt,hpv]
  refine aT.by aA T0 (fun k:Nat=>⟨tmp 81 [(2,aa text),(3,.ptr 0 0),(7,.map 1),(29,strs t.classes),(30,i64 t.classes.length),(31,i64 (k:Int))],⟨2,[(0,.cells [strs (cnt p).names,c6 (cnt p).spans] true),(1,.map (pos (t.classes.take k) 0))]⟩⟩)
   (fun k=>k≤t.classes.length) (fun k=>t.classes.length-k) 0 (by omega) ?_ ?_
  ·exact Lf.of2 [(0,_),(1,_)] [9] enA (by(repeat(first|exact Bxs.nil|refine Bxs.cons rfl rfl rfl (by first|exact Rb.cells (by rw[hcp];exact Rds.same (by simp only[cQ,aD,aF,aH,Bool.and_self])) rfl|exact Rb.cells (by rw[hcp];exact Rds.cons (Rd.frz rfl rfl (Nat.le_of_ble_eq_true rfl) (Rds.cons (Rd.same rfl) Rds.nil)) (Rds.cons Rd.nil Rds.nil)) rfl|exact rbB|exact Rb.cells cH rfl|exact rbC|fail) ?_|fail));(first|done|fail)) rfl rfl
  intro k h3
  repeat' ((conv=>whnf)<;>(first|refine aB.go aA T0 ?_|exact True.intro|(refine Br.mk (fun _=>?_) (fun _=>?_)<;>(try(exfalso;omega)))|refine stq ?_|(refine fS.pos (fun _ _=>?_) (fun _=>?_)<;>(try(exfalso;exact(hv.1.2.2 k (by omega)).2 (by assumption))))))
  all_goals(conv=>whnf)
  ·refine⟨k+1,by omega,by omega,?_⟩
   exact Lf.of2 [(0,_),(1,_)] [] enA bxA rfl rfl
  refine aT.by aA T0 (fun k:Nat=>⟨tmp 81 [(2,aa text),(3,.ptr 0 0),(7,.map 1),(10,.sl 2 0 (cnt p).names.length (cnt p).names.length 1 true),(45,strs (cnt p).names),(46,i64 (cnt p).names.length),(47,i64 (k:Int))],⟨3,[(0,.cells [strs (cnt p).names,c6 (cnt p).spans] true),(1,.map (pos t.classes 0)),(2,.cells (gI (fun s=>i64 (gS t.classes s)) (i64 0) (cnt p).names k) true)]⟩⟩)
   (fun k=>k≤(cnt p).names.length) (fun k=>(cnt p).names.length-k) 0 (by omega) ?_ ?_
  ·exact Lf.of2 [(0,_),(1,_),(2,_)] [] enA (by(repeat(first|exact Bxs.nil|refine Bxs.cons rfl rfl rfl (by first|exact Rb.cells (Rds.eqs (ia _) (cA (fun _=>rfl) rfl)) rfl|exact Rb.map (Res.eqs (by rw[List.take_of_length_le (by omega)]) (aY _ _))|exact rbB|exact Rb.cells cH rfl|exact rbC|fail) ?_|fail));(first|done|fail)) rfl rfl
  intro k h4
  repeat' ((conv=>whnf)<;>(first|refine aB.go aA T0 ?_|exact True.intro|(refine Br.mk (fun _=>?_) (fun _=>?_)<;>(try(exfalso;omega)))|refine stq ?_|(refine fS.pos (fun _ _=>?_) (fun _=>?_))|refine Put.one (by rw[gn (by omega)];omega) ?_))
  all_goals(conv=>whnf)
  ·rename_i _ hm
   refine⟨k+1,by omega,by omega,?_⟩
   exact Lf.of2 [(0,_),(1,_),(2,_)] [] enA (by(repeat(first|exact Bxs.nil|refine Bxs.cons rfl rfl rfl (by first|exact Rb.cells (Rds.eqs (by rw[←iT (by omega)];simp[gS,hm]) (cA (fun _=>rfl) rfl)) rfl|exact rbB|exact Rb.cells cH rfl|exact rbC|fail) ?_|fail));(first|done|fail)) rfl rfl
  ·rename_i hm
   refine⟨k+1,by omega,by omega,?_⟩
   exact Lf.of2 [(0,_),(1,_),(2,_)] [] enA (by(repeat(first|exact Bxs.nil|refine Bxs.cons rfl rfl rfl (by first|exact Rb.cells (Rds.eqs (by rw[←iT (by omega)];simp only[gS,hm,if_false];rfl) (cA (fun _=>rfl) rfl)) rfl|exact rbB|exact Rb.cells cH rfl|exact rbC|fail) ?_|fail));(first|done|fail)) rfl rfl
  refine aT.by aA T0 (fun k:Nat=>⟨tmp 81 [(3,.ptr 0 0),(10,.sl 2 0 (cnt p).names.length (cnt p).names.length 1 true),(13,.sl 3 0 text.length text.length 1 true),(62,aa text),(63,i64 text.length),(64,i64 (k:Int))],⟨4,[(0,.cells [strs (cnt p).names,c6 (cnt p).spans] true),(2,.cells ((cnt p).names.map fun s=>i64 (gS t.classes s)) true),(3,.cells (gI (fun c=>i64 (gS t.classes (nh p c))) (i64 0) text k) true)]⟩⟩)
   (fun k=>k≤text.length) (fun k=>text.length-k) 0 (by omega) ?_ ?_
  ·exact Lf.of2 [(0,_),(2,_),(3,_)] [] enA (by(repeat(first|exact Bxs.nil|refine Bxs.cons rfl rfl rfl (by first|exact Rb.cells (Rds.eqs (ia _) (cA (fun _=>rfl) rfl)) rfl|exact Rb.cells (Rds.eqs (mQ (by omega)) (aZ (fun _=>rfl) _)) rfl|exact rbB|exact Rb.cells cH rfl|exact rbC|fail) ?_|fail));(first|done|fail)) rfl rfl
  intro k h5
  have hg:=kg (p:=p) (text.getD k 0)
  repeat' ((conv=>whnf)<;>(first|refine aB.go aA T0 ?_|exact True.intro|(refine Br.mk (fun _=>?_) (fun _=>?_)<;>(try(exfalso;omega)))|refine stq ?_|refine Cll.pu (oD sd sd) ?_|refine aG.pu (oD sd sd) ?_|refine ch.at (fY (cnt p).spans text[k]).toNat (by rw[aW (by omega)] at hg;omega) (by rw[aW (by omega)] at hg;omega) ?_|refine Get.map (by rw[aW (by omega)] at hg;omega) ?_|refine Put.one (by rw[gn (by omega)];omega) ?_))
  all_goals(conv=>whnf)
  ·refine⟨k+1,by omega,by omega,?_⟩
   exact Lf.of2 [(0,_),(2,_),(3,_)] [] enA (by(repeat(first|exact Bxs.nil|refine Bxs.cons rfl rfl rfl (by first|exact Rb.cells (Rds.eqs (by rw[←iT (by omega)];rfl) (cA (fun _=>rfl) rfl)) rfl|exact rbB|exact Rb.cells cH rfl|exact rbC|fail) ?_|fail));(first|done|fail)) rfl rfl
  ·rw[if_pos hv]
   exact aI.frz1 (l:=bI p t.classes text) (f:=i64) rfl (by rw[mQ (by omega)];simp[bI]) (by simp[bI]) (fun _=>rfl) rfl
 ·rename_i hv hpv
  have hcp:cnt p=⟨[other],[]⟩:=by simp[cnt,hpv]
  refine aT.by aA T0 (fun k:Nat=>⟨tmp 81 [(2,aa text),(3,.ptr 0 0),(7,.map 1),(29,strs t.classes),(30,i64 t.classes.length),(31,i64 (k:Int))],⟨2,[(0,.cells [strs (cnt p).names,c6 (cnt p).spans] true),(1,.map (pos (t.classes.take k) 0))]⟩⟩)
   (fun k=>k≤t.classes.length) (fun k=>t.classes.length-k) 0 (by omega) ?_ ?_
  ·exact Lf.of2 [(0,_),(1,_)] [9] enA (by(repeat(first|exact Bxs.nil|refine Bxs.cons rfl rfl rfl (by first|exact Rb.cells (by rw[hcp];exact Rds.same (by simp only[cQ,aD,aF,aH,Bool.and_self])) rfl|exact Rb.cells (by rw[hcp];exact Rds.cons (Rd.frz rfl rfl (Nat.le_of_ble_eq_true rfl) (Rds.cons (Rd.same rfl) Rds.nil)) (Rds.cons Rd.nil Rds.nil)) rfl|exact rbB|exact Rb.cells cH rfl|exact rbC|fail) ?_|fail));(first|done|fail)) rfl rfl
  intro k h3
  repeat' ((conv=>whnf)<;>(first|refine aB.go aA T0 ?_|exact True.intro|(refine Br.mk (fun _=>?_) (fun _=>?_)<;>(try(exfalso;omega)))|refine stq ?_|(refine fS.pos (fun _ _=>?_) (fun _=>?_)<;>(try(exfalso;exact(hv.1.2.2 k (by omega)).2 (by assumption))))))
  all_goals(conv=>whnf)
  ·refine⟨k+1,by omega,by omega,?_⟩
   exact Lf.of2 [(0,_),(1,_)] [] enA bxA rfl rfl
  refine aT.by aA T0 (fun k:Nat=>⟨tmp 81 [(2,aa text),(3,.ptr 0 0),(7,.map 1),(10,.sl 2 0 (cnt p).names.length (cnt p).names.length 1 true),(45,strs (cnt p).names),(46,i64 (cnt p).names.length),(47,i64 (k:Int))],⟨3,[(0,.cells [strs (cnt p).names,c6 (cnt p).spans] true),(1,.map (pos t.classes 0)),(2,.cells (gI (fun s=>i64 (gS t.classes s)) (i64 0) (cnt p).names k) true)]⟩⟩)
   (fun k=>k≤(cnt p).names.length) (fun k=>(cnt p).names.length-k) 0 (by omega) ?_ ?_
  ·exact Lf.of2 [(0,_),(1,_),(2,_)] [] enA (by(repeat(first|exact Bxs.nil|refine Bxs.cons rfl rfl rfl (by first|exact Rb.cells (Rds.eqs (ia _) (cA (fun _=>rfl) rfl)) rfl|exact Rb.map (Res.eqs (by rw[List.take_of_length_le (by omega)]) (aY _ _))|exact rbB|exact Rb.cells cH rfl|exact rbC|fail) ?_|fail));(first|done|fail)) rfl rfl
  intro k h4
  repeat' ((conv=>whnf)<;>(first|refine aB.go aA T0 ?_|exact True.intro|(refine Br.mk (fun _=>?_) (fun _=>?_)<;>(try(exfalso;omega)))|refine stq ?_|(refine fS.pos (fun _ _=>?_) (fun _=>?_))|refine Put.one (by rw[gn (by omega)];omega) ?_))
  all_goals(conv=>whnf)
  ·rename_i _ hm
   refine⟨k+1,by omega,by omega,?_⟩
   exact Lf.of2 [(0,_),(1,_),(2,_)] [] enA (by(repeat(first|exact Bxs.nil|refine Bxs.cons rfl rfl rfl (by first|exact Rb.cells (Rds.eqs (by rw[←iT (by omega)];simp[gS,hm]) (cA (fun _=>rfl) rfl)) rfl|exact rbB|exact Rb.cells cH rfl|exact rbC|fail) ?_|fail));(first|done|fail)) rfl rfl
  ·rename_i hm
   refine⟨k+1,by omega,by omega,?_⟩
   exact Lf.of2 [(0,_),(1,_),(2,_)] [] enA (by(repeat(first|exact Bxs.nil|refine Bxs.cons rfl rfl rfl (by first|exact Rb.cells (Rds.eqs (by rw[←iT (by omega)];simp only[gS,hm,if_false];rfl) (cA (fun _=>rfl) rfl)) rfl|exact rbB|exact Rb.cells cH rfl|exact rbC|fail) ?_|fail));(first|done|fail)) rfl rfl
  refine aT.by aA T0 (fun k:Nat=>⟨tmp 81 [(3,.ptr 0 0),(10,.sl 2 0 (cnt p).names.length (cnt p).names.length 1 true),(13,.sl 3 0 text.length text.length 1 true),(62,aa text),(63,i64 text.length),(64,i64 (k:Int))],⟨4,[(0,.cells [strs (cnt p).names,c6 (cnt p).spans] true),(2,.cells ((cnt p).names.map fun s=>i64 (gS t.classes s)) true),(3,.cells (gI (fun c=>i64 (gS t.classes (nh p c))) (i64 0) text k) true)]⟩⟩)
   (fun k=>k≤text.length) (fun k=>text.length-k) 0 (by omega) ?_ ?_
  ·exact Lf.of2 [(0,_),(2,_),(3,_)] [] enA (by(repeat(first|exact Bxs.nil|refine Bxs.cons rfl rfl rfl (by first|exact Rb.cells (Rds.eqs (ia _) (cA (fun _=>rfl) rfl)) rfl|exact Rb.cells (Rds.eqs (mQ (by omega)) (aZ (fun _=>rfl) _)) rfl|exact rbB|exact Rb.cells cH rfl|exact rbC|fail) ?_|fail));(first|done|fail)) rfl rfl
  intro k h5
  have hg:=kg (p:=p) (text.getD k 0)
  repeat' ((conv=>whnf)<;>(first|refine aB.go aA T0 ?_|exact True.intro|(refine Br.mk (fun _=>?_) (fun _=>?_)<;>(try(exfalso;omega)))|refine stq ?_|refine Cll.pu (oD sd sd) ?_|refine aG.pu (oD sd sd) ?_|refine ch.at (fY (cnt p).spans text[k]).toNat (by rw[aW (by omega)] at hg;omega) (by rw[aW (by omega)] at hg;omega) ?_|refine Get.map (by rw[aW (by omega)] at hg;omega) ?_|refine Put.one (by rw[gn (by omega)];omega) ?_))
  all_goals(conv=>whnf)
  ·refine⟨k+1,by omega,by omega,?_⟩
   exact Lf.of2 [(0,_),(2,_),(3,_)] [] enA (by(repeat(first|exact Bxs.nil|refine Bxs.cons rfl rfl rfl (by first|exact Rb.cells (Rds.eqs (by rw[←iT (by omega)];rfl) (cA (fun _=>rfl) rfl)) rfl|exact rbB|exact Rb.cells cH rfl|exact rbC|fail) ?_|fail));(first|done|fail)) rfl rfl
  ·rw[if_pos hv]
   exact aI.frz1 (l:=bI p t.classes text) (f:=i64) rfl (by rw[mQ (by omega)];simp[bI]) (by simp[bI]) (fun _=>rfl) rfl
 ·rename_i hv
  rw[if_neg hv]
  exact⟨.nil⟩
end
section
open Go Go.Am Classical
set_option maxRecDepth 100000
abbrev bl (a b:Str):Bool:=Op.bytesLess a b
theorem rT:∀ a:Str,bl a a=false
 | []=>rfl
 | x::a=>by simp only[bl,Op.bytesLess];simp[rT a]
theorem ue:∀ {a b c:Str},bl a b=true→bl b c=true→bl a c=true
 | _,[],_,h,_=>by simp[bl,Op.bytesLess] at h
 | _,_::_,[],_,h=>by simp[bl,Op.bytesLess] at h
 | [],_::_,_::_,_,_=>by simp[bl,Op.bytesLess]
 | x::a,y::b,z::c,h1,h2=>by
  simp only[bl,Op.bytesLess,Bool.or_eq_true,Bool.and_eq_true,decide_eq_true_eq,beq_iff_eq] at *
  rcases h1 with h1|⟨rfl,h1⟩
  ·rcases h2 with h2|⟨rfl,_⟩
   ·exact .inl (UInt8.lt_trans h1 h2)
   ·exact .inl h1
  ·rcases h2 with h2|⟨rfl,h2⟩
   ·exact .inl h2
   ·exact .inr ⟨rfl,ue h1 h2⟩
structure Mpg where
 frm:Int
 to:List Int
 tag:Str
 deriving Inhabited
def bef (a b:Mpg):Prop:=a.frm<b.frm∨(a.frm=b.frm∧bl a.tag b.tag=true)
theorem yk {a b c:Mpg}(h1:bef a b) (h2:bef b c):bef a c:=by
 unfold bef at *
 rcases h1 with h1|⟨e1,h1⟩<;>rcases h2 with h2|⟨e2,h2⟩
 ·exact .inl (by omega)
 ·exact .inl (by omega)
 ·exact .inl (by omega)
 ·exact .inr ⟨by omega,ue h1 h2⟩
theorem Cu {a b:Mpg}(h:bef a b):¬(b.frm=a.frm∧b.tag=a.tag):=by
 rintro⟨e1,e2⟩
 rcases h with h|⟨_,h⟩
 ·omega
 ·rw[e2,rT] at h;cases h
def sj (a b:Str):Int:=if bl a b=true then -1 else if a=b then 0 else 1
def Au (a b:Mpg):Int:=if gT a.frm b.frm=0 then sj a.tag b.tag else gT a.frm b.frm
theorem xM {a b:Mpg}:Au a b<0↔bef a b:=by
 unfold Au sj gT bef
 by_cases h1:a.frm<b.frm
 ·simp[h1]
 ·by_cases h2:b.frm<a.frm
  ·simp[h1,h2]
   omega
  ·have e:a.frm=b.frm:=by omega
   simp only[e,if_true,if_false,Int.lt_irrefl,false_or,true_and]
   by_cases h3:bl a.tag b.tag=true
   ·simp[h3]
   ·simp only[h3]
    by_cases h4:a.tag=b.tag
    ·simp[h4]
    ·simp[h4]
def cpQ (n:Int):Prop:=0≤n∧n≤1114111
def j8 (m:Mpg):Prop:=cpQ m.frm∧∀ j (h:j<m.to.length),cpQ m.to[j]
def zC (m:Mpg):Prop:=m.tag=[]∨lU m.tag
def Tw (l:List Mpg):Prop:=∃ i,∃ h:i<l.length,∃ k,∃ hk:k<i,l[i].frm=(l[k]'(by omega)).frm∧l[i].tag=(l[k]'(by omega)).tag
def Asc (l:List Mpg):Prop:=∀ i (h:i<l.length),∀ h0:i≠0,bef (l[i-1]'(by omega)) l[i]
theorem Asc.lt {l:List Mpg}(h:Asc l):∀ (d i:Nat) (hi:i+d+1<l.length),bef (l[i]'(by omega)) l[i+d+1]
 | 0,i,hi=>by have:=h (i+1) hi (by omega);simpa using this
 | d+1,i,hi=>yk (Asc.lt h d i (by omega)) (h (i+d+1+1) hi (by omega))
theorem Asc.once {l:List Mpg}(h:Asc l):¬Tw l:=by
 rintro⟨i,hi,k,hk,e⟩
 have:=Asc.lt h (i-k-1) k (by omega)
 have e2:k+(i-k-1)+1=i:=by omega
 simp only[e2] at this
 exact Cu this e
noncomputable def dV (l:List Mpg):Int:=
 if ∀ i (h:i<l.length),j8 l[i] then(if ∀ i (h:i<l.length),l[i].to.length≤64 then(if ∀ i (h:i<l.length),zC l[i] then 0 else 6) else 2) else 1
def MOk (l:List Mpg):Prop:=dV l=0∧Asc l
end
section
open Go Go.Am Classical
set_option maxRecDepth 100000
variable [GT]
abbrev cY (r:Rng):List D:=[i64 r.lo,i64 r.hi]
abbrev dQ (l:List Rng):D:=lstS cY l
theorem aJ (l:List Rng):aM (dQ l)=true:=eh (fun _=>rfl) l
abbrev iL (m:Mpg):List D:=[i64 m.frm,aa m.to,.str m.tag]
abbrev cR (l:List Mpg):D:=lstS iL l
theorem lW (m:Mpg):aD (iL m)=true:=by simp[aD,aM,aN]
theorem aK (l:List Mpg):aM (cR l)=true:=eh lW l
structure Db where
 major:Int
 minor:Int
 cat:Prp
 wid:Prp
 scr:Prp
 gra:Prp
 wor:Prp
 sen:Prp
 lin:Prp
 classes:List Spn
 decomp:List Mpg
 excl:List Rng
 lower:List Mpg
 upper:List Mpg
 title:List Mpg
 fold:List Mpg
 cased:List Rng
 ignor:List Rng
 start:List Rng
 cont:List Rng
 medial:List Rng
 confu:List Mpg
abbrev prpC (p:Prp):List D:=[strs p.names,c6 p.spans]
abbrev dbC (d:Db):List D:=[i64 d.major,i64 d.minor,strs d.cat.names,c6 d.cat.spans,strs d.wid.names,c6 d.wid.spans,strs d.scr.names,c6 d.scr.spans,strs d.gra.names,c6 d.gra.spans,strs d.wor.names,c6 d.wor.spans,strs d.sen.names,c6 d.sen.spans,strs d.lin.names,c6 d.lin.spans,
 c6 d.classes,cR d.decomp,dQ d.excl,cR d.lower,cR d.upper,cR d.title,cR d.fold,dQ d.cased,dQ d.ignor,dQ d.start,dQ d.cont,dQ d.medial,cR d.confu]
abbrev dbD (d:Db):D:=.agg (dbC d)
theorem aS (d:Db):aD (dbC d)=true:=by simp[aD,aM,aF,aH,aK,aJ]
def prop (d:Db):Nat→Prp
 | 0=>d.cat
 | 1=>d.wid
 | 2=>d.scr
 | 3=>d.gra
 | 4=>d.wor
 | 5=>d.sen
 | _=>d.lin
def xp (d:Db):Nat→List Rng
 | 0=>d.excl
 | 1=>d.cased
 | 2=>d.ignor
 | 3=>d.start
 | 4=>d.cont
 | _=>d.medial
def fX (d:Db):Nat→List Mpg
 | 9=>d.decomp
 | 11=>d.lower
 | 12=>d.upper
 | 13=>d.title
 | 14=>d.fold
 | _=>d.confu
def ClQ (l:List Spn) (i:Nat) (s:Spn):Prop:=(0≤s.lo∧s.lo≤s.hi∧s.hi≤1114111∧1≤s.val∧s.val≤254) ∧
 (i≠0→(l.getD (i-1) default).hi<s.lo∧¬(s.lo=(l.getD (i-1) default).hi+1∧s.val=(l.getD (i-1) default).val))
def ClV (l:List Spn):Prop:=∀ i (h:i<l.length),ClQ l i l[i]
def rn (n:Int):Prop:=0≤n∧n≤9999
def DZ (d:Db):Nat→Prop
 | 0=>rn d.major∧rn d.minor
 | 1=>PrV d.cat
 | 2=>PrV d.wid
 | 3=>PrV d.scr
 | 4=>PrV d.gra
 | 5=>PrV d.wor
 | 6=>PrV d.sen
 | 7=>PrV d.lin
 | 8=>ClV d.classes
 | 9=>MOk d.decomp
 | 10=>cx d.excl
 | 11=>MOk d.lower
 | 12=>MOk d.upper
 | 13=>MOk d.title
 | 14=>MOk d.fold
 | 15=>cx d.cased
 | 16=>cx d.ignor
 | 17=>cx d.start
 | 18=>cx d.cont
 | 19=>cx d.medial
 | _=>MOk d.confu
def DbV (d:Db):Prop:=∀ k,k<21→DZ d k
def SmM (l:List Mpg):Prop:=(∀ i (h:i<l.length),i<30→l[i].to.length≤65∧l[i].tag.length≤40)∧l.length≤20
def SmD (d:Db):Prop:=d.classes.length≤16∧(∀ k,k<7→(prop d k).names.length≤30∧(prop d k).spans.length≤16)∧(∀ k,k<6→(xp d k).length≤12)∧∀ k,k<21→SmM (fX d k)
structure Db.ok (d:Db):Prop where
 prop:∀ k,(prop d k).ok
 sets:∀ k,(xp d k).length≤9223372036854775807
 maps:∀ k,(fX d k).length≤9223372036854775807∧∀ i (h:i<(fX d k).length),(fX d k)[i].to.length≤9223372036854775807∧(fX d k)[i].tag.length≤9223372036854775807
 classes:d.classes.length≤9223372036854775807
def gJ:List Int→Int
 | []=>0
 | e::l=>if e=0 then gJ l else e
theorem sb:∀ {l:List Int}{k:Nat}(h:k<l.length),(∀ i (hi:i<l.length),i<k→l[i]=0)→l[k]≠0→gJ l=l[k]
 | [],k,h,_,_=>by simp at h
 | e::l,0,_,_,h2=>by simp only[List.getElem_cons_zero] at h2 ⊢;rw[gJ,if_neg h2]
 | e::l,k+1,h,h1,h2=>by
  have e0:e=0:=h1 0 (by simp) (by omega)
  rw[gJ,if_pos e0]
  simp only[List.getElem_cons_succ] at h2 ⊢
  exact sb (by simpa using h) (fun i hi hk=>by have:=h1 (i+1) (by simpa using hi) (by omega);simpa using this) h2
theorem kY:∀ {l:List Int},gJ l=0↔∀ i (hi:i<l.length),l[i]=0
 | []=>by simp[gJ]
 | e::l=>by
  rw[gJ]
  constructor
  ·intro h i hi
   split at h
   ·rename_i e0
    cases i with
    | zero=>simpa using e0
    | succ i=>simpa using kY.1 h i (by simpa using hi)
   ·rename_i e0;exact absurd h e0
  ·intro h
   have e0:e=0:=h 0 (by simp)
   rw[if_pos e0]
   exact kY.2 fun i hi=>by have:=h (i+1) (by simpa using hi);simpa using this
end
section
open Go Go.Am Classical
set_option maxRecDepth 100000
variable [GT]
def oA:List Int→List Int→Int
 | [],[]=>0
 | [],_::_=>-1
 | _::_,[]=>1
 | x::a,y::b=>if x<y then -1 else if y<x then 1 else oA a b
theorem rQ {a b:List Int}{k:Nat}(h1:k<a.length) (h2:k<b.length):oA (a.drop k) (b.drop k)=if a[k]<b[k] then -1 else if b[k]<a[k] then 1 else oA (a.drop (k+1)) (b.drop (k+1)):=by
 rw[List.drop_eq_getElem_cons h1,List.drop_eq_getElem_cons h2];rfl
theorem Av {a b:List Int}{k:Nat}(h1:k≤a.length) (h2:k≤b.length) (hk:¬(k<a.length∧k<b.length)):oA (a.drop k) (b.drop k)=if a.length<b.length then -1 else if b.length<a.length then 1 else 0:=by
 by_cases ha:k<a.length
 ·rw[List.drop_eq_getElem_cons ha,(List.drop_eq_nil_of_le (by omega):b.drop k=[]),if_neg (by omega),if_pos (by omega)];rfl
 ·rw[(List.drop_eq_nil_of_le (by omega):a.drop k=[])]
  by_cases hb:k<b.length
  ·rw[List.drop_eq_getElem_cons hb,if_pos (by omega)];rfl
  ·rw[(List.drop_eq_nil_of_le (by omega):b.drop k=[]),if_neg (by omega),if_neg (by omega)];rfl
theorem nE:∀ {a b:List Int},oA a b=0↔a=b
 | [],[]=>by simp[oA]
 | [],_::_=>by simp[oA]
 | _::_,[]=>by simp[oA]
 | x::a,y::b=>by
  simp only[oA,List.cons.injEq]
  have:=nE (a:=a) (b:=b)
  by_cases h1:x<y
  ·rw[if_pos h1];constructor
   ·intro h;omega
   ·rintro⟨rfl,_⟩;omega
  ·rw[if_neg h1]
   by_cases h2:y<x
   ·rw[if_pos h2];constructor
    ·intro h;omega
    ·rintro⟨rfl,_⟩;omega
   ·rw[if_neg h2,this]
    exact⟨fun h=>⟨by omega,h⟩,fun h=>h.2⟩
theorem rc {a b:List Int}(ha:a.length≤9223372036854775807):Pu Tryz.prog 34 [aa a,aa b] (i64 (oA a b)):=by
 refine Pu.of_v aA T0 Tryz.func34 rfl rfl (by simp[aD,aN]) ?_
 repeat' ((conv=>whnf)<;>(first|refine aB.go aA T0 ?_|exact True.intro|(refine Br.mk (fun _=>?_) (fun _=>?_)<;>(try(exfalso;omega)))|refine stq ?_))
 refine aT.by aA T0 (fun k:Nat=>⟨tmp 46 [(0,aa a),(1,aa b),(5,i64 (k:Int))],⟨0,[]⟩⟩) (fun k=>k≤a.length∧k≤b.length∧oA (a.drop k) (b.drop k)=oA a b) (fun k=>a.length-k) 0 ⟨by omega,by omega,rfl⟩ ?_ ?_
 ·exact Lf.of2 [] [] enA bxA rfl rfl
 intro k ⟨h1,h2,h3⟩
 repeat' ((conv=>whnf)<;>(first|refine aB.go aA T0 ?_|exact True.intro|(refine Br.mk (fun _=>?_) (fun _=>?_)<;>(try(exfalso;omega)))|refine stq ?_))
 all_goals(conv=>whnf)
 all_goals first
  | (refine aI.int ?_
     rw[←h3]
     first
      | (rw[Av h1 h2 (by omega)];(repeat' split)<;>omega)
      | (rw[rQ (by omega) (by omega)];(repeat' split)<;>omega))
  | skip
 refine⟨k+1,⟨by omega,by omega,by rw[←h3,rQ (k:=k) (by omega) (by omega),if_neg (by omega),if_neg (by omega)]⟩,by omega,?_⟩
 exact Lf.of2 [] [] enA bxA rfl rfl
theorem C7 {a b:List Int}(ha:a.length≤9223372036854775807):Pu Tryz.prog 14 [aa a,aa b] (boo (decide (a=b))):=by
 refine Pu.of_v aA T0 Tryz.func14 rfl rfl (by simp[aD,aN]) ?_
 repeat' ((conv=>whnf)<;>(first|refine aB.go aA T0 ?_|exact True.intro|(refine Br.mk (fun _=>?_) (fun _=>?_)<;>(try(exfalso;omega)))|refine stq ?_|refine Cll.pu (rc sd) ?_|refine aG.pu (rc sd) ?_))
 all_goals(conv=>whnf)
 all_goals first
  | exact aI.yes (nE.1 (by assumption))
  | exact aI.no (fun hc=>absurd (nE.2 hc) (by assumption))
theorem v9 {t:Tbl}{l:List Int}(ht:t.ok) (hx:l.length≤1000) (hok:okL t l):Pu Tryz.prog 50 [oh t,aa l] (aa (acts t l)):=by
 have hL:=Left_c ht hx
 have hR:=C5 ht hx
 rw[if_pos hok] at hL hR
 have hc:=hok.1
 have hl:=hok.2.2.2.2.1
 have hr:=hok.2.2.2.2.2
 have nL:=SL_len (nx:=t.left.next) (l:=l)
 have nR:=SR_len (nx:=t.right.next) (l:=l)
 refine Pu.of_v aA T0 Tryz.func50 rfl rfl (by simp[aM,aD,cL,aN,aF]) ?_
 repeat' ((conv=>whnf)<;>(first|refine aB.go aA T0 ?_|exact True.intro|(refine Br.mk (fun _=>?_) (fun _=>?_)<;>(try(exfalso;omega)))|refine stq ?_|refine aG.pu hL ?_|refine aG.pu hR ?_))
 all_goals(conv=>whnf)
 refine aT.by2 aA T0 (fun(k:Nat) (o:List Int)=>⟨tmp 41 [(2,.ptr 0 0),(5,aa (SL t.left.next l)),(6,aa (SR t.right.next l)),(7,ah 1 1 o),(18,i64 (SL t.left.next l).length),(19,i64 (k:Int))],⟨2,cj 1 (fun x=>[i64 x]) o++[(0,.cells [strs t.classes,aa t.actions,bV t.left.next,bV t.left.marks,bV t.right.next,bV t.right.marks] true)]⟩⟩)
  (fun k o=>k≤l.length+1∧o=(acts t l).take k) (fun k _=>l.length+1-k) 0 [] ⟨by omega,rfl⟩ ?_ ?_
 ·exact Lf.of2 [(0,_)] [] enA bxA rfl rfl
 intro k o ⟨h3,h4⟩
 by_cases hk:k<l.length+1
 ·have d1:=kI hl hc k (by omega)
  have d2:=kH hr hc (l.length-k) (by omega)
  have hd:=Aj hok.2 d1 d2
  rw[←BM (nx:=t.left.next) (l:=l) (k:=k) (by omega),←BL (nx:=t.right.next) (l:=l) (k:=k) (by omega)] at hd
  have hs:=yo (t:=t) (l:=l) hk
  rw[←h4,←BM (nx:=t.left.next) (l:=l) (k:=k) (by omega),←BL (nx:=t.right.next) (l:=l) (k:=k) (by omega)] at hs
  cases o with
  | nil=>
   repeat' ((conv=>whnf)<;>(first|refine aB.go aA T0 ?_|exact True.intro|(refine Br.mk (fun _=>?_) (fun _=>?_)<;>(try(exfalso;omega)))|refine stq ?_|refine aG.pu hd ?_))
   all_goals(conv=>whnf)
   refine⟨k+1,_,⟨by omega,hs.symm⟩,by omega,?_⟩
   exact Lf.of2 [(0,_),(1,_)] [] enA bxA rfl rfl
  | cons x xs=>
   have hlen:(x::xs).length≤1001:=by rw[h4];simp[acts];omega
   repeat' ((conv=>whnf)<;>(first|refine aB.go aA T0 ?_|exact True.intro|(refine Br.mk (fun _=>?_) (fun _=>?_)<;>(try(exfalso;omega)))|refine stq ?_|refine aG.pu hd ?_))
   all_goals(conv=>whnf)
   refine⟨k+1,_,⟨by omega,hs.symm⟩,by omega,?_⟩
   exact Lf.of2 [(0,_),(1,_)] [] (by(repeat(first|exact aP.nil|refine aP.cons rfl (by first|exact Rd.sl' rfl (by simp) (by simp)|exact rdA|fail) ?_|fail));(first|done|fail)) (by(repeat(first|exact Bxs.nil|refine Bxs.cons rfl rfl rfl (by first|exact Rb.cells (Rds.eqs (ak (by intro _;rfl) (x::xs) _) (aO (by intro _;rfl) _)) rfl|exact rbB|exact Rb.cells (by(repeat(first|exact Rds.nil|refine Rds.cons (by first|exact Rd.sl' rfl (by simp) (by simp)|exact rdA|fail) ?_|fail));(first|done|fail)) rfl|exact rbC|fail) ?_|fail));(first|done|fail)) rfl rfl
 ·have hall:(acts t l).take k=acts t l:=List.take_of_length_le (by rw[mZ];omega)
  rw[hall] at h4
  cases o with
  | nil=>exact absurd h4.symm (by intro h;have:=mZ (t:=t) (l:=l);rw[h] at this;simp at this)
  | cons x xs=>
   repeat' ((conv=>whnf)<;>(first|refine aB.go aA T0 ?_|exact True.intro|(refine Br.mk (fun _=>?_) (fun _=>?_)<;>(try(exfalso;omega)))|refine stq ?_))
   rw[←h4]
   exact aI.own1 (id:=1) (l:=x::xs) (fun _=>rfl)
theorem vj {l:List Str}{s:Str}(h:1≤l.length):0≤gS l s∧gS l s<l.length:=by
 unfold gS
 split
 ·rename_i hm
  have:=List.idxOf_lt_length_of_mem hm
  omega
 ·omega
theorem pO {p:Prp}{t:Tbl}{text:List Int}(hv:TV t):CL (bI p t.classes text) t.classes.length:=by
 intro i h
 simp only[bI,List.getElem_map]
 exact vj hv.1.1
theorem zu {p:Prp}{t:Tbl}{text:List Int}(hv:TV t):okL t (bI p t.classes text):=⟨pO hv,hv⟩
noncomputable def iY (p:Prp) (t:Tbl) (text:List Int):List Int:=if TV t then acts t (bI p t.classes text) else []
theorem oz {p:Prp}{t:Tbl}{text:List Int}(hp:p.ok) (ht:t.ok) (h1:p.names.length≤1000) (h2:p.spans.length≤1000) (hx:text.length≤1000):Pu Tryz.prog 22 [fW p,oh t,aa text] (aa (iY p t text)):=by
 refine Pu.of_v aA T0 Tryz.func22 rfl rfl (by simp[aM,aD,aF,aH,aN,cL]) ?_
 by_cases hv:TV t
 ·have hc:=re (text:=text) hp ht (by omega) (by omega) (by omega)
  rw[if_pos hv] at hc
  have ha:=v9 ht (show(bI p t.classes text).length≤1000 by simp[bI];omega) (zu hv)
  rw[iY,if_pos hv]
  repeat' ((conv=>whnf)<;>(first|refine aB.go aA T0 ?_|exact True.intro|(refine Br.mk (fun _=>?_) (fun _=>?_)<;>(try(exfalso;omega)))|refine stq ?_|(refine Cll.dec (ij ht) (fun _=>?_) (fun _=>?_)<;>(try contradiction))|refine bD.by aA T0 [0,0,0,0,14,31,63] (by kernel_rfl) ?_|refine aG.pu hc ?_|refine aG.pu ha ?_))
  all_goals(conv=>whnf)
  exact aI.same (aN _) rfl
 ·rw[iY,if_neg hv]
  repeat' ((conv=>whnf)<;>(first|refine aB.go aA T0 ?_|exact True.intro|(refine Br.mk (fun _=>?_) (fun _=>?_)<;>(try(exfalso;omega)))|refine stq ?_|(refine Cll.dec (ij ht) (fun _=>?_) (fun _=>?_)<;>(try contradiction))))
  all_goals(conv=>whnf)
  exact⟨.nil⟩
def btw:Int→List Int→List Rng
 | _,[]=>[]
 | s,e::l=>if s<e then⟨s,e⟩::btw e l else btw s l
theorem xP {s e:Int}{l:List Int}(h:s<e):btw s (e::l)=⟨s,e⟩::btw e l:=by rw[btw,if_pos h]
theorem btw_no {s e:Int}{l:List Int}(h:¬s<e):btw s (e::l)=btw s l:=by rw[btw,if_neg h]
theorem dG {α β:Type}{P:Program}(x:Sem α) (f:α→Sem β):bv P (x >>= f)=(bv P x).bind fun a=>bv P (f a):=by
 show bv P (x.bind f)=_
 induction x with
 | pure a=>rfl
 | program k ih=>exact ih _
 | mark m k ih=>exact ih
 | _=>rfl
theorem qo {α β:Type}{P:Program}(x:Sem α) (f:α→β):bv P (f <$> x)=(bv P x).map f:=by
 rw[map_eq_pure_bind,dG]
 cases bv P x<;>rfl
theorem eZ {α:Type}{P:Program}(a:α):bv P (pure a:Sem α)=some a:=rfl
theorem e7 {P:Program}:bv P program=some P:=rfl
theorem eY {P:Program}{t:TypeId}{d:TypeDesc}(h:P.underlying t=some d):bv P (underlying t)=some d:=by
 simp only[underlying,dG,e7,Option.bind_some,h,eZ]
theorem nW {P:Program}{d:Nat}{t:TypeId}{k:IntKind}{a b:Int}(h:P.underlying t=some (.int k)):bv P (Op.equalIn (d+1) t (.int .i64 a) (.int .i64 b))=some (a == b):=by
 simp[Op.equalIn,dG,eY h,eZ]
theorem o9 {P:Program}{t:TypeId}{k:IntKind}{cs:Array Value}{o:Nat}{v:Value}(h:P.underlying t=some (.int k)) (hv:cs[o]?=some v):bv P (part t cs o)=some v:=by
 simp[part,isAgg,dG,eY h,eZ,hv]
theorem nV {P:Program}{d:Nat}{t:TypeId}{f0 f1:Field}{k:IntKind}{a b c e:Int}(h:P.underlying t=some (.struct #[f0,f1])) (hs:P.stoodInHeld t=false) (n0:f0.name ≠ "_") (n1:f1.name ≠ "_") (o0:f0.offset=0) (o1:f1.offset=1) (t0:P.underlying f0.type=some (.int k)) (t1:P.underlying f1.type=some (.int k)) :
  bv P (Op.equalIn (d+2) t (.agg #[.int .i64 a,.int .i64 b]) (.agg #[.int .i64 c,.int .i64 e]))=some (a == c&&b == e):=by
 rw[Op.equalIn]
 simp[dG,eY h,e7,hs,n0,n1,o0,o1,o9 t0,nW t0]
 by_cases h1:a=c<;>by_cases h2:b=e<;>simp[h1,h2,dG,eZ,o9 t1,nW t1]
theorem BK {P:Program}{t:TypeId}{f0 f1:Field}{k:IntKind}{a b c e:Int}{ox oy:Operand}(h:P.underlying t=some (.struct #[f0,f1])) (hs:P.stoodInHeld t=false) (n0:f0.name ≠ "_") (n1:f1.name ≠ "_") (o0:f0.offset=0) (o1:f1.offset=1) (t0:P.underlying f0.type=some (.int k)) (t1:P.underlying f1.type=some (.int k)) (hg:P.eqGuardType P.depth t=false) :
  cK P .neq t ox oy (.agg [i64 a,i64 b]) (.agg [i64 c,i64 e])=some (.v (.bool (!(a == c&&b == e)))):=by
 have e1:bv P (do eqGuard .neq t ox oy (.agg #[.int .i64 a,.int .i64 b]) (.agg #[.int .i64 c,.int .i64 e]);binOp .neq t (.agg #[.int .i64 a,.int .i64 b]) (.agg #[.int .i64 c,.int .i64 e]))=some (.bool (!(a == c&&b == e))):=by
  have e2:bv P (Op.equalIn 10000 t (.agg #[.int .i64 a,.int .i64 b]) (.agg #[.int .i64 c,.int .i64 e]))=some (a == c&&b == e):=nV (d:=9998) h hs n0 n1 o0 o1 t0 t1
  simp[eqGuard,binOp,dG,e7,hg,Op.equal,Op.maxDepth,e2,eZ,qo]
 have e3:cK P .neq t ox oy (.agg [i64 a,i64 b]) (.agg [i64 c,i64 e])=(match bv P (do eqGuard .neq t ox oy (.agg #[.int .i64 a,.int .i64 b]) (.agg #[.int .i64 c,.int .i64 e]);binOp .neq t (.agg #[.int .i64 a,.int .i64 b]) (.agg #[.int .i64 c,.int .i64 e])) with|some r=>ofV r|none=>none):=rfl
 rw[e3,e1]
 rfl
theorem oH {a b c e:Int}{ox oy:Operand}:cK Tryz.prog .neq 51 ox oy (.agg [i64 a,i64 b]) (.agg [i64 c,i64 e])=some (.v (.bool (!(a == c&&b == e)))):=
 BK (k:=.i64) rfl (by kernel_rfl) (by decide) (by decide) rfl rfl rfl rfl (by kernel_rfl)
theorem oG {x y:Rng}{ox oy:Operand}(h:¬x=y):cK Tryz.prog .neq 51 ox oy (.agg (cY x)) (.agg (cY y))=some (.v (.bool true)):=by
 rw[oH]
 cases x;cases y
 simp at h
 simp only[Option.some.injEq,D.v.injEq,Value.bool.injEq,Bool.not_eq_true',Bool.and_eq_false_imp,beq_iff_eq,beq_eq_false_iff_ne]
 exact h
theorem sN {x:Rng}{ox oy:Operand}:cK Tryz.prog .neq 51 ox oy (.agg (cY x)) (.agg (cY x))=some (.v (.bool false)):=by
 rw[oH]
 simp
end
end Go.Proofs.YtjjbmnacobnfeaaGreatDoor
