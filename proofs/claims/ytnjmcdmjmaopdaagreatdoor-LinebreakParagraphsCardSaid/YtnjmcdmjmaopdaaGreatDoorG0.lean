/-
  Contracts of functions over data: properties.
-/
import Derived.Test.YtnjmcdmjmaopdaaGreatDoorQ1
import Derived.Test.YtnjmcdmjmaopdaaGreatDoorAmF
import Derived.Test.YtnjmcdmjmaopdaaGreatDoorH0
set_option linter.unusedSectionVars false
namespace Go.Proofs.YtnjmcdmjmaopdaaGreatDoor
section
open Go Go.Am Classical
set_option maxRecDepth 100000
variable [GT]
theorem ku {s:Str}(hs:s.length≤9223372036854775807):Pu Tryz.prog 97 [.str s] (boo (decide (s≠[]∧s.length≤32∧vt s))):=by
 refine Pu.of_v aA T0 Tryz.func97 rfl rfl rfl ?_;repeat' ((conv=>whnf)<;>(first|refine aB.go aA T0 ?_|exact kQ|(refine Br.mk (fun _=>?_) (fun _=>?_)<;>(try(exfalso;omega)))|refine stq ?_))
 all_goals(conv=>whnf)
 all_goals first
  | exact aH.no (fun hc=>hc.1 (by assumption))
  | exact aH.no (fun hc=>by omega)
  | skip
 refine aU.by aA T0 (fun k:Nat=>⟨tmp 51 [(0,.str s),(14,i64 s.length),(15,i64 (k:Int))],⟨0,[]⟩⟩) (fun k=>k≤s.length∧∀ i (h:i<s.length),i<k→wb (s[i].toNat:Int)) (fun k=>s.length-k) 0 ⟨by omega,fun _ _ h=>by omega⟩ ?_ ?_
 ·exact Lf.of2 [] [] enA bxA rfl rfl
 intro k ⟨h1,h2⟩;repeat' ((conv=>whnf)<;>(first|refine aB.go aA T0 ?_|exact kQ|(refine Br.mk (fun _=>?_) (fun _=>?_)<;>(try(exfalso;omega)))|refine stq ?_))
 all_goals(conv=>whnf)
 all_goals first
  | exact aH.no (fun hc=>absurd (hc.2.2 k (by omega)) (by unfold wb;omega))
  | exact aH.yes ⟨by assumption,by omega,cA (by omega) h2⟩
  | (refine⟨k+1,⟨by omega,ay (by omega) h2 (by unfold wb;omega)⟩,by omega,?_⟩
     exact Lf.of2 [] [] enA bxA rfl rfl)
def PV (l:List Str):Prop:=1≤l.length∧l.length≤250∧∀ i (h:i<l.length),lw l[i]∧¬l[i]∈l.take i
theorem yS {l:List Str}(hn:l.length≤9223372036854775807) (hl:long l):Pu Tryz.prog 101 [strs l] (boo (decide (PV l))):=by
 refine Pu.of_v aA T0 Tryz.func101 rfl rfl (by simp[aD,aG]) ?_;repeat' ((conv=>whnf)<;>(first|refine aB.go aA T0 ?_|exact kQ|(refine Br.mk (fun _=>?_) (fun _=>?_)<;>(try(exfalso;omega)))|refine stq ?_))
 all_goals(conv=>whnf)
 all_goals first
  | exact aH.no (fun hc=>by have:=hc.1;have:=hc.2.1;omega)
  | skip
 refine aU.by aA T0 (fun k:Nat=>⟨tmp 39 [(0,strs l),(3,i64 (k:Int))],⟨0,[]⟩⟩)
  (fun k=>k≤l.length∧∀ i (h:i<l.length),i<k→lw l[i]∧¬l[i]∈l.take i) (fun k=>l.length-k) 0 ⟨by omega,fun _ _ h=>by omega⟩ ?_ ?_
 ·exact Lf.of2 [] [] enA bxA rfl rfl
 intro k ⟨h1,h2⟩;repeat' ((conv=>whnf)<;>(first|refine aB.go aA T0 ?_|exact kQ|(refine Br.mk (fun _=>?_) (fun _=>?_)<;>(try(exfalso;omega)))|refine stq ?_|refine Cll.dec (uY sd) (fun _=>?_) (fun _=>?_)|refine aN.dec (uY sd) (fun _=>?_) (fun _=>?_)))
 all_goals(conv=>whnf)
 all_goals first
  | exact aH.no (fun hc=>by obtain⟨⟨_,_,_⟩,_⟩:=hc.2.2 k (by omega);first|omega|contradiction|simp_all)
  | exact aH.yes ⟨by omega,by omega,cA (by omega) h2⟩
  | skip
 rename_i a1
 refine aU.by aA T0 (fun j:Nat=>⟨tmp 39 [(0,strs l),(3,i64 (k:Int)),(4,i64 (j:Int))],⟨0,[]⟩⟩)
  (fun j=>j≤k∧∀ i (h:i<l.length),i<j→l[i]≠l[k]) (fun j=>k-j) 0 ⟨by omega,fun _ _ h=>by omega⟩ ?_ ?_
 ·exact Lf.of2 [] [] enA bxA rfl rfl
 intro j ⟨h3,h4⟩;repeat' ((conv=>whnf)<;>(first|refine aB.go aA T0 ?_|exact kQ|(refine Br.mk (fun _=>?_) (fun _=>?_)<;>(try(exfalso;omega)))|refine stq ?_))
 all_goals(conv=>whnf)
 all_goals first
  | exact aH.no (fun hc=>(hc.2.2 k (by omega)).2 (jI.2 ⟨j,by omega,by omega,by assumption⟩))
  | (refine⟨j+1,⟨by omega,ay (by omega) h4 (by assumption)⟩,by omega,?_⟩
     exact Lf.of2 [] [] enA bxA rfl rfl)
  | (refine⟨k+1,⟨by omega,ay (by omega) h2 ⟨a1,fun hm=>by obtain⟨i,hi,hlt,e⟩:=jI.1 hm;exact h4 i hi (by omega) e⟩⟩,by omega,?_⟩
     exact Lf.of2 [] [] enA bxA rfl rfl)
abbrev nilM:D:=.v (.map none)
theorem CB {l:List Str}(hl:long l) (hp:¬PV l):Pu Tryz.prog 62 [strs l] (.tup [nilM,boo false]):=by
 refine Pu.of_v aA T0 Tryz.func62 rfl rfl (by simp[aD,aG]) ?_;repeat' ((conv=>whnf)<;>(first|refine aB.go aA T0 ?_|exact kQ|(refine Br.mk (fun _=>?_) (fun _=>?_)<;>(try(exfalso;omega)))|refine stq ?_))
 all_goals(conv=>whnf)
 all_goals first
  | exact aH.same rfl rfl
  | skip
 refine aU.by aA T0 (fun k:Nat=>⟨tmp 42 [(4,.map 0),(18,strs l),(19,i64 l.length),(20,i64 (k:Int))],⟨1,[(0,.map (pos (l.take k) 0))]⟩⟩)
  (fun k=>k≤l.length∧∀ i (h:i<l.length),i<k→lw l[i]∧¬l[i]∈l.take i) (fun k=>l.length-k) 0 ⟨by omega,fun _ _ h=>by omega⟩ ?_ ?_
 ·exact Lf.of2 [(0,_)] [] enA bxA rfl rfl
 intro k ⟨h1,h2⟩;repeat' ((conv=>whnf)<;>(first|refine aB.go aA T0 ?_|exact kQ|(refine Br.mk (fun _=>?_) (fun _=>?_)<;>(try(exfalso;omega)))|refine stq ?_|refine Cll.dec (ku sd) (fun _=>?_) (fun _=>?_)|refine aN.dec (ku sd) (fun _=>?_) (fun _=>?_)|(refine fg.pos (fun _ _=>?_) (fun _=>?_)<;>(try contradiction))))
 all_goals(conv=>whnf)
 all_goals first
  | exact aH.same rfl rfl
  | (exfalso;exact hp ⟨by omega,by omega,cA (by omega) h2⟩)
  | skip
 rename_i a1 a2 a3;refine⟨k+1,⟨by omega,ay (by omega) h2 ⟨a2,a1⟩⟩,by omega,?_⟩;exact Lf.of2 [(0,_)] [] enA bxA rfl rfl
theorem zr {l:List Str}(hl:long l) (hp:PV l):Pk Tryz.prog 62 [strs l] 1 (fun n=>.tup [.map n,boo true]) (fun n=>[(n,.map (pos l 0))]):=by
 refine Pk.of_v aA T0 Tryz.func62 rfl rfl (by simp[aD,aG]) ?_;repeat' ((conv=>whnf)<;>(first|refine aB.go aA T0 ?_|exact kQ|(refine Br.mk (fun _=>?_) (fun _=>?_)<;>(try(exfalso;omega)))|refine stq ?_))
 all_goals(conv=>whnf)
 all_goals first
  | (exfalso;have:=hp.1;have:=hp.2.1;omega)
  | skip
 refine aU.by aA T0 (fun k:Nat=>⟨tmp 42 [(4,.map 0),(18,strs l),(19,i64 l.length),(20,i64 (k:Int))],⟨1,[(0,.map (pos (l.take k) 0))]⟩⟩)
  (fun k=>k≤l.length) (fun k=>l.length-k) 0 (by omega) ?_ ?_
 ·exact Lf.of2 [(0,_)] [] enA bxA rfl rfl
 intro k h1;repeat' ((conv=>whnf)<;>(first|refine aB.go aA T0 ?_|exact kQ|(refine Br.mk (fun _=>?_) (fun _=>?_)<;>(try(exfalso;omega)))|refine stq ?_|refine Cll.dec (ku sd) (fun _=>?_) (fun _=>?_)|refine aN.dec (ku sd) (fun _=>?_) (fun _=>?_)|(refine fg.pos (fun _ _=>?_) (fun _=>?_)<;>(try contradiction))))
 all_goals(conv=>whnf)
 all_goals first
  | (exfalso;obtain⟨a1,a2⟩:=hp.2.2 k (by omega);first|contradiction|(rename_i a3;exact a3 a1))
  | (refine⟨k+1,by omega,by omega,?_⟩
     exact Lf.of2 [(0,_)] [] enA bxA rfl rfl)
  | exact⟨[0],rfl,⟨by simp,fun n=>.tup (.cons (.map (by simp[sgn])) (.cons (.same rfl) .nil)),fun n=>.cons (id:=0) (by simp[sgn]) rfl rfl (.map (.eqs (by rw[kE (by omega)]) (ab _ _))) .nil⟩⟩
structure Spn where
 lo:Int
 hi:Int
 val:Int
 deriving Inhabited
structure Prp where
 names:List Str
 spans:List Spn
abbrev A0 (s:Spn):List D:=[i64 s.lo,i64 s.hi,i64 s.val]
abbrev dK (l:List Spn):D:=lstS A0 l
abbrev iE (p:Prp):D:=.agg [strs p.names,dK p.spans]
theorem aK (l:List Spn):aJ (dK l)=true:=fC (fun _=>rfl) l
theorem nM (p:Prp):aJ (iE p)=true:=by simp[aJ,aD,aG,aK]
structure Prp.ok (p:Prp):Prop where
 names:p.names.length≤9223372036854775807
 long:long p.names
 spans:p.spans.length≤9223372036854775807
def SpQ (l:List Spn) (n:Int) (i:Nat) (s:Spn):Prop:=(0≤s.lo∧s.lo≤s.hi∧s.hi≤1114111∧1≤s.val∧s.val<n) ∧
 (i≠0→(l.getD (i-1) default).hi<s.lo∧¬(s.lo=(l.getD (i-1) default).hi+1∧s.val=(l.getD (i-1) default).val))
def PrV (p:Prp):Prop:=PV p.names∧∀ i (h:i<p.spans.length),SpQ p.spans p.names.length i p.spans[i]
theorem eQ {n:Int}:Pu Tryz.prog 98 [i64 n] (boo (decide (0≤n∧n≤1114111))):=by
 refine Pu.of_v aA T0 Tryz.func98 rfl rfl rfl ?_;repeat' ((conv=>whnf)<;>(first|refine aB.go aA T0 ?_|exact kQ|(refine Br.mk (fun _=>?_) (fun _=>?_)<;>(try(exfalso;omega)))|refine stq ?_))
 all_goals(conv=>whnf)
 all_goals first
  | exact aH.yes (by omega)
  | exact aH.no (by omega)
theorem mc {s:Spn}:Pu Tryz.prog 63 [.agg (A0 s)] (boo (decide (0≤s.lo∧s.lo≤s.hi∧s.hi≤1114111))):=by
 refine Pu.of_v aA T0 Tryz.func63 rfl rfl rfl ?_;repeat' ((conv=>whnf)<;>(first|refine aB.go aA T0 ?_|exact kQ|(refine Br.mk (fun _=>?_) (fun _=>?_)<;>(try(exfalso;omega)))|refine stq ?_|refine Cll.dec (eQ) (fun _=>?_) (fun _=>?_)|refine aN.dec (eQ) (fun _=>?_) (fun _=>?_)))
 all_goals(conv=>whnf)
 all_goals first
  | exact aH.yes (by omega)
  | exact aH.no (by omega)
theorem mM {p:Prp}(hp:p.ok):Pu Tryz.prog 39 [iE p] (boo (decide (PrV p))):=by
 have hl:=hp.long;have hs:=hp.spans;by_cases hv:PV p.names
 ·refine Pu.of_v aA T0 Tryz.func39 rfl rfl (by simp[aJ,aD,aG,aK]) ?_;repeat' ((conv=>whnf)<;>(first|refine aB.go aA T0 ?_|exact kQ|(refine Br.mk (fun _=>?_) (fun _=>?_)<;>(try(exfalso;omega)))|refine stq ?_|refine Cll.pk (zr (by assumption) (by assumption)) ?_))
  all_goals(conv=>whnf)
  refine aU.by aA T0 (fun k:Nat=>⟨tmp 69 [(1,.ptr 0 0),(17,dK p.spans),(18,i64 p.spans.length),(19,i64 (k:Int))],⟨1,[(0,.cells [strs p.names,dK p.spans] true)]⟩⟩)
   (fun k=>k≤p.spans.length∧∀ i (h:i<p.spans.length),i<k→SpQ p.spans p.names.length i p.spans[i]) (fun k=>p.spans.length-k) 0 ⟨by omega,fun _ _ h=>by omega⟩ ?_ ?_
  ·exact Lf.of2 [(0,_)] [] enA bxA rfl rfl
  intro k ⟨h3,h4⟩;by_cases hk:k=0
  ·subst hk;repeat' ((conv=>whnf)<;>(first|refine aB.go aA T0 ?_|exact kQ|(refine Br.mk (fun _=>?_) (fun _=>?_)<;>(try(exfalso;omega)))|refine stq ?_|refine Cll.dec (mc) (fun _=>?_) (fun _=>?_)|refine aN.dec (mc) (fun _=>?_) (fun _=>?_)))
   all_goals(conv=>whnf)
   all_goals first
    | exact aH.no (fun hc=>by have:=(hc.2 0 (by omega)).1;omega)
    | exact aH.yes ⟨hv,fun i h=>by omega⟩
    | (refine⟨0+1,⟨by omega,ay (by omega) h4 ⟨by omega,fun h=>absurd rfl h⟩⟩,by omega,?_⟩
       exact Lf.of2 [(0,_)] [] enA bxA rfl rfl)
  ·have h5:=h4 (k-1) (by omega) (by omega);have h6:=h5.1;have e:p.spans.getD (k-1) default=p.spans[k-1]:=aW (by omega);repeat' ((conv=>whnf)<;>(first|refine aB.go aA T0 ?_|exact kQ|(refine Br.mk (fun _=>?_) (fun _=>?_)<;>(try(exfalso;omega)))|refine stq ?_|refine Cll.dec (mc) (fun _=>?_) (fun _=>?_)|refine aN.dec (mc) (fun _=>?_) (fun _=>?_)|refine Idx.atS (by intro _;rfl) (k-1) (by omega) (by omega) ?_))
   all_goals(conv=>whnf)
   all_goals first
    | exact aH.no (fun hc=>by have h7:=hc.2 k (by omega);have:=h7.1;have:=h7.2 hk;rw[e] at this;omega)
    | exact aH.yes ⟨hv,cA (by omega) h4⟩
    | (refine⟨k+1,⟨by omega,ay (by omega) h4 ⟨by omega,fun _=>by rw[e];omega⟩⟩,by omega,?_⟩
       exact Lf.of2 [(0,_)] [] enA bxA rfl rfl)
 ·refine Pu.of_v aA T0 Tryz.func39 rfl rfl (by simp[aJ,aD,aG,aK]) ?_;repeat' ((conv=>whnf)<;>(first|refine aB.go aA T0 ?_|exact kQ|(refine Br.mk (fun _=>?_) (fun _=>?_)<;>(try(exfalso;omega)))|refine stq ?_|refine Cll.pu (CB (by assumption) (by assumption)) ?_))
  all_goals(conv=>whnf)
  exact aH.no (fun hc=>hv hc.1)
theorem du {p:Prp}(hp:p.ok):Pu Tryz.prog 69 [iE p] (boo (decide (PrV p))):=by
 have hn:=hp.names;have hl:=hp.long;have hs:=hp.spans;refine Pu.of_v aA T0 Tryz.func69 rfl rfl (by simp[aJ,aD,aG,aK]) ?_;repeat' ((conv=>whnf)<;>(first|refine aB.go aA T0 ?_|exact kQ|(refine Br.mk (fun _=>?_) (fun _=>?_)<;>(try(exfalso;omega)))|refine stq ?_|refine Cll.dec (yS sd sd) (fun _=>?_) (fun _=>?_)|refine aN.dec (yS sd sd) (fun _=>?_) (fun _=>?_)))
 all_goals(conv=>whnf)
 all_goals first
  | exact aH.no (fun hc=>by have:=hc.1;contradiction)
  | skip
 rename_i hv
 refine aU.by aA T0 (fun k:Nat=>⟨tmp 88 [(1,.ptr 0 0),(3,i64 (k:Int))],⟨1,[(0,.cells [strs p.names,dK p.spans] true)]⟩⟩)
  (fun k=>k≤p.spans.length∧∀ i (h:i<p.spans.length),i<k→SpQ p.spans p.names.length i p.spans[i]) (fun k=>p.spans.length-k) 0 ⟨by omega,fun _ _ h=>by omega⟩ ?_ ?_
 ·exact Lf.of2 [(0,_)] [] enA bxA rfl rfl
 intro k ⟨h3,h4⟩;by_cases hk:k=0
 ·subst hk;repeat' ((conv=>whnf)<;>(first|refine aB.go aA T0 ?_|exact kQ|(refine Br.mk (fun _=>?_) (fun _=>?_)<;>(try(exfalso;omega)))|refine stq ?_))
  all_goals(conv=>whnf)
  all_goals first
   | exact aH.no (fun hc=>by have:=(hc.2 0 (by omega)).1;omega)
   | exact aH.yes ⟨hv,fun i h=>by omega⟩
   | (refine⟨0+1,⟨by omega,ay (by omega) h4 ⟨by omega,fun h=>absurd rfl h⟩⟩,by omega,?_⟩
      exact Lf.of2 [(0,_)] [] enA bxA rfl rfl)
 ·have h5:=h4 (k-1) (by omega) (by omega);have h6:=h5.1;have e:p.spans.getD (k-1) default=p.spans[k-1]:=aW (by omega);repeat' ((conv=>whnf)<;>(first|refine aB.go aA T0 ?_|exact kQ|(refine Br.mk (fun _=>?_) (fun _=>?_)<;>(try(exfalso;omega)))|refine stq ?_|refine Idx.atS (by intro _;rfl) (k-1) (by omega) (by omega) ?_))
  all_goals(conv=>whnf)
  all_goals first
   | exact aH.no (fun hc=>by have h7:=hc.2 k (by omega);have:=h7.1;have:=h7.2 hk;rw[e] at this;omega)
   | exact aH.yes ⟨hv,cA (by omega) h4⟩
   | (refine⟨k+1,⟨by omega,ay (by omega) h4 ⟨by omega,fun _=>by rw[e];omega⟩⟩,by omega,?_⟩
      exact Lf.of2 [(0,_)] [] enA bxA rfl rfl)
end
section
open Go Go.Am Classical
set_option maxRecDepth 100000
variable [GT]
def other:Str:=[79,116,104,101,114]
noncomputable def cnt (p:Prp):Prp:=if PrV p then p else⟨[other],[]⟩
def fr:List Spn→Int→Int
 | [],_=>0
 | s::l,c=>if s.lo≤c∧c≤s.hi then s.val else fr l c
theorem r8 {l:List Spn}{k:Nat}(h:k<l.length) (c:Int):fr (l.drop k) c=if l[k].lo≤c∧c≤l[k].hi then l[k].val else fr (l.drop (k+1)) c:=by
 rw[kK h];rfl
theorem nh {p:Prp}(hp:p.ok):Pu Tryz.prog 117 [iE p] (iE (cnt p)):=by
 refine Pu.of_v aA T0 Tryz.func117 rfl rfl (by simp[aJ,aD,aG,aK]) ?_;repeat' ((conv=>whnf)<;>(first|refine aB.go aA T0 ?_|exact kQ|(refine Br.mk (fun _=>?_) (fun _=>?_)<;>(try(exfalso;omega)))|refine stq ?_|refine Cll.dec (du sd) (fun _=>?_) (fun _=>?_)|refine aN.dec (du sd) (fun _=>?_) (fun _=>?_)))
 all_goals(conv=>whnf)
 ·rename_i hv;rw[show cnt p=p from by simp[cnt,hv]];exact aH.same (nM p) rfl
 ·rename_i hv;rw[show cnt p=⟨[other],[]⟩ from by simp[cnt,hv]];exact⟨.agg (.cons (.frz rfl rfl (kD rfl) (.cons (.same rfl) .nil)) (.cons .nil .nil))⟩
theorem FQ {p:Prp}{c:Int}(hp:p.ok):Pu Tryz.prog 118 [iE p,i64 c] (i64 (fr (cnt p).spans c)):=by
 have hs:(cnt p).spans.length≤9223372036854775807:=by
  unfold cnt;split
  ·exact hp.spans
  ·simp
 refine Pu.of_v aA T0 Tryz.func118 rfl rfl (by simp[aJ,aD,aG,aK]) ?_;repeat' ((conv=>whnf)<;>(first|refine aB.go aA T0 ?_|exact kQ|(refine Br.mk (fun _=>?_) (fun _=>?_)<;>(try(exfalso;omega)))|refine stq ?_|refine Cll.pu (nh sd) ?_))
 all_goals(conv=>whnf)
 generalize cnt p=q at *
 refine aU.by aA T0 (fun k:Nat=>⟨tmp 40 [(1,i64 c),(5,.ptr 0 0),(6,i64 (k:Int))],⟨1,[(0,.cells [strs q.names,dK q.spans] true)]⟩⟩)
  (fun k=>k≤q.spans.length∧fr (q.spans.drop k) c=fr q.spans c) (fun k=>q.spans.length-k) 0 ⟨by omega,rfl⟩ ?_ ?_
 ·exact Lf.of2 [(0,_)] [] (by repeat(first|exact aI.nil|refine aI.cons rfl (by first|exact Rd.same (aK _)|exact rdA|fail) ?_)) (by repeat(first|exact Bxs.nil|refine Bxs.cons rfl rfl rfl (by first|exact Rb.cells (Rds.cons (Rd.same (aG _)) (Rds.cons (Rd.same (aK _)) Rds.nil)) rfl|exact rbB|exact rbC|fail) ?_)) rfl rfl
 intro k ⟨h3,h4⟩;repeat' ((conv=>whnf)<;>(first|refine aB.go aA T0 ?_|exact kQ|(refine Br.mk (fun _=>?_) (fun _=>?_)<;>(try(exfalso;omega)))|refine stq ?_))
 all_goals(conv=>whnf)
 all_goals first
  | exact aH.int (by rw[←h4,r8 (by omega),if_pos (by omega)])
  | exact aH.int (by rw[←h4,List.drop_eq_nil_of_le (by omega)];rfl)
  | (refine⟨k+1,⟨by omega,by rw[←h4,r8 (k:=k) (by omega),if_neg (by omega)]⟩,by omega,?_⟩
     exact Lf.of2 [(0,_)] [] enA bxA rfl rfl)
theorem xA {l:List Spn}{n:Int}(hn:1≤n) (h:∀ i (h:i<l.length),1≤l[i].val∧l[i].val<n) (c:Int):0≤fr l c∧fr l c<n:=by
 induction l with
 | nil=>simp only[fr];omega
 | cons s l ih=>
  simp only[fr];split
  ·have:=h 0 (by simp);simp at this;omega
  ·exact ih fun i hi=>by have:=h (i+1) (by simp;omega);simpa using this
theorem lK {p:Prp}(c:Int):0≤fr (cnt p).spans c∧fr (cnt p).spans c<(cnt p).names.length:=by
 unfold cnt;split
 ·rename_i hv;exact xA (by have:=hv.1.1;omega) (fun i h=>by have:=(hv.2 i h).1;omega) c
 ·simp[fr]
theorem En {p:Prp}(c:Int):(fr (cnt p).spans c).toNat<(cnt p).names.length:=by have:=lK (p:=p) c;omega
noncomputable def p8 (p:Prp) (c:Int):Str:=(cnt p).names[(fr (cnt p).spans c).toNat]'(En c)
theorem tN {p:Prp}{c:Int}(hp:p.ok):Pu Tryz.prog 78 [iE p,i64 c] (.str (p8 p c)):=by
 have hr:=lK (p:=p) c;refine Pu.of_v aA T0 Tryz.func78 rfl rfl (by simp[aJ,aD,aG,aK]) ?_;repeat' ((conv=>whnf)<;>(first|refine aB.go aA T0 ?_|exact kQ|(refine Br.mk (fun _=>?_) (fun _=>?_)<;>(try(exfalso;omega)))|refine stq ?_|refine Cll.pu (nh sd) ?_|refine aN.pu (nh sd) ?_|refine Cll.pu (FQ sd) ?_|refine aN.pu (FQ sd) ?_|refine Idx.at (fr (cnt p).spans c).toNat (by omega) (by omega) ?_))
 all_goals(conv=>whnf)
 exact aH.same rfl rfl
def iL (l:List Str) (s:Str):Int:=if s∈l then l.idxOf s else 0
theorem CF {l:List Str}{s:Str}{k:Nat}(h:k<l.length) (e:l[k]=s) (hn:¬s∈l.take k):iL l s=k:=by
 have hm:s∈l:=e▸kM h;unfold iL;rw[if_pos hm]
 have h1:l.idxOf s≤k:=by
  refine Nat.le_of_not_lt fun hlt=>?_
  have:=List.not_of_lt_findIdx hlt
  simp[e] at this
 have h2:¬l.idxOf s<k:=fun hlt=>hn (jI.2 ⟨l.idxOf s,by omega,hlt,by simp⟩)
 congr 1;omega
theorem mK {l:List Str}{s:Str}(hn:l.length≤9223372036854775807):Pu Tryz.prog 77 [strs l,.str s] (i64 (iL l s)):=by
 refine Pu.of_v aA T0 Tryz.func77 rfl rfl (by simp[aJ,aD,aG]) ?_;repeat' ((conv=>whnf)<;>(first|refine aB.go aA T0 ?_|exact kQ|(refine Br.mk (fun _=>?_) (fun _=>?_)<;>(try(exfalso;omega)))|refine stq ?_))
 refine aU.by aA T0 (fun k:Nat=>⟨tmp 19 [(0,strs l),(1,.str s),(5,i64 (k:Int))],⟨0,[]⟩⟩)
  (fun k=>k≤l.length∧¬s∈l.take k) (fun k=>l.length-k) 0 ⟨by omega,by simp⟩ ?_ ?_
 ·exact Lf.of2 [] [] enA bxA rfl rfl
 intro k ⟨h3,h4⟩;repeat' ((conv=>whnf)<;>(first|refine aB.go aA T0 ?_|exact kQ|(refine Br.mk (fun _=>?_) (fun _=>?_)<;>(try(exfalso;omega)))|refine stq ?_))
 all_goals(conv=>whnf)
 all_goals first
  | exact aH.int (CF (by omega) (by assumption) h4).symm
  | exact aH.int (by rw[kE (by omega)] at h4;simp[iL,h4])
  | (refine⟨k+1,⟨by omega,by rw[bk (by omega)];simp only[List.mem_append,List.mem_singleton,not_or];exact⟨h4,fun e=>by simp_all⟩⟩,by omega,?_⟩
     exact Lf.of2 [] [] enA bxA rfl rfl)
noncomputable def cd (p:Prp) (l:List Str) (text:List Int):List Int:=text.map fun c=>iL l (p8 p c)
theorem oD {p:Prp}{l:List Str}{text:List Int}{k:Nat}(h:k<text.length):cd p l (text.take (k+1))=cd p l (text.take k)++[iL l (p8 p text[k])]:=(j9 h).symm
theorem E6 {p:Prp}{l:List Str}{text:List Int}(hp:p.ok) (hl:l.length≤9223372036854775807) (ht:text.length≤1000):Pu Tryz.prog 50 [iE p,strs l,aZ text] (aZ (cd p l text)):=by
 refine Pu.of_v aA T0 Tryz.func50 rfl rfl (by simp[aJ,aD,aG,aK,aM]) ?_;repeat' ((conv=>whnf)<;>(first|refine aB.go aA T0 ?_|exact kQ|(refine Br.mk (fun _=>?_) (fun _=>?_)<;>(try(exfalso;omega)))|refine stq ?_))
 refine aU.by2 aA T0 (fun(k:Nat) (o:List Int)=>⟨tmp 27 [(1,strs l),(2,aZ text),(3,.ptr 0 0),(7,ai 1 1 o),(8,i64 (k:Int))],⟨2,cY 1 (fun x=>[i64 x]) o++[(0,.cells [strs p.names,dK p.spans] true)]⟩⟩)
  (fun k o=>k≤text.length∧o=cd p l (text.take k)) (fun k _=>text.length-k) 0 [] ⟨by omega,rfl⟩ ?_ ?_
 ·exact Lf.of2 [(0,_)] [] enA bxA rfl rfl
 intro k o ⟨h3,h4⟩;cases o with
 | nil=>
  repeat' ((conv=>whnf)<;>(first|refine aB.go aA T0 ?_|exact kQ|(refine Br.mk (fun _=>?_) (fun _=>?_)<;>(try(exfalso;omega)))|refine stq ?_|refine Cll.pu (tN sd) ?_|refine aN.pu (tN sd) ?_|refine Cll.pu (mK sd) ?_|refine aN.pu (mK sd) ?_|refine bK.by aA T0 [0,0,0,0,0,24,56,124,254,510,1023,2047] (by kernel_rfl) ?_))
  all_goals(conv=>whnf)
  ·refine⟨k+1,([]:List Int)++[iL l (p8 p text[k])],⟨by omega,by simp only[oD (show k<text.length by omega),←h4]⟩,by omega,?_⟩;exact Lf.of2 [(0,_),(1,_)] [] enA bxA rfl rfl
  ·rw[show cd p l text=[] from by rw[h4,kE (by omega)]];exact⟨.nil⟩
 | cons x xs=>
  have hk:(x::xs).length≤1000:=by rw[h4];simp[cd];omega
  repeat' ((conv=>whnf)<;>(first|refine aB.go aA T0 ?_|exact kQ|(refine Br.mk (fun _=>?_) (fun _=>?_)<;>(try(exfalso;omega)))|refine stq ?_|refine Cll.pu (tN sd) ?_|refine aN.pu (tN sd) ?_|refine Cll.pu (mK sd) ?_|refine aN.pu (mK sd) ?_|refine bK.by aA T0 [0,0,0,0,0,24,56,124,254,510,1023,2047] (by kernel_rfl) ?_))
  all_goals(conv=>whnf)
  ·refine⟨k+1,(x::xs)++[iL l (p8 p text[k])],⟨by omega,by simp only[oD (show k<text.length by omega),←h4]⟩,by omega,?_⟩;exact Lf.of2 [(0,_),(1,_)] [] (by repeat(first|exact aI.nil|refine aI.cons rfl (by first|exact Rd.sl' rfl (by simp) (by simp)|exact rdA|fail) ?_)) (by repeat(first|exact Bxs.nil|refine Bxs.cons rfl rfl rfl (by first|exact Rb.cells (Rds.eqs (ag (by intro _;rfl) (x::xs) _) (aE (by intro _;rfl) _)) rfl|exact rbB|exact Rb.cells (by(repeat(first|exact Rds.nil|refine Rds.cons (by first|exact Rd.sl' rfl (by simp) (by simp)|exact rdA|fail) ?_|fail));(first|done|fail)) rfl|exact rbC|fail) ?_)) rfl rfl
  ·rw[show cd p l text=x::xs from by rw[h4,kE (by omega)]];exact aH.own1 (id:=1) (l:=x::xs) (fun _=>rfl)
theorem A6 {n s:Nat}{g:FuncId}{cap:List D}{p:Nat→Prop}(hc:aD cap=true) (hn:n≤4611686018427387903) (hs:s≤n) (h1:∀ i,i<s→¬p i) (h2:∀ i,s≤i→i<n→p i)
  (hf:∀ i:Nat,i<n→Pu Tryz.prog g ([i64 i]++cap) (boo (decide (p i)))):Pu Tryz.prog 64 [i64 n,.fn (.func g) [] cap] (i64 s):=by
 refine Pu.of_v aA T0 Tryz.func64 rfl rfl (by simp[aJ,aD,hc]) ?_;repeat' ((conv=>whnf)<;>(first|refine aB.go aA T0 ?_|exact kQ|(refine Br.mk (fun _=>?_) (fun _=>?_)<;>(try(exfalso;omega)))|refine stq ?_))
 refine aU.by2 aA T0 (fun i j:Nat=>⟨tmp 26 [(1,.fn (.func g) [] cap),(5,i64 i),(6,i64 j)],⟨0,[]⟩⟩)
  (fun i j=>i≤s∧s≤j∧j≤n) (fun i j=>j-i) 0 n ⟨by omega,by omega,by omega⟩ ?_ ?_
 ·exact Lf.of2 [] [] (by repeat(first|exact aI.nil|refine aI.cons rfl (by first|exact Rd.same (by simp[aJ,aD,hc])|exact rdA|fail) ?_)) (by repeat(first|exact Bxs.nil|refine Bxs.cons rfl rfl rfl (by first|exact rbB|exact rbC|fail) ?_)) rfl rfl
 intro i j ⟨h3,h4,h5⟩
 have em:IntKind.i64.wrap ((IntKind.u64.wrap ((i:Int)+(j:Int))).fdiv (2 ^ min (Int.toNat 1) IntKind.u64.bits))=(((i+j) / 2:Nat):Int):=by
  have e1:IntKind.u64.wrap ((i:Int)+(j:Int))=(i:Int)+(j:Int):=by
   simp[IntKind.wrap,IntKind.bits,IntKind.signed];omega
  rw[e1,Int.fdiv_eq_ediv_of_nonneg _ (by decide)];simp[IntKind.wrap,IntKind.bits,IntKind.signed];omega
 repeat' ((conv=>whnf)<;>(first|refine aB.go aA T0 ?_|exact kQ|(refine Br.mk (fun _=>?_) (fun _=>?_)<;>(try(exfalso;omega)))|refine stq ?_|refine Cll.dec (p:=p ((i+j) / 2)) (by rw[em];exact hf _ (by omega)) (fun _=>?_) (fun _=>?_)|refine Chk.mk (r6 (by rw[em];omega) (by rw[em];omega)) ?_))
 all_goals(conv=>whnf)
 all_goals first
  | exact aH.int (by omega)
  | (refine⟨i,(i+j) / 2,⟨by omega,Nat.le_of_not_lt fun hlt=>h1 _ hlt (by assumption),by omega⟩,by omega,?_⟩
     exact Lf.of2 [] [] (by(repeat(first|exact aI.nil|refine aI.cons rfl (by first|exact Rd.same (by simp[aJ,aD,hc])|exact Rd.int em|exact rdA|fail) ?_|fail));(first|done|fail)) (by(repeat(first|exact Bxs.nil|refine Bxs.cons rfl rfl rfl (by first|exact rbB|exact rbC|fail) ?_|fail));(first|done|fail)) rfl rfl)
  | (refine⟨(i+j) / 2+1,j,⟨Nat.succ_le_of_lt (Nat.lt_of_not_le fun hle=>absurd (h2 _ hle (by omega)) (by assumption)),by omega,by omega⟩,by omega,?_⟩
     exact Lf.of2 [] [] (by(repeat(first|exact aI.nil|refine aI.cons rfl (by first|exact Rd.same (by simp[aJ,aD,hc])|exact Rd.int (by rw[em];omega)|exact rdA|fail) ?_|fail));(first|done|fail)) (by(repeat(first|exact Bxs.nil|refine Bxs.cons rfl rfl rfl (by first|exact rbB|exact rbC|fail) ?_|fail));(first|done|fail)) rfl rfl)
theorem Ag {l:List Spn}{c:Int}{k:Nat}(hk:k<l.length):Pu Tryz.prog 65 ([i64 (k:Int)]++[.iptr [dK l],.iptr [i64 c]]) (boo (decide (c≤l[k].hi))):=by
 refine Pu.of_v aA T0 Tryz.func65 rfl rfl (by simp[aJ,aD,aK]) ?_;repeat' ((conv=>whnf)<;>(first|refine aB.go aA T0 ?_|exact kQ|(refine Br.mk (fun _=>?_) (fun _=>?_)<;>(try(exfalso;omega)))|refine stq ?_))
 all_goals(conv=>whnf)
 all_goals first
  | exact aH.yes (by omega)
  | exact aH.no (by omega)
def DB (l:List Spn):Prop:=∀ i (h:i<l.length),l[i].lo≤l[i].hi∧∀ h0:i≠0,(l[i-1]'(by omega)).hi<l[i].lo
theorem Dq {l:List Spn}{n:Int}(h:∀ i (h:i<l.length),SpQ l n i l[i]):DB l:=fun i hi=>by
 obtain⟨h1,h2⟩:=h i hi;refine⟨by omega,fun h0=>?_⟩;have:=(h2 h0).1
 rwa [aW (by omega)] at this
theorem x8 {l:List Spn}(h:DB l){i:Nat}(j:Nat) (hi:i<l.length) (hj:i+j<l.length):l[i].hi≤l[i+j].hi:=by
 induction j with
 | zero=>exact Int.le_refl _
 | succ j ih=>
  have h1:=ih (by omega);have h2:=h (i+(j+1)) hj;have h3:=h2.2 (by omega);have h4:=h2.1;have e:i+(j+1)-1=i+j:=by omega
  simp only[e] at h3;omega
theorem r7 {l:List Spn}{c:Int}(h:∀ i (h:i<l.length),¬(l[i].lo≤c∧c≤l[i].hi)):fr l c=0:=by
 induction l with
 | nil=>rfl
 | cons s l ih=>
  simp only[fr];rw[if_neg (show ¬(s.lo≤c∧c≤s.hi) from h 0 (by simp))];exact ih fun i hi=>h (i+1) (by simpa using hi)
theorem EX {l:List Spn}{c:Int}{s:Nat}(hs:s<l.length) (h:∀ i (hi:i<l.length),i<s→¬(l[i].lo≤c∧c≤l[i].hi)) (h2:l[s].lo≤c∧c≤l[s].hi):fr l c=l[s].val:=by
 induction l generalizing s with
 | nil=>simp at hs
 | cons x l ih=>
  simp only[fr];cases s with
  | zero=>rw[if_pos (show x.lo≤c∧c≤x.hi from h2)];rfl
  | succ s=>
   rw[if_neg (show ¬(x.lo≤c∧c≤x.hi) from h 0 (by simp) (by omega))];exact ih (s:=s) (by simpa using hs) (fun i hi hlt=>h (i+1) (by simpa using hi) (by omega)) h2
noncomputable def cw (l:List Spn) (c:Int):Nat:=l.findIdx fun s=>decide (c≤s.hi)
theorem xE (l:List Spn) (c:Int):cw l c≤l.length:=List.findIdx_le_length
theorem hO {l:List Spn}{c:Int}{i:Nat}(h:i<l.length) (hlt:i<cw l c):¬c≤l[i].hi:=by
 have:=List.not_of_lt_findIdx hlt
 simpa using this
theorem qR {l:List Spn}{c:Int}(h:cw l c<l.length):c≤l[cw l c].hi:=by
 have:=List.findIdx_getElem (p:=fun s:Spn=>decide (c≤s.hi)) (w:=h)
 exact of_decide_eq_true this
theorem xB {l:List Spn}(hr:DB l) (c:Int):fr l c=if h:cw l c<l.length then(if l[cw l c].lo≤c then l[cw l c].val else 0) else 0:=by
 split
 ·rename_i hs;have h1:=qR hs;split
  ·rename_i h2;exact EX hs (fun i hi hlt=>by have:=hO hi hlt;omega) ⟨h2,h1⟩
  ·rename_i h2;refine r7 fun i hi=>?_
   rcases Nat.lt_trichotomy i (cw l c) with hlt|he|hgt
   ·have:=hO hi hlt;omega
   ·subst he;omega
   ·have h3:=x8 hr (i-1-cw l c) hs (by omega);have h4:=(hr i hi).2 (by omega);have e:cw l c+(i-1-cw l c)=i-1:=by omega
    simp only[e] at h3;omega
 ·rename_i hs;refine r7 fun i hi=>?_
  have:=hO (c:=c) hi (by omega)
  omega
theorem xk {l:List Spn}{c:Int}(hn:l.length≤4611686018427387903) (hr:DB l):Pu Tryz.prog 40 [dK l,i64 c] (i64 (fr l c)):=by
 rw[xB hr c];have h0:=xE l c
 have hse:Pu Tryz.prog 64 [i64 l.length,.fn (.func 65) [] [.iptr [dK l],.iptr [i64 c]]] (i64 (cw l c)):=
  A6 (p:=fun i=>∃ h:i<l.length,c≤l[i].hi) (by simp[aJ,aD,aK]) hn h0 (fun i hi ⟨h,hc⟩=>hO h hi hc)
   (fun i h1 h2=>⟨h2,by
    have h3:=qR (l:=l) (c:=c) (by omega);have h4:=x8 hr (i-cw l c) (i:=cw l c) (by omega) (by omega);have e:cw l c+(i-cw l c)=i:=by omega
    simp only[e] at h4
    omega⟩)
   (fun i hi=>by
    have:=Ag (l:=l) (c:=c) hi
    exact(congrArg (fun b=>Pu Tryz.prog _ _ (boo b)) (decide_eq_decide.2 ⟨fun h=>⟨hi,h⟩,fun⟨_,h⟩=>h⟩)).mp this)
 refine Pu.of_v aA T0 Tryz.func40 rfl rfl (by simp[aJ,aD,aK]) ?_
 conv=>whnf
 refine aB.weak aA T0 (s0:=⟨tmp 28 [(2,.iptr [dK l]),(3,.iptr [i64 c])],⟨0,[]⟩⟩) ?_ ?_
 ·exact Lf.of2 [] [0,1] (by repeat(first|exact aI.nil|refine aI.cons rfl (by first|exact Rd.frzp rfl rfl (Rds.cons (Rd.same (aK _)) Rds.nil)|exact Rd.frzp rfl rfl (Rds.cons (Rd.same rfl) Rds.nil)|exact rdA|fail) ?_)) (by repeat(first|exact Bxs.nil|refine Bxs.cons rfl rfl rfl (by first|exact rbB|exact rbC|fail) ?_)) rfl rfl
 repeat' ((conv=>whnf)<;>(first|refine aB.go aA T0 ?_|exact kQ|(refine Br.mk (fun _=>?_) (fun _=>?_)<;>(try(exfalso;omega)))|refine stq ?_|refine Cll.pu hse ?_))
 all_goals(conv=>whnf)
 all_goals first
  | exact aH.int (by rw[dif_pos (by omega),if_pos (by assumption)])
  | exact aH.int (by rw[dif_pos (by omega),if_neg (by assumption)])
  | exact aH.int (by rw[dif_neg (by omega)])
theorem Ci (p:Prp):DB (cnt p).spans:=by
 unfold cnt;split
 ·rename_i hv;exact Dq hv.2
 ·intro i h;simp at h
theorem AG {p:Prp}(h:p.spans.length≤1000):(cnt p).spans.length≤1000:=by
 unfold cnt;split
 ·exact h
 ·simp
theorem AH {p:Prp}(h:p.names.length≤1000):(cnt p).names.length≤1000:=by
 unfold cnt;split
 ·exact h
 ·simp
theorem AU {p:Prp}{t:Tbl}{text:List Int}(hp:p.ok) (ht:t.ok) (hx:text.length≤1000) (hs:p.spans.length≤1000) (hnn:p.names.length≤1000):Pu Tryz.prog 26 [iE p,qr t,aZ text] (aZ (if TV t then cd p t.classes text else [])):=by
 have h1:=ht.classes;have hr:=Ci p;have hs2:=AG hs;have hn2:=AH hnn;refine Pu.of_v aA T0 Tryz.func26 rfl rfl (by simp[aJ,aD,aG,aK,aM,cU]) ?_;repeat' ((conv=>whnf)<;>(first|refine aB.go aA T0 ?_|exact kQ|(refine Br.mk (fun _=>?_) (fun _=>?_)<;>(try(exfalso;omega)))|refine stq ?_|refine Cll.dec (i7 sd) (fun _=>?_) (fun _=>?_)|refine aN.dec (i7 sd) (fun _=>?_) (fun _=>?_)|refine Cll.dec (mM sd) (fun _=>?_) (fun _=>?_)|refine aN.dec (mM sd) (fun _=>?_) (fun _=>?_)))
 all_goals(conv=>whnf)
 ·rename_i hv hpv;have hcp:cnt p=p:=by simp[cnt,hpv]
  refine aU.by aA T0 (fun k:Nat=>⟨tmp 81 [(2,aZ text),(3,.ptr 0 0),(7,.map 1),(29,strs t.classes),(30,i64 t.classes.length),(31,i64 (k:Int))],⟨2,[(0,.cells [strs (cnt p).names,dK (cnt p).spans] true),(1,.map (pos (t.classes.take k) 0))]⟩⟩)
   (fun k=>k≤t.classes.length) (fun k=>t.classes.length-k) 0 (by omega) ?_ ?_
  ·exact Lf.of2 [(0,_),(1,_)] [9] enA (by repeat(first|exact Bxs.nil|refine Bxs.cons rfl rfl rfl (by first|exact Rb.cells (by rw[hcp];exact Rds.same (by simp only[cf,aD,aG,aK,Bool.and_self])) rfl|exact Rb.cells (by rw[hcp];exact Rds.cons (Rd.frz rfl rfl (kD rfl) (Rds.cons (Rd.same rfl) Rds.nil)) (Rds.cons Rd.nil Rds.nil)) rfl|exact rbB|exact Rb.cells bS rfl|exact rbC|fail) ?_)) rfl rfl
  intro k h3;repeat' ((conv=>whnf)<;>(first|refine aB.go aA T0 ?_|exact kQ|(refine Br.mk (fun _=>?_) (fun _=>?_)<;>(try(exfalso;omega)))|refine stq ?_|(refine fg.pos (fun _ _=>?_) (fun _=>?_)<;>(try(exfalso;exact(hv.1.2.2 k (by omega)).2 (by assumption))))))
  all_goals(conv=>whnf)
  ·refine⟨k+1,by omega,by omega,?_⟩;exact Lf.of2 [(0,_),(1,_)] [] enA bxA rfl rfl
  refine aU.by aA T0 (fun k:Nat=>⟨tmp 81 [(2,aZ text),(3,.ptr 0 0),(7,.map 1),(10,.sl 2 0 (cnt p).names.length (cnt p).names.length 1 true),(45,strs (cnt p).names),(46,i64 (cnt p).names.length),(47,i64 (k:Int))],⟨3,[(0,.cells [strs (cnt p).names,dK (cnt p).spans] true),(1,.map (pos t.classes 0)),(2,.cells (gc (fun s=>i64 (iL t.classes s)) (i64 0) (cnt p).names k) true)]⟩⟩)
   (fun k=>k≤(cnt p).names.length) (fun k=>(cnt p).names.length-k) 0 (by omega) ?_ ?_
  ·exact Lf.of2 [(0,_),(1,_),(2,_)] [] enA (by repeat(first|exact Bxs.nil|refine Bxs.cons rfl rfl rfl (by first|exact Rb.cells (Rds.eqs (iy _) (cJ (fun _=>rfl) rfl)) rfl|exact Rb.map (Res.eqs (by rw[kE (by omega)]) (ab _ _))|exact rbB|exact Rb.cells bS rfl|exact rbC|fail) ?_)) rfl rfl
  intro k h4;repeat' ((conv=>whnf)<;>(first|refine aB.go aA T0 ?_|exact kQ|(refine Br.mk (fun _=>?_) (fun _=>?_)<;>(try(exfalso;omega)))|refine stq ?_|(refine fg.pos (fun _ _=>?_) (fun _=>?_))|refine Put.one (by rw[hU (by omega)];omega) ?_))
  all_goals(conv=>whnf)
  ·rename_i _ hm;refine⟨k+1,by omega,by omega,?_⟩;exact Lf.of2 [(0,_),(1,_),(2,_)] [] enA (by repeat(first|exact Bxs.nil|refine Bxs.cons rfl rfl rfl (by first|exact Rb.cells (Rds.eqs (by rw[←io (by omega)];simp[iL,hm]) (cJ (fun _=>rfl) rfl)) rfl|exact rbB|exact Rb.cells bS rfl|exact rbC|fail) ?_)) rfl rfl
  ·rename_i hm;refine⟨k+1,by omega,by omega,?_⟩;exact Lf.of2 [(0,_),(1,_),(2,_)] [] enA (by repeat(first|exact Bxs.nil|refine Bxs.cons rfl rfl rfl (by first|exact Rb.cells (Rds.eqs (by rw[←io (by omega)];simp only[iL,hm,if_false];rfl) (cJ (fun _=>rfl) rfl)) rfl|exact rbB|exact Rb.cells bS rfl|exact rbC|fail) ?_)) rfl rfl
  refine aU.by aA T0 (fun k:Nat=>⟨tmp 81 [(3,.ptr 0 0),(10,.sl 2 0 (cnt p).names.length (cnt p).names.length 1 true),(13,.sl 3 0 text.length text.length 1 true),(62,aZ text),(63,i64 text.length),(64,i64 (k:Int))],⟨4,[(0,.cells [strs (cnt p).names,dK (cnt p).spans] true),(2,.cells ((cnt p).names.map fun s=>i64 (iL t.classes s)) true),(3,.cells (gc (fun c=>i64 (iL t.classes (p8 p c))) (i64 0) text k) true)]⟩⟩)
   (fun k=>k≤text.length) (fun k=>text.length-k) 0 (by omega) ?_ ?_
  ·exact Lf.of2 [(0,_),(2,_),(3,_)] [] enA (by repeat(first|exact Bxs.nil|refine Bxs.cons rfl rfl rfl (by first|exact Rb.cells (Rds.eqs (iy _) (cJ (fun _=>rfl) rfl)) rfl|exact Rb.cells (Rds.eqs (mh (by omega)) (aa (fun _=>rfl) _)) rfl|exact rbB|exact Rb.cells bS rfl|exact rbC|fail) ?_)) rfl rfl
  intro k h5;have hg:=lK (p:=p) (text.getD k 0);repeat' ((conv=>whnf)<;>(first|refine aB.go aA T0 ?_|exact kQ|(refine Br.mk (fun _=>?_) (fun _=>?_)<;>(try(exfalso;omega)))|refine stq ?_|refine Cll.pu (xk sd sd) ?_|refine cj.at (fr (cnt p).spans text[k]).toNat (by rw[aW (by omega)] at hg;omega) (by rw[aW (by omega)] at hg;omega) ?_|refine Get.map (by rw[aW (by omega)] at hg;omega) ?_|refine Put.one (by rw[hU (by omega)];omega) ?_))
  all_goals(conv=>whnf)
  ·refine⟨k+1,by omega,by omega,?_⟩;exact Lf.of2 [(0,_),(2,_),(3,_)] [] enA (by repeat(first|exact Bxs.nil|refine Bxs.cons rfl rfl rfl (by first|exact Rb.cells (Rds.eqs (by rw[←io (by omega)];rfl) (cJ (fun _=>rfl) rfl)) rfl|exact rbB|exact Rb.cells bS rfl|exact rbC|fail) ?_)) rfl rfl
  ·rw[if_pos hv];exact aH.frz1 (l:=cd p t.classes text) (f:=i64) rfl (by rw[mh (by omega)];simp[cd]) (by simp[cd]) (fun _=>rfl) rfl
 ·rename_i hv hpv;have hcp:cnt p=⟨[other],[]⟩:=by simp[cnt,hpv]
  refine aU.by aA T0 (fun k:Nat=>⟨tmp 81 [(2,aZ text),(3,.ptr 0 0),(7,.map 1),(29,strs t.classes),(30,i64 t.classes.length),(31,i64 (k:Int))],⟨2,[(0,.cells [strs (cnt p).names,dK (cnt p).spans] true),(1,.map (pos (t.classes.take k) 0))]⟩⟩)
   (fun k=>k≤t.classes.length) (fun k=>t.classes.length-k) 0 (by omega) ?_ ?_
  ·exact Lf.of2 [(0,_),(1,_)] [9] enA (by repeat(first|exact Bxs.nil|refine Bxs.cons rfl rfl rfl (by first|exact Rb.cells (by rw[hcp];exact Rds.same (by simp only[cf,aD,aG,aK,Bool.and_self])) rfl|exact Rb.cells (by rw[hcp];exact Rds.cons (Rd.frz rfl rfl (kD rfl) (Rds.cons (Rd.same rfl) Rds.nil)) (Rds.cons Rd.nil Rds.nil)) rfl|exact rbB|exact Rb.cells bS rfl|exact rbC|fail) ?_)) rfl rfl
  intro k h3;repeat' ((conv=>whnf)<;>(first|refine aB.go aA T0 ?_|exact kQ|(refine Br.mk (fun _=>?_) (fun _=>?_)<;>(try(exfalso;omega)))|refine stq ?_|(refine fg.pos (fun _ _=>?_) (fun _=>?_)<;>(try(exfalso;exact(hv.1.2.2 k (by omega)).2 (by assumption))))))
  all_goals(conv=>whnf)
  ·refine⟨k+1,by omega,by omega,?_⟩;exact Lf.of2 [(0,_),(1,_)] [] enA bxA rfl rfl
  refine aU.by aA T0 (fun k:Nat=>⟨tmp 81 [(2,aZ text),(3,.ptr 0 0),(7,.map 1),(10,.sl 2 0 (cnt p).names.length (cnt p).names.length 1 true),(45,strs (cnt p).names),(46,i64 (cnt p).names.length),(47,i64 (k:Int))],⟨3,[(0,.cells [strs (cnt p).names,dK (cnt p).spans] true),(1,.map (pos t.classes 0)),(2,.cells (gc (fun s=>i64 (iL t.classes s)) (i64 0) (cnt p).names k) true)]⟩⟩)
   (fun k=>k≤(cnt p).names.length) (fun k=>(cnt p).names.length-k) 0 (by omega) ?_ ?_
  ·exact Lf.of2 [(0,_),(1,_),(2,_)] [] enA (by repeat(first|exact Bxs.nil|refine Bxs.cons rfl rfl rfl (by first|exact Rb.cells (Rds.eqs (iy _) (cJ (fun _=>rfl) rfl)) rfl|exact Rb.map (Res.eqs (by rw[kE (by omega)]) (ab _ _))|exact rbB|exact Rb.cells bS rfl|exact rbC|fail) ?_)) rfl rfl
  intro k h4;repeat' ((conv=>whnf)<;>(first|refine aB.go aA T0 ?_|exact kQ|(refine Br.mk (fun _=>?_) (fun _=>?_)<;>(try(exfalso;omega)))|refine stq ?_|(refine fg.pos (fun _ _=>?_) (fun _=>?_))|refine Put.one (by rw[hU (by omega)];omega) ?_))
  all_goals(conv=>whnf)
  ·rename_i _ hm;refine⟨k+1,by omega,by omega,?_⟩;exact Lf.of2 [(0,_),(1,_),(2,_)] [] enA (by repeat(first|exact Bxs.nil|refine Bxs.cons rfl rfl rfl (by first|exact Rb.cells (Rds.eqs (by rw[←io (by omega)];simp[iL,hm]) (cJ (fun _=>rfl) rfl)) rfl|exact rbB|exact Rb.cells bS rfl|exact rbC|fail) ?_)) rfl rfl
  ·rename_i hm;refine⟨k+1,by omega,by omega,?_⟩;exact Lf.of2 [(0,_),(1,_),(2,_)] [] enA (by repeat(first|exact Bxs.nil|refine Bxs.cons rfl rfl rfl (by first|exact Rb.cells (Rds.eqs (by rw[←io (by omega)];simp only[iL,hm,if_false];rfl) (cJ (fun _=>rfl) rfl)) rfl|exact rbB|exact Rb.cells bS rfl|exact rbC|fail) ?_)) rfl rfl
  refine aU.by aA T0 (fun k:Nat=>⟨tmp 81 [(3,.ptr 0 0),(10,.sl 2 0 (cnt p).names.length (cnt p).names.length 1 true),(13,.sl 3 0 text.length text.length 1 true),(62,aZ text),(63,i64 text.length),(64,i64 (k:Int))],⟨4,[(0,.cells [strs (cnt p).names,dK (cnt p).spans] true),(2,.cells ((cnt p).names.map fun s=>i64 (iL t.classes s)) true),(3,.cells (gc (fun c=>i64 (iL t.classes (p8 p c))) (i64 0) text k) true)]⟩⟩)
   (fun k=>k≤text.length) (fun k=>text.length-k) 0 (by omega) ?_ ?_
  ·exact Lf.of2 [(0,_),(2,_),(3,_)] [] enA (by repeat(first|exact Bxs.nil|refine Bxs.cons rfl rfl rfl (by first|exact Rb.cells (Rds.eqs (iy _) (cJ (fun _=>rfl) rfl)) rfl|exact Rb.cells (Rds.eqs (mh (by omega)) (aa (fun _=>rfl) _)) rfl|exact rbB|exact Rb.cells bS rfl|exact rbC|fail) ?_)) rfl rfl
  intro k h5;have hg:=lK (p:=p) (text.getD k 0);repeat' ((conv=>whnf)<;>(first|refine aB.go aA T0 ?_|exact kQ|(refine Br.mk (fun _=>?_) (fun _=>?_)<;>(try(exfalso;omega)))|refine stq ?_|refine Cll.pu (xk sd sd) ?_|refine cj.at (fr (cnt p).spans text[k]).toNat (by rw[aW (by omega)] at hg;omega) (by rw[aW (by omega)] at hg;omega) ?_|refine Get.map (by rw[aW (by omega)] at hg;omega) ?_|refine Put.one (by rw[hU (by omega)];omega) ?_))
  all_goals(conv=>whnf)
  ·refine⟨k+1,by omega,by omega,?_⟩;exact Lf.of2 [(0,_),(2,_),(3,_)] [] enA (by repeat(first|exact Bxs.nil|refine Bxs.cons rfl rfl rfl (by first|exact Rb.cells (Rds.eqs (by rw[←io (by omega)];rfl) (cJ (fun _=>rfl) rfl)) rfl|exact rbB|exact Rb.cells bS rfl|exact rbC|fail) ?_)) rfl rfl
  ·rw[if_pos hv];exact aH.frz1 (l:=cd p t.classes text) (f:=i64) rfl (by rw[mh (by omega)];simp[cd]) (by simp[cd]) (fun _=>rfl) rfl
 ·rename_i hv;rw[if_neg hv];exact⟨.nil⟩
end
section
open Go Go.Am Classical
set_option maxRecDepth 100000
abbrev bl (a b:Str):Bool:=Op.bytesLess a b
theorem sM:∀ a:Str,bl a a=false
 | []=>rfl
 | x::a=>by simp only[bl,Op.bytesLess];simp[sM a]
theorem vp:∀ {a b c:Str},bl a b=true→bl b c=true→bl a c=true
 | _,[],_,h,_=>by simp[bl,Op.bytesLess] at h
 | _,_::_,[],_,h=>by simp[bl,Op.bytesLess] at h
 | [],_::_,_::_,_,_=>by simp[bl,Op.bytesLess]
 | x::a,y::b,z::c,h1,h2=>by
  simp only[bl,Op.bytesLess,kN,kC,decide_eq_true_eq,beq_iff_eq] at *;rcases h1 with h1|⟨rfl,h1⟩
  ·rcases h2 with h2|⟨rfl,_⟩
   ·exact .inl (UInt8.lt_trans h1 h2)
   ·exact .inl h1
  ·rcases h2 with h2|⟨rfl,h2⟩
   ·exact .inl h2
   ·exact .inr ⟨rfl,vp h1 h2⟩
structure Mpg where
 frm:Int
 to:List Int
 tag:Str
 deriving Inhabited
def bef (a b:Mpg):Prop:=a.frm<b.frm∨(a.frm=b.frm∧bl a.tag b.tag=true)
theorem AK {a b c:Mpg}(h1:bef a b) (h2:bef b c):bef a c:=by
 unfold bef at *;rcases h1 with h1|⟨e1,h1⟩<;>rcases h2 with h2|⟨e2,h2⟩
 ·exact .inl (by omega)
 ·exact .inl (by omega)
 ·exact .inl (by omega)
 ·exact .inr ⟨by omega,vp h1 h2⟩
theorem Ev {a b:Mpg}(h:bef a b):¬(b.frm=a.frm∧b.tag=a.tag):=by
 rintro⟨e1,e2⟩;rcases h with h|⟨_,h⟩
 ·omega
 ·rw[e2,sM] at h;cases h
def td (a b:Str):Int:=if bl a b=true then -1 else if a=b then 0 else 1
def Ck (a b:Mpg):Int:=if gq a.frm b.frm=0 then td a.tag b.tag else gq a.frm b.frm
theorem yp {a b:Mpg}:Ck a b<0↔bef a b:=by
 unfold Ck td gq bef;by_cases h1:a.frm<b.frm
 ·simp[h1]
 ·by_cases h2:b.frm<a.frm
  ·simp[h1,h2];omega
  ·have e:a.frm=b.frm:=by omega
   simp only[e,if_true,if_false,Int.lt_irrefl,false_or,true_and];by_cases h3:bl a.tag b.tag=true
   ·simp[h3]
   ·simp only[h3];by_cases h4:a.tag=b.tag
    ·simp[h4]
    ·simp[h4]
def cpQ (n:Int):Prop:=0≤n∧n≤1114111
def kZ (m:Mpg):Prop:=cpQ m.frm∧∀ j (h:j<m.to.length),cpQ m.to[j]
def Ao (m:Mpg):Prop:=m.tag=[]∨lw m.tag
def Tw (l:List Mpg):Prop:=∃ i,∃ h:i<l.length,∃ k,∃ hk:k<i,l[i].frm=(l[k]'(by omega)).frm∧l[i].tag=(l[k]'(by omega)).tag
def Asc (l:List Mpg):Prop:=∀ i (h:i<l.length),∀ h0:i≠0,bef (l[i-1]'(by omega)) l[i]
theorem Asc.lt {l:List Mpg}(h:Asc l):∀ (d i:Nat) (hi:i+d+1<l.length),bef (l[i]'(by omega)) l[i+d+1]
 | 0,i,hi=>by have:=h (i+1) hi (by omega);simpa using this
 | d+1,i,hi=>AK (Asc.lt h d i (by omega)) (h (i+d+1+1) hi (by omega))
theorem Asc.once {l:List Mpg}(h:Asc l):¬Tw l:=by
 rintro⟨i,hi,k,hk,e⟩;have:=Asc.lt h (i-k-1) k (by omega)
 have e2:k+(i-k-1)+1=i:=by omega
 simp only[e2] at this;exact Ev this e
noncomputable def dw (l:List Mpg):Int:=
 if ∀ i (h:i<l.length),kZ l[i] then(if ∀ i (h:i<l.length),l[i].to.length≤64 then(if ∀ i (h:i<l.length),Ao l[i] then 0 else 6) else 2) else 1
def MOk (l:List Mpg):Prop:=dw l=0∧Asc l
end
section
open Go Go.Am Classical
set_option maxRecDepth 100000
variable [GT]
abbrev cX (r:Rng):List D:=[i64 r.lo,i64 r.hi]
abbrev cx (l:List Rng):D:=lstS cX l
theorem aO (l:List Rng):aJ (cx l)=true:=fC (fun _=>rfl) l
abbrev ib (m:Mpg):List D:=[i64 m.frm,aZ m.to,.str m.tag]
abbrev cn (l:List Mpg):D:=lstS ib l
theorem ly (m:Mpg):aD (ib m)=true:=by simp[aD,aJ,aM]
theorem aP (l:List Mpg):aJ (cn l)=true:=fC ly l
structure Db where
 major:Int
 minor:Int
 cat:Prp
 wid:Prp
 scr:Prp
 gra:Prp
 wor:Prp
 sen:Prp
 lin:Prp
 classes:List Spn
 decomp:List Mpg
 excl:List Rng
 lower:List Mpg
 upper:List Mpg
 title:List Mpg
 fold:List Mpg
 cased:List Rng
 ignor:List Rng
 start:List Rng
 cont:List Rng
 medial:List Rng
 confu:List Mpg
abbrev prpC (p:Prp):List D:=[strs p.names,dK p.spans]
abbrev dbC (d:Db):List D:=[i64 d.major,i64 d.minor,strs d.cat.names,dK d.cat.spans,strs d.wid.names,dK d.wid.spans,strs d.scr.names,dK d.scr.spans,strs d.gra.names,dK d.gra.spans,strs d.wor.names,dK d.wor.spans,strs d.sen.names,dK d.sen.spans,strs d.lin.names,dK d.lin.spans,
 dK d.classes,cn d.decomp,cx d.excl,cn d.lower,cn d.upper,cn d.title,cn d.fold,cx d.cased,cx d.ignor,cx d.start,cx d.cont,cx d.medial,cn d.confu]
abbrev dbD (d:Db):D:=.agg (dbC d)
theorem am (d:Db):aD (dbC d)=true:=by simp[aD,aJ,aG,aK,aP,aO]
def prop (d:Db):Nat→Prp
 | 0=>d.cat
 | 1=>d.wid
 | 2=>d.scr
 | 3=>d.gra
 | 4=>d.wor
 | 5=>d.sen
 | _=>d.lin
def zN (d:Db):Nat→List Rng
 | 0=>d.excl
 | 1=>d.cased
 | 2=>d.ignor
 | 3=>d.start
 | 4=>d.cont
 | _=>d.medial
def fp (d:Db):Nat→List Mpg
 | 9=>d.decomp
 | 11=>d.lower
 | 12=>d.upper
 | 13=>d.title
 | 14=>d.fold
 | _=>d.confu
def ClQ (l:List Spn) (i:Nat) (s:Spn):Prop:=(0≤s.lo∧s.lo≤s.hi∧s.hi≤1114111∧1≤s.val∧s.val≤254) ∧
 (i≠0→(l.getD (i-1) default).hi<s.lo∧¬(s.lo=(l.getD (i-1) default).hi+1∧s.val=(l.getD (i-1) default).val))
def ClV (l:List Spn):Prop:=∀ i (h:i<l.length),ClQ l i l[i]
def sc (n:Int):Prop:=0≤n∧n≤9999
def FT (d:Db):Nat→Prop
 | 0=>sc d.major∧sc d.minor
 | 1=>PrV d.cat
 | 2=>PrV d.wid
 | 3=>PrV d.scr
 | 4=>PrV d.gra
 | 5=>PrV d.wor
 | 6=>PrV d.sen
 | 7=>PrV d.lin
 | 8=>ClV d.classes
 | 9=>MOk d.decomp
 | 10=>dH d.excl
 | 11=>MOk d.lower
 | 12=>MOk d.upper
 | 13=>MOk d.title
 | 14=>MOk d.fold
 | 15=>dH d.cased
 | 16=>dH d.ignor
 | 17=>dH d.start
 | 18=>dH d.cont
 | 19=>dH d.medial
 | _=>MOk d.confu
def DbV (d:Db):Prop:=∀ k,k<21→FT d k
def SmM (l:List Mpg):Prop:=(∀ i (h:i<l.length),i<30→l[i].to.length≤65∧l[i].tag.length≤40)∧l.length≤20
def SmD (d:Db):Prop:=d.classes.length≤16∧(∀ k,k<7→(prop d k).names.length≤30∧(prop d k).spans.length≤16)∧(∀ k,k<6→(zN d k).length≤12)∧∀ k,k<21→SmM (fp d k)
structure Db.ok (d:Db):Prop where
 prop:∀ k,(prop d k).ok
 sets:∀ k,(zN d k).length≤9223372036854775807
 maps:∀ k,(fp d k).length≤9223372036854775807∧∀ i (h:i<(fp d k).length),(fp d k)[i].to.length≤9223372036854775807∧(fp d k)[i].tag.length≤9223372036854775807
 classes:d.classes.length≤9223372036854775807
def ge:List Int→Int
 | []=>0
 | e::l=>if e=0 then ge l else e
theorem tX:∀ {l:List Int}{k:Nat}(h:k<l.length),(∀ i (hi:i<l.length),i<k→l[i]=0)→l[k]≠0→ge l=l[k]
 | [],k,h,_,_=>by simp at h
 | e::l,0,_,_,h2=>by simp only[List.getElem_cons_zero] at h2 ⊢;rw[ge,if_neg h2]
 | e::l,k+1,h,h1,h2=>by
  have e0:e=0:=h1 0 (by simp) (by omega);rw[ge,if_pos e0];simp only[List.getElem_cons_succ] at h2 ⊢;exact tX (by simpa using h) (fun i hi hk=>by have:=h1 (i+1) (by simpa using hi) (by omega);simpa using this) h2
theorem lG:∀ {l:List Int},ge l=0↔∀ i (hi:i<l.length),l[i]=0
 | []=>by simp[ge]
 | e::l=>by
  rw[ge];constructor
  ·intro h i hi;split at h
   ·rename_i e0;cases i with
    | zero=>simpa using e0
    | succ i=>simpa using lG.1 h i (by simpa using hi)
   ·rename_i e0;exact absurd h e0
  ·intro h;have e0:e=0:=h 0 (by simp);rw[if_pos e0];exact lG.2 fun i hi=>by have:=h (i+1) (by simpa using hi);simpa using this
end
section
open Go Go.Am Classical
set_option maxRecDepth 100000
variable [GT]
theorem xU {t:Tbl}{l:List Int}(ht:t.ok) (hx:l.length≤1000) (hok:okL t l):Pu Tryz.prog 43 [qr t,aZ l] (aZ (acts t l)):=by
 have hL:=Left_c ht hx;have hR:=E4 ht hx;rw[if_pos hok] at hL hR;have hc:=hok.1;have hl:=hok.2.2.2.2.1;have hr:=hok.2.2.2.2.2;have nL:=SL_len (nx:=t.left.next) (l:=l);have nR:=SR_len (nx:=t.right.next) (l:=l);refine Pu.of_v aA T0 Tryz.func43 rfl rfl (by simp[aJ,aD,cU,aM,aG]) ?_;repeat' ((conv=>whnf)<;>(first|refine aB.go aA T0 ?_|exact kQ|(refine Br.mk (fun _=>?_) (fun _=>?_)<;>(try(exfalso;omega)))|refine stq ?_|refine aN.pu hL ?_|refine aN.pu hR ?_))
 all_goals(conv=>whnf)
 refine aU.by2 aA T0 (fun(k:Nat) (o:List Int)=>⟨tmp 41 [(2,.ptr 0 0),(5,aZ (SL t.left.next l)),(6,aZ (SR t.right.next l)),(7,ai 1 1 o),(18,i64 (SL t.left.next l).length),(19,i64 (k:Int))],⟨2,cY 1 (fun x=>[i64 x]) o++[(0,.cells [strs t.classes,aZ t.actions,bw t.left.next,bw t.left.marks,bw t.right.next,bw t.right.marks] true)]⟩⟩)
  (fun k o=>k≤l.length+1∧o=(acts t l).take k) (fun k _=>l.length+1-k) 0 [] ⟨by omega,rfl⟩ ?_ ?_
 ·exact Lf.of2 [(0,_)] [] enA bxA rfl rfl
 intro k o ⟨h3,h4⟩;by_cases hk:k<l.length+1
 ·have d1:=nB hl hc k (by omega);have d2:=nA hr hc (l.length-k) (by omega);have hd:=Ca hok.2 d1 d2;rw[←DA (nx:=t.left.next) (l:=l) (k:=k) (by omega),←C9 (nx:=t.right.next) (l:=l) (k:=k) (by omega)] at hd;have hs:=AP (t:=t) (l:=l) hk;rw[←h4,←DA (nx:=t.left.next) (l:=l) (k:=k) (by omega),←C9 (nx:=t.right.next) (l:=l) (k:=k) (by omega)] at hs;cases o with
  | nil=>
   repeat' ((conv=>whnf)<;>(first|refine aB.go aA T0 ?_|exact kQ|(refine Br.mk (fun _=>?_) (fun _=>?_)<;>(try(exfalso;omega)))|refine stq ?_|refine aN.pu hd ?_))
   all_goals(conv=>whnf)
   refine⟨k+1,_,⟨by omega,hs.symm⟩,by omega,?_⟩;exact Lf.of2 [(0,_),(1,_)] [] enA bxA rfl rfl
  | cons x xs=>
   have hlen:(x::xs).length≤1001:=by rw[h4];simp[acts];omega
   repeat' ((conv=>whnf)<;>(first|refine aB.go aA T0 ?_|exact kQ|(refine Br.mk (fun _=>?_) (fun _=>?_)<;>(try(exfalso;omega)))|refine stq ?_|refine aN.pu hd ?_))
   all_goals(conv=>whnf)
   refine⟨k+1,_,⟨by omega,hs.symm⟩,by omega,?_⟩;exact Lf.of2 [(0,_),(1,_)] [] (by repeat(first|exact aI.nil|refine aI.cons rfl (by first|exact Rd.sl' rfl (by simp) (by simp)|exact rdA|fail) ?_)) (by repeat(first|exact Bxs.nil|refine Bxs.cons rfl rfl rfl (by first|exact Rb.cells (Rds.eqs (ag (by intro _;rfl) (x::xs) _) (aE (by intro _;rfl) _)) rfl|exact rbB|exact Rb.cells (by(repeat(first|exact Rds.nil|refine Rds.cons (by first|exact Rd.sl' rfl (by simp) (by simp)|exact rdA|fail) ?_|fail));(first|done|fail)) rfl|exact rbC|fail) ?_)) rfl rfl
 ·have hall:(acts t l).take k=acts t l:=kE (by rw[mv];omega);rw[hall] at h4;cases o with
  | nil=>exact absurd h4.symm (by intro h;have:=mv (t:=t) (l:=l);rw[h] at this;simp at this)
  | cons x xs=>
   repeat' ((conv=>whnf)<;>(first|refine aB.go aA T0 ?_|exact kQ|(refine Br.mk (fun _=>?_) (fun _=>?_)<;>(try(exfalso;omega)))|refine stq ?_))
   rw[←h4];exact aH.own1 (id:=1) (l:=x::xs) (fun _=>rfl)
theorem wz {l:List Str}{s:Str}(h:1≤l.length):0≤iL l s∧iL l s<l.length:=by
 unfold iL;split
 ·rename_i hm;have:=List.idxOf_lt_length_of_mem hm
  omega
 ·omega
theorem ur {p:Prp}{t:Tbl}{text:List Int}(hv:TV t):CL (cd p t.classes text) t.classes.length:=by
 intro i h;simp only[cd,List.getElem_map];exact wz hv.1.1
theorem Bb {p:Prp}{t:Tbl}{text:List Int}(hv:TV t):okL t (cd p t.classes text):=⟨ur hv,hv⟩
noncomputable def mB (p:Prp) (t:Tbl) (text:List Int):List Int:=if TV t then acts t (cd p t.classes text) else []
theorem wY {p:Prp}{t:Tbl}{text:List Int}(hp:p.ok) (ht:t.ok) (h1:p.names.length≤1000) (h2:p.spans.length≤1000) (hx:text.length≤1000):Pu Tryz.prog 29 [iE p,qr t,aZ text] (aZ (mB p t text)):=by
 refine Pu.of_v aA T0 Tryz.func29 rfl rfl (by simp[aJ,aD,aG,aK,aM,cU]) ?_;by_cases hv:TV t
 ·have hc:=AU (text:=text) hp ht (by omega) (by omega) (by omega);rw[if_pos hv] at hc;have ha:=xU ht (show(cd p t.classes text).length≤1000 by simp[cd];omega) (Bb hv);rw[mB,if_pos hv];repeat' ((conv=>whnf)<;>(first|refine aB.go aA T0 ?_|exact kQ|(refine Br.mk (fun _=>?_) (fun _=>?_)<;>(try(exfalso;omega)))|refine stq ?_|(refine Cll.dec (i7 ht) (fun _=>?_) (fun _=>?_)<;>(try contradiction))|refine bK.by aA T0 [0,0,0,0,14,31,63] (by kernel_rfl) ?_|refine aN.pu hc ?_|refine aN.pu ha ?_))
  all_goals(conv=>whnf)
  exact aH.same (aM _) rfl
 ·rw[mB,if_neg hv];repeat' ((conv=>whnf)<;>(first|refine aB.go aA T0 ?_|exact kQ|(refine Br.mk (fun _=>?_) (fun _=>?_)<;>(try(exfalso;omega)))|refine stq ?_|(refine Cll.dec (i7 ht) (fun _=>?_) (fun _=>?_)<;>(try contradiction))))
  all_goals(conv=>whnf)
  exact⟨.nil⟩
def btw:Int→List Int→List Rng
 | _,[]=>[]
 | s,e::l=>if s<e then⟨s,e⟩::btw e l else btw s l
theorem mt {s e:Int}{l:List Int}(h:s<e):btw s (e::l)=⟨s,e⟩::btw e l:=by rw[btw,if_pos h]
theorem qd {s e:Int}{l:List Int}(h:¬s<e):btw s (e::l)=btw s l:=by rw[btw,if_neg h]
theorem ou {b:List Int}{n:Int}{k:Nat}(h:k<b.length):(b++[n]).drop k=b[k]::(b++[n]).drop (k+1):=by
 rw[kK (by simp;omega),List.getElem_append_left h]
theorem ov {b:List Int}{n:Int}{k:Nat}(h:k=b.length):(b++[n]).drop k=n::(b++[n]).drop (k+1):=by
 rw[kK (by simp;omega),List.getElem_append_right (by omega)];simp
theorem vX {b:List Int}{n:Int}{k:Nat}(h:¬k≤b.length):(b++[n]).drop k=[]:=List.drop_of_length_le (by simp;omega)
theorem AV {b:List Int}{n:Int}(hx:b.length≤1001):Pu Tryz.prog 16 [aZ b,i64 n] (cx (btw 0 (b++[n]))):=by
 refine Pu.of_v aA T0 Tryz.func16 rfl rfl (by simp[aJ,aD,aM]) ?_;repeat' ((conv=>whnf)<;>(first|refine aB.go aA T0 ?_|exact kQ|(refine Br.mk (fun _=>?_) (fun _=>?_)<;>(try(exfalso;omega)))|refine stq ?_))
 refine aU.by3 aA T0 (fun(k:Nat) (s:Int) (o:List Rng)=>⟨tmp 35 [(0,aZ b),(1,i64 n),(5,ai 0 2 o),(6,i64 s),(7,i64 (k:Int))],⟨1,cY 0 cX o⟩⟩)
  (fun k s o=>(k≤b.length+1∧o.length≤k)∧btw 0 (b++[n])=o++btw s ((b++[n]).drop k)) (fun k _ _=>b.length+1-k) 0 0 [] ⟨⟨by omega,by simp⟩,rfl⟩ ?_ ?_
 ·exact Lf.of2 [] [] enA bxA rfl rfl
 intro k s o ⟨⟨h3,h5⟩,h4⟩;cases o with
 | nil=>
  repeat' ((conv=>whnf)<;>(first|refine aB.go aA T0 ?_|exact kQ|(refine Br.mk (fun _=>?_) (fun _=>?_)<;>(try(exfalso;omega)))|refine stq ?_))
  all_goals(conv=>whnf)
  all_goals first
   | (refine⟨k+1,s,[],⟨⟨by omega,by simp⟩,by rw[h4,ou (by omega),qd (by omega)]⟩,by omega,?_⟩
      exact Lf.of2 [] [] enA bxA rfl rfl)
   | (refine⟨k+1,s,[],⟨⟨by omega,by simp⟩,by rw[h4,ov (by omega),qd (by omega)]⟩,by omega,?_⟩
      exact Lf.of2 [] [] enA bxA rfl rfl)
   | (have hk':k<b.length:=by omega
      refine⟨k+1,b[k]'hk',[⟨s,b[k]'hk'⟩],⟨⟨by omega,by simp⟩,by rw[h4,ou hk',mt (by omega)];rfl⟩,by omega,?_⟩
      exact Lf.of2 [(0,_)] [] enA bxA rfl rfl)
   | (refine⟨k+1,n,[⟨s,n⟩],⟨⟨by omega,by simp⟩,by rw[h4,ov (by omega),mt (by omega)];rfl⟩,by omega,?_⟩
      exact Lf.of2 [(0,_)] [] enA bxA rfl rfl)
   | (rw[h4,vX (by omega)]
      exact⟨.nil⟩)
 | cons x xs=>
  have hlen:(x::xs).length≤1002:=by omega
  repeat' ((conv=>whnf)<;>(first|refine aB.go aA T0 ?_|exact kQ|(refine Br.mk (fun _=>?_) (fun _=>?_)<;>(try(exfalso;omega)))|refine stq ?_))
  all_goals(conv=>whnf)
  all_goals first
   | (refine⟨k+1,s,x::xs,⟨⟨by omega,by omega⟩,by rw[h4,ou (by omega),qd (by omega)]⟩,by omega,?_⟩
      exact Lf.of2 [(0,_)] [] enA bxA rfl rfl)
   | (refine⟨k+1,s,x::xs,⟨⟨by omega,by omega⟩,by rw[h4,ov (by omega),qd (by omega)]⟩,by omega,?_⟩
      exact Lf.of2 [(0,_)] [] enA bxA rfl rfl)
   | (have hk':k<b.length:=by omega
      refine⟨k+1,b[k]'hk',(x::xs)++[⟨s,b[k]'hk'⟩],⟨⟨by omega,by rw[kG];simp only[List.length_singleton];omega⟩,by rw[h4,ou hk',mt (by omega),List.append_assoc];rfl⟩,by omega,?_⟩
      exact Lf.of2 [(0,_)] [] (by(repeat(first|exact aI.nil|refine aI.cons rfl (by first|exact Rd.sl' rfl (by simp) (by simp)|exact rdA|fail) ?_|fail));(first|done|fail)) (by(repeat(first|exact Bxs.nil|refine Bxs.cons rfl rfl rfl (by first|exact Rb.cells (Rds.eqs (ag (c:=cX) (sz:=2) (by intro _;rfl) (x::xs) (⟨s,b[k]'hk'⟩:Rng)) (aE (by intro _;rfl) _)) rfl|exact rbB|exact Rb.cells (by(repeat(first|exact Rds.nil|refine Rds.cons (by first|exact Rd.sl' rfl (by simp) (by simp)|exact rdA|fail) ?_|fail));(first|done|fail)) rfl|exact rbC|fail) ?_|fail));(first|done|fail)) rfl rfl)
   | (refine⟨k+1,n,(x::xs)++[⟨s,n⟩],⟨⟨by omega,by rw[kG];simp only[List.length_singleton];omega⟩,by rw[h4,ov (by omega),mt (by omega),List.append_assoc];rfl⟩,by omega,?_⟩
      exact Lf.of2 [(0,_)] [] (by(repeat(first|exact aI.nil|refine aI.cons rfl (by first|exact Rd.sl' rfl (by simp) (by simp)|exact rdA|fail) ?_|fail));(first|done|fail)) (by(repeat(first|exact Bxs.nil|refine Bxs.cons rfl rfl rfl (by first|exact Rb.cells (Rds.eqs (ag (c:=cX) (sz:=2) (by intro _;rfl) (x::xs) (⟨s,n⟩:Rng)) (aE (by intro _;rfl) _)) rfl|exact rbB|exact Rb.cells (by(repeat(first|exact Rds.nil|refine Rds.cons (by first|exact Rd.sl' rfl (by simp) (by simp)|exact rdA|fail) ?_|fail));(first|done|fail)) rfl|exact rbC|fail) ?_|fail));(first|done|fail)) rfl rfl)
   | (rw[h4,vX (by omega),btw,List.append_nil]
      exact aH.own (id:=0) (es:=2) (c:=cX) (l:=x::xs) (rest:=[]) (fun _=>rfl) (fun _=>rfl))
theorem eD {α β:Type}{P:Program}(x:Sem α) (f:α→Sem β):cR P (x >>= f)=(cR P x).bind fun a=>cR P (f a):=by
 show cR P (x.bind f)=_
 induction x with
 | pure a=>rfl
 | program k ih=>exact ih _
 | mark m k ih=>exact ih
 | _=>rfl
theorem zX {α β:Type}{P:Program}(x:Sem α) (f:α→β):cR P (f <$> x)=(cR P x).map f:=by
 rw[map_eq_pure_bind,eD];cases cR P x<;>rfl
theorem gN {α:Type}{P:Program}(a:α):cR P (pure a:Sem α)=some a:=rfl
theorem iD {P:Program}:cR P program=some P:=rfl
theorem fA {P:Program}{t:TypeId}{d:TypeDesc}(h:P.underlying t=some d):cR P (underlying t)=some d:=by
 simp only[underlying,eD,iD,Option.bind_some,h,gN]
theorem n5 {P:Program}{d:Nat}{t:TypeId}{k:IntKind}{a b:Int}(h:P.underlying t=some (.int k)):cR P (Op.equalIn (d+1) t (.int .i64 a) (.int .i64 b))=some (a == b):=by
 simp[Op.equalIn,eD,fA h,gN]
theorem pY {P:Program}{t:TypeId}{k:IntKind}{cs:Array Value}{o:Nat}{v:Value}(h:P.underlying t=some (.int k)) (hv:cs[o]?=some v):cR P (part t cs o)=some v:=by
 simp[part,isAgg,eD,fA h,gN,hv]
theorem ua {P:Program}{d:Nat}{t:TypeId}{f0 f1:Field}{k:IntKind}{a b c e:Int}(h:P.underlying t=some (.struct #[f0,f1])) (hs:P.stoodInHeld t=false) (n0:f0.name ≠ "_") (n1:f1.name ≠ "_") (o0:f0.offset=0) (o1:f1.offset=1) (t0:P.underlying f0.type=some (.int k)) (t1:P.underlying f1.type=some (.int k)) :
  cR P (Op.equalIn (d+2) t (.agg #[.int .i64 a,.int .i64 b]) (.agg #[.int .i64 c,.int .i64 e]))=some (a == c&&b == e):=by
 rw[Op.equalIn];simp[eD,fA h,iD,hs,n0,n1,o0,o1,pY t0,n5 t0];by_cases h1:a=c<;>by_cases h2:b=e<;>simp[h1,h2,eD,gN,pY t1,n5 t1]
theorem C8 {P:Program}{t:TypeId}{f0 f1:Field}{k:IntKind}{a b c e:Int}{ox oy:Operand}(h:P.underlying t=some (.struct #[f0,f1])) (hs:P.stoodInHeld t=false) (n0:f0.name ≠ "_") (n1:f1.name ≠ "_") (o0:f0.offset=0) (o1:f1.offset=1) (t0:P.underlying f0.type=some (.int k)) (t1:P.underlying f1.type=some (.int k)) (hg:P.eqGuardType P.depth t=false) :
  ci P .neq t ox oy (.agg [i64 a,i64 b]) (.agg [i64 c,i64 e])=some (.v (.bool (!(a == c&&b == e)))):=by
 have e1:cR P (do eqGuard .neq t ox oy (.agg #[.int .i64 a,.int .i64 b]) (.agg #[.int .i64 c,.int .i64 e]);binOp .neq t (.agg #[.int .i64 a,.int .i64 b]) (.agg #[.int .i64 c,.int .i64 e]))=some (.bool (!(a == c&&b == e))):=by
  have e2:cR P (Op.equalIn 10000 t (.agg #[.int .i64 a,.int .i64 b]) (.agg #[.int .i64 c,.int .i64 e]))=some (a == c&&b == e):=ua (d:=9998) h hs n0 n1 o0 o1 t0 t1;simp[eqGuard,binOp,eD,iD,hg,Op.equal,Op.maxDepth,e2,gN,zX]
 have e3:ci P .neq t ox oy (.agg [i64 a,i64 b]) (.agg [i64 c,i64 e])=(match cR P (do eqGuard .neq t ox oy (.agg #[.int .i64 a,.int .i64 b]) (.agg #[.int .i64 c,.int .i64 e]);binOp .neq t (.agg #[.int .i64 a,.int .i64 b]) (.agg #[.int .i64 c,.int .i64 e])) with|some r=>ofV r|none=>none):=rfl;rw[e3,e1];rfl
theorem og {a b c e:Int}{ox oy:Operand}:ci Tryz.prog .neq 52 ox oy (.agg [i64 a,i64 b]) (.agg [i64 c,i64 e])=some (.v (.bool (!(a == c&&b == e)))):=
 C8 (k:=.i64) rfl (by kernel_rfl) (by decide) (by decide) rfl rfl rfl rfl (by kernel_rfl)
theorem lA {x y:Rng}{ox oy:Operand}(h:¬x=y):ci Tryz.prog .neq 52 ox oy (.agg (cX x)) (.agg (cX y))=some (.v (.bool true)):=by
 rw[og];cases x;cases y;simp at h;simp only[kA,D.v.injEq,Value.bool.injEq,Bool.not_eq_true',Bool.and_eq_false_imp,beq_iff_eq,beq_eq_false_iff_ne];exact h
theorem nN {x:Rng}{ox oy:Operand}:ci Tryz.prog .neq 52 ox oy (.agg (cX x)) (.agg (cX x))=some (.v (.bool false)):=by
 rw[og];simp
theorem t9 {a b:List Rng}(ha:a.length≤9223372036854775807) (hb:b.length≤9223372036854775807):Pu Tryz.prog 8 [cx a,cx b] (boo (decide (a=b))):=by
 refine Pu.of_v aA T0 Tryz.func8 rfl rfl (by simp[aD,aO]) ?_;by_cases hl:a.length=b.length
 ·repeat' ((conv=>whnf)<;>(first|refine aB.go aA T0 ?_|exact kQ|(refine Br.mk (fun _=>?_) (fun _=>?_)<;>(try(exfalso;omega)))|refine stq ?_))
  all_goals(conv=>whnf)
  refine aU.by aA T0 (fun k:Nat=>⟨tmp 26 [(0,cx a),(1,cx b),(5,i64 (k:Int))],⟨0,[]⟩⟩)
   (fun k=>k≤a.length∧∀ i (h:i<a.length),i<k→a[i]=b[i]'(by omega)) (fun k=>a.length-k) 0 ⟨by omega,fun _ _ h=>by omega⟩ ?_ ?_
  ·exact Lf.of2 [] [] enA bxA rfl rfl
  intro k ⟨h3,h4⟩;by_cases hk:k<a.length
  ·have hk':k<b.length:=by omega
   by_cases he:a[k]=b[k]
   ·repeat' ((conv=>whnf)<;>(first|refine aB.go aA T0 ?_|exact kQ|(refine Br.mk (fun _=>?_) (fun _=>?_)<;>(try(exfalso;omega)))|refine stq ?_|refine bK.by aA T0 [0,0,3,7,0,0,48,112,255] (by kernel_rfl) ?_|refine Idx.atS (sz:=2) (c:=cX) (fun _=>rfl) k (by omega) (by omega) ?_|(split<;>rename_i heq<;>rw[he] at heq<;>first|(obtain rfl:=Option.some.inj (nN.symm.trans heq))|exact absurd (nN.symm.trans heq) (by simp))))
    all_goals(conv=>whnf)
    refine⟨k+1,⟨by omega,ay (by omega) h4 he⟩,by omega,?_⟩;exact Lf.of2 [] [] enA bxA rfl rfl
   ·repeat' ((conv=>whnf)<;>(first|refine aB.go aA T0 ?_|exact kQ|(refine Br.mk (fun _=>?_) (fun _=>?_)<;>(try(exfalso;omega)))|refine stq ?_|refine bK.by aA T0 [0,0,3,7,0,0,48,112,255] (by kernel_rfl) ?_|refine Idx.atS (sz:=2) (c:=cX) (fun _=>rfl) k (by omega) (by omega) ?_|(split<;>rename_i heq<;>first|(obtain rfl:=Option.some.inj ((lA he).symm.trans heq))|exact absurd ((lA he).symm.trans heq) (by simp))))
    all_goals(conv=>whnf)
    exact aH.no (fun hc=>he (by subst hc;rfl))
  ·repeat' ((conv=>whnf)<;>(first|refine aB.go aA T0 ?_|exact kQ|(refine Br.mk (fun _=>?_) (fun _=>?_)<;>(try(exfalso;omega)))|refine stq ?_))
   all_goals(conv=>whnf)
   exact aH.yes (List.ext_getElem hl fun i h1 h2=>h4 i h1 (by omega))
 ·repeat' ((conv=>whnf)<;>(first|refine aB.go aA T0 ?_|exact kQ|(refine Br.mk (fun _=>?_) (fun _=>?_)<;>(try(exfalso;omega)))|refine stq ?_))
  all_goals(conv=>whnf)
  exact aH.no (fun hc=>hl (by rw[hc]))
end
end Go.Proofs.YtnjmcdmjmaopdaaGreatDoor
