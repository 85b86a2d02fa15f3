/-
  Contracts of functions over data: properties.
-/
import Derived.Test.YtjjbmnacobnfeaaGreatDoorQ1
import Derived.Test.YtjjbmnacobnfeaaGreatDoorAmF
import Derived.Test.YtjjbmnacobnfeaaGreatDoorH0
set_option linter.unusedSectionVars false
namespace Go.Proofs.YtjjbmnacobnfeaaGreatDoor
section
open Go Go.Am Classical
set_option maxRecDepth 100000
variable [GT]
theorem ki {s:Str}(hs:s.length≤9223372036854775807):Pu Tryz.prog 136 [.str s] (boo (decide (s≠[]∧s.length≤32∧vR s))):=by
 refine Pu.of_v aA T0 Tryz.func136 rfl rfl rfl ?_;repeat' ((conv=>whnf)<;>(first|refine aB.go aA T0 ?_|exact kQ|(refine Br.mk (fun _=>?_) (fun _=>?_)<;>(try(exfalso;omega)))|refine stq ?_))
 all_goals(conv=>whnf)
 all_goals first
  | exact aG.no (fun hc=>hc.1 (by assumption))
  | exact aG.no (fun hc=>by omega)
  | skip
 refine aU.by aA T0 (fun k:Nat=>⟨tmp 51 [(0,.str s),(14,i64 s.length),(15,i64 (k:Int))],⟨0,[]⟩⟩) (fun k=>k≤s.length∧∀ i (h:i<s.length),i<k→wb (s[i].toNat:Int)) (fun k=>s.length-k) 0 ⟨by omega,fun _ _ h=>by omega⟩ ?_ ?_
 ·exact Lf.of2 [] [] enA bxA rfl rfl
 intro k ⟨h1,h2⟩;repeat' ((conv=>whnf)<;>(first|refine aB.go aA T0 ?_|exact kQ|(refine Br.mk (fun _=>?_) (fun _=>?_)<;>(try(exfalso;omega)))|refine stq ?_))
 all_goals(conv=>whnf)
 all_goals first
  | exact aG.no (fun hc=>absurd (hc.2.2 k (by omega)) (by unfold wb;omega))
  | exact aG.yes ⟨by assumption,by omega,cA (by omega) h2⟩
  | (refine⟨k+1,⟨by omega,ay (by omega) h2 (by unfold wb;omega)⟩,by omega,?_⟩
     exact Lf.of2 [] [] enA bxA rfl rfl)
def PV (l:List Str):Prop:=1≤l.length∧l.length≤250∧∀ i (h:i<l.length),lq l[i]∧¬l[i]∈l.take i
theorem xy {l:List Str}(hn:l.length≤9223372036854775807) (hl:long l):Pu Tryz.prog 99 [strs l] (boo (decide (PV l))):=by
 refine Pu.of_v aA T0 Tryz.func99 rfl rfl (by simp[aD,aH]) ?_;repeat' ((conv=>whnf)<;>(first|refine aB.go aA T0 ?_|exact kQ|(refine Br.mk (fun _=>?_) (fun _=>?_)<;>(try(exfalso;omega)))|refine stq ?_))
 all_goals(conv=>whnf)
 all_goals first
  | exact aG.no (fun hc=>by have:=hc.1;have:=hc.2.1;omega)
  | skip
 refine aU.by aA T0 (fun k:Nat=>⟨tmp 39 [(0,strs l),(3,i64 (k:Int))],⟨0,[]⟩⟩)
  (fun k=>k≤l.length∧∀ i (h:i<l.length),i<k→lq l[i]∧¬l[i]∈l.take i) (fun k=>l.length-k) 0 ⟨by omega,fun _ _ h=>by omega⟩ ?_ ?_
 ·exact Lf.of2 [] [] enA bxA rfl rfl
 intro k ⟨h1,h2⟩;repeat' ((conv=>whnf)<;>(first|refine aB.go aA T0 ?_|exact kQ|(refine Br.mk (fun _=>?_) (fun _=>?_)<;>(try(exfalso;omega)))|refine stq ?_|refine Cll.dec (uK sd) (fun _=>?_) (fun _=>?_)|refine aM.dec (uK sd) (fun _=>?_) (fun _=>?_)))
 all_goals(conv=>whnf)
 all_goals first
  | exact aG.no (fun hc=>by obtain⟨⟨_,_,_⟩,_⟩:=hc.2.2 k (by omega);first|omega|contradiction|simp_all)
  | exact aG.yes ⟨by omega,by omega,cA (by omega) h2⟩
  | skip
 rename_i a1
 refine aU.by aA T0 (fun j:Nat=>⟨tmp 39 [(0,strs l),(3,i64 (k:Int)),(4,i64 (j:Int))],⟨0,[]⟩⟩)
  (fun j=>j≤k∧∀ i (h:i<l.length),i<j→l[i]≠l[k]) (fun j=>k-j) 0 ⟨by omega,fun _ _ h=>by omega⟩ ?_ ?_
 ·exact Lf.of2 [] [] enA bxA rfl rfl
 intro j ⟨h3,h4⟩;repeat' ((conv=>whnf)<;>(first|refine aB.go aA T0 ?_|exact kQ|(refine Br.mk (fun _=>?_) (fun _=>?_)<;>(try(exfalso;omega)))|refine stq ?_))
 all_goals(conv=>whnf)
 all_goals first
  | exact aG.no (fun hc=>(hc.2.2 k (by omega)).2 (jF.2 ⟨j,by omega,by omega,by assumption⟩))
  | (refine⟨j+1,⟨by omega,ay (by omega) h4 (by assumption)⟩,by omega,?_⟩
     exact Lf.of2 [] [] enA bxA rfl rfl)
  | (refine⟨k+1,⟨by omega,ay (by omega) h2 ⟨a1,fun hm=>by obtain⟨i,hi,hlt,e⟩:=jF.1 hm;exact h4 i hi (by omega) e⟩⟩,by omega,?_⟩
     exact Lf.of2 [] [] enA bxA rfl rfl)
abbrev nilM:D:=.v (.map none)
theorem Bg {l:List Str}(hl:long l) (hp:¬PV l):Pu Tryz.prog 95 [strs l] (.tup [nilM,boo false]):=by
 refine Pu.of_v aA T0 Tryz.func95 rfl rfl (by simp[aD,aH]) ?_;repeat' ((conv=>whnf)<;>(first|refine aB.go aA T0 ?_|exact kQ|(refine Br.mk (fun _=>?_) (fun _=>?_)<;>(try(exfalso;omega)))|refine stq ?_))
 all_goals(conv=>whnf)
 all_goals first
  | exact aG.same rfl rfl
  | skip
 refine aU.by aA T0 (fun k:Nat=>⟨tmp 42 [(4,.map 0),(18,strs l),(19,i64 l.length),(20,i64 (k:Int))],⟨1,[(0,.map (pos (l.take k) 0))]⟩⟩)
  (fun k=>k≤l.length∧∀ i (h:i<l.length),i<k→lq l[i]∧¬l[i]∈l.take i) (fun k=>l.length-k) 0 ⟨by omega,fun _ _ h=>by omega⟩ ?_ ?_
 ·exact Lf.of2 [(0,_)] [] enA bxA rfl rfl
 intro k ⟨h1,h2⟩;repeat' ((conv=>whnf)<;>(first|refine aB.go aA T0 ?_|exact kQ|(refine Br.mk (fun _=>?_) (fun _=>?_)<;>(try(exfalso;omega)))|refine stq ?_|refine Cll.dec (ki sd) (fun _=>?_) (fun _=>?_)|refine aM.dec (ki sd) (fun _=>?_) (fun _=>?_)|(refine fe.pos (fun _ _=>?_) (fun _=>?_)<;>(try contradiction))))
 all_goals(conv=>whnf)
 all_goals first
  | exact aG.same rfl rfl
  | (exfalso;exact hp ⟨by omega,by omega,cA (by omega) h2⟩)
  | skip
 rename_i a1 a2 a3;refine⟨k+1,⟨by omega,ay (by omega) h2 ⟨a2,a1⟩⟩,by omega,?_⟩;exact Lf.of2 [(0,_)] [] enA bxA rfl rfl
theorem zS {l:List Str}(hl:long l) (hp:PV l):Pk Tryz.prog 95 [strs l] 1 (fun n=>.tup [.map n,boo true]) (fun n=>[(n,.map (pos l 0))]):=by
 refine Pk.of_v aA T0 Tryz.func95 rfl rfl (by simp[aD,aH]) ?_;repeat' ((conv=>whnf)<;>(first|refine aB.go aA T0 ?_|exact kQ|(refine Br.mk (fun _=>?_) (fun _=>?_)<;>(try(exfalso;omega)))|refine stq ?_))
 all_goals(conv=>whnf)
 all_goals first
  | (exfalso;have:=hp.1;have:=hp.2.1;omega)
  | skip
 refine aU.by aA T0 (fun k:Nat=>⟨tmp 42 [(4,.map 0),(18,strs l),(19,i64 l.length),(20,i64 (k:Int))],⟨1,[(0,.map (pos (l.take k) 0))]⟩⟩)
  (fun k=>k≤l.length) (fun k=>l.length-k) 0 (by omega) ?_ ?_
 ·exact Lf.of2 [(0,_)] [] enA bxA rfl rfl
 intro k h1;repeat' ((conv=>whnf)<;>(first|refine aB.go aA T0 ?_|exact kQ|(refine Br.mk (fun _=>?_) (fun _=>?_)<;>(try(exfalso;omega)))|refine stq ?_|refine Cll.dec (ki sd) (fun _=>?_) (fun _=>?_)|refine aM.dec (ki sd) (fun _=>?_) (fun _=>?_)|(refine fe.pos (fun _ _=>?_) (fun _=>?_)<;>(try contradiction))))
 all_goals(conv=>whnf)
 all_goals first
  | (exfalso;obtain⟨a1,a2⟩:=hp.2.2 k (by omega);first|contradiction|(rename_i a3;exact a3 a1))
  | (refine⟨k+1,by omega,by omega,?_⟩
     exact Lf.of2 [(0,_)] [] enA bxA rfl rfl)
  | exact⟨[0],rfl,⟨by simp,fun n=>.tup (.cons (.map (by simp[sgn])) (.cons (.same rfl) .nil)),fun n=>.cons (id:=0) (by simp[sgn]) rfl rfl (.map (.eqs (by rw[kE (by omega)]) (ab _ _))) .nil⟩⟩
structure Spn where
 lo:Int
 hi:Int
 val:Int
 deriving Inhabited
structure Prp where
 names:List Str
 spans:List Spn
abbrev Ac (s:Spn):List D:=[i64 s.lo,i64 s.hi,i64 s.val]
abbrev dI (l:List Spn):D:=lstS Ac l
abbrev iA (p:Prp):D:=.agg [strs p.names,dI p.spans]
theorem aK (l:List Spn):aJ (dI l)=true:=fC (fun _=>rfl) l
theorem nD (p:Prp):aJ (iA p)=true:=by simp[aJ,aD,aH,aK]
structure Prp.ok (p:Prp):Prop where
 names:p.names.length≤9223372036854775807
 long:long p.names
 spans:p.spans.length≤9223372036854775807
def SpQ (l:List Spn) (n:Int) (i:Nat) (s:Spn):Prop:=(0≤s.lo∧s.lo≤s.hi∧s.hi≤1114111∧1≤s.val∧s.val<n) ∧
 (i≠0→(l.getD (i-1) default).hi<s.lo∧¬(s.lo=(l.getD (i-1) default).hi+1∧s.val=(l.getD (i-1) default).val))
def PrV (p:Prp):Prop:=PV p.names∧∀ i (h:i<p.spans.length),SpQ p.spans p.names.length i p.spans[i]
theorem eO {n:Int}:Pu Tryz.prog 137 [i64 n] (boo (decide (0≤n∧n≤1114111))):=by
 refine Pu.of_v aA T0 Tryz.func137 rfl rfl rfl ?_;repeat' ((conv=>whnf)<;>(first|refine aB.go aA T0 ?_|exact kQ|(refine Br.mk (fun _=>?_) (fun _=>?_)<;>(try(exfalso;omega)))|refine stq ?_))
 all_goals(conv=>whnf)
 all_goals first
  | exact aG.yes (by omega)
  | exact aG.no (by omega)
theorem mU {s:Spn}:Pu Tryz.prog 96 [.agg (Ac s)] (boo (decide (0≤s.lo∧s.lo≤s.hi∧s.hi≤1114111))):=by
 refine Pu.of_v aA T0 Tryz.func96 rfl rfl rfl ?_;repeat' ((conv=>whnf)<;>(first|refine aB.go aA T0 ?_|exact kQ|(refine Br.mk (fun _=>?_) (fun _=>?_)<;>(try(exfalso;omega)))|refine stq ?_|refine Cll.dec (eO) (fun _=>?_) (fun _=>?_)|refine aM.dec (eO) (fun _=>?_) (fun _=>?_)))
 all_goals(conv=>whnf)
 all_goals first
  | exact aG.yes (by omega)
  | exact aG.no (by omega)
theorem mG {p:Prp}(hp:p.ok):Pu Tryz.prog 70 [iA p] (boo (decide (PrV p))):=by
 have hl:=hp.long;have hs:=hp.spans;by_cases hv:PV p.names
 ·refine Pu.of_v aA T0 Tryz.func70 rfl rfl (by simp[aJ,aD,aH,aK]) ?_;repeat' ((conv=>whnf)<;>(first|refine aB.go aA T0 ?_|exact kQ|(refine Br.mk (fun _=>?_) (fun _=>?_)<;>(try(exfalso;omega)))|refine stq ?_|refine Cll.pk (zS (by assumption) (by assumption)) ?_))
  all_goals(conv=>whnf)
  refine aU.by aA T0 (fun k:Nat=>⟨tmp 69 [(1,.ptr 0 0),(17,dI p.spans),(18,i64 p.spans.length),(19,i64 (k:Int))],⟨1,[(0,.cells [strs p.names,dI p.spans] true)]⟩⟩)
   (fun k=>k≤p.spans.length∧∀ i (h:i<p.spans.length),i<k→SpQ p.spans p.names.length i p.spans[i]) (fun k=>p.spans.length-k) 0 ⟨by omega,fun _ _ h=>by omega⟩ ?_ ?_
  ·exact Lf.of2 [(0,_)] [] enA bxA rfl rfl
  intro k ⟨h3,h4⟩;by_cases hk:k=0
  ·subst hk;repeat' ((conv=>whnf)<;>(first|refine aB.go aA T0 ?_|exact kQ|(refine Br.mk (fun _=>?_) (fun _=>?_)<;>(try(exfalso;omega)))|refine stq ?_|refine Cll.dec (mU) (fun _=>?_) (fun _=>?_)|refine aM.dec (mU) (fun _=>?_) (fun _=>?_)))
   all_goals(conv=>whnf)
   all_goals first
    | exact aG.no (fun hc=>by have:=(hc.2 0 (by omega)).1;omega)
    | exact aG.yes ⟨hv,fun i h=>by omega⟩
    | (refine⟨0+1,⟨by omega,ay (by omega) h4 ⟨by omega,fun h=>absurd rfl h⟩⟩,by omega,?_⟩
       exact Lf.of2 [(0,_)] [] enA bxA rfl rfl)
  ·have h5:=h4 (k-1) (by omega) (by omega);have h6:=h5.1;have e:p.spans.getD (k-1) default=p.spans[k-1]:=aX (by omega);repeat' ((conv=>whnf)<;>(first|refine aB.go aA T0 ?_|exact kQ|(refine Br.mk (fun _=>?_) (fun _=>?_)<;>(try(exfalso;omega)))|refine stq ?_|refine Cll.dec (mU) (fun _=>?_) (fun _=>?_)|refine aM.dec (mU) (fun _=>?_) (fun _=>?_)|refine Idx.atS (by intro _;rfl) (k-1) (by omega) (by omega) ?_))
   all_goals(conv=>whnf)
   all_goals first
    | exact aG.no (fun hc=>by have h7:=hc.2 k (by omega);have:=h7.1;have:=h7.2 hk;rw[e] at this;omega)
    | exact aG.yes ⟨hv,cA (by omega) h4⟩
    | (refine⟨k+1,⟨by omega,ay (by omega) h4 ⟨by omega,fun _=>by rw[e];omega⟩⟩,by omega,?_⟩
       exact Lf.of2 [(0,_)] [] enA bxA rfl rfl)
 ·refine Pu.of_v aA T0 Tryz.func70 rfl rfl (by simp[aJ,aD,aH,aK]) ?_;repeat' ((conv=>whnf)<;>(first|refine aB.go aA T0 ?_|exact kQ|(refine Br.mk (fun _=>?_) (fun _=>?_)<;>(try(exfalso;omega)))|refine stq ?_|refine Cll.pu (Bg (by assumption) (by assumption)) ?_))
  all_goals(conv=>whnf)
  exact aG.no (fun hc=>hv hc.1)
theorem dp {p:Prp}(hp:p.ok):Pu Tryz.prog 72 [iA p] (boo (decide (PrV p))):=by
 have hn:=hp.names;have hl:=hp.long;have hs:=hp.spans;refine Pu.of_v aA T0 Tryz.func72 rfl rfl (by simp[aJ,aD,aH,aK]) ?_;repeat' ((conv=>whnf)<;>(first|refine aB.go aA T0 ?_|exact kQ|(refine Br.mk (fun _=>?_) (fun _=>?_)<;>(try(exfalso;omega)))|refine stq ?_|refine Cll.dec (xy sd sd) (fun _=>?_) (fun _=>?_)|refine aM.dec (xy sd sd) (fun _=>?_) (fun _=>?_)))
 all_goals(conv=>whnf)
 all_goals first
  | exact aG.no (fun hc=>by have:=hc.1;contradiction)
  | skip
 rename_i hv
 refine aU.by aA T0 (fun k:Nat=>⟨tmp 88 [(1,.ptr 0 0),(3,i64 (k:Int))],⟨1,[(0,.cells [strs p.names,dI p.spans] true)]⟩⟩)
  (fun k=>k≤p.spans.length∧∀ i (h:i<p.spans.length),i<k→SpQ p.spans p.names.length i p.spans[i]) (fun k=>p.spans.length-k) 0 ⟨by omega,fun _ _ h=>by omega⟩ ?_ ?_
 ·exact Lf.of2 [(0,_)] [] enA bxA rfl rfl
 intro k ⟨h3,h4⟩;by_cases hk:k=0
 ·subst hk;repeat' ((conv=>whnf)<;>(first|refine aB.go aA T0 ?_|exact kQ|(refine Br.mk (fun _=>?_) (fun _=>?_)<;>(try(exfalso;omega)))|refine stq ?_))
  all_goals(conv=>whnf)
  all_goals first
   | exact aG.no (fun hc=>by have:=(hc.2 0 (by omega)).1;omega)
   | exact aG.yes ⟨hv,fun i h=>by omega⟩
   | (refine⟨0+1,⟨by omega,ay (by omega) h4 ⟨by omega,fun h=>absurd rfl h⟩⟩,by omega,?_⟩
      exact Lf.of2 [(0,_)] [] enA bxA rfl rfl)
 ·have h5:=h4 (k-1) (by omega) (by omega);have h6:=h5.1;have e:p.spans.getD (k-1) default=p.spans[k-1]:=aX (by omega);repeat' ((conv=>whnf)<;>(first|refine aB.go aA T0 ?_|exact kQ|(refine Br.mk (fun _=>?_) (fun _=>?_)<;>(try(exfalso;omega)))|refine stq ?_|refine Idx.atS (by intro _;rfl) (k-1) (by omega) (by omega) ?_))
  all_goals(conv=>whnf)
  all_goals first
   | exact aG.no (fun hc=>by have h7:=hc.2 k (by omega);have:=h7.1;have:=h7.2 hk;rw[e] at this;omega)
   | exact aG.yes ⟨hv,cA (by omega) h4⟩
   | (refine⟨k+1,⟨by omega,ay (by omega) h4 ⟨by omega,fun _=>by rw[e];omega⟩⟩,by omega,?_⟩
      exact Lf.of2 [(0,_)] [] enA bxA rfl rfl)
end
section
open Go Go.Am Classical
set_option maxRecDepth 100000
variable [GT]
def other:Str:=[79,116,104,101,114]
noncomputable def cnt (p:Prp):Prp:=if PrV p then p else⟨[other],[]⟩
def fp:List Spn→Int→Int
 | [],_=>0
 | s::l,c=>if s.lo≤c∧c≤s.hi then s.val else fp l c
theorem rj {l:List Spn}{k:Nat}(h:k<l.length) (c:Int):fp (l.drop k) c=if l[k].lo≤c∧c≤l[k].hi then l[k].val else fp (l.drop (k+1)) c:=by
 rw[kK h];rfl
theorem nU {p:Prp}(hp:p.ok):Pu Tryz.prog 87 [iA p] (iA (cnt p)):=by
 refine Pu.of_v aA T0 Tryz.func87 rfl rfl (by simp[aJ,aD,aH,aK]) ?_;repeat' ((conv=>whnf)<;>(first|refine aB.go aA T0 ?_|exact kQ|(refine Br.mk (fun _=>?_) (fun _=>?_)<;>(try(exfalso;omega)))|refine stq ?_|refine Cll.dec (dp sd) (fun _=>?_) (fun _=>?_)|refine aM.dec (dp sd) (fun _=>?_) (fun _=>?_)))
 all_goals(conv=>whnf)
 ·rename_i hv;rw[show cnt p=p from by simp[cnt,hv]];exact aG.same (nD p) rfl
 ·rename_i hv;rw[show cnt p=⟨[other],[]⟩ from by simp[cnt,hv]];exact⟨.agg (.cons (.frz rfl rfl (kD rfl) (.cons (.same rfl) .nil)) (.cons .nil .nil))⟩
theorem Eu {p:Prp}{c:Int}(hp:p.ok):Pu Tryz.prog 88 [iA p,i64 c] (i64 (fp (cnt p).spans c)):=by
 have hs:(cnt p).spans.length≤9223372036854775807:=by
  unfold cnt;split
  ·exact hp.spans
  ·simp
 refine Pu.of_v aA T0 Tryz.func88 rfl rfl (by simp[aJ,aD,aH,aK]) ?_;repeat' ((conv=>whnf)<;>(first|refine aB.go aA T0 ?_|exact kQ|(refine Br.mk (fun _=>?_) (fun _=>?_)<;>(try(exfalso;omega)))|refine stq ?_|refine Cll.pu (nU sd) ?_))
 all_goals(conv=>whnf)
 generalize cnt p=q at *
 refine aU.by aA T0 (fun k:Nat=>⟨tmp 40 [(1,i64 c),(5,.ptr 0 0),(6,i64 (k:Int))],⟨1,[(0,.cells [strs q.names,dI q.spans] true)]⟩⟩)
  (fun k=>k≤q.spans.length∧fp (q.spans.drop k) c=fp q.spans c) (fun k=>q.spans.length-k) 0 ⟨by omega,rfl⟩ ?_ ?_
 ·exact Lf.of2 [(0,_)] [] (by repeat(first|exact aI.nil|refine aI.cons rfl (by first|exact Rd.same (aK _)|exact rdA|fail) ?_)) (by repeat(first|exact Bxs.nil|refine Bxs.cons rfl rfl rfl (by first|exact Rb.cells (Rds.cons (Rd.same (aH _)) (Rds.cons (Rd.same (aK _)) Rds.nil)) rfl|exact rbB|exact rbC|fail) ?_)) rfl rfl
 intro k ⟨h3,h4⟩;repeat' ((conv=>whnf)<;>(first|refine aB.go aA T0 ?_|exact kQ|(refine Br.mk (fun _=>?_) (fun _=>?_)<;>(try(exfalso;omega)))|refine stq ?_))
 all_goals(conv=>whnf)
 all_goals first
  | exact aG.int (by rw[←h4,rj (by omega),if_pos (by omega)])
  | exact aG.int (by rw[←h4,List.drop_eq_nil_of_le (by omega)];rfl)
  | (refine⟨k+1,⟨by omega,by rw[←h4,rj (k:=k) (by omega),if_neg (by omega)]⟩,by omega,?_⟩
     exact Lf.of2 [(0,_)] [] enA bxA rfl rfl)
theorem wg {l:List Spn}{n:Int}(hn:1≤n) (h:∀ i (h:i<l.length),1≤l[i].val∧l[i].val<n) (c:Int):0≤fp l c∧fp l c<n:=by
 induction l with
 | nil=>simp only[fp];omega
 | cons s l ih=>
  simp only[fp];split
  ·have:=h 0 (by simp);simp at this;omega
  ·exact ih fun i hi=>by have:=h (i+1) (by simp;omega);simpa using this
theorem lB {p:Prp}(c:Int):0≤fp (cnt p).spans c∧fp (cnt p).spans c<(cnt p).names.length:=by
 unfold cnt;split
 ·rename_i hv;exact wg (by have:=hv.1.1;omega) (fun i h=>by have:=(hv.2 i h).1;omega) c
 ·simp[fp]
theorem EF {p:Prp}(c:Int):(fp (cnt p).spans c).toNat<(cnt p).names.length:=by have:=lB (p:=p) c;omega
noncomputable def pf (p:Prp) (c:Int):Str:=(cnt p).names[(fp (cnt p).spans c).toNat]'(EF c)
theorem tB {p:Prp}{c:Int}(hp:p.ok):Pu Tryz.prog 55 [iA p,i64 c] (.str (pf p c)):=by
 have hr:=lB (p:=p) c;refine Pu.of_v aA T0 Tryz.func55 rfl rfl (by simp[aJ,aD,aH,aK]) ?_;repeat' ((conv=>whnf)<;>(first|refine aB.go aA T0 ?_|exact kQ|(refine Br.mk (fun _=>?_) (fun _=>?_)<;>(try(exfalso;omega)))|refine stq ?_|refine Cll.pu (nU sd) ?_|refine aM.pu (nU sd) ?_|refine Cll.pu (Eu sd) ?_|refine aM.pu (Eu sd) ?_|refine Idx.at (fp (cnt p).spans c).toNat (by omega) (by omega) ?_))
 all_goals(conv=>whnf)
 exact aG.same rfl rfl
def iG (l:List Str) (s:Str):Int:=if s∈l then l.idxOf s else 0
theorem Bi {l:List Str}{s:Str}{k:Nat}(h:k<l.length) (e:l[k]=s) (hn:¬s∈l.take k):iG l s=k:=by
 have hm:s∈l:=e▸kM h;unfold iG;rw[if_pos hm]
 have h1:l.idxOf s≤k:=by
  refine Nat.le_of_not_lt fun hlt=>?_
  have:=List.not_of_lt_findIdx hlt
  simp[e] at this
 have h2:¬l.idxOf s<k:=fun hlt=>hn (jF.2 ⟨l.idxOf s,by omega,hlt,by simp⟩)
 congr 1;omega
theorem mE {l:List Str}{s:Str}(hn:l.length≤9223372036854775807):Pu Tryz.prog 54 [strs l,.str s] (i64 (iG l s)):=by
 refine Pu.of_v aA T0 Tryz.func54 rfl rfl (by simp[aJ,aD,aH]) ?_;repeat' ((conv=>whnf)<;>(first|refine aB.go aA T0 ?_|exact kQ|(refine Br.mk (fun _=>?_) (fun _=>?_)<;>(try(exfalso;omega)))|refine stq ?_))
 refine aU.by aA T0 (fun k:Nat=>⟨tmp 19 [(0,strs l),(1,.str s),(5,i64 (k:Int))],⟨0,[]⟩⟩)
  (fun k=>k≤l.length∧¬s∈l.take k) (fun k=>l.length-k) 0 ⟨by omega,by simp⟩ ?_ ?_
 ·exact Lf.of2 [] [] enA bxA rfl rfl
 intro k ⟨h3,h4⟩;repeat' ((conv=>whnf)<;>(first|refine aB.go aA T0 ?_|exact kQ|(refine Br.mk (fun _=>?_) (fun _=>?_)<;>(try(exfalso;omega)))|refine stq ?_))
 all_goals(conv=>whnf)
 all_goals first
  | exact aG.int (Bi (by omega) (by assumption) h4).symm
  | exact aG.int (by rw[kE (by omega)] at h4;simp[iG,h4])
  | (refine⟨k+1,⟨by omega,by rw[bk (by omega)];simp only[List.mem_append,List.mem_singleton,not_or];exact⟨h4,fun e=>by simp_all⟩⟩,by omega,?_⟩
     exact Lf.of2 [] [] enA bxA rfl rfl)
noncomputable def cZ (p:Prp) (l:List Str) (text:List Int):List Int:=text.map fun c=>iG l (pf p c)
theorem n5 {p:Prp}{l:List Str}{text:List Int}{k:Nat}(h:k<text.length):cZ p l (text.take (k+1))=cZ p l (text.take k)++[iG l (pf p text[k])]:=(j0 h).symm
theorem EY {p:Prp}{l:List Str}{text:List Int}(hp:p.ok) (hl:l.length≤9223372036854775807) (ht:text.length≤1000):Pu Tryz.prog 25 [iA p,strs l,aa text] (aa (cZ p l text)):=by
 refine Pu.of_v aA T0 Tryz.func25 rfl rfl (by simp[aJ,aD,aH,aK,aN]) ?_;repeat' ((conv=>whnf)<;>(first|refine aB.go aA T0 ?_|exact kQ|(refine Br.mk (fun _=>?_) (fun _=>?_)<;>(try(exfalso;omega)))|refine stq ?_))
 refine aU.by2 aA T0 (fun(k:Nat) (o:List Int)=>⟨tmp 27 [(1,strs l),(2,aa text),(3,.ptr 0 0),(7,ai 1 1 o),(8,i64 (k:Int))],⟨2,cv 1 (fun x=>[i64 x]) o++[(0,.cells [strs p.names,dI p.spans] true)]⟩⟩)
  (fun k o=>k≤text.length∧o=cZ p l (text.take k)) (fun k _=>text.length-k) 0 [] ⟨by omega,rfl⟩ ?_ ?_
 ·exact Lf.of2 [(0,_)] [] enA bxA rfl rfl
 intro k o ⟨h3,h4⟩;cases o with
 | nil=>
  repeat' ((conv=>whnf)<;>(first|refine aB.go aA T0 ?_|exact kQ|(refine Br.mk (fun _=>?_) (fun _=>?_)<;>(try(exfalso;omega)))|refine stq ?_|refine Cll.pu (tB sd) ?_|refine aM.pu (tB sd) ?_|refine Cll.pu (mE sd) ?_|refine aM.pu (mE sd) ?_|refine bL.by aA T0 [0,0,0,0,0,24,56,124,254,510,1023,2047] (by kernel_rfl) ?_))
  all_goals(conv=>whnf)
  ·refine⟨k+1,([]:List Int)++[iG l (pf p text[k])],⟨by omega,by simp only[n5 (show k<text.length by omega),←h4]⟩,by omega,?_⟩;exact Lf.of2 [(0,_),(1,_)] [] enA bxA rfl rfl
  ·rw[show cZ p l text=[] from by rw[h4,kE (by omega)]];exact⟨.nil⟩
 | cons x xs=>
  have hk:(x::xs).length≤1000:=by rw[h4];simp[cZ];omega
  repeat' ((conv=>whnf)<;>(first|refine aB.go aA T0 ?_|exact kQ|(refine Br.mk (fun _=>?_) (fun _=>?_)<;>(try(exfalso;omega)))|refine stq ?_|refine Cll.pu (tB sd) ?_|refine aM.pu (tB sd) ?_|refine Cll.pu (mE sd) ?_|refine aM.pu (mE sd) ?_|refine bL.by aA T0 [0,0,0,0,0,24,56,124,254,510,1023,2047] (by kernel_rfl) ?_))
  all_goals(conv=>whnf)
  ·refine⟨k+1,(x::xs)++[iG l (pf p text[k])],⟨by omega,by simp only[n5 (show k<text.length by omega),←h4]⟩,by omega,?_⟩;exact Lf.of2 [(0,_),(1,_)] [] (by repeat(first|exact aI.nil|refine aI.cons rfl (by first|exact Rd.sl' rfl (by simp) (by simp)|exact rdA|fail) ?_)) (by repeat(first|exact Bxs.nil|refine Bxs.cons rfl rfl rfl (by first|exact Rb.cells (Rds.eqs (ax (by intro _;rfl) (x::xs) _) (aE (by intro _;rfl) _)) rfl|exact rbB|exact Rb.cells (by(repeat(first|exact Rds.nil|refine Rds.cons (by first|exact Rd.sl' rfl (by simp) (by simp)|exact rdA|fail) ?_|fail));(first|done|fail)) rfl|exact rbC|fail) ?_)) rfl rfl
  ·rw[show cZ p l text=x::xs from by rw[h4,kE (by omega)]];exact aG.own1 (id:=1) (l:=x::xs) (fun _=>rfl)
theorem Ag {n s:Nat}{g:FuncId}{cap:List D}{p:Nat→Prop}(hc:aD cap=true) (hn:n≤4611686018427387903) (hs:s≤n) (h1:∀ i,i<s→¬p i) (h2:∀ i,s≤i→i<n→p i)
  (hf:∀ i:Nat,i<n→Pu Tryz.prog g ([i64 i]++cap) (boo (decide (p i)))):Pu Tryz.prog 97 [i64 n,.fn (.func g) [] cap] (i64 s):=by
 refine Pu.of_v aA T0 Tryz.func97 rfl rfl (by simp[aJ,aD,hc]) ?_;repeat' ((conv=>whnf)<;>(first|refine aB.go aA T0 ?_|exact kQ|(refine Br.mk (fun _=>?_) (fun _=>?_)<;>(try(exfalso;omega)))|refine stq ?_))
 refine aU.by2 aA T0 (fun i j:Nat=>⟨tmp 26 [(1,.fn (.func g) [] cap),(5,i64 i),(6,i64 j)],⟨0,[]⟩⟩)
  (fun i j=>i≤s∧s≤j∧j≤n) (fun i j=>j-i) 0 n ⟨by omega,by omega,by omega⟩ ?_ ?_
 ·exact Lf.of2 [] [] (by repeat(first|exact aI.nil|refine aI.cons rfl (by first|exact Rd.same (by simp[aJ,aD,hc])|exact rdA|fail) ?_)) (by repeat(first|exact Bxs.nil|refine Bxs.cons rfl rfl rfl (by first|exact rbB|exact rbC|fail) ?_)) rfl rfl
 intro i j ⟨h3,h4,h5⟩
 have em:IntKind.i64.wrap ((IntKind.u64.wrap ((i:Int)+(j:Int))).fdiv (2 ^ min (Int.toNat 1) IntKind.u64.bits))=(((i+j) / 2:Nat):Int):=by
  have e1:IntKind.u64.wrap ((i:Int)+(j:Int))=(i:Int)+(j:Int):=by
   simp[IntKind.wrap,IntKind.bits,IntKind.signed];omega
  rw[e1,Int.fdiv_eq_ediv_of_nonneg _ (by decide)];simp[IntKind.wrap,IntKind.bits,IntKind.signed];omega
 repeat' ((conv=>whnf)<;>(first|refine aB.go aA T0 ?_|exact kQ|(refine Br.mk (fun _=>?_) (fun _=>?_)<;>(try(exfalso;omega)))|refine stq ?_|refine Cll.dec (p:=p ((i+j) / 2)) (by rw[em];exact hf _ (by omega)) (fun _=>?_) (fun _=>?_)|refine Chk.mk (rh (by rw[em];omega) (by rw[em];omega)) ?_))
 all_goals(conv=>whnf)
 all_goals first
  | exact aG.int (by omega)
  | (refine⟨i,(i+j) / 2,⟨by omega,Nat.le_of_not_lt fun hlt=>h1 _ hlt (by assumption),by omega⟩,by omega,?_⟩
     exact Lf.of2 [] [] (by(repeat(first|exact aI.nil|refine aI.cons rfl (by first|exact Rd.same (by simp[aJ,aD,hc])|exact Rd.int em|exact rdA|fail) ?_|fail));(first|done|fail)) (by(repeat(first|exact Bxs.nil|refine Bxs.cons rfl rfl rfl (by first|exact rbB|exact rbC|fail) ?_|fail));(first|done|fail)) rfl rfl)
  | (refine⟨(i+j) / 2+1,j,⟨Nat.succ_le_of_lt (Nat.lt_of_not_le fun hle=>absurd (h2 _ hle (by omega)) (by assumption)),by omega,by omega⟩,by omega,?_⟩
     exact Lf.of2 [] [] (by(repeat(first|exact aI.nil|refine aI.cons rfl (by first|exact Rd.same (by simp[aJ,aD,hc])|exact Rd.int (by rw[em];omega)|exact rdA|fail) ?_|fail));(first|done|fail)) (by(repeat(first|exact Bxs.nil|refine Bxs.cons rfl rfl rfl (by first|exact rbB|exact rbC|fail) ?_|fail));(first|done|fail)) rfl rfl)
theorem AF {l:List Spn}{c:Int}{k:Nat}(hk:k<l.length):Pu Tryz.prog 98 ([i64 (k:Int)]++[.iptr [dI l],.iptr [i64 c]]) (boo (decide (c≤l[k].hi))):=by
 refine Pu.of_v aA T0 Tryz.func98 rfl rfl (by simp[aJ,aD,aK]) ?_;repeat' ((conv=>whnf)<;>(first|refine aB.go aA T0 ?_|exact kQ|(refine Br.mk (fun _=>?_) (fun _=>?_)<;>(try(exfalso;omega)))|refine stq ?_))
 all_goals(conv=>whnf)
 all_goals first
  | exact aG.yes (by omega)
  | exact aG.no (by omega)
def Cf (l:List Spn):Prop:=∀ i (h:i<l.length),l[i].lo≤l[i].hi∧∀ h0:i≠0,(l[i-1]'(by omega)).hi<l[i].lo
theorem DJ {l:List Spn}{n:Int}(h:∀ i (h:i<l.length),SpQ l n i l[i]):Cf l:=fun i hi=>by
 obtain⟨h1,h2⟩:=h i hi;refine⟨by omega,fun h0=>?_⟩;have:=(h2 h0).1
 rwa [aX (by omega)] at this
theorem xb {l:List Spn}(h:Cf l){i:Nat}(j:Nat) (hi:i<l.length) (hj:i+j<l.length):l[i].hi≤l[i+j].hi:=by
 induction j with
 | zero=>exact Int.le_refl _
 | succ j ih=>
  have h1:=ih (by omega);have h2:=h (i+(j+1)) hj;have h3:=h2.2 (by omega);have h4:=h2.1;have e:i+(j+1)-1=i+j:=by omega
  simp only[e] at h3;omega
theorem ri {l:List Spn}{c:Int}(h:∀ i (h:i<l.length),¬(l[i].lo≤c∧c≤l[i].hi)):fp l c=0:=by
 induction l with
 | nil=>rfl
 | cons s l ih=>
  simp only[fp];rw[if_neg (show ¬(s.lo≤c∧c≤s.hi) from h 0 (by simp))];exact ih fun i hi=>h (i+1) (by simpa using hi)
theorem Dz {l:List Spn}{c:Int}{s:Nat}(hs:s<l.length) (h:∀ i (hi:i<l.length),i<s→¬(l[i].lo≤c∧c≤l[i].hi)) (h2:l[s].lo≤c∧c≤l[s].hi):fp l c=l[s].val:=by
 induction l generalizing s with
 | nil=>simp at hs
 | cons x l ih=>
  simp only[fp];cases s with
  | zero=>rw[if_pos (show x.lo≤c∧c≤x.hi from h2)];rfl
  | succ s=>
   rw[if_neg (show ¬(x.lo≤c∧c≤x.hi) from h 0 (by simp) (by omega))];exact ih (s:=s) (by simpa using hs) (fun i hi hlt=>h (i+1) (by simpa using hi) (by omega)) h2
noncomputable def cu (l:List Spn) (c:Int):Nat:=l.findIdx fun s=>decide (c≤s.hi)
theorem wk (l:List Spn) (c:Int):cu l c≤l.length:=List.findIdx_le_length
theorem gz {l:List Spn}{c:Int}{i:Nat}(h:i<l.length) (hlt:i<cu l c):¬c≤l[i].hi:=by
 have:=List.not_of_lt_findIdx hlt
 simpa using this
theorem qG {l:List Spn}{c:Int}(h:cu l c<l.length):c≤l[cu l c].hi:=by
 have:=List.findIdx_getElem (p:=fun s:Spn=>decide (c≤s.hi)) (w:=h)
 exact of_decide_eq_true this
theorem wh {l:List Spn}(hr:Cf l) (c:Int):fp l c=if h:cu l c<l.length then(if l[cu l c].lo≤c then l[cu l c].val else 0) else 0:=by
 split
 ·rename_i hs;have h1:=qG hs;split
  ·rename_i h2;exact Dz hs (fun i hi hlt=>by have:=gz hi hlt;omega) ⟨h2,h1⟩
  ·rename_i h2;refine ri fun i hi=>?_
   rcases Nat.lt_trichotomy i (cu l c) with hlt|he|hgt
   ·have:=gz hi hlt;omega
   ·subst he;omega
   ·have h3:=xb hr (i-1-cu l c) hs (by omega);have h4:=(hr i hi).2 (by omega);have e:cu l c+(i-1-cu l c)=i-1:=by omega
    simp only[e] at h3;omega
 ·rename_i hs;refine ri fun i hi=>?_
  have:=gz (c:=c) hi (by omega)
  omega
theorem xK {l:List Spn}{c:Int}(hn:l.length≤4611686018427387903) (hr:Cf l):Pu Tryz.prog 71 [dI l,i64 c] (i64 (fp l c)):=by
 rw[wh hr c];have h0:=wk l c
 have hse:Pu Tryz.prog 97 [i64 l.length,.fn (.func 98) [] [.iptr [dI l],.iptr [i64 c]]] (i64 (cu l c)):=
  Ag (p:=fun i=>∃ h:i<l.length,c≤l[i].hi) (by simp[aJ,aD,aK]) hn h0 (fun i hi ⟨h,hc⟩=>gz h hi hc)
   (fun i h1 h2=>⟨h2,by
    have h3:=qG (l:=l) (c:=c) (by omega);have h4:=xb hr (i-cu l c) (i:=cu l c) (by omega) (by omega);have e:cu l c+(i-cu l c)=i:=by omega
    simp only[e] at h4
    omega⟩)
   (fun i hi=>by
    have:=AF (l:=l) (c:=c) hi
    exact(congrArg (fun b=>Pu Tryz.prog _ _ (boo b)) (decide_eq_decide.2 ⟨fun h=>⟨hi,h⟩,fun⟨_,h⟩=>h⟩)).mp this)
 refine Pu.of_v aA T0 Tryz.func71 rfl rfl (by simp[aJ,aD,aK]) ?_
 conv=>whnf
 refine aB.weak aA T0 (s0:=⟨tmp 28 [(2,.iptr [dI l]),(3,.iptr [i64 c])],⟨0,[]⟩⟩) ?_ ?_
 ·exact Lf.of2 [] [0,1] (by repeat(first|exact aI.nil|refine aI.cons rfl (by first|exact Rd.frzp rfl rfl (Rds.cons (Rd.same (aK _)) Rds.nil)|exact Rd.frzp rfl rfl (Rds.cons (Rd.same rfl) Rds.nil)|exact rdA|fail) ?_)) (by repeat(first|exact Bxs.nil|refine Bxs.cons rfl rfl rfl (by first|exact rbB|exact rbC|fail) ?_)) rfl rfl
 repeat' ((conv=>whnf)<;>(first|refine aB.go aA T0 ?_|exact kQ|(refine Br.mk (fun _=>?_) (fun _=>?_)<;>(try(exfalso;omega)))|refine stq ?_|refine Cll.pu hse ?_))
 all_goals(conv=>whnf)
 all_goals first
  | exact aG.int (by rw[dif_pos (by omega),if_pos (by assumption)])
  | exact aG.int (by rw[dif_pos (by omega),if_neg (by assumption)])
  | exact aG.int (by rw[dif_neg (by omega)])
theorem CA (p:Prp):Cf (cnt p).spans:=by
 unfold cnt;split
 ·rename_i hv;exact DJ hv.2
 ·intro i h;simp at h
theorem zn {p:Prp}(h:p.spans.length≤1000):(cnt p).spans.length≤1000:=by
 unfold cnt;split
 ·exact h
 ·simp
theorem zo {p:Prp}(h:p.names.length≤1000):(cnt p).names.length≤1000:=by
 unfold cnt;split
 ·exact h
 ·simp
theorem z5 {p:Prp}{t:Tbl}{text:List Int}(hp:p.ok) (ht:t.ok) (hx:text.length≤1000) (hs:p.spans.length≤1000) (hnn:p.names.length≤1000):Pu Tryz.prog 44 [iA p,qe t,aa text] (aa (if TV t then cZ p t.classes text else [])):=by
 have h1:=ht.classes;have hr:=CA p;have hs2:=zn hs;have hn2:=zo hnn;refine Pu.of_v aA T0 Tryz.func44 rfl rfl (by simp[aJ,aD,aH,aK,aN,cU]) ?_;repeat' ((conv=>whnf)<;>(first|refine aB.go aA T0 ?_|exact kQ|(refine Br.mk (fun _=>?_) (fun _=>?_)<;>(try(exfalso;omega)))|refine stq ?_|refine Cll.dec (i4 sd) (fun _=>?_) (fun _=>?_)|refine aM.dec (i4 sd) (fun _=>?_) (fun _=>?_)|refine Cll.dec (mG sd) (fun _=>?_) (fun _=>?_)|refine aM.dec (mG sd) (fun _=>?_) (fun _=>?_)))
 all_goals(conv=>whnf)
 ·rename_i hv hpv;have hcp:cnt p=p:=by simp[cnt,hpv]
  refine aU.by aA T0 (fun k:Nat=>⟨tmp 81 [(2,aa text),(3,.ptr 0 0),(7,.map 1),(29,strs t.classes),(30,i64 t.classes.length),(31,i64 (k:Int))],⟨2,[(0,.cells [strs (cnt p).names,dI (cnt p).spans] true),(1,.map (pos (t.classes.take k) 0))]⟩⟩)
   (fun k=>k≤t.classes.length) (fun k=>t.classes.length-k) 0 (by omega) ?_ ?_
  ·exact Lf.of2 [(0,_),(1,_)] [9] enA (by repeat(first|exact Bxs.nil|refine Bxs.cons rfl rfl rfl (by first|exact Rb.cells (by rw[hcp];exact Rds.same (by simp only[cd,aD,aH,aK,Bool.and_self])) rfl|exact Rb.cells (by rw[hcp];exact Rds.cons (Rd.frz rfl rfl (kD rfl) (Rds.cons (Rd.same rfl) Rds.nil)) (Rds.cons Rd.nil Rds.nil)) rfl|exact rbB|exact Rb.cells bS rfl|exact rbC|fail) ?_)) rfl rfl
  intro k h3;repeat' ((conv=>whnf)<;>(first|refine aB.go aA T0 ?_|exact kQ|(refine Br.mk (fun _=>?_) (fun _=>?_)<;>(try(exfalso;omega)))|refine stq ?_|(refine fe.pos (fun _ _=>?_) (fun _=>?_)<;>(try(exfalso;exact(hv.1.2.2 k (by omega)).2 (by assumption))))))
  all_goals(conv=>whnf)
  ·refine⟨k+1,by omega,by omega,?_⟩;exact Lf.of2 [(0,_),(1,_)] [] enA bxA rfl rfl
  refine aU.by aA T0 (fun k:Nat=>⟨tmp 81 [(2,aa text),(3,.ptr 0 0),(7,.map 1),(10,.sl 2 0 (cnt p).names.length (cnt p).names.length 1 true),(45,strs (cnt p).names),(46,i64 (cnt p).names.length),(47,i64 (k:Int))],⟨3,[(0,.cells [strs (cnt p).names,dI (cnt p).spans] true),(1,.map (pos t.classes 0)),(2,.cells (gX (fun s=>i64 (iG t.classes s)) (i64 0) (cnt p).names k) true)]⟩⟩)
   (fun k=>k≤(cnt p).names.length) (fun k=>(cnt p).names.length-k) 0 (by omega) ?_ ?_
  ·exact Lf.of2 [(0,_),(1,_),(2,_)] [] enA (by repeat(first|exact Bxs.nil|refine Bxs.cons rfl rfl rfl (by first|exact Rb.cells (Rds.eqs (iv _) (cJ (fun _=>rfl) rfl)) rfl|exact Rb.map (Res.eqs (by rw[kE (by omega)]) (ab _ _))|exact rbB|exact Rb.cells bS rfl|exact rbC|fail) ?_)) rfl rfl
  intro k h4;repeat' ((conv=>whnf)<;>(first|refine aB.go aA T0 ?_|exact kQ|(refine Br.mk (fun _=>?_) (fun _=>?_)<;>(try(exfalso;omega)))|refine stq ?_|(refine fe.pos (fun _ _=>?_) (fun _=>?_))|refine Put.one (by rw[g8 (by omega)];omega) ?_))
  all_goals(conv=>whnf)
  ·rename_i _ hm;refine⟨k+1,by omega,by omega,?_⟩;exact Lf.of2 [(0,_),(1,_),(2,_)] [] enA (by repeat(first|exact Bxs.nil|refine Bxs.cons rfl rfl rfl (by first|exact Rb.cells (Rds.eqs (by rw[←ii (by omega)];simp[iG,hm]) (cJ (fun _=>rfl) rfl)) rfl|exact rbB|exact Rb.cells bS rfl|exact rbC|fail) ?_)) rfl rfl
  ·rename_i hm;refine⟨k+1,by omega,by omega,?_⟩;exact Lf.of2 [(0,_),(1,_),(2,_)] [] enA (by repeat(first|exact Bxs.nil|refine Bxs.cons rfl rfl rfl (by first|exact Rb.cells (Rds.eqs (by rw[←ii (by omega)];simp only[iG,hm,if_false];rfl) (cJ (fun _=>rfl) rfl)) rfl|exact rbB|exact Rb.cells bS rfl|exact rbC|fail) ?_)) rfl rfl
  refine aU.by aA T0 (fun k:Nat=>⟨tmp 81 [(3,.ptr 0 0),(10,.sl 2 0 (cnt p).names.length (cnt p).names.length 1 true),(13,.sl 3 0 text.length text.length 1 true),(62,aa text),(63,i64 text.length),(64,i64 (k:Int))],⟨4,[(0,.cells [strs (cnt p).names,dI (cnt p).spans] true),(2,.cells ((cnt p).names.map fun s=>i64 (iG t.classes s)) true),(3,.cells (gX (fun c=>i64 (iG t.classes (pf p c))) (i64 0) text k) true)]⟩⟩)
   (fun k=>k≤text.length) (fun k=>text.length-k) 0 (by omega) ?_ ?_
  ·exact Lf.of2 [(0,_),(2,_),(3,_)] [] enA (by repeat(first|exact Bxs.nil|refine Bxs.cons rfl rfl rfl (by first|exact Rb.cells (Rds.eqs (iv _) (cJ (fun _=>rfl) rfl)) rfl|exact Rb.cells (Rds.eqs (mZ (by omega)) (aZ (fun _=>rfl) _)) rfl|exact rbB|exact Rb.cells bS rfl|exact rbC|fail) ?_)) rfl rfl
  intro k h5;have hg:=lB (p:=p) (text.getD k 0);repeat' ((conv=>whnf)<;>(first|refine aB.go aA T0 ?_|exact kQ|(refine Br.mk (fun _=>?_) (fun _=>?_)<;>(try(exfalso;omega)))|refine stq ?_|refine Cll.pu (xK sd sd) ?_|refine cf.at (fp (cnt p).spans text[k]).toNat (by rw[aX (by omega)] at hg;omega) (by rw[aX (by omega)] at hg;omega) ?_|refine Get.map (by rw[aX (by omega)] at hg;omega) ?_|refine Put.one (by rw[g8 (by omega)];omega) ?_))
  all_goals(conv=>whnf)
  ·refine⟨k+1,by omega,by omega,?_⟩;exact Lf.of2 [(0,_),(2,_),(3,_)] [] enA (by repeat(first|exact Bxs.nil|refine Bxs.cons rfl rfl rfl (by first|exact Rb.cells (Rds.eqs (by rw[←ii (by omega)];rfl) (cJ (fun _=>rfl) rfl)) rfl|exact rbB|exact Rb.cells bS rfl|exact rbC|fail) ?_)) rfl rfl
  ·rw[if_pos hv];exact aG.frz1 (l:=cZ p t.classes text) (f:=i64) rfl (by rw[mZ (by omega)];simp[cZ]) (by simp[cZ]) (fun _=>rfl) rfl
 ·rename_i hv hpv;have hcp:cnt p=⟨[other],[]⟩:=by simp[cnt,hpv]
  refine aU.by aA T0 (fun k:Nat=>⟨tmp 81 [(2,aa text),(3,.ptr 0 0),(7,.map 1),(29,strs t.classes),(30,i64 t.classes.length),(31,i64 (k:Int))],⟨2,[(0,.cells [strs (cnt p).names,dI (cnt p).spans] true),(1,.map (pos (t.classes.take k) 0))]⟩⟩)
   (fun k=>k≤t.classes.length) (fun k=>t.classes.length-k) 0 (by omega) ?_ ?_
  ·exact Lf.of2 [(0,_),(1,_)] [9] enA (by repeat(first|exact Bxs.nil|refine Bxs.cons rfl rfl rfl (by first|exact Rb.cells (by rw[hcp];exact Rds.same (by simp only[cd,aD,aH,aK,Bool.and_self])) rfl|exact Rb.cells (by rw[hcp];exact Rds.cons (Rd.frz rfl rfl (kD rfl) (Rds.cons (Rd.same rfl) Rds.nil)) (Rds.cons Rd.nil Rds.nil)) rfl|exact rbB|exact Rb.cells bS rfl|exact rbC|fail) ?_)) rfl rfl
  intro k h3;repeat' ((conv=>whnf)<;>(first|refine aB.go aA T0 ?_|exact kQ|(refine Br.mk (fun _=>?_) (fun _=>?_)<;>(try(exfalso;omega)))|refine stq ?_|(refine fe.pos (fun _ _=>?_) (fun _=>?_)<;>(try(exfalso;exact(hv.1.2.2 k (by omega)).2 (by assumption))))))
  all_goals(conv=>whnf)
  ·refine⟨k+1,by omega,by omega,?_⟩;exact Lf.of2 [(0,_),(1,_)] [] enA bxA rfl rfl
  refine aU.by aA T0 (fun k:Nat=>⟨tmp 81 [(2,aa text),(3,.ptr 0 0),(7,.map 1),(10,.sl 2 0 (cnt p).names.length (cnt p).names.length 1 true),(45,strs (cnt p).names),(46,i64 (cnt p).names.length),(47,i64 (k:Int))],⟨3,[(0,.cells [strs (cnt p).names,dI (cnt p).spans] true),(1,.map (pos t.classes 0)),(2,.cells (gX (fun s=>i64 (iG t.classes s)) (i64 0) (cnt p).names k) true)]⟩⟩)
   (fun k=>k≤(cnt p).names.length) (fun k=>(cnt p).names.length-k) 0 (by omega) ?_ ?_
  ·exact Lf.of2 [(0,_),(1,_),(2,_)] [] enA (by repeat(first|exact Bxs.nil|refine Bxs.cons rfl rfl rfl (by first|exact Rb.cells (Rds.eqs (iv _) (cJ (fun _=>rfl) rfl)) rfl|exact Rb.map (Res.eqs (by rw[kE (by omega)]) (ab _ _))|exact rbB|exact Rb.cells bS rfl|exact rbC|fail) ?_)) rfl rfl
  intro k h4;repeat' ((conv=>whnf)<;>(first|refine aB.go aA T0 ?_|exact kQ|(refine Br.mk (fun _=>?_) (fun _=>?_)<;>(try(exfalso;omega)))|refine stq ?_|(refine fe.pos (fun _ _=>?_) (fun _=>?_))|refine Put.one (by rw[g8 (by omega)];omega) ?_))
  all_goals(conv=>whnf)
  ·rename_i _ hm;refine⟨k+1,by omega,by omega,?_⟩;exact Lf.of2 [(0,_),(1,_),(2,_)] [] enA (by repeat(first|exact Bxs.nil|refine Bxs.cons rfl rfl rfl (by first|exact Rb.cells (Rds.eqs (by rw[←ii (by omega)];simp[iG,hm]) (cJ (fun _=>rfl) rfl)) rfl|exact rbB|exact Rb.cells bS rfl|exact rbC|fail) ?_)) rfl rfl
  ·rename_i hm;refine⟨k+1,by omega,by omega,?_⟩;exact Lf.of2 [(0,_),(1,_),(2,_)] [] enA (by repeat(first|exact Bxs.nil|refine Bxs.cons rfl rfl rfl (by first|exact Rb.cells (Rds.eqs (by rw[←ii (by omega)];simp only[iG,hm,if_false];rfl) (cJ (fun _=>rfl) rfl)) rfl|exact rbB|exact Rb.cells bS rfl|exact rbC|fail) ?_)) rfl rfl
  refine aU.by aA T0 (fun k:Nat=>⟨tmp 81 [(3,.ptr 0 0),(10,.sl 2 0 (cnt p).names.length (cnt p).names.length 1 true),(13,.sl 3 0 text.length text.length 1 true),(62,aa text),(63,i64 text.length),(64,i64 (k:Int))],⟨4,[(0,.cells [strs (cnt p).names,dI (cnt p).spans] true),(2,.cells ((cnt p).names.map fun s=>i64 (iG t.classes s)) true),(3,.cells (gX (fun c=>i64 (iG t.classes (pf p c))) (i64 0) text k) true)]⟩⟩)
   (fun k=>k≤text.length) (fun k=>text.length-k) 0 (by omega) ?_ ?_
  ·exact Lf.of2 [(0,_),(2,_),(3,_)] [] enA (by repeat(first|exact Bxs.nil|refine Bxs.cons rfl rfl rfl (by first|exact Rb.cells (Rds.eqs (iv _) (cJ (fun _=>rfl) rfl)) rfl|exact Rb.cells (Rds.eqs (mZ (by omega)) (aZ (fun _=>rfl) _)) rfl|exact rbB|exact Rb.cells bS rfl|exact rbC|fail) ?_)) rfl rfl
  intro k h5;have hg:=lB (p:=p) (text.getD k 0);repeat' ((conv=>whnf)<;>(first|refine aB.go aA T0 ?_|exact kQ|(refine Br.mk (fun _=>?_) (fun _=>?_)<;>(try(exfalso;omega)))|refine stq ?_|refine Cll.pu (xK sd sd) ?_|refine cf.at (fp (cnt p).spans text[k]).toNat (by rw[aX (by omega)] at hg;omega) (by rw[aX (by omega)] at hg;omega) ?_|refine Get.map (by rw[aX (by omega)] at hg;omega) ?_|refine Put.one (by rw[g8 (by omega)];omega) ?_))
  all_goals(conv=>whnf)
  ·refine⟨k+1,by omega,by omega,?_⟩;exact Lf.of2 [(0,_),(2,_),(3,_)] [] enA (by repeat(first|exact Bxs.nil|refine Bxs.cons rfl rfl rfl (by first|exact Rb.cells (Rds.eqs (by rw[←ii (by omega)];rfl) (cJ (fun _=>rfl) rfl)) rfl|exact rbB|exact Rb.cells bS rfl|exact rbC|fail) ?_)) rfl rfl
  ·rw[if_pos hv];exact aG.frz1 (l:=cZ p t.classes text) (f:=i64) rfl (by rw[mZ (by omega)];simp[cZ]) (by simp[cZ]) (fun _=>rfl) rfl
 ·rename_i hv;rw[if_neg hv];exact⟨.nil⟩
end
section
open Go Go.Am Classical
set_option maxRecDepth 100000
abbrev bl (a b:Str):Bool:=Op.bytesLess a b
theorem r9:∀ a:Str,bl a a=false
 | []=>rfl
 | x::a=>by simp only[bl,Op.bytesLess];simp[r9 a]
theorem vO:∀ {a b c:Str},bl a b=true→bl b c=true→bl a c=true
 | _,[],_,h,_=>by simp[bl,Op.bytesLess] at h
 | _,_::_,[],_,h=>by simp[bl,Op.bytesLess] at h
 | [],_::_,_::_,_,_=>by simp[bl,Op.bytesLess]
 | x::a,y::b,z::c,h1,h2=>by
  simp only[bl,Op.bytesLess,kN,kC,decide_eq_true_eq,beq_iff_eq] at *;rcases h1 with h1|⟨rfl,h1⟩
  ·rcases h2 with h2|⟨rfl,_⟩
   ·exact .inl (UInt8.lt_trans h1 h2)
   ·exact .inl h1
  ·rcases h2 with h2|⟨rfl,h2⟩
   ·exact .inl h2
   ·exact .inr ⟨rfl,vO h1 h2⟩
structure Mpg where
 frm:Int
 to:List Int
 tag:Str
 deriving Inhabited
def bef (a b:Mpg):Prop:=a.frm<b.frm∨(a.frm=b.frm∧bl a.tag b.tag=true)
theorem zq {a b c:Mpg}(h1:bef a b) (h2:bef b c):bef a c:=by
 unfold bef at *;rcases h1 with h1|⟨e1,h1⟩<;>rcases h2 with h2|⟨e2,h2⟩
 ·exact .inl (by omega)
 ·exact .inl (by omega)
 ·exact .inl (by omega)
 ·exact .inr ⟨by omega,vO h1 h2⟩
theorem EM {a b:Mpg}(h:bef a b):¬(b.frm=a.frm∧b.tag=a.tag):=by
 rintro⟨e1,e2⟩;rcases h with h|⟨_,h⟩
 ·omega
 ·rw[e2,r9] at h;cases h
def tQ (a b:Str):Int:=if bl a b=true then -1 else if a=b then 0 else 1
def CD (a b:Mpg):Int:=if gh a.frm b.frm=0 then tQ a.tag b.tag else gh a.frm b.frm
theorem yT {a b:Mpg}:CD a b<0↔bef a b:=by
 unfold CD tQ gh bef;by_cases h1:a.frm<b.frm
 ·simp[h1]
 ·by_cases h2:b.frm<a.frm
  ·simp[h1,h2];omega
  ·have e:a.frm=b.frm:=by omega
   simp only[e,if_true,if_false,Int.lt_irrefl,false_or,true_and];by_cases h3:bl a.tag b.tag=true
   ·simp[h3]
   ·simp only[h3];by_cases h4:a.tag=b.tag
    ·simp[h4]
    ·simp[h4]
def cpQ (n:Int):Prop:=0≤n∧n≤1114111
def kR (m:Mpg):Prop:=cpQ m.frm∧∀ j (h:j<m.to.length),cpQ m.to[j]
def AN (m:Mpg):Prop:=m.tag=[]∨lq m.tag
def Tw (l:List Mpg):Prop:=∃ i,∃ h:i<l.length,∃ k,∃ hk:k<i,l[i].frm=(l[k]'(by omega)).frm∧l[i].tag=(l[k]'(by omega)).tag
def Asc (l:List Mpg):Prop:=∀ i (h:i<l.length),∀ h0:i≠0,bef (l[i-1]'(by omega)) l[i]
theorem Asc.lt {l:List Mpg}(h:Asc l):∀ (d i:Nat) (hi:i+d+1<l.length),bef (l[i]'(by omega)) l[i+d+1]
 | 0,i,hi=>by have:=h (i+1) hi (by omega);simpa using this
 | d+1,i,hi=>zq (Asc.lt h d i (by omega)) (h (i+d+1+1) hi (by omega))
theorem Asc.once {l:List Mpg}(h:Asc l):¬Tw l:=by
 rintro⟨i,hi,k,hk,e⟩;have:=Asc.lt h (i-k-1) k (by omega)
 have e2:k+(i-k-1)+1=i:=by omega
 simp only[e2] at this;exact EM this e
noncomputable def du (l:List Mpg):Int:=
 if ∀ i (h:i<l.length),kR l[i] then(if ∀ i (h:i<l.length),l[i].to.length≤64 then(if ∀ i (h:i<l.length),AN l[i] then 0 else 6) else 2) else 1
def MOk (l:List Mpg):Prop:=du l=0∧Asc l
end
section
open Go Go.Am Classical
set_option maxRecDepth 100000
variable [GT]
abbrev dO (r:Rng):List D:=[i64 r.lo,i64 r.hi]
abbrev eT (l:List Rng):D:=lstS dO l
theorem aP (l:List Rng):aJ (eT l)=true:=fC (fun _=>rfl) l
abbrev iW (m:Mpg):List D:=[i64 m.frm,aa m.to,.str m.tag]
abbrev ci (l:List Mpg):D:=lstS iW l
theorem ls (m:Mpg):aD (iW m)=true:=by simp[aD,aJ,aN]
theorem aQ (l:List Mpg):aJ (ci l)=true:=fC ls l
structure Db where
 major:Int
 minor:Int
 cat:Prp
 wid:Prp
 scr:Prp
 gra:Prp
 wor:Prp
 sen:Prp
 lin:Prp
 classes:List Spn
 decomp:List Mpg
 excl:List Rng
 lower:List Mpg
 upper:List Mpg
 title:List Mpg
 fold:List Mpg
 cased:List Rng
 ignor:List Rng
 start:List Rng
 cont:List Rng
 medial:List Rng
 confu:List Mpg
abbrev prpC (p:Prp):List D:=[strs p.names,dI p.spans]
abbrev dbC (d:Db):List D:=[i64 d.major,i64 d.minor,strs d.cat.names,dI d.cat.spans,strs d.wid.names,dI d.wid.spans,strs d.scr.names,dI d.scr.spans,strs d.gra.names,dI d.gra.spans,strs d.wor.names,dI d.wor.spans,strs d.sen.names,dI d.sen.spans,strs d.lin.names,dI d.lin.spans,
 dI d.classes,ci d.decomp,eT d.excl,ci d.lower,ci d.upper,ci d.title,ci d.fold,eT d.cased,eT d.ignor,eT d.start,eT d.cont,eT d.medial,ci d.confu]
abbrev dbD (d:Db):D:=.agg (dbC d)
theorem ak (d:Db):aD (dbC d)=true:=by simp[aD,aJ,aH,aK,aQ,aP]
def prop (d:Db):Nat→Prp
 | 0=>d.cat
 | 1=>d.wid
 | 2=>d.scr
 | 3=>d.gra
 | 4=>d.wor
 | 5=>d.sen
 | _=>d.lin
def yv (d:Db):Nat→List Rng
 | 0=>d.excl
 | 1=>d.cased
 | 2=>d.ignor
 | 3=>d.start
 | 4=>d.cont
 | _=>d.medial
def fm (d:Db):Nat→List Mpg
 | 9=>d.decomp
 | 11=>d.lower
 | 12=>d.upper
 | 13=>d.title
 | 14=>d.fold
 | _=>d.confu
def ClQ (l:List Spn) (i:Nat) (s:Spn):Prop:=(0≤s.lo∧s.lo≤s.hi∧s.hi≤1114111∧1≤s.val∧s.val≤254) ∧
 (i≠0→(l.getD (i-1) default).hi<s.lo∧¬(s.lo=(l.getD (i-1) default).hi+1∧s.val=(l.getD (i-1) default).val))
def ClV (l:List Spn):Prop:=∀ i (h:i<l.length),ClQ l i l[i]
def sO (n:Int):Prop:=0≤n∧n≤9999
def Ew (d:Db):Nat→Prop
 | 0=>sO d.major∧sO d.minor
 | 1=>PrV d.cat
 | 2=>PrV d.wid
 | 3=>PrV d.scr
 | 4=>PrV d.gra
 | 5=>PrV d.wor
 | 6=>PrV d.sen
 | 7=>PrV d.lin
 | 8=>ClV d.classes
 | 9=>MOk d.decomp
 | 10=>dF d.excl
 | 11=>MOk d.lower
 | 12=>MOk d.upper
 | 13=>MOk d.title
 | 14=>MOk d.fold
 | 15=>dF d.cased
 | 16=>dF d.ignor
 | 17=>dF d.start
 | 18=>dF d.cont
 | 19=>dF d.medial
 | _=>MOk d.confu
def DbV (d:Db):Prop:=∀ k,k<21→Ew d k
def SmM (l:List Mpg):Prop:=(∀ i (h:i<l.length),i<30→l[i].to.length≤65∧l[i].tag.length≤40)∧l.length≤20
def SmD (d:Db):Prop:=d.classes.length≤16∧(∀ k,k<7→(prop d k).names.length≤30∧(prop d k).spans.length≤16)∧(∀ k,k<6→(yv d k).length≤12)∧∀ k,k<21→SmM (fm d k)
structure Db.ok (d:Db):Prop where
 prop:∀ k,(prop d k).ok
 sets:∀ k,(yv d k).length≤9223372036854775807
 maps:∀ k,(fm d k).length≤9223372036854775807∧∀ i (h:i<(fm d k).length),(fm d k)[i].to.length≤9223372036854775807∧(fm d k)[i].tag.length≤9223372036854775807
 classes:d.classes.length≤9223372036854775807
def gY:List Int→Int
 | []=>0
 | e::l=>if e=0 then gY l else e
theorem tL:∀ {l:List Int}{k:Nat}(h:k<l.length),(∀ i (hi:i<l.length),i<k→l[i]=0)→l[k]≠0→gY l=l[k]
 | [],k,h,_,_=>by simp at h
 | e::l,0,_,_,h2=>by simp only[List.getElem_cons_zero] at h2 ⊢;rw[gY,if_neg h2]
 | e::l,k+1,h,h1,h2=>by
  have e0:e=0:=h1 0 (by simp) (by omega);rw[gY,if_pos e0];simp only[List.getElem_cons_succ] at h2 ⊢;exact tL (by simpa using h) (fun i hi hk=>by have:=h1 (i+1) (by simpa using hi) (by omega);simpa using this) h2
theorem kx:∀ {l:List Int},gY l=0↔∀ i (hi:i<l.length),l[i]=0
 | []=>by simp[gY]
 | e::l=>by
  rw[gY];constructor
  ·intro h i hi;split at h
   ·rename_i e0;cases i with
    | zero=>simpa using e0
    | succ i=>simpa using kx.1 h i (by simpa using hi)
   ·rename_i e0;exact absurd h e0
  ·intro h;have e0:e=0:=h 0 (by simp);rw[if_pos e0];exact kx.2 fun i hi=>by have:=h (i+1) (by simpa using hi);simpa using this
end
section
open Go Go.Am Classical
set_option maxRecDepth 100000
variable [GT]
def oP:List Int→List Int→Int
 | [],[]=>0
 | [],_::_=>-1
 | _::_,[]=>1
 | x::a,y::b=>if x<y then -1 else if y<x then 1 else oP a b
theorem r6 {a b:List Int}{k:Nat}(h1:k<a.length) (h2:k<b.length):oP (a.drop k) (b.drop k)=if a[k]<b[k] then -1 else if b[k]<a[k] then 1 else oP (a.drop (k+1)) (b.drop (k+1)):=by
 rw[kK h1,kK h2];rfl
theorem CF {a b:List Int}{k:Nat}(h1:k≤a.length) (h2:k≤b.length) (hk:¬(k<a.length∧k<b.length)):oP (a.drop k) (b.drop k)=if a.length<b.length then -1 else if b.length<a.length then 1 else 0:=by
 by_cases ha:k<a.length
 ·rw[kK ha,(List.drop_eq_nil_of_le (by omega):b.drop k=[]),if_neg (by omega),if_pos (by omega)];rfl
 ·rw[(List.drop_eq_nil_of_le (by omega):a.drop k=[])];by_cases hb:k<b.length
  ·rw[kK hb,if_pos (by omega)];rfl
  ·rw[(List.drop_eq_nil_of_le (by omega):b.drop k=[]),if_neg (by omega),if_neg (by omega)];rfl
theorem nV:∀ {a b:List Int},oP a b=0↔a=b
 | [],[]=>by simp[oP]
 | [],_::_=>by simp[oP]
 | _::_,[]=>by simp[oP]
 | x::a,y::b=>by
  simp only[oP,List.cons.injEq];have:=nV (a:=a) (b:=b)
  by_cases h1:x<y
  ·rw[if_pos h1];constructor
   ·intro h;omega
   ·rintro⟨rfl,_⟩;omega
  ·rw[if_neg h1];by_cases h2:y<x
   ·rw[if_pos h2];constructor
    ·intro h;omega
    ·rintro⟨rfl,_⟩;omega
   ·rw[if_neg h2,this];exact⟨fun h=>⟨by omega,h⟩,fun h=>h.2⟩
theorem zz {a b:List Int}(ha:a.length≤9223372036854775807):Pu Tryz.prog 34 [aa a,aa b] (i64 (oP a b)):=by
 refine Pu.of_v aA T0 Tryz.func34 rfl rfl (by simp[aD,aN]) ?_;repeat' ((conv=>whnf)<;>(first|refine aB.go aA T0 ?_|exact kQ|(refine Br.mk (fun _=>?_) (fun _=>?_)<;>(try(exfalso;omega)))|refine stq ?_))
 refine aU.by aA T0 (fun k:Nat=>⟨tmp 46 [(0,aa a),(1,aa b),(5,i64 (k:Int))],⟨0,[]⟩⟩) (fun k=>k≤a.length∧k≤b.length∧oP (a.drop k) (b.drop k)=oP a b) (fun k=>a.length-k) 0 ⟨by omega,by omega,rfl⟩ ?_ ?_
 ·exact Lf.of2 [] [] enA bxA rfl rfl
 intro k ⟨h1,h2,h3⟩;repeat' ((conv=>whnf)<;>(first|refine aB.go aA T0 ?_|exact kQ|(refine Br.mk (fun _=>?_) (fun _=>?_)<;>(try(exfalso;omega)))|refine stq ?_))
 all_goals(conv=>whnf)
 all_goals first
  | (refine aG.int ?_
     rw[←h3]
     first
      | (rw[CF h1 h2 (by omega)];(repeat' split)<;>omega)
      | (rw[r6 (by omega) (by omega)];(repeat' split)<;>omega))
  | skip
 refine⟨k+1,⟨by omega,by omega,by rw[←h3,r6 (k:=k) (by omega) (by omega),if_neg (by omega),if_neg (by omega)]⟩,by omega,?_⟩;exact Lf.of2 [] [] enA bxA rfl rfl
theorem EZ {a b:List Int}(ha:a.length≤9223372036854775807):Pu Tryz.prog 14 [aa a,aa b] (boo (decide (a=b))):=by
 refine Pu.of_v aA T0 Tryz.func14 rfl rfl (by simp[aD,aN]) ?_;repeat' ((conv=>whnf)<;>(first|refine aB.go aA T0 ?_|exact kQ|(refine Br.mk (fun _=>?_) (fun _=>?_)<;>(try(exfalso;omega)))|refine stq ?_|refine Cll.pu (zz sd) ?_))
 all_goals(conv=>whnf)
 all_goals first
  | exact aG.yes (nV.1 (by assumption))
  | exact aG.no (fun hc=>absurd (nV.2 hc) (by assumption))
theorem wy {t:Tbl}{l:List Int}(ht:t.ok) (hx:l.length≤1000) (hok:okL t l):Pu Tryz.prog 50 [qe t,aa l] (aa (acts t l)):=by
 have hL:=Left_c ht hx;have hR:=EW ht hx;rw[if_pos hok] at hL hR;have hc:=hok.1;have hl:=hok.2.2.2.2.1;have hr:=hok.2.2.2.2.2;have nL:=SL_len (nx:=t.left.next) (l:=l);have nR:=SR_len (nx:=t.right.next) (l:=l);refine Pu.of_v aA T0 Tryz.func50 rfl rfl (by simp[aJ,aD,cU,aN,aH]) ?_;repeat' ((conv=>whnf)<;>(first|refine aB.go aA T0 ?_|exact kQ|(refine Br.mk (fun _=>?_) (fun _=>?_)<;>(try(exfalso;omega)))|refine stq ?_|refine aM.pu hL ?_|refine aM.pu hR ?_))
 all_goals(conv=>whnf)
 refine aU.by2 aA T0 (fun(k:Nat) (o:List Int)=>⟨tmp 41 [(2,.ptr 0 0),(5,aa (SL t.left.next l)),(6,aa (SR t.right.next l)),(7,ai 1 1 o),(18,i64 (SL t.left.next l).length),(19,i64 (k:Int))],⟨2,cv 1 (fun x=>[i64 x]) o++[(0,.cells [strs t.classes,aa t.actions,bw t.left.next,bw t.left.marks,bw t.right.next,bw t.right.marks] true)]⟩⟩)
  (fun k o=>k≤l.length+1∧o=(acts t l).take k) (fun k _=>l.length+1-k) 0 [] ⟨by omega,rfl⟩ ?_ ?_
 ·exact Lf.of2 [(0,_)] [] enA bxA rfl rfl
 intro k o ⟨h3,h4⟩;by_cases hk:k<l.length+1
 ·have d1:=mz hl hc k (by omega);have d2:=my hr hc (l.length-k) (by omega);have hd:=B3 hok.2 d1 d2;rw[←Ce (nx:=t.left.next) (l:=l) (k:=k) (by omega),←Cd (nx:=t.right.next) (l:=l) (k:=k) (by omega)] at hd;have hs:=zw (t:=t) (l:=l) hk;rw[←h4,←Ce (nx:=t.left.next) (l:=l) (k:=k) (by omega),←Cd (nx:=t.right.next) (l:=l) (k:=k) (by omega)] at hs;cases o with
  | nil=>
   repeat' ((conv=>whnf)<;>(first|refine aB.go aA T0 ?_|exact kQ|(refine Br.mk (fun _=>?_) (fun _=>?_)<;>(try(exfalso;omega)))|refine stq ?_|refine aM.pu hd ?_))
   all_goals(conv=>whnf)
   refine⟨k+1,_,⟨by omega,hs.symm⟩,by omega,?_⟩;exact Lf.of2 [(0,_),(1,_)] [] enA bxA rfl rfl
  | cons x xs=>
   have hlen:(x::xs).length≤1001:=by rw[h4];simp[acts];omega
   repeat' ((conv=>whnf)<;>(first|refine aB.go aA T0 ?_|exact kQ|(refine Br.mk (fun _=>?_) (fun _=>?_)<;>(try(exfalso;omega)))|refine stq ?_|refine aM.pu hd ?_))
   all_goals(conv=>whnf)
   refine⟨k+1,_,⟨by omega,hs.symm⟩,by omega,?_⟩;exact Lf.of2 [(0,_),(1,_)] [] (by repeat(first|exact aI.nil|refine aI.cons rfl (by first|exact Rd.sl' rfl (by simp) (by simp)|exact rdA|fail) ?_)) (by repeat(first|exact Bxs.nil|refine Bxs.cons rfl rfl rfl (by first|exact Rb.cells (Rds.eqs (ax (by intro _;rfl) (x::xs) _) (aE (by intro _;rfl) _)) rfl|exact rbB|exact Rb.cells (by(repeat(first|exact Rds.nil|refine Rds.cons (by first|exact Rd.sl' rfl (by simp) (by simp)|exact rdA|fail) ?_|fail));(first|done|fail)) rfl|exact rbC|fail) ?_)) rfl rfl
 ·have hall:(acts t l).take k=acts t l:=kE (by rw[mi];omega);rw[hall] at h4;cases o with
  | nil=>exact absurd h4.symm (by intro h;have:=mi (t:=t) (l:=l);rw[h] at this;simp at this)
  | cons x xs=>
   repeat' ((conv=>whnf)<;>(first|refine aB.go aA T0 ?_|exact kQ|(refine Br.mk (fun _=>?_) (fun _=>?_)<;>(try(exfalso;omega)))|refine stq ?_))
   rw[←h4];exact aG.own1 (id:=1) (l:=x::xs) (fun _=>rfl)
theorem wd {l:List Str}{s:Str}(h:1≤l.length):0≤iG l s∧iG l s<l.length:=by
 unfold iG;split
 ·rename_i hm;have:=List.idxOf_lt_length_of_mem hm
  omega
 ·omega
theorem ub {p:Prp}{t:Tbl}{text:List Int}(hv:TV t):CL (cZ p t.classes text) t.classes.length:=by
 intro i h;simp only[cZ,List.getElem_map];exact wd hv.1.1
theorem A9 {p:Prp}{t:Tbl}{text:List Int}(hv:TV t):okL t (cZ p t.classes text):=⟨ub hv,hv⟩
noncomputable def oQ (p:Prp) (t:Tbl) (text:List Int):List Int:=if TV t then acts t (cZ p t.classes text) else []
theorem wE {p:Prp}{t:Tbl}{text:List Int}(hp:p.ok) (ht:t.ok) (h1:p.names.length≤1000) (h2:p.spans.length≤1000) (hx:text.length≤1000):Pu Tryz.prog 22 [iA p,qe t,aa text] (aa (oQ p t text)):=by
 refine Pu.of_v aA T0 Tryz.func22 rfl rfl (by simp[aJ,aD,aH,aK,aN,cU]) ?_;by_cases hv:TV t
 ·have hc:=z5 (text:=text) hp ht (by omega) (by omega) (by omega);rw[if_pos hv] at hc;have ha:=wy ht (show(cZ p t.classes text).length≤1000 by simp[cZ];omega) (A9 hv);rw[oQ,if_pos hv];repeat' ((conv=>whnf)<;>(first|refine aB.go aA T0 ?_|exact kQ|(refine Br.mk (fun _=>?_) (fun _=>?_)<;>(try(exfalso;omega)))|refine stq ?_|(refine Cll.dec (i4 ht) (fun _=>?_) (fun _=>?_)<;>(try contradiction))|refine bL.by aA T0 [0,0,0,0,14,31,63] (by kernel_rfl) ?_|refine aM.pu hc ?_|refine aM.pu ha ?_))
  all_goals(conv=>whnf)
  exact aG.same (aN _) rfl
 ·rw[oQ,if_neg hv];repeat' ((conv=>whnf)<;>(first|refine aB.go aA T0 ?_|exact kQ|(refine Br.mk (fun _=>?_) (fun _=>?_)<;>(try(exfalso;omega)))|refine stq ?_|(refine Cll.dec (i4 ht) (fun _=>?_) (fun _=>?_)<;>(try contradiction))))
  all_goals(conv=>whnf)
  exact⟨.nil⟩
theorem eC {α β:Type}{P:Program}(x:Sem α) (f:α→Sem β):cR P (x >>= f)=(cR P x).bind fun a=>cR P (f a):=by
 show cR P (x.bind f)=_
 induction x with
 | pure a=>rfl
 | program k ih=>exact ih _
 | mark m k ih=>exact ih
 | _=>rfl
theorem y9 {α β:Type}{P:Program}(x:Sem α) (f:α→β):cR P (f <$> x)=(cR P x).map f:=by
 rw[map_eq_pure_bind,eC];cases cR P x<;>rfl
theorem gK {α:Type}{P:Program}(a:α):cR P (pure a:Sem α)=some a:=rfl
theorem hZ {P:Program}:cR P program=some P:=rfl
theorem fA {P:Program}{t:TypeId}{d:TypeDesc}(h:P.underlying t=some d):cR P (underlying t)=some d:=by
 simp only[underlying,eC,hZ,Option.bind_some,h,gK]
theorem nq {P:Program}{d:Nat}{t:TypeId}{k:IntKind}{a b:Int}(h:P.underlying t=some (.int k)):cR P (Op.equalIn (d+1) t (.int .i64 a) (.int .i64 b))=some (a == b):=by
 simp[Op.equalIn,eC,fA h,gK]
theorem pP {P:Program}{t:TypeId}{k:IntKind}{cs:Array Value}{o:Nat}{v:Value}(h:P.underlying t=some (.int k)) (hv:cs[o]?=some v):cR P (part t cs o)=some v:=by
 simp[part,isAgg,eC,fA h,gK,hv]
theorem uM {P:Program}{d:Nat}{t:TypeId}{f0 f1:Field}{k:IntKind}{a b c e:Int}(h:P.underlying t=some (.struct #[f0,f1])) (hs:P.stoodInHeld t=false) (n0:f0.name ≠ "_") (n1:f1.name ≠ "_") (o0:f0.offset=0) (o1:f1.offset=1) (t0:P.underlying f0.type=some (.int k)) (t1:P.underlying f1.type=some (.int k)) :
  cR P (Op.equalIn (d+2) t (.agg #[.int .i64 a,.int .i64 b]) (.agg #[.int .i64 c,.int .i64 e]))=some (a == c&&b == e):=by
 rw[Op.equalIn];simp[eC,fA h,hZ,hs,n0,n1,o0,o1,pP t0,nq t0];by_cases h1:a=c<;>by_cases h2:b=e<;>simp[h1,h2,eC,gK,pP t1,nq t1]
theorem Cc {P:Program}{t:TypeId}{f0 f1:Field}{k:IntKind}{a b c e:Int}{ox oy:Operand}(h:P.underlying t=some (.struct #[f0,f1])) (hs:P.stoodInHeld t=false) (n0:f0.name ≠ "_") (n1:f1.name ≠ "_") (o0:f0.offset=0) (o1:f1.offset=1) (t0:P.underlying f0.type=some (.int k)) (t1:P.underlying f1.type=some (.int k)) (hg:P.eqGuardType P.depth t=false) :
  ct P .neq t ox oy (.agg [i64 a,i64 b]) (.agg [i64 c,i64 e])=some (.v (.bool (!(a == c&&b == e)))):=by
 have e1:cR P (do eqGuard .neq t ox oy (.agg #[.int .i64 a,.int .i64 b]) (.agg #[.int .i64 c,.int .i64 e]);binOp .neq t (.agg #[.int .i64 a,.int .i64 b]) (.agg #[.int .i64 c,.int .i64 e]))=some (.bool (!(a == c&&b == e))):=by
  have e2:cR P (Op.equalIn 10000 t (.agg #[.int .i64 a,.int .i64 b]) (.agg #[.int .i64 c,.int .i64 e]))=some (a == c&&b == e):=uM (d:=9998) h hs n0 n1 o0 o1 t0 t1;simp[eqGuard,binOp,eC,hZ,hg,Op.equal,Op.maxDepth,e2,gK,y9]
 have e3:ct P .neq t ox oy (.agg [i64 a,i64 b]) (.agg [i64 c,i64 e])=(match cR P (do eqGuard .neq t ox oy (.agg #[.int .i64 a,.int .i64 b]) (.agg #[.int .i64 c,.int .i64 e]);binOp .neq t (.agg #[.int .i64 a,.int .i64 b]) (.agg #[.int .i64 c,.int .i64 e])) with|some r=>ofV r|none=>none):=rfl;rw[e3,e1];rfl
theorem xx {a b c e:Int}{ox oy:Operand}:ct Tryz.prog .neq 51 ox oy (.agg [i64 a,i64 b]) (.agg [i64 c,i64 e])=some (.v (.bool (!(a == c&&b == e)))):=
 Cc (k:=.i64) rfl (by kernel_rfl) (by decide) (by decide) rfl rfl rfl rfl (by kernel_rfl)
theorem oZ {x y:Rng}{ox oy:Operand}(h:¬x=y):ct Tryz.prog .neq 51 ox oy (.agg (dO x)) (.agg (dO y))=some (.v (.bool true)):=by
 rw[xx];cases x;cases y;simp at h;simp only[kA,D.v.injEq,Value.bool.injEq,Bool.not_eq_true',Bool.and_eq_false_imp,beq_iff_eq,beq_eq_false_iff_ne];exact h
theorem s9 {x:Rng}{ox oy:Operand}:ct Tryz.prog .neq 51 ox oy (.agg (dO x)) (.agg (dO x))=some (.v (.bool false)):=by
 rw[xx];simp
end
end Go.Proofs.YtjjbmnacobnfeaaGreatDoor
