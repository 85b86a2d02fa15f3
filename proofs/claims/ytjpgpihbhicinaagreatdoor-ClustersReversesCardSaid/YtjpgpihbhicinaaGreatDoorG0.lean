/-
  Contracts of functions over data: properties.
-/
import Derived.Test.YtjpgpihbhicinaaGreatDoorQ1
import Derived.Test.YtjpgpihbhicinaaGreatDoorAmF
import Derived.Test.YtjpgpihbhicinaaGreatDoorH0
set_option linter.unusedSectionVars false
namespace Go.Proofs.YtjpgpihbhicinaaGreatDoor
section
open Go Go.Am Classical
set_option maxRecDepth 100000
variable [GT]
theorem kx {s:Str}(hs:s.length<=9223372036854775807):Pu Tryz.prog 127 [.str s] (boo (decide (s≠[]∧s.length<=32∧wP s))):=by
 refine Pu.of_v aA T0 Tryz.func127 rfl rfl rfl ?_;repeat' ((conv=>whnf)<;>(first|refine sg ?_|exact kQ|(refine Br.mk ?_ ?_<;>intro _<;>try(exfalso;omega))|refine stq ?_))
 all_goals(conv=>whnf)
 all_goals first
  | exact aI.no (fun hc=>hc.1 (by assumption))
  | exact aI.no (fun hc=>by omega)
  | skip
 refine aU.by aA T0 (fun k:Nat=>⟨tmp 51 [(0,.str s),(14,i64 s.length),(15,i64 (k:Int))],⟨0,[]⟩⟩) (fun k=>k<=s.length∧∀ i (h:i<s.length),i<k->wb (s[i].toNat:Int)) (fun k=>s.length-k) 0 ⟨by omega,fun _ _ h=>by omega⟩ ?_ ?_
 ·exact Lf.of2 [] [] enA bxA rfl rfl
 intro k ⟨h1,h2⟩;repeat' ((conv=>whnf)<;>(first|refine sg ?_|exact kQ|(refine Br.mk ?_ ?_<;>intro _<;>try(exfalso;omega))|refine stq ?_))
 all_goals(conv=>whnf)
 all_goals first
  | exact aI.no (fun hc=>absurd (hc.2.2 k (by omega)) (by unfold wb;omega))
  | exact aI.yes ⟨by assumption,by omega,cD (by omega) h2⟩
  | (refine⟨k+1,⟨by omega,ay (by omega) h2 (by unfold wb;omega)⟩,by omega,?_⟩
     exact Lf.of2 [] [] enA bxA rfl rfl)
def PV (l:List Str):Prop:=1<=l.length∧l.length<=250∧∀ i (h:i<l.length),mF l[i]∧¬l[i]∈l.take i
theorem yl {l:List Str}(hn:l.length<=9223372036854775807) (hl:long l):Pu Tryz.prog 143 [strs l] (boo (decide (PV l))):=by
 refine Pu.of_v aA T0 Tryz.func143 rfl rfl (by simp[aB,aE]) ?_;repeat' ((conv=>whnf)<;>(first|refine sg ?_|exact kQ|(refine Br.mk ?_ ?_<;>intro _<;>try(exfalso;omega))|refine stq ?_))
 all_goals(conv=>whnf)
 all_goals first
  | exact aI.no (fun hc=>by have:=hc.1;have:=hc.2.1;omega)
  | skip
 refine aU.by aA T0 (fun k:Nat=>⟨tmp 39 [(0,strs l),(3,i64 (k:Int))],⟨0,[]⟩⟩)
  (fun k=>k<=l.length∧∀ i (h:i<l.length),i<k->mF l[i]∧¬l[i]∈l.take i) (fun k=>l.length-k) 0 ⟨by omega,fun _ _ h=>by omega⟩ ?_ ?_
 ·exact Lf.of2 [] [] enA bxA rfl rfl
 intro k ⟨h1,h2⟩;repeat' ((conv=>whnf)<;>(first|refine sg ?_|exact kQ|(refine Br.mk ?_ ?_<;>intro _<;>try(exfalso;omega))|refine stq ?_|refine Cll.dec (u5 sd) (fun _=>?_) (fun _=>?_)|refine aO.dec (u5 sd) (fun _=>?_) (fun _=>?_)))
 all_goals(conv=>whnf)
 all_goals first
  | exact aI.no (fun hc=>by obtain⟨⟨_,_,_⟩,_⟩:=hc.2.2 k (by omega);first|omega|contradiction|simp_all)
  | exact aI.yes ⟨by omega,by omega,cD (by omega) h2⟩
  | skip
 rename_i a1
 refine aU.by aA T0 (fun j:Nat=>⟨tmp 39 [(0,strs l),(3,i64 (k:Int)),(4,i64 (j:Int))],⟨0,[]⟩⟩)
  (fun j=>j<=k∧∀ i (h:i<l.length),i<j->l[i]≠l[k]) (fun j=>k-j) 0 ⟨by omega,fun _ _ h=>by omega⟩ ?_ ?_
 ·exact Lf.of2 [] [] enA bxA rfl rfl
 intro j ⟨h3,h4⟩;repeat' ((conv=>whnf)<;>(first|refine sg ?_|exact kQ|(refine Br.mk ?_ ?_<;>intro _<;>try(exfalso;omega))|refine stq ?_))
 all_goals(conv=>whnf)
 all_goals first
  | exact aI.no (fun hc=>(hc.2.2 k (by omega)).2 (jO.2 ⟨j,by omega,by omega,by assumption⟩))
  | (refine⟨j+1,⟨by omega,ay (by omega) h4 (by assumption)⟩,by omega,?_⟩
     exact Lf.of2 [] [] enA bxA rfl rfl)
  | (refine⟨k+1,⟨by omega,ay (by omega) h2 ⟨a1,fun hm=>by obtain⟨i,hi,hlt,e⟩:=jO.1 hm;exact h4 i hi (by omega) e⟩⟩,by omega,?_⟩
     exact Lf.of2 [] [] enA bxA rfl rfl)
abbrev nilM:D:=.v (.map none)
theorem CU {l:List Str}(hl:long l) (hp:¬PV l):Pu Tryz.prog 93 [strs l] (.tup [nilM,boo false]):=by
 refine Pu.of_v aA T0 Tryz.func93 rfl rfl (by simp[aB,aE]) ?_;repeat' ((conv=>whnf)<;>(first|refine sg ?_|exact kQ|(refine Br.mk ?_ ?_<;>intro _<;>try(exfalso;omega))|refine stq ?_))
 all_goals(conv=>whnf)
 all_goals first
  | exact aI.same rfl rfl
  | skip
 refine aU.by aA T0 (fun k:Nat=>⟨tmp 42 [(4,.map 0),(18,strs l),(19,i64 l.length),(20,i64 (k:Int))],⟨1,[(0,.map (pos (l.take k) 0))]⟩⟩)
  (fun k=>k<=l.length∧∀ i (h:i<l.length),i<k->mF l[i]∧¬l[i]∈l.take i) (fun k=>l.length-k) 0 ⟨by omega,fun _ _ h=>by omega⟩ ?_ ?_
 ·exact Lf.of2 [(0,_)] [] enA bxA rfl rfl
 intro k ⟨h1,h2⟩;repeat' ((conv=>whnf)<;>(first|refine sg ?_|exact kQ|(refine Br.mk ?_ ?_<;>intro _<;>try(exfalso;omega))|refine stq ?_|refine Cll.dec (kx sd) (fun _=>?_) (fun _=>?_)|refine aO.dec (kx sd) (fun _=>?_) (fun _=>?_)|(refine fb.pos (fun _ _=>?_) (fun _=>?_)<;>(try contradiction))))
 all_goals(conv=>whnf)
 all_goals first
  | exact aI.same rfl rfl
  | (exfalso;exact hp ⟨by omega,by omega,cD (by omega) h2⟩)
  | skip
 rename_i a1 a2 a3;refine⟨k+1,⟨by omega,ay (by omega) h2 ⟨a2,a1⟩⟩,by omega,?_⟩;exact Lf.of2 [(0,_)] [] enA bxA rfl rfl
theorem AH {l:List Str}(hl:long l) (hp:PV l):Pk Tryz.prog 93 [strs l] 1 (fun n=>.tup [.map n,boo true]) (fun n=>[(n,.map (pos l 0))]):=by
 refine Pk.of_v aA T0 Tryz.func93 rfl rfl (by simp[aB,aE]) ?_;repeat' ((conv=>whnf)<;>(first|refine sg ?_|exact kQ|(refine Br.mk ?_ ?_<;>intro _<;>try(exfalso;omega))|refine stq ?_))
 all_goals(conv=>whnf)
 all_goals first
  | (exfalso;have:=hp.1;have:=hp.2.1;omega)
  | skip
 refine aU.by aA T0 (fun k:Nat=>⟨tmp 42 [(4,.map 0),(18,strs l),(19,i64 l.length),(20,i64 (k:Int))],⟨1,[(0,.map (pos (l.take k) 0))]⟩⟩)
  (fun k=>k<=l.length) (fun k=>l.length-k) 0 (by omega) ?_ ?_
 ·exact Lf.of2 [(0,_)] [] enA bxA rfl rfl
 intro k h1;repeat' ((conv=>whnf)<;>(first|refine sg ?_|exact kQ|(refine Br.mk ?_ ?_<;>intro _<;>try(exfalso;omega))|refine stq ?_|refine Cll.dec (kx sd) (fun _=>?_) (fun _=>?_)|refine aO.dec (kx sd) (fun _=>?_) (fun _=>?_)|(refine fb.pos (fun _ _=>?_) (fun _=>?_)<;>(try contradiction))))
 all_goals(conv=>whnf)
 all_goals first
  | (exfalso;obtain⟨a1,a2⟩:=hp.2.2 k (by omega);first|contradiction|(rename_i a3;exact a3 a1))
  | (refine⟨k+1,by omega,by omega,?_⟩
     exact Lf.of2 [(0,_)] [] enA bxA rfl rfl)
  | exact⟨[0],rfl,⟨by simp,fun n=>.tup (.cons (.map (by simp[sgn])) (.cons (.same rfl) .nil)),fun n=>.cons (id:=0) (by simp[sgn]) rfl rfl (.map (.eqs (by rw[kE (by omega)]) (aa _ _))) .nil⟩⟩
structure Spn where
 lo:Int
 hi:Int
 val:Int
 deriving Inhabited
structure Prp where
 names:List Str
 spans:List Spn
abbrev BM (s:Spn):List D:=[i64 s.lo,i64 s.hi,i64 s.val]
abbrev dO (l:List Spn):D:=lstS BM l
abbrev du (p:Prp):D:=.agg [strs p.names,dO p.spans]
theorem aG (l:List Spn):aJ (dO l)=true:=fG (fun _=>rfl) l
theorem lB (p:Prp):aJ (du p)=true:=by simp[aJ,aB,aE,aG]
structure Prp.ok (p:Prp):Prop where
 names:p.names.length<=9223372036854775807
 long:long p.names
 spans:p.spans.length<=9223372036854775807
def SpQ (l:List Spn) (n:Int) (i:Nat) (s:Spn):Prop:=(0<=s.lo∧s.lo<=s.hi∧s.hi<=1114111∧1<=s.val∧s.val<n) ∧
 (i≠0->(l.getD (i-1) default).hi<s.lo∧¬(s.lo=(l.getD (i-1) default).hi+1∧s.val=(l.getD (i-1) default).val))
def PrV (p:Prp):Prop:=PV p.names∧∀ i (h:i<p.spans.length),SpQ p.spans p.names.length i p.spans[i]
theorem eR {n:Int}:Pu Tryz.prog 128 [i64 n] (boo (decide (0<=n∧n<=1114111))):=by
 refine Pu.of_v aA T0 Tryz.func128 rfl rfl rfl ?_;repeat' ((conv=>whnf)<;>(first|refine sg ?_|exact kQ|(refine Br.mk ?_ ?_<;>intro _<;>try(exfalso;omega))|refine stq ?_))
 all_goals(conv=>whnf)
 all_goals first
  | exact aI.yes (by omega)
  | exact aI.no (by omega)
theorem nA {s:Spn}:Pu Tryz.prog 94 [.agg (BM s)] (boo (decide (0<=s.lo∧s.lo<=s.hi∧s.hi<=1114111))):=by
 refine Pu.of_v aA T0 Tryz.func94 rfl rfl rfl ?_;repeat' ((conv=>whnf)<;>(first|refine sg ?_|exact kQ|(refine Br.mk ?_ ?_<;>intro _<;>try(exfalso;omega))|refine stq ?_|refine Cll.dec (eR) (fun _=>?_) (fun _=>?_)|refine aO.dec (eR) (fun _=>?_) (fun _=>?_)))
 all_goals(conv=>whnf)
 all_goals first
  | exact aI.yes (by omega)
  | exact aI.no (by omega)
theorem mh {p:Prp}(hp:p.ok):Pu Tryz.prog 68 [du p] (boo (decide (PrV p))):=by
 have hl:=hp.long;have hs:=hp.spans;by_cases hv:PV p.names
 ·refine Pu.of_v aA T0 Tryz.func68 rfl rfl (by simp[aJ,aB,aE,aG]) ?_;repeat' ((conv=>whnf)<;>(first|refine sg ?_|exact kQ|(refine Br.mk ?_ ?_<;>intro _<;>try(exfalso;omega))|refine stq ?_|refine Cll.pk (AH (by assumption) (by assumption)) ?_))
  all_goals(conv=>whnf)
  refine aU.by aA T0 (fun k:Nat=>⟨tmp 69 [(1,.ptr 0 0),(17,dO p.spans),(18,i64 p.spans.length),(19,i64 (k:Int))],⟨1,[(0,.cells [strs p.names,dO p.spans] true)]⟩⟩)
   (fun k=>k<=p.spans.length∧∀ i (h:i<p.spans.length),i<k->SpQ p.spans p.names.length i p.spans[i]) (fun k=>p.spans.length-k) 0 ⟨by omega,fun _ _ h=>by omega⟩ ?_ ?_
  ·exact Lf.of2 [(0,_)] [] enA bxA rfl rfl
  intro k ⟨h3,h4⟩;by_cases hk:k=0
  ·subst hk;repeat' ((conv=>whnf)<;>(first|refine sg ?_|exact kQ|(refine Br.mk ?_ ?_<;>intro _<;>try(exfalso;omega))|refine stq ?_|refine Cll.dec (nA) (fun _=>?_) (fun _=>?_)|refine aO.dec (nA) (fun _=>?_) (fun _=>?_)))
   all_goals(conv=>whnf)
   all_goals first
    | exact aI.no (fun hc=>by have:=(hc.2 0 (by omega)).1;omega)
    | exact aI.yes ⟨hv,fun i h=>by omega⟩
    | (refine⟨0+1,⟨by omega,ay (by omega) h4 ⟨by omega,fun h=>absurd rfl h⟩⟩,by omega,?_⟩
       exact Lf.of2 [(0,_)] [] enA bxA rfl rfl)
  ·have h5:=h4 (k-1) (by omega) (by omega);have h6:=h5.1;have e:p.spans.getD (k-1) default=p.spans[k-1]:=aX (by omega);repeat' ((conv=>whnf)<;>(first|refine sg ?_|exact kQ|(refine Br.mk ?_ ?_<;>intro _<;>try(exfalso;omega))|refine stq ?_|refine Cll.dec (nA) (fun _=>?_) (fun _=>?_)|refine aO.dec (nA) (fun _=>?_) (fun _=>?_)|refine Idx.atS (by intro _;rfl) (k-1) (by omega) (by omega) ?_))
   all_goals(conv=>whnf)
   all_goals first
    | exact aI.no (fun hc=>by have h7:=hc.2 k (by omega);have:=h7.1;have:=h7.2 hk;rw[e] at this;omega)
    | exact aI.yes ⟨hv,cD (by omega) h4⟩
    | (refine⟨k+1,⟨by omega,ay (by omega) h4 ⟨by omega,fun _=>by rw[e];omega⟩⟩,by omega,?_⟩
       exact Lf.of2 [(0,_)] [] enA bxA rfl rfl)
 ·refine Pu.of_v aA T0 Tryz.func68 rfl rfl (by simp[aJ,aB,aE,aG]) ?_;repeat' ((conv=>whnf)<;>(first|refine sg ?_|exact kQ|(refine Br.mk ?_ ?_<;>intro _<;>try(exfalso;omega))|refine stq ?_|refine Cll.pu (CU (by assumption) (by assumption)) ?_))
  all_goals(conv=>whnf)
  exact aI.no (fun hc=>hv hc.1)
theorem dq {p:Prp}(hp:p.ok):Pu Tryz.prog 105 [du p] (boo (decide (PrV p))):=by
 have hn:=hp.names;have hl:=hp.long;have hs:=hp.spans;refine Pu.of_v aA T0 Tryz.func105 rfl rfl (by simp[aJ,aB,aE,aG]) ?_;repeat' ((conv=>whnf)<;>(first|refine sg ?_|exact kQ|(refine Br.mk ?_ ?_<;>intro _<;>try(exfalso;omega))|refine stq ?_|refine Cll.dec (yl sd sd) (fun _=>?_) (fun _=>?_)|refine aO.dec (yl sd sd) (fun _=>?_) (fun _=>?_)))
 all_goals(conv=>whnf)
 all_goals first
  | exact aI.no (fun hc=>by have:=hc.1;contradiction)
  | skip
 rename_i hv
 refine aU.by aA T0 (fun k:Nat=>⟨tmp 88 [(1,.ptr 0 0),(3,i64 (k:Int))],⟨1,[(0,.cells [strs p.names,dO p.spans] true)]⟩⟩)
  (fun k=>k<=p.spans.length∧∀ i (h:i<p.spans.length),i<k->SpQ p.spans p.names.length i p.spans[i]) (fun k=>p.spans.length-k) 0 ⟨by omega,fun _ _ h=>by omega⟩ ?_ ?_
 ·exact Lf.of2 [(0,_)] [] enA bxA rfl rfl
 intro k ⟨h3,h4⟩;by_cases hk:k=0
 ·subst hk;repeat' ((conv=>whnf)<;>(first|refine sg ?_|exact kQ|(refine Br.mk ?_ ?_<;>intro _<;>try(exfalso;omega))|refine stq ?_))
  all_goals(conv=>whnf)
  all_goals first
   | exact aI.no (fun hc=>by have:=(hc.2 0 (by omega)).1;omega)
   | exact aI.yes ⟨hv,fun i h=>by omega⟩
   | (refine⟨0+1,⟨by omega,ay (by omega) h4 ⟨by omega,fun h=>absurd rfl h⟩⟩,by omega,?_⟩
      exact Lf.of2 [(0,_)] [] enA bxA rfl rfl)
 ·have h5:=h4 (k-1) (by omega) (by omega);have h6:=h5.1;have e:p.spans.getD (k-1) default=p.spans[k-1]:=aX (by omega);repeat' ((conv=>whnf)<;>(first|refine sg ?_|exact kQ|(refine Br.mk ?_ ?_<;>intro _<;>try(exfalso;omega))|refine stq ?_|refine Idx.atS (by intro _;rfl) (k-1) (by omega) (by omega) ?_))
  all_goals(conv=>whnf)
  all_goals first
   | exact aI.no (fun hc=>by have h7:=hc.2 k (by omega);have:=h7.1;have:=h7.2 hk;rw[e] at this;omega)
   | exact aI.yes ⟨hv,cD (by omega) h4⟩
   | (refine⟨k+1,⟨by omega,ay (by omega) h4 ⟨by omega,fun _=>by rw[e];omega⟩⟩,by omega,?_⟩
      exact Lf.of2 [(0,_)] [] enA bxA rfl rfl)
end
section
open Go Go.Am Classical
set_option maxRecDepth 100000
variable [GT]
def other:Str:=[79,116,104,101,114]
noncomputable def cnt (p:Prp):Prp:=if PrV p then p else⟨[other],[]⟩
def fh:List Spn->Int->Int
 | [],_=>0
 | s::l,c=>if s.lo<=c∧c<=s.hi then s.val else fh l c
theorem sK {l:List Spn}{k:Nat}(h:k<l.length) (c:Int):fh (l.drop k) c=if l[k].lo<=c∧c<=l[k].hi then l[k].val else fh (l.drop (k+1)) c:=by
 rw[kK h];rfl
theorem nv {p:Prp}(hp:p.ok):Pu Tryz.prog 84 [du p] (du (cnt p)):=by
 refine Pu.of_v aA T0 Tryz.func84 rfl rfl (by simp[aJ,aB,aE,aG]) ?_;repeat' ((conv=>whnf)<;>(first|refine sg ?_|exact kQ|(refine Br.mk ?_ ?_<;>intro _<;>try(exfalso;omega))|refine stq ?_|refine Cll.dec (dq sd) (fun _=>?_) (fun _=>?_)|refine aO.dec (dq sd) (fun _=>?_) (fun _=>?_)))
 all_goals(conv=>whnf)
 ·rename_i hv;rw[show cnt p=p from by simp[cnt,hv]];exact aI.same (lB p) rfl
 ·rename_i hv;rw[show cnt p=⟨[other],[]⟩ from by simp[cnt,hv]];exact⟨.agg (.cons (.frz rfl rfl (kD rfl) (.cons (.same rfl) .nil)) (.cons .nil .nil))⟩
theorem Fh {p:Prp}{c:Int}(hp:p.ok):Pu Tryz.prog 85 [du p,i64 c] (i64 (fh (cnt p).spans c)):=by
 have hs:(cnt p).spans.length<=9223372036854775807:=by
  unfold cnt;split
  ·exact hp.spans
  ·simp
 refine Pu.of_v aA T0 Tryz.func85 rfl rfl (by simp[aJ,aB,aE,aG]) ?_;repeat' ((conv=>whnf)<;>(first|refine sg ?_|exact kQ|(refine Br.mk ?_ ?_<;>intro _<;>try(exfalso;omega))|refine stq ?_|refine Cll.pu (nv sd) ?_))
 all_goals(conv=>whnf)
 generalize cnt p=q at *
 refine aU.by aA T0 (fun k:Nat=>⟨tmp 40 [(1,i64 c),(5,.ptr 0 0),(6,i64 (k:Int))],⟨1,[(0,.cells [strs q.names,dO q.spans] true)]⟩⟩)
  (fun k=>k<=q.spans.length∧fh (q.spans.drop k) c=fh q.spans c) (fun k=>q.spans.length-k) 0 ⟨by omega,rfl⟩ ?_ ?_
 ·exact Lf.of2 [(0,_)] [] (by repeat(first|exact aM.nil|refine aM.cons rfl (by first|exact Rd.same (aG _)|exact rdA|fail) ?_)) (by repeat(first|exact Bxs.nil|refine Bxs.cons rfl rfl rfl (by first|exact Rb.cells (Rds.cons (Rd.same (aE _)) (Rds.cons (Rd.same (aG _)) Rds.nil)) rfl|exact rbB|exact rbC|fail) ?_)) rfl rfl
 intro k ⟨h3,h4⟩;repeat' ((conv=>whnf)<;>(first|refine sg ?_|exact kQ|(refine Br.mk ?_ ?_<;>intro _<;>try(exfalso;omega))|refine stq ?_))
 all_goals(conv=>whnf)
 all_goals first
  | exact aI.int (by rw[<-h4,sK (by omega),if_pos (by omega)])
  | exact aI.int (by rw[<-h4,List.drop_eq_nil_of_le (by omega)];rfl)
  | (refine⟨k+1,⟨by omega,by rw[<-h4,sK (k:=k) (by omega),if_neg (by omega)]⟩,by omega,?_⟩
     exact Lf.of2 [(0,_)] [] enA bxA rfl rfl)
theorem xa {l:List Spn}{n:Int}(hn:1<=n) (h:∀ i (h:i<l.length),1<=l[i].val∧l[i].val<n) (c:Int):0<=fh l c∧fh l c<n:=by
 induction l with
 | nil=>simp only[fh];omega
 | cons s l ih=>
  simp only[fh];split
  ·have:=h 0 (by simp);simp at this;omega
  ·exact ih fun i hi=>by have:=h (i+1) (by simp;omega);simpa using this
theorem lN {p:Prp}(c:Int):0<=fh (cnt p).spans c∧fh (cnt p).spans c<(cnt p).names.length:=by
 unfold cnt;split
 ·rename_i hv;exact xa (by have:=hv.1.1;omega) (fun i h=>by have:=(hv.2 i h).1;omega) c
 ·simp[fh]
theorem E2 {p:Prp}(c:Int):(fh (cnt p).spans c).toNat<(cnt p).names.length:=by have:=lN (p:=p) c;omega
noncomputable def mw (p:Prp) (c:Int):Str:=(cnt p).names[(fh (cnt p).spans c).toNat]'(E2 c)
theorem name_c {p:Prp}{c:Int}(hp:p.ok):Pu Tryz.prog 58 [du p,i64 c] (.str (mw p c)):=by
 have hr:=lN (p:=p) c;refine Pu.of_v aA T0 Tryz.func58 rfl rfl (by simp[aJ,aB,aE,aG]) ?_;repeat' ((conv=>whnf)<;>(first|refine sg ?_|exact kQ|(refine Br.mk ?_ ?_<;>intro _<;>try(exfalso;omega))|refine stq ?_|refine Cll.pu (nv sd) ?_|refine aO.pu (nv sd) ?_|refine Cll.pu (Fh sd) ?_|refine aO.pu (Fh sd) ?_|refine Idx.at (fh (cnt p).spans c).toNat (by omega) (by omega) ?_))
 all_goals(conv=>whnf)
 exact aI.same rfl rfl
def iK (l:List Str) (s:Str):Int:=if s∈l then l.idxOf s else 0
theorem CX {l:List Str}{s:Str}{k:Nat}(h:k<l.length) (e:l[k]=s) (hn:¬s∈l.take k):iK l s=k:=by
 have hm:s∈l:=e▸kM h;unfold iK;rw[if_pos hm]
 have h1:l.idxOf s<=k:=by
  refine Nat.le_of_not_lt fun hlt=>?_
  have:=List.not_of_lt_findIdx hlt
  simp[e] at this
 have h2:¬l.idxOf s<k:=fun hlt=>hn (jO.2 ⟨l.idxOf s,by omega,hlt,by simp⟩)
 congr 1;omega
noncomputable def bm (p:Prp) (l:List Str) (text:List Int):List Int:=text.map fun c=>iK l (mw p c)
theorem vN {p:Prp}{l:List Str}{text:List Int}{k:Nat}(h:k<text.length):bm p l (text.take (k+1))=bm p l (text.take k)++[iK l (mw p text[k])]:=(kS h).symm
theorem BS {n s:Nat}{g:FuncId}{cap:List D}{p:Nat->Prop}(hc:aB cap=true) (hn:n<=4611686018427387903) (hs:s<=n) (h1:∀ i,i<s->¬p i) (h2:∀ i,s<=i->i<n->p i)
  (hf:∀ i:Nat,i<n->Pu Tryz.prog g ([i64 i]++cap) (boo (decide (p i)))):Pu Tryz.prog 95 [i64 n,.fn (.func g) [] cap] (i64 s):=by
 refine Pu.of_v aA T0 Tryz.func95 rfl rfl (by simp[aJ,aB,hc]) ?_;repeat' ((conv=>whnf)<;>(first|refine sg ?_|exact kQ|(refine Br.mk ?_ ?_<;>intro _<;>try(exfalso;omega))|refine stq ?_))
 refine aU.by2 aA T0 (fun i j:Nat=>⟨tmp 26 [(1,.fn (.func g) [] cap),(5,i64 i),(6,i64 j)],⟨0,[]⟩⟩)
  (fun i j=>i<=s∧s<=j∧j<=n) (fun i j=>j-i) 0 n ⟨by omega,by omega,by omega⟩ ?_ ?_
 ·exact Lf.of2 [] [] (by repeat(first|exact aM.nil|refine aM.cons rfl (by first|exact Rd.same (by simp[aJ,aB,hc])|exact rdA|fail) ?_)) (by repeat(first|exact Bxs.nil|refine Bxs.cons rfl rfl rfl (by first|exact rbB|exact rbC|fail) ?_)) rfl rfl
 intro i j ⟨h3,h4,h5⟩
 have em:IntKind.i64.wrap ((IntKind.u64.wrap ((i:Int)+(j:Int))).fdiv (2 ^ min (Int.toNat 1) IntKind.u64.bits))=(((i+j) / 2:Nat):Int):=by
  have e1:IntKind.u64.wrap ((i:Int)+(j:Int))=(i:Int)+(j:Int):=by
   simp[IntKind.wrap,IntKind.bits,IntKind.signed];omega
  rw[e1,Int.fdiv_eq_ediv_of_nonneg _ (by decide)];simp[IntKind.wrap,IntKind.bits,IntKind.signed];omega
 repeat' ((conv=>whnf)<;>(first|refine sg ?_|exact kQ|(refine Br.mk ?_ ?_<;>intro _<;>try(exfalso;omega))|refine stq ?_|refine Cll.dec (p:=p ((i+j) / 2)) (by rw[em];exact hf _ (by omega)) (fun _=>?_) (fun _=>?_)|refine Chk.mk (sI (by rw[em];omega) (by rw[em];omega)) ?_))
 all_goals(conv=>whnf)
 all_goals first
  | exact aI.int (by omega)
  | (refine⟨i,(i+j) / 2,⟨by omega,Nat.le_of_not_lt fun hlt=>h1 _ hlt (by assumption),by omega⟩,by omega,?_⟩
     exact Lf.of2 [] [] (by(repeat(first|exact aM.nil|refine aM.cons rfl (by first|exact Rd.same (by simp[aJ,aB,hc])|exact Rd.int em|exact rdA|fail) ?_|fail));(first|done|fail)) (by(repeat(first|exact Bxs.nil|refine Bxs.cons rfl rfl rfl (by first|exact rbB|exact rbC|fail) ?_|fail));(first|done|fail)) rfl rfl)
  | (refine⟨(i+j) / 2+1,j,⟨Nat.succ_le_of_lt (Nat.lt_of_not_le fun hle=>absurd (h2 _ hle (by omega)) (by assumption)),by omega,by omega⟩,by omega,?_⟩
     exact Lf.of2 [] [] (by(repeat(first|exact aM.nil|refine aM.cons rfl (by first|exact Rd.same (by simp[aJ,aB,hc])|exact Rd.int (by rw[em];omega)|exact rdA|fail) ?_|fail));(first|done|fail)) (by(repeat(first|exact Bxs.nil|refine Bxs.cons rfl rfl rfl (by first|exact rbB|exact rbC|fail) ?_|fail));(first|done|fail)) rfl rfl)
theorem A5 {l:List Spn}{c:Int}{k:Nat}(hk:k<l.length):Pu Tryz.prog 96 ([i64 (k:Int)]++[.iptr [dO l],.iptr [i64 c]]) (boo (decide (c<=l[k].hi))):=by
 refine Pu.of_v aA T0 Tryz.func96 rfl rfl (by simp[aJ,aB,aG]) ?_;repeat' ((conv=>whnf)<;>(first|refine sg ?_|exact kQ|(refine Br.mk ?_ ?_<;>intro _<;>try(exfalso;omega))|refine stq ?_))
 all_goals(conv=>whnf)
 all_goals first
  | exact aI.yes (by omega)
  | exact aI.no (by omega)
def DX (l:List Spn):Prop:=∀ i (h:i<l.length),l[i].lo<=l[i].hi∧∀ h0:i≠0,(l[i-1]'(by omega)).hi<l[i].lo
theorem EA {l:List Spn}{n:Int}(h:∀ i (h:i<l.length),SpQ l n i l[i]):DX l:=fun i hi=>by
 obtain⟨h1,h2⟩:=h i hi;refine⟨by omega,fun h0=>?_⟩;have:=(h2 h0).1
 rwa [aX (by omega)] at this
theorem yV {l:List Spn}(h:DX l){i:Nat}(j:Nat) (hi:i<l.length) (hj:i+j<l.length):l[i].hi<=l[i+j].hi:=by
 induction j with
 | zero=>exact Int.le_refl _
 | succ j ih=>
  have h1:=ih (by omega);have h2:=h (i+(j+1)) hj;have h3:=h2.2 (by omega);have h4:=h2.1;have e:i+(j+1)-1=i+j:=by omega
  simp only[e] at h3;omega
theorem sJ {l:List Spn}{c:Int}(h:∀ i (h:i<l.length),¬(l[i].lo<=c∧c<=l[i].hi)):fh l c=0:=by
 induction l with
 | nil=>rfl
 | cons s l ih=>
  simp only[fh];rw[if_neg (show ¬(s.lo<=c∧c<=s.hi) from h 0 (by simp))];exact ih fun i hi=>h (i+1) (by simpa using hi)
theorem Eo {l:List Spn}{c:Int}{s:Nat}(hs:s<l.length) (h:∀ i (hi:i<l.length),i<s->¬(l[i].lo<=c∧c<=l[i].hi)) (h2:l[s].lo<=c∧c<=l[s].hi):fh l c=l[s].val:=by
 induction l generalizing s with
 | nil=>simp at hs
 | cons x l ih=>
  simp only[fh];cases s with
  | zero=>rw[if_pos (show x.lo<=c∧c<=x.hi from h2)];rfl
  | succ s=>
   rw[if_neg (show ¬(x.lo<=c∧c<=x.hi) from h 0 (by simp) (by omega))];exact ih (s:=s) (by simpa using hs) (fun i hi hlt=>h (i+1) (by simpa using hi) (by omega)) h2
noncomputable def ct (l:List Spn) (c:Int):Nat:=l.findIdx fun s=>decide (c<=s.hi)
theorem xg (l:List Spn) (c:Int):ct l c<=l.length:=List.findIdx_le_length
theorem hO {l:List Spn}{c:Int}{i:Nat}(h:i<l.length) (hlt:i<ct l c):¬c<=l[i].hi:=by
 have:=List.not_of_lt_findIdx hlt
 simpa using this
theorem qc {l:List Spn}{c:Int}(h:ct l c<l.length):c<=l[ct l c].hi:=by
 have:=List.findIdx_getElem (p:=fun s:Spn=>decide (c<=s.hi)) (w:=h)
 exact of_decide_eq_true this
theorem xb {l:List Spn}(hr:DX l) (c:Int):fh l c=if h:ct l c<l.length then(if l[ct l c].lo<=c then l[ct l c].val else 0) else 0:=by
 split
 ·rename_i hs;have h1:=qc hs;split
  ·rename_i h2;exact Eo hs (fun i hi hlt=>by have:=hO hi hlt;omega) ⟨h2,h1⟩
  ·rename_i h2;refine sJ fun i hi=>?_
   rcases Nat.lt_trichotomy i (ct l c) with hlt|he|hgt
   ·have:=hO hi hlt;omega
   ·subst he;omega
   ·have h3:=yV hr (i-1-ct l c) hs (by omega);have h4:=(hr i hi).2 (by omega);have e:ct l c+(i-1-ct l c)=i-1:=by omega
    simp only[e] at h3;omega
 ·rename_i hs;refine sJ fun i hi=>?_
  have:=hO (c:=c) hi (by omega)
  omega
theorem yD {l:List Spn}{c:Int}(hn:l.length<=4611686018427387903) (hr:DX l):Pu Tryz.prog 69 [dO l,i64 c] (i64 (fh l c)):=by
 rw[xb hr c];have h0:=xg l c
 have hse:Pu Tryz.prog 95 [i64 l.length,.fn (.func 96) [] [.iptr [dO l],.iptr [i64 c]]] (i64 (ct l c)):=
  BS (p:=fun i=>∃ h:i<l.length,c<=l[i].hi) (by simp[aJ,aB,aG]) hn h0 (fun i hi ⟨h,hc⟩=>hO h hi hc)
   (fun i h1 h2=>⟨h2,by
    have h3:=qc (l:=l) (c:=c) (by omega);have h4:=yV hr (i-ct l c) (i:=ct l c) (by omega) (by omega);have e:ct l c+(i-ct l c)=i:=by omega
    simp only[e] at h4
    omega⟩)
   (fun i hi=>by
    have:=A5 (l:=l) (c:=c) hi
    exact(congrArg (fun b=>Pu Tryz.prog _ _ (boo b)) (decide_eq_decide.2 ⟨fun h=>⟨hi,h⟩,fun⟨_,h⟩=>h⟩)).mp this)
 refine Pu.of_v aA T0 Tryz.func69 rfl rfl (by simp[aJ,aB,aG]) ?_
 conv=>whnf
 refine eW.weak aA T0 (s0:=⟨tmp 28 [(2,.iptr [dO l]),(3,.iptr [i64 c])],⟨0,[]⟩⟩) ?_ ?_
 ·exact Lf.of2 [] [0,1] (by repeat(first|exact aM.nil|refine aM.cons rfl (by first|exact Rd.frzp rfl rfl (Rds.cons (Rd.same (aG _)) Rds.nil)|exact Rd.frzp rfl rfl (Rds.cons (Rd.same rfl) Rds.nil)|exact rdA|fail) ?_)) (by repeat(first|exact Bxs.nil|refine Bxs.cons rfl rfl rfl (by first|exact rbB|exact rbC|fail) ?_)) rfl rfl
 repeat' ((conv=>whnf)<;>(first|refine sg ?_|exact kQ|(refine Br.mk ?_ ?_<;>intro _<;>try(exfalso;omega))|refine stq ?_|refine Cll.pu hse ?_))
 all_goals(conv=>whnf)
 all_goals first
  | exact aI.int (by rw[dif_pos (by omega),if_pos (by assumption)])
  | exact aI.int (by rw[dif_pos (by omega),if_neg (by assumption)])
  | exact aI.int (by rw[dif_neg (by omega)])
theorem C4 (p:Prp):DX (cnt p).spans:=by
 unfold cnt;split
 ·rename_i hv;exact EA hv.2
 ·intro i h;simp at h
theorem Ad {p:Prp}(h:p.spans.length<=1000):(cnt p).spans.length<=1000:=by
 unfold cnt;split
 ·exact h
 ·simp
theorem Ae {p:Prp}(h:p.names.length<=1000):(cnt p).names.length<=1000:=by
 unfold cnt;split
 ·exact h
 ·simp
theorem Ar {p:Prp}{t:Tbl}{text:List Int}(hp:p.ok) (ht:t.ok) (hx:text.length<=1000) (hs:p.spans.length<=1000) (hnn:p.names.length<=1000):Pu Tryz.prog 39 [du p,iC t,aQ text] (aQ (if TV t then bm p t.classes text else [])):=by
 have h1:=ht.classes;have hr:=C4 p;have hs2:=Ad hs;have hn2:=Ae hnn;refine Pu.of_v aA T0 Tryz.func39 rfl rfl (by simp[aJ,aB,aE,aG,aF,bz]) ?_;repeat' ((conv=>whnf)<;>(first|refine sg ?_|exact kQ|(refine Br.mk ?_ ?_<;>intro _<;>try(exfalso;omega))|refine stq ?_|refine Cll.dec (jB sd) (fun _=>?_) (fun _=>?_)|refine aO.dec (jB sd) (fun _=>?_) (fun _=>?_)|refine Cll.dec (mh sd) (fun _=>?_) (fun _=>?_)|refine aO.dec (mh sd) (fun _=>?_) (fun _=>?_)))
 all_goals(conv=>whnf)
 ·rename_i hv hpv;have hcp:cnt p=p:=by simp[cnt,hpv]
  refine aU.by aA T0 (fun k:Nat=>⟨tmp 81 [(2,aQ text),(3,.ptr 0 0),(7,.map 1),(29,strs t.classes),(30,i64 t.classes.length),(31,i64 (k:Int))],⟨2,[(0,.cells [strs (cnt p).names,dO (cnt p).spans] true),(1,.map (pos (t.classes.take k) 0))]⟩⟩)
   (fun k=>k<=t.classes.length) (fun k=>t.classes.length-k) 0 (by omega) ?_ ?_
  ·exact Lf.of2 [(0,_),(1,_)] [9] enA (by repeat(first|exact Bxs.nil|refine Bxs.cons rfl rfl rfl (by first|exact Rb.cells (by rw[hcp];exact Rds.same (by simp only[cw,aB,aE,aG,Bool.and_self])) rfl|exact Rb.cells (by rw[hcp];exact Rds.cons (Rd.frz rfl rfl (kD rfl) (Rds.cons (Rd.same rfl) Rds.nil)) (Rds.cons Rd.nil Rds.nil)) rfl|exact rbB|exact Rb.cells bK rfl|exact rbC|fail) ?_)) rfl rfl
  intro k h3;repeat' ((conv=>whnf)<;>(first|refine sg ?_|exact kQ|(refine Br.mk ?_ ?_<;>intro _<;>try(exfalso;omega))|refine stq ?_|(refine fb.pos (fun _ _=>?_) (fun _=>?_)<;>(try(exfalso;exact(hv.1.2.2 k (by omega)).2 (by assumption))))))
  all_goals(conv=>whnf)
  ·refine⟨k+1,by omega,by omega,?_⟩;exact Lf.of2 [(0,_),(1,_)] [] enA bxA rfl rfl
  refine aU.by aA T0 (fun k:Nat=>⟨tmp 81 [(2,aQ text),(3,.ptr 0 0),(7,.map 1),(10,.sl 2 0 (cnt p).names.length (cnt p).names.length 1 true),(45,strs (cnt p).names),(46,i64 (cnt p).names.length),(47,i64 (k:Int))],⟨3,[(0,.cells [strs (cnt p).names,dO (cnt p).spans] true),(1,.map (pos t.classes 0)),(2,.cells (gX (fun s=>i64 (iK t.classes s)) (i64 0) (cnt p).names k) true)]⟩⟩)
   (fun k=>k<=(cnt p).names.length) (fun k=>(cnt p).names.length-k) 0 (by omega) ?_ ?_
  ·exact Lf.of2 [(0,_),(1,_),(2,_)] [] enA (by repeat(first|exact Bxs.nil|refine Bxs.cons rfl rfl rfl (by first|exact Rb.cells (Rds.eqs (i7 _) (cK (fun _=>rfl) rfl)) rfl|exact Rb.map (Res.eqs (by rw[kE (by omega)]) (aa _ _))|exact rbB|exact Rb.cells bK rfl|exact rbC|fail) ?_)) rfl rfl
  intro k h4;repeat' ((conv=>whnf)<;>(first|refine sg ?_|exact kQ|(refine Br.mk ?_ ?_<;>intro _<;>try(exfalso;omega))|refine stq ?_|(refine fb.pos (fun _ _=>?_) (fun _=>?_))|refine Put.one (by rw[hU (by omega)];omega) ?_))
  all_goals(conv=>whnf)
  ·rename_i _ hm;refine⟨k+1,by omega,by omega,?_⟩;exact Lf.of2 [(0,_),(1,_),(2,_)] [] enA (by repeat(first|exact Bxs.nil|refine Bxs.cons rfl rfl rfl (by first|exact Rb.cells (Rds.eqs (by rw[<-iu (by omega)];simp[iK,hm]) (cK (fun _=>rfl) rfl)) rfl|exact rbB|exact Rb.cells bK rfl|exact rbC|fail) ?_)) rfl rfl
  ·rename_i hm;refine⟨k+1,by omega,by omega,?_⟩;exact Lf.of2 [(0,_),(1,_),(2,_)] [] enA (by repeat(first|exact Bxs.nil|refine Bxs.cons rfl rfl rfl (by first|exact Rb.cells (Rds.eqs (by rw[<-iu (by omega)];simp only[iK,hm,if_false];rfl) (cK (fun _=>rfl) rfl)) rfl|exact rbB|exact Rb.cells bK rfl|exact rbC|fail) ?_)) rfl rfl
  refine aU.by aA T0 (fun k:Nat=>⟨tmp 81 [(3,.ptr 0 0),(10,.sl 2 0 (cnt p).names.length (cnt p).names.length 1 true),(13,.sl 3 0 text.length text.length 1 true),(62,aQ text),(63,i64 text.length),(64,i64 (k:Int))],⟨4,[(0,.cells [strs (cnt p).names,dO (cnt p).spans] true),(2,.cells ((cnt p).names.map fun s=>i64 (iK t.classes s)) true),(3,.cells (gX (fun c=>i64 (iK t.classes (mw p c))) (i64 0) text k) true)]⟩⟩)
   (fun k=>k<=text.length) (fun k=>text.length-k) 0 (by omega) ?_ ?_
  ·exact Lf.of2 [(0,_),(2,_),(3,_)] [] enA (by repeat(first|exact Bxs.nil|refine Bxs.cons rfl rfl rfl (by first|exact Rb.cells (Rds.eqs (i7 _) (cK (fun _=>rfl) rfl)) rfl|exact Rb.cells (Rds.eqs (nF (by omega)) (aZ (fun _=>rfl) _)) rfl|exact rbB|exact Rb.cells bK rfl|exact rbC|fail) ?_)) rfl rfl
  intro k h5;have hg:=lN (p:=p) (text.getD k 0);repeat' ((conv=>whnf)<;>(first|refine sg ?_|exact kQ|(refine Br.mk ?_ ?_<;>intro _<;>try(exfalso;omega))|refine stq ?_|refine Cll.pu (yD sd sd) ?_|refine ca.at (fh (cnt p).spans text[k]).toNat (by rw[aX (by omega)] at hg;omega) (by rw[aX (by omega)] at hg;omega) ?_|refine Get.map (by rw[aX (by omega)] at hg;omega) ?_|refine Put.one (by rw[hU (by omega)];omega) ?_))
  all_goals(conv=>whnf)
  ·refine⟨k+1,by omega,by omega,?_⟩;exact Lf.of2 [(0,_),(2,_),(3,_)] [] enA (by repeat(first|exact Bxs.nil|refine Bxs.cons rfl rfl rfl (by first|exact Rb.cells (Rds.eqs (by rw[<-iu (by omega)];rfl) (cK (fun _=>rfl) rfl)) rfl|exact rbB|exact Rb.cells bK rfl|exact rbC|fail) ?_)) rfl rfl
  ·rw[if_pos hv];exact aI.frz1 (l:=bm p t.classes text) (f:=i64) rfl (by rw[nF (by omega)];simp[bm]) (by simp[bm]) (fun _=>rfl) rfl
 ·rename_i hv hpv;have hcp:cnt p=⟨[other],[]⟩:=by simp[cnt,hpv]
  refine aU.by aA T0 (fun k:Nat=>⟨tmp 81 [(2,aQ text),(3,.ptr 0 0),(7,.map 1),(29,strs t.classes),(30,i64 t.classes.length),(31,i64 (k:Int))],⟨2,[(0,.cells [strs (cnt p).names,dO (cnt p).spans] true),(1,.map (pos (t.classes.take k) 0))]⟩⟩)
   (fun k=>k<=t.classes.length) (fun k=>t.classes.length-k) 0 (by omega) ?_ ?_
  ·exact Lf.of2 [(0,_),(1,_)] [9] enA (by repeat(first|exact Bxs.nil|refine Bxs.cons rfl rfl rfl (by first|exact Rb.cells (by rw[hcp];exact Rds.same (by simp only[cw,aB,aE,aG,Bool.and_self])) rfl|exact Rb.cells (by rw[hcp];exact Rds.cons (Rd.frz rfl rfl (kD rfl) (Rds.cons (Rd.same rfl) Rds.nil)) (Rds.cons Rd.nil Rds.nil)) rfl|exact rbB|exact Rb.cells bK rfl|exact rbC|fail) ?_)) rfl rfl
  intro k h3;repeat' ((conv=>whnf)<;>(first|refine sg ?_|exact kQ|(refine Br.mk ?_ ?_<;>intro _<;>try(exfalso;omega))|refine stq ?_|(refine fb.pos (fun _ _=>?_) (fun _=>?_)<;>(try(exfalso;exact(hv.1.2.2 k (by omega)).2 (by assumption))))))
  all_goals(conv=>whnf)
  ·refine⟨k+1,by omega,by omega,?_⟩;exact Lf.of2 [(0,_),(1,_)] [] enA bxA rfl rfl
  refine aU.by aA T0 (fun k:Nat=>⟨tmp 81 [(2,aQ text),(3,.ptr 0 0),(7,.map 1),(10,.sl 2 0 (cnt p).names.length (cnt p).names.length 1 true),(45,strs (cnt p).names),(46,i64 (cnt p).names.length),(47,i64 (k:Int))],⟨3,[(0,.cells [strs (cnt p).names,dO (cnt p).spans] true),(1,.map (pos t.classes 0)),(2,.cells (gX (fun s=>i64 (iK t.classes s)) (i64 0) (cnt p).names k) true)]⟩⟩)
   (fun k=>k<=(cnt p).names.length) (fun k=>(cnt p).names.length-k) 0 (by omega) ?_ ?_
  ·exact Lf.of2 [(0,_),(1,_),(2,_)] [] enA (by repeat(first|exact Bxs.nil|refine Bxs.cons rfl rfl rfl (by first|exact Rb.cells (Rds.eqs (i7 _) (cK (fun _=>rfl) rfl)) rfl|exact Rb.map (Res.eqs (by rw[kE (by omega)]) (aa _ _))|exact rbB|exact Rb.cells bK rfl|exact rbC|fail) ?_)) rfl rfl
  intro k h4;repeat' ((conv=>whnf)<;>(first|refine sg ?_|exact kQ|(refine Br.mk ?_ ?_<;>intro _<;>try(exfalso;omega))|refine stq ?_|(refine fb.pos (fun _ _=>?_) (fun _=>?_))|refine Put.one (by rw[hU (by omega)];omega) ?_))
  all_goals(conv=>whnf)
  ·rename_i _ hm;refine⟨k+1,by omega,by omega,?_⟩;exact Lf.of2 [(0,_),(1,_),(2,_)] [] enA (by repeat(first|exact Bxs.nil|refine Bxs.cons rfl rfl rfl (by first|exact Rb.cells (Rds.eqs (by rw[<-iu (by omega)];simp[iK,hm]) (cK (fun _=>rfl) rfl)) rfl|exact rbB|exact Rb.cells bK rfl|exact rbC|fail) ?_)) rfl rfl
  ·rename_i hm;refine⟨k+1,by omega,by omega,?_⟩;exact Lf.of2 [(0,_),(1,_),(2,_)] [] enA (by repeat(first|exact Bxs.nil|refine Bxs.cons rfl rfl rfl (by first|exact Rb.cells (Rds.eqs (by rw[<-iu (by omega)];simp only[iK,hm,if_false];rfl) (cK (fun _=>rfl) rfl)) rfl|exact rbB|exact Rb.cells bK rfl|exact rbC|fail) ?_)) rfl rfl
  refine aU.by aA T0 (fun k:Nat=>⟨tmp 81 [(3,.ptr 0 0),(10,.sl 2 0 (cnt p).names.length (cnt p).names.length 1 true),(13,.sl 3 0 text.length text.length 1 true),(62,aQ text),(63,i64 text.length),(64,i64 (k:Int))],⟨4,[(0,.cells [strs (cnt p).names,dO (cnt p).spans] true),(2,.cells ((cnt p).names.map fun s=>i64 (iK t.classes s)) true),(3,.cells (gX (fun c=>i64 (iK t.classes (mw p c))) (i64 0) text k) true)]⟩⟩)
   (fun k=>k<=text.length) (fun k=>text.length-k) 0 (by omega) ?_ ?_
  ·exact Lf.of2 [(0,_),(2,_),(3,_)] [] enA (by repeat(first|exact Bxs.nil|refine Bxs.cons rfl rfl rfl (by first|exact Rb.cells (Rds.eqs (i7 _) (cK (fun _=>rfl) rfl)) rfl|exact Rb.cells (Rds.eqs (nF (by omega)) (aZ (fun _=>rfl) _)) rfl|exact rbB|exact Rb.cells bK rfl|exact rbC|fail) ?_)) rfl rfl
  intro k h5;have hg:=lN (p:=p) (text.getD k 0);repeat' ((conv=>whnf)<;>(first|refine sg ?_|exact kQ|(refine Br.mk ?_ ?_<;>intro _<;>try(exfalso;omega))|refine stq ?_|refine Cll.pu (yD sd sd) ?_|refine ca.at (fh (cnt p).spans text[k]).toNat (by rw[aX (by omega)] at hg;omega) (by rw[aX (by omega)] at hg;omega) ?_|refine Get.map (by rw[aX (by omega)] at hg;omega) ?_|refine Put.one (by rw[hU (by omega)];omega) ?_))
  all_goals(conv=>whnf)
  ·refine⟨k+1,by omega,by omega,?_⟩;exact Lf.of2 [(0,_),(2,_),(3,_)] [] enA (by repeat(first|exact Bxs.nil|refine Bxs.cons rfl rfl rfl (by first|exact Rb.cells (Rds.eqs (by rw[<-iu (by omega)];rfl) (cK (fun _=>rfl) rfl)) rfl|exact rbB|exact Rb.cells bK rfl|exact rbC|fail) ?_)) rfl rfl
  ·rw[if_pos hv];exact aI.frz1 (l:=bm p t.classes text) (f:=i64) rfl (by rw[nF (by omega)];simp[bm]) (by simp[bm]) (fun _=>rfl) rfl
 ·rename_i hv;rw[if_neg hv];exact⟨.nil⟩
end
section
open Go Go.Am Classical
set_option maxRecDepth 100000
abbrev bl (a b:Str):Bool:=Op.bytesLess a b
theorem sc:∀ a:Str,bl a a=false
 | []=>rfl
 | x::a=>by simp only[bl,Op.bytesLess];simp[sc a]
theorem wM:∀ {a b c:Str},bl a b=true->bl b c=true->bl a c=true
 | _,[],_,h,_=>by simp[bl,Op.bytesLess] at h
 | _,_::_,[],_,h=>by simp[bl,Op.bytesLess] at h
 | [],_::_,_::_,_,_=>by simp[bl,Op.bytesLess]
 | x::a,y::b,z::c,h1,h2=>by
  simp only[bl,Op.bytesLess,kN,kC,decide_eq_true_eq,beq_iff_eq] at *;rcases h1 with h1|⟨rfl,h1⟩
  ·rcases h2 with h2|⟨rfl,_⟩
   ·exact .inl (UInt8.lt_trans h1 h2)
   ·exact .inl h1
  ·rcases h2 with h2|⟨rfl,h2⟩
   ·exact .inl h2
   ·exact .inr ⟨rfl,wM h1 h2⟩
structure Mpg where
 frm:Int
 to:List Int
 tag:Str
 deriving Inhabited
def bef (a b:Mpg):Prop:=a.frm<b.frm∨(a.frm=b.frm∧bl a.tag b.tag=true)
theorem Ah {a b c:Mpg}(h1:bef a b) (h2:bef b c):bef a c:=by
 unfold bef at *;rcases h1 with h1|⟨e1,h1⟩<;>rcases h2 with h2|⟨e2,h2⟩
 ·exact .inl (by omega)
 ·exact .inl (by omega)
 ·exact .inl (by omega)
 ·exact .inr ⟨by omega,wM h1 h2⟩
theorem FA {a b:Mpg}(h:bef a b):¬(b.frm=a.frm∧b.tag=a.tag):=by
 rintro⟨e1,e2⟩;rcases h with h|⟨_,h⟩
 ·omega
 ·rw[e2,sc] at h;cases h
def t8 (a b:Str):Int:=if bl a b=true then -1 else if a=b then 0 else 1
def C6 (a b:Mpg):Int:=if gp a.frm b.frm=0 then t8 a.tag b.tag else gp a.frm b.frm
theorem zI {a b:Mpg}:C6 a b<0↔bef a b:=by
 unfold C6 t8 gp bef;by_cases h1:a.frm<b.frm
 ·simp[h1]
 ·by_cases h2:b.frm<a.frm
  ·simp[h1,h2];omega
  ·have e:a.frm=b.frm:=by omega
   simp only[e,if_true,if_false,Int.lt_irrefl,false_or,true_and];by_cases h3:bl a.tag b.tag=true
   ·simp[h3]
   ·simp only[h3];by_cases h4:a.tag=b.tag
    ·simp[h4]
    ·simp[h4]
def cpQ (n:Int):Prop:=0<=n∧n<=1114111
def kb (m:Mpg):Prop:=cpQ m.frm∧∀ j (h:j<m.to.length),cpQ m.to[j]
def BA (m:Mpg):Prop:=m.tag=[]∨mF m.tag
def Tw (l:List Mpg):Prop:=∃ i,∃ h:i<l.length,∃ k,∃ hk:k<i,l[i].frm=(l[k]'(by omega)).frm∧l[i].tag=(l[k]'(by omega)).tag
def Asc (l:List Mpg):Prop:=∀ i (h:i<l.length),∀ h0:i≠0,bef (l[i-1]'(by omega)) l[i]
theorem Asc.lt {l:List Mpg}(h:Asc l):∀ (d i:Nat) (hi:i+d+1<l.length),bef (l[i]'(by omega)) l[i+d+1]
 | 0,i,hi=>by have:=h (i+1) hi (by omega);simpa using this
 | d+1,i,hi=>Ah (Asc.lt h d i (by omega)) (h (i+d+1+1) hi (by omega))
theorem Asc.once {l:List Mpg}(h:Asc l):¬Tw l:=by
 rintro⟨i,hi,k,hk,e⟩;have:=Asc.lt h (i-k-1) k (by omega)
 have e2:k+(i-k-1)+1=i:=by omega
 simp only[e2] at this;exact FA this e
noncomputable def d5 (l:List Mpg):Int:=
 if ∀ i (h:i<l.length),kb l[i] then(if ∀ i (h:i<l.length),l[i].to.length<=64 then(if ∀ i (h:i<l.length),BA l[i] then 0 else 6) else 2) else 1
def MOk (l:List Mpg):Prop:=d5 l=0∧Asc l
end
section
open Go Go.Am Classical
set_option maxRecDepth 100000
variable [GT]
abbrev cU (r:Rng):List D:=[i64 r.lo,i64 r.hi]
abbrev bc (l:List Rng):D:=lstS cU l
theorem aK (l:List Rng):aJ (bc l)=true:=fG (fun _=>rfl) l
abbrev ig (m:Mpg):List D:=[i64 m.frm,aQ m.to,.str m.tag]
abbrev ce (l:List Mpg):D:=lstS ig l
theorem mH (m:Mpg):aB (ig m)=true:=by simp[aB,aJ,aF]
theorem aN (l:List Mpg):aJ (ce l)=true:=fG mH l
structure Db where
 major:Int
 minor:Int
 cat:Prp
 wid:Prp
 scr:Prp
 gra:Prp
 wor:Prp
 sen:Prp
 lin:Prp
 classes:List Spn
 decomp:List Mpg
 excl:List Rng
 lower:List Mpg
 upper:List Mpg
 title:List Mpg
 fold:List Mpg
 cased:List Rng
 ignor:List Rng
 start:List Rng
 cont:List Rng
 medial:List Rng
 confu:List Mpg
abbrev prpC (p:Prp):List D:=[strs p.names,dO p.spans]
abbrev dbC (d:Db):List D:=[i64 d.major,i64 d.minor,strs d.cat.names,dO d.cat.spans,strs d.wid.names,dO d.wid.spans,strs d.scr.names,dO d.scr.spans,strs d.gra.names,dO d.gra.spans,strs d.wor.names,dO d.wor.spans,strs d.sen.names,dO d.sen.spans,strs d.lin.names,dO d.lin.spans,
 dO d.classes,ce d.decomp,bc d.excl,ce d.lower,ce d.upper,ce d.title,ce d.fold,bc d.cased,bc d.ignor,bc d.start,bc d.cont,bc d.medial,ce d.confu]
abbrev dbD (d:Db):D:=.agg (dbC d)
theorem ae (d:Db):aB (dbC d)=true:=by simp[aB,aJ,aE,aG,aN,aK]
def prop (d:Db):Nat->Prp
 | 0=>d.cat
 | 1=>d.wid
 | 2=>d.scr
 | 3=>d.gra
 | 4=>d.wor
 | 5=>d.sen
 | _=>d.lin
def zl (d:Db):Nat->List Rng
 | 0=>d.excl
 | 1=>d.cased
 | 2=>d.ignor
 | 3=>d.start
 | 4=>d.cont
 | _=>d.medial
def fg (d:Db):Nat->List Mpg
 | 9=>d.decomp
 | 11=>d.lower
 | 12=>d.upper
 | 13=>d.title
 | 14=>d.fold
 | _=>d.confu
def ClQ (l:List Spn) (i:Nat) (s:Spn):Prop:=(0<=s.lo∧s.lo<=s.hi∧s.hi<=1114111∧1<=s.val∧s.val<=254) ∧
 (i≠0->(l.getD (i-1) default).hi<s.lo∧¬(s.lo=(l.getD (i-1) default).hi+1∧s.val=(l.getD (i-1) default).val))
def ClV (l:List Spn):Prop:=∀ i (h:i<l.length),ClQ l i l[i]
def s9 (n:Int):Prop:=0<=n∧n<=9999
def Fl (d:Db):Nat->Prop
 | 0=>s9 d.major∧s9 d.minor
 | 1=>PrV d.cat
 | 2=>PrV d.wid
 | 3=>PrV d.scr
 | 4=>PrV d.gra
 | 5=>PrV d.wor
 | 6=>PrV d.sen
 | 7=>PrV d.lin
 | 8=>ClV d.classes
 | 9=>MOk d.decomp
 | 10=>dF d.excl
 | 11=>MOk d.lower
 | 12=>MOk d.upper
 | 13=>MOk d.title
 | 14=>MOk d.fold
 | 15=>dF d.cased
 | 16=>dF d.ignor
 | 17=>dF d.start
 | 18=>dF d.cont
 | 19=>dF d.medial
 | _=>MOk d.confu
def DbV (d:Db):Prop:=∀ k,k<21->Fl d k
def SmM (l:List Mpg):Prop:=(∀ i (h:i<l.length),i<30->l[i].to.length<=65∧l[i].tag.length<=40)∧l.length<=20
def SmD (d:Db):Prop:=d.classes.length<=16∧(∀ k,k<7->(prop d k).names.length<=30∧(prop d k).spans.length<=16)∧(∀ k,k<6->(zl d k).length<=12)∧∀ k,k<21->SmM (fg d k)
structure Db.ok (d:Db):Prop where
 prop:∀ k,(prop d k).ok
 sets:∀ k,(zl d k).length<=9223372036854775807
 maps:∀ k,(fg d k).length<=9223372036854775807∧∀ i (h:i<(fg d k).length),(fg d k)[i].to.length<=9223372036854775807∧(fg d k)[i].tag.length<=9223372036854775807
 classes:d.classes.length<=9223372036854775807
def gY:List Int->Int
 | []=>0
 | e::l=>if e=0 then gY l else e
theorem t5:∀ {l:List Int}{k:Nat}(h:k<l.length),(∀ i (hi:i<l.length),i<k->l[i]=0)->l[k]≠0->gY l=l[k]
 | [],k,h,_,_=>by simp at h
 | e::l,0,_,_,h2=>by simp only[List.getElem_cons_zero] at h2 ⊢;rw[gY,if_neg h2]
 | e::l,k+1,h,h1,h2=>by
  have e0:e=0:=h1 0 (by simp) (by omega);rw[gY,if_pos e0];simp only[List.getElem_cons_succ] at h2 ⊢;exact t5 (by simpa using h) (fun i hi hk=>by have:=h1 (i+1) (by simpa using hi) (by omega);simpa using this) h2
theorem lI:∀ {l:List Int},gY l=0↔∀ i (hi:i<l.length),l[i]=0
 | []=>by simp[gY]
 | e::l=>by
  rw[gY];constructor
  ·intro h i hi;split at h
   ·rename_i e0;cases i with
    | zero=>simpa using e0
    | succ i=>simpa using lI.1 h i (by simpa using hi)
   ·rename_i e0;exact absurd h e0
  ·intro h;have e0:e=0:=h 0 (by simp);rw[if_pos e0];exact lI.2 fun i hi=>by have:=h (i+1) (by simpa using hi);simpa using this
end
section
open Go Go.Am Classical
set_option maxRecDepth 100000
variable [GT]
def oz:List Int->List Int->Int
 | [],[]=>0
 | [],_::_=>-1
 | _::_,[]=>1
 | x::a,y::b=>if x<y then -1 else if y<x then 1 else oz a b
theorem sZ {a b:List Int}{k:Nat}(h1:k<a.length) (h2:k<b.length):oz (a.drop k) (b.drop k)=if a[k]<b[k] then -1 else if b[k]<a[k] then 1 else oz (a.drop (k+1)) (b.drop (k+1)):=by
 rw[kK h1,kK h2];rfl
theorem C7 {a b:List Int}{k:Nat}(h1:k<=a.length) (h2:k<=b.length) (hk:¬(k<a.length∧k<b.length)):oz (a.drop k) (b.drop k)=if a.length<b.length then -1 else if b.length<a.length then 1 else 0:=by
 by_cases ha:k<a.length
 ·rw[kK ha,(List.drop_eq_nil_of_le (by omega):b.drop k=[]),if_neg (by omega),if_pos (by omega)];rfl
 ·rw[(List.drop_eq_nil_of_le (by omega):a.drop k=[])];by_cases hb:k<b.length
  ·rw[kK hb,if_pos (by omega)];rfl
  ·rw[(List.drop_eq_nil_of_le (by omega):b.drop k=[]),if_neg (by omega),if_neg (by omega)];rfl
theorem nw:∀ {a b:List Int},oz a b=0↔a=b
 | [],[]=>by simp[oz]
 | [],_::_=>by simp[oz]
 | _::_,[]=>by simp[oz]
 | x::a,y::b=>by
  simp only[oz,List.cons.injEq];have:=nw (a:=a) (b:=b)
  by_cases h1:x<y
  ·rw[if_pos h1];constructor
   ·intro h;omega
   ·rintro⟨rfl,_⟩;omega
  ·rw[if_neg h1];by_cases h2:y<x
   ·rw[if_pos h2];constructor
    ·intro h;omega
    ·rintro⟨rfl,_⟩;omega
   ·rw[if_neg h2,this];exact⟨fun h=>⟨by omega,h⟩,fun h=>h.2⟩
theorem Ap {a b:List Int}(ha:a.length<=9223372036854775807):Pu Tryz.prog 36 [aQ a,aQ b] (i64 (oz a b)):=by
 refine Pu.of_v aA T0 Tryz.func36 rfl rfl (by simp[aB,aF]) ?_;repeat' ((conv=>whnf)<;>(first|refine sg ?_|exact kQ|(refine Br.mk ?_ ?_<;>intro _<;>try(exfalso;omega))|refine stq ?_))
 refine aU.by aA T0 (fun k:Nat=>⟨tmp 46 [(0,aQ a),(1,aQ b),(5,i64 (k:Int))],⟨0,[]⟩⟩) (fun k=>k<=a.length∧k<=b.length∧oz (a.drop k) (b.drop k)=oz a b) (fun k=>a.length-k) 0 ⟨by omega,by omega,rfl⟩ ?_ ?_
 ·exact Lf.of2 [] [] enA bxA rfl rfl
 intro k ⟨h1,h2,h3⟩;repeat' ((conv=>whnf)<;>(first|refine sg ?_|exact kQ|(refine Br.mk ?_ ?_<;>intro _<;>try(exfalso;omega))|refine stq ?_))
 all_goals(conv=>whnf)
 all_goals first
  | (refine aI.int ?_
     rw[<-h3]
     first
      | (rw[C7 h1 h2 (by omega)];(repeat' split)<;>omega)
      | (rw[sZ (by omega) (by omega)];(repeat' split)<;>omega))
  | skip
 refine⟨k+1,⟨by omega,by omega,by rw[<-h3,sZ (k:=k) (by omega) (by omega),if_neg (by omega),if_neg (by omega)]⟩,by omega,?_⟩;exact Lf.of2 [] [] enA bxA rfl rfl
theorem FL {a b:List Int}(ha:a.length<=9223372036854775807):Pu Tryz.prog 16 [aQ a,aQ b] (boo (decide (a=b))):=by
 refine Pu.of_v aA T0 Tryz.func16 rfl rfl (by simp[aB,aF]) ?_;repeat' ((conv=>whnf)<;>(first|refine sg ?_|exact kQ|(refine Br.mk ?_ ?_<;>intro _<;>try(exfalso;omega))|refine stq ?_|refine Cll.pu (Ap sd) ?_))
 all_goals(conv=>whnf)
 all_goals first
  | exact aI.yes (nw.1 (by assumption))
  | exact aI.no (fun hc=>absurd (nw.2 hc) (by assumption))
theorem xu {t:Tbl}{l:List Int}(ht:t.ok) (hx:l.length<=1000) (hok:okL t l):Pu Tryz.prog 78 [iC t,aQ l] (aQ (acts t l)):=by
 have hL:=Left_c ht hx;have hR:=FI ht hx;rw[if_pos hok] at hL hR;have hc:=hok.1;have hl:=hok.2.2.2.2.1;have hr:=hok.2.2.2.2.2;have nL:=SL_len (nx:=t.left.next) (l:=l);have nR:=SR_len (nx:=t.right.next) (l:=l);refine Pu.of_v aA T0 Tryz.func78 rfl rfl (by simp[aJ,aB,bz,aF,aE]) ?_;repeat' ((conv=>whnf)<;>(first|refine sg ?_|exact kQ|(refine Br.mk ?_ ?_<;>intro _<;>try(exfalso;omega))|refine stq ?_|refine aO.pu hL ?_|refine aO.pu hR ?_))
 all_goals(conv=>whnf)
 refine aU.by2 aA T0 (fun(k:Nat) (o:List Int)=>⟨tmp 41 [(2,.ptr 0 0),(5,aQ (SL t.left.next l)),(6,aQ (SR t.right.next l)),(7,ai 1 1 o),(18,i64 (SL t.left.next l).length),(19,i64 (k:Int))],⟨2,cW 1 (fun x=>[i64 x]) o++[(0,.cells [strs t.classes,aQ t.actions,cA t.left.next,cA t.left.marks,cA t.right.next,cA t.right.marks] true)]⟩⟩)
  (fun k o=>k<=l.length+1∧o=(acts t l).take k) (fun k _=>l.length+1-k) 0 [] ⟨by omega,rfl⟩ ?_ ?_
 ·exact Lf.of2 [(0,_)] [] enA bxA rfl rfl
 intro k o ⟨h3,h4⟩;by_cases hk:k<l.length+1
 ·have d1:=nW hl hc k (by omega);have d2:=nV hr hc (l.length-k) (by omega);have hd:=Cu hok.2 d1 d2;rw[<-DW (nx:=t.left.next) (l:=l) (k:=k) (by omega),<-DV (nx:=t.right.next) (l:=l) (k:=k) (by omega)] at hd;have hs:=Al (t:=t) (l:=l) hk;rw[<-h4,<-DW (nx:=t.left.next) (l:=l) (k:=k) (by omega),<-DV (nx:=t.right.next) (l:=l) (k:=k) (by omega)] at hs;cases o with
  | nil=>
   repeat' ((conv=>whnf)<;>(first|refine sg ?_|exact kQ|(refine Br.mk ?_ ?_<;>intro _<;>try(exfalso;omega))|refine stq ?_|refine aO.pu hd ?_))
   all_goals(conv=>whnf)
   refine⟨k+1,_,⟨by omega,hs.symm⟩,by omega,?_⟩;exact Lf.of2 [(0,_),(1,_)] [] enA bxA rfl rfl
  | cons x xs=>
   have hlen:(x::xs).length<=1001:=by rw[h4];simp[acts];omega
   repeat' ((conv=>whnf)<;>(first|refine sg ?_|exact kQ|(refine Br.mk ?_ ?_<;>intro _<;>try(exfalso;omega))|refine stq ?_|refine aO.pu hd ?_))
   all_goals(conv=>whnf)
   refine⟨k+1,_,⟨by omega,hs.symm⟩,by omega,?_⟩;exact Lf.of2 [(0,_),(1,_)] [] (by repeat(first|exact aM.nil|refine aM.cons rfl (by first|exact Rd.sl' rfl (by simp) (by simp)|exact rdA|fail) ?_)) (by repeat(first|exact Bxs.nil|refine Bxs.cons rfl rfl rfl (by first|exact Rb.cells (Rds.eqs (ak (by intro _;rfl) (x::xs) _) (aD (by intro _;rfl) _)) rfl|exact rbB|exact Rb.cells (by(repeat(first|exact Rds.nil|refine Rds.cons (by first|exact Rd.sl' rfl (by simp) (by simp)|exact rdA|fail) ?_|fail));(first|done|fail)) rfl|exact rbC|fail) ?_)) rfl rfl
 ·have hall:(acts t l).take k=acts t l:=kE (by rw[ge];omega);rw[hall] at h4;cases o with
  | nil=>exact absurd h4.symm (by intro h;have:=ge (t:=t) (l:=l);rw[h] at this;simp at this)
  | cons x xs=>
   repeat' ((conv=>whnf)<;>(first|refine sg ?_|exact kQ|(refine Br.mk ?_ ?_<;>intro _<;>try(exfalso;omega))|refine stq ?_))
   rw[<-h4];exact aI.own1 (id:=1) (l:=x::xs) (fun _=>rfl)
theorem xZ {l:List Str}{s:Str}(h:1<=l.length):0<=iK l s∧iK l s<l.length:=by
 unfold iK;split
 ·rename_i hm;have:=List.idxOf_lt_length_of_mem hm
  omega
 ·omega
theorem vM {p:Prp}{t:Tbl}{text:List Int}(hv:TV t):CL (bm p t.classes text) t.classes.length:=by
 intro i h;simp only[bm,List.getElem_map];exact xZ hv.1.1
theorem B0 {p:Prp}{t:Tbl}{text:List Int}(hv:TV t):okL t (bm p t.classes text):=⟨vM hv,hv⟩
noncomputable def kn (p:Prp) (t:Tbl) (text:List Int):List Int:=if TV t then acts t (bm p t.classes text) else []
theorem w9 {p:Prp}{t:Tbl}{text:List Int}(hp:p.ok) (ht:t.ok) (h1:p.names.length<=1000) (h2:p.spans.length<=1000) (hx:text.length<=1000):Pu Tryz.prog 52 [du p,iC t,aQ text] (aQ (kn p t text)):=by
 refine Pu.of_v aA T0 Tryz.func52 rfl rfl (by simp[aJ,aB,aE,aG,aF,bz]) ?_;by_cases hv:TV t
 ·have hc:=Ar (text:=text) hp ht (by omega) (by omega) (by omega);rw[if_pos hv] at hc;have ha:=xu ht (show(bm p t.classes text).length<=1000 by simp[bm];omega) (B0 hv);rw[kn,if_pos hv];repeat' ((conv=>whnf)<;>(first|refine sg ?_|exact kQ|(refine Br.mk ?_ ?_<;>intro _<;>try(exfalso;omega))|refine stq ?_|(refine Cll.dec (jB ht) (fun _=>?_) (fun _=>?_)<;>(try contradiction))|refine bJ.by aA T0 [0,0,0,0,14,31,63] (by kernel_rfl) ?_|refine aO.pu hc ?_|refine aO.pu ha ?_))
  all_goals(conv=>whnf)
  exact aI.same (aF _) rfl
 ·rw[kn,if_neg hv];repeat' ((conv=>whnf)<;>(first|refine sg ?_|exact kQ|(refine Br.mk ?_ ?_<;>intro _<;>try(exfalso;omega))|refine stq ?_|(refine Cll.dec (jB ht) (fun _=>?_) (fun _=>?_)<;>(try contradiction))))
  all_goals(conv=>whnf)
  exact⟨.nil⟩
def btw:Int->List Int->List Rng
 | _,[]=>[]
 | s,e::l=>if s<e then⟨s,e⟩::btw e l else btw s l
theorem lO {s e:Int}{l:List Int}(h:s<e):btw s (e::l)=⟨s,e⟩::btw e l:=by rw[btw,if_pos h]
theorem nz {s e:Int}{l:List Int}(h:¬s<e):btw s (e::l)=btw s l:=by rw[btw,if_neg h]
theorem eG {α β:Type}{P:Program}(x:Sem α) (f:α->Sem β):cS P (x >>= f)=(cS P x).bind fun a=>cS P (f a):=by
 show cS P (x.bind f)=_
 induction x with
 | pure a=>rfl
 | program k ih=>exact ih _
 | mark m k ih=>exact ih
 | _=>rfl
theorem zu {α β:Type}{P:Program}(x:Sem α) (f:α->β):cS P (f <$> x)=(cS P x).map f:=by
 rw[map_eq_pure_bind,eG];cases cS P x<;>rfl
theorem gH {α:Type}{P:Program}(a:α):cS P (pure a:Sem α)=some a:=rfl
theorem iG {P:Program}:cS P program=some P:=rfl
theorem fE {P:Program}{t:TypeId}{d:TypeDesc}(h:P.underlying t=some d):cS P (underlying t)=some d:=by
 simp only[underlying,eG,iG,Option.bind_some,h,gH]
theorem oJ {P:Program}{d:Nat}{t:TypeId}{k:IntKind}{a b:Int}(h:P.underlying t=some (.int k)):cS P (Op.equalIn (d+1) t (.int .i64 a) (.int .i64 b))=some (a == b):=by
 simp[Op.equalIn,eG,fE h,gH]
theorem p8 {P:Program}{t:TypeId}{k:IntKind}{cs:Array Value}{o:Nat}{v:Value}(h:P.underlying t=some (.int k)) (hv:cs[o]?=some v):cS P (part t cs o)=some v:=by
 simp[part,isAgg,eG,fE h,gH,hv]
theorem u7 {P:Program}{d:Nat}{t:TypeId}{f0 f1:Field}{k:IntKind}{a b c e:Int}(h:P.underlying t=some (.struct #[f0,f1])) (hs:P.stoodInHeld t=false) (n0:f0.name ≠ "_") (n1:f1.name ≠ "_") (o0:f0.offset=0) (o1:f1.offset=1) (t0:P.underlying f0.type=some (.int k)) (t1:P.underlying f1.type=some (.int k)) :
  cS P (Op.equalIn (d+2) t (.agg #[.int .i64 a,.int .i64 b]) (.agg #[.int .i64 c,.int .i64 e]))=some (a == c&&b == e):=by
 rw[Op.equalIn];simp[eG,fE h,iG,hs,n0,n1,o0,o1,p8 t0,oJ t0];by_cases h1:a=c<;>by_cases h2:b=e<;>simp[h1,h2,eG,gH,p8 t1,oJ t1]
theorem DU {P:Program}{t:TypeId}{f0 f1:Field}{k:IntKind}{a b c e:Int}{ox oy:Operand}(h:P.underlying t=some (.struct #[f0,f1])) (hs:P.stoodInHeld t=false) (n0:f0.name ≠ "_") (n1:f1.name ≠ "_") (o0:f0.offset=0) (o1:f1.offset=1) (t0:P.underlying f0.type=some (.int k)) (t1:P.underlying f1.type=some (.int k)) (hg:P.eqGuardType P.depth t=false) :
  cr P .neq t ox oy (.agg [i64 a,i64 b]) (.agg [i64 c,i64 e])=some (.v (.bool (!(a == c&&b == e)))):=by
 have e1:cS P (do eqGuard .neq t ox oy (.agg #[.int .i64 a,.int .i64 b]) (.agg #[.int .i64 c,.int .i64 e]);binOp .neq t (.agg #[.int .i64 a,.int .i64 b]) (.agg #[.int .i64 c,.int .i64 e]))=some (.bool (!(a == c&&b == e))):=by
  have e2:cS P (Op.equalIn 10000 t (.agg #[.int .i64 a,.int .i64 b]) (.agg #[.int .i64 c,.int .i64 e]))=some (a == c&&b == e):=u7 (d:=9998) h hs n0 n1 o0 o1 t0 t1;simp[eqGuard,binOp,eG,iG,hg,Op.equal,Op.maxDepth,e2,gH,zu]
 have e3:cr P .neq t ox oy (.agg [i64 a,i64 b]) (.agg [i64 c,i64 e])=(match cS P (do eqGuard .neq t ox oy (.agg #[.int .i64 a,.int .i64 b]) (.agg #[.int .i64 c,.int .i64 e]);binOp .neq t (.agg #[.int .i64 a,.int .i64 b]) (.agg #[.int .i64 c,.int .i64 e])) with|some r=>ofV r|none=>none):=rfl;rw[e3,e1];rfl
theorem yk {a b c e:Int}{ox oy:Operand}:cr Tryz.prog .neq 55 ox oy (.agg [i64 a,i64 b]) (.agg [i64 c,i64 e])=some (.v (.bool (!(a == c&&b == e)))):=
 DU (k:=.i64) rfl (by kernel_rfl) (by decide) (by decide) rfl rfl rfl rfl (by kernel_rfl)
theorem pC {x y:Rng}{ox oy:Operand}(h:¬x=y):cr Tryz.prog .neq 55 ox oy (.agg (cU x)) (.agg (cU y))=some (.v (.bool true)):=by
 rw[yk];cases x;cases y;simp at h;simp only[kA,D.v.injEq,Value.bool.injEq,Bool.not_eq_true',Bool.and_eq_false_imp,beq_iff_eq,beq_eq_false_iff_ne];exact h
theorem tf {x:Rng}{ox oy:Operand}:cr Tryz.prog .neq 55 ox oy (.agg (cU x)) (.agg (cU x))=some (.v (.bool false)):=by
 rw[yk];simp
end
end Go.Proofs.YtjpgpihbhicinaaGreatDoor
