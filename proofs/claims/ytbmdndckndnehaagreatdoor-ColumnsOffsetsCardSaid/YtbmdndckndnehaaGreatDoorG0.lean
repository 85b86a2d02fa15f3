/-
  Contracts of functions over data: properties.
-/
import Derived.Test.YtbmdndckndnehaaGreatDoorQ1
import Derived.Test.YtbmdndckndnehaaGreatDoorAmF
import Derived.Test.YtbmdndckndnehaaGreatDoorH0
set_option linter.unusedSectionVars false
namespace Go.Proofs.YtbmdndckndnehaaGreatDoor
section
open Go Go.Am Classical
set_option maxRecDepth 100000
variable [GT]
theorem uB {s:Str}(hs:s.length<=9223372036854775807):Pu Tryz.prog 149 [.str s] (boo (decide (s≠[]∧s.length<=32∧yl s))):=by
 refine pv Tryz.func149 ?_;repeat' ((conv=>whnf);first|exact kQ|(refine bk ?_ ?_<;>intro _<;>try(exfalso;omega))|refine stq ?_)
 all_goals(conv=>whnf)
 all_goals first
  | exact aC.no (λhc=>hc.1 asm)
  | exact aC.no (λhc=>by omega)
  | skip
 refine aH.by aB T0 (λk:Nat=>⟨tmp 51 [(0,.str s),(14,i64 s.length),(15,i64 (k:Int))],⟨0,[]⟩⟩) (λk=>k<=s.length∧∀ i (h:i<s.length),i<k->wb (s[i].toNat:Int)) (λk=>s.length-k) 0 ⟨by omega,λ_ _ h=>by omega⟩ ?_ ?_
 ·exact lq0
 intro k ⟨h1,h2⟩;repeat' ((conv=>whnf);first|exact kQ|(refine bk ?_ ?_<;>intro _<;>try(exfalso;omega))|refine stq ?_)
 all_goals(conv=>whnf)
 all_goals first
  | exact aC.no (λhc=>absurd (hc.2.2 k om) (by unfold wb;omega))
  | exact aC.yes ⟨by assumption,by omega,bg om h2⟩
  | (refine⟨k+1,⟨by omega,ag om h2 (by unfold wb;omega)⟩,by omega,?_⟩
     exact lq0)
def PV (l:List Str):Prop:=1<=l.length∧l.length<=250∧∀ i (h:i<l.length),mt l[i]∧¬l[i]∈l.take i
theorem H1 {l:List Str}(hn:l.length<=9223372036854775807) (hl:long l):Pu Tryz.prog 151 [strs l] (boo (decide (PV l))):=by
 refine pv Tryz.func151 ?_;repeat' ((conv=>whnf);first|exact kQ|(refine bk ?_ ?_<;>intro _<;>try(exfalso;omega))|refine stq ?_)
 all_goals(conv=>whnf)
 all_goals first
  | exact aC.no (λhc=>by have:=hc.1;have:=hc.2.1;omega)
  | skip
 refine aH.by aB T0 (λk:Nat=>⟨tmp 39 [(0,strs l),(3,i64 (k:Int))],⟨0,[]⟩⟩)
  (λk=>k<=l.length∧∀ i (h:i<l.length),i<k->mt l[i]∧¬l[i]∈l.take i) (λk=>l.length-k) 0 ⟨by omega,λ_ _ h=>by omega⟩ ?_ ?_
 ·exact lq0
 intro k ⟨h1,h2⟩;repeat' ((conv=>whnf);first|exact kQ|(refine bk ?_ ?_<;>intro _<;>try(exfalso;omega))|refine stq ?_|refine cd (Ew sd) (λ_=>?_) (λ_=>?_)|fail)
 all_goals(conv=>whnf)
 all_goals first
  | exact aC.no (λhc=>by obtain⟨⟨_,_,_⟩,_⟩:=hc.2.2 k om;first|omega|contradiction|simp_all)
  | exact aC.yes ⟨by omega,by omega,bg om h2⟩
  | skip
 rename_i a1
 refine aH.by aB T0 (λj:Nat=>⟨tmp 39 [(0,strs l),(3,i64 (k:Int)),(4,i64 (j:Int))],⟨0,[]⟩⟩)
  (λj=>j<=k∧∀ i (h:i<l.length),i<j->l[i]≠l[k]) (λj=>k-j) 0 ⟨by omega,λ_ _ h=>by omega⟩ ?_ ?_
 ·exact lq0
 intro j ⟨h3,h4⟩;repeat' ((conv=>whnf);first|exact kQ|(refine bk ?_ ?_<;>intro _<;>try(exfalso;omega))|refine stq ?_)
 all_goals(conv=>whnf)
 all_goals first
  | exact aC.no (λhc=>(hc.2.2 k om).2 (jT.2 ⟨j,by omega,by omega,by assumption⟩))
  | (refine⟨j+1,⟨by omega,ag om h4 asm⟩,by omega,?_⟩
     exact lq0)
  | (refine⟨k+1,⟨by omega,ag om h2 ⟨a1,λhm=>by obtain⟨i,hi,hlt,e⟩:=jT.1 hm;exact h4 i hi om e⟩⟩,by omega,?_⟩
     exact lq0)
abbrev nilM:D:=.v (.map none)
theorem Fp {l:List Str}(hl:long l) (hp:¬PV l):Pu Tryz.prog 114 [strs l] (.tup [nilM,boo false]):=by
 refine pv Tryz.func114 ?_;repeat' ((conv=>whnf);first|exact kQ|(refine bk ?_ ?_<;>intro _<;>try(exfalso;omega))|refine stq ?_)
 all_goals(conv=>whnf)
 all_goals first
  | exact aC.same rfl rfl
  | skip
 refine aH.by aB T0 (λk:Nat=>⟨tmp 42 [(4,.map 0),(18,strs l),(19,i64 l.length),(20,i64 (k:Int))],⟨1,[(0,.map (pos (l.take k) 0))]⟩⟩)
  (λk=>k<=l.length∧∀ i (h:i<l.length),i<k->mt l[i]∧¬l[i]∈l.take i) (λk=>l.length-k) 0 ⟨by omega,λ_ _ h=>by omega⟩ ?_ ?_
 ·exact lq [(0,_)] []
 intro k ⟨h1,h2⟩;repeat' ((conv=>whnf);first|exact kQ|(refine bk ?_ ?_<;>intro _<;>try(exfalso;omega))|refine stq ?_|refine cd (uB sd) (λ_=>?_) (λ_=>?_)|(refine fV.pos (λ_ _=>?_) (λ_=>?_)<;>(try contradiction)))
 all_goals(conv=>whnf)
 all_goals first
  | exact aC.same rfl rfl
  | (exfalso;exact hp ⟨by omega,by omega,bg om h2⟩)
  | skip
 rename_i a1 a2 a3;refine⟨k+1,⟨by omega,ag om h2 ⟨a2,a1⟩⟩,by omega,?_⟩;exact lq [(0,_)] []
theorem DM {l:List Str}(hl:long l) (hp:PV l):Pk Tryz.prog 114 [strs l] 1 (λn=>.tup [.map n,boo true]) (λn=>[(n,.map (pos l 0))]):=by
 refine Pk.of_v aB T0 Tryz.func114 rfl rfl (by simp[aE,aP]) ?_;repeat' ((conv=>whnf);first|exact kQ|(refine bk ?_ ?_<;>intro _<;>try(exfalso;omega))|refine stq ?_)
 all_goals(conv=>whnf)
 all_goals first
  | (exfalso;have:=hp.1;have:=hp.2.1;omega)
  | skip
 refine aH.by aB T0 (λk:Nat=>⟨tmp 42 [(4,.map 0),(18,strs l),(19,i64 l.length),(20,i64 (k:Int))],⟨1,[(0,.map (pos (l.take k) 0))]⟩⟩)
  (λk=>k<=l.length) (λk=>l.length-k) 0 om ?_ ?_
 ·exact lq [(0,_)] []
 intro k h1;repeat' ((conv=>whnf);first|exact kQ|(refine bk ?_ ?_<;>intro _<;>try(exfalso;omega))|refine stq ?_|refine cd (uB sd) (λ_=>?_) (λ_=>?_)|(refine fV.pos (λ_ _=>?_) (λ_=>?_)<;>(try contradiction)))
 all_goals(conv=>whnf)
 all_goals first
  | (exfalso;obtain⟨a1,a2⟩:=hp.2.2 k om;first|contradiction|(rename_i a3;exact a3 a1))
  | (refine⟨k+1,by omega,by omega,?_⟩
     exact lq [(0,_)] [])
  | exact⟨[0],rfl,⟨by simp,λn=>.tup (.cons (.map (by simp[sgn])) (.cons (.same rfl) .nil)),λn=>.cons (id:=0) (by simp[sgn]) rfl rfl (.map (.eqs (by rw[kE om]) (dZ _ _))) .nil⟩⟩
structure Spn where
 lo:Int
 hi:Int
 val:Int
 deriving Inhabited
structure Prp where
 names:List Str
 spans:List Spn
abbrev Eb (s:Spn):List D:=[i64 s.lo,i64 s.hi,i64 s.val]
abbrev cg (l:List Spn):D:=lstS Eb l
abbrev bn (p:Prp):D:=.agg [strs p.names,cg p.spans]
theorem aW (l:List Spn):aN (cg l)=true:=fL (λ_=>rfl) l
theorem ld (p:Prp):aN (bn p)=true:=by simp[aN,aE,aP,aW]
structure Prp.ok (p:Prp):Prop where
 names:p.names.length<=9223372036854775807
 long:long p.names
 spans:p.spans.length<=9223372036854775807
def SpQ (l:List Spn) (n:Int) (i:Nat) (s:Spn):Prop:=(0<=s.lo∧s.lo<=s.hi∧s.hi<=1114111∧1<=s.val∧s.val<n) ∧
 (i≠0->(l.getD (i-1) default).hi<s.lo∧¬(s.lo=(l.getD (i-1) default).hi+1∧s.val=(l.getD (i-1) default).val))
def PrV (p:Prp):Prop:=PV p.names∧∀ i (h:i<p.spans.length),SpQ p.spans p.names.length i p.spans[i]
theorem lz {n:Int}:Pu Tryz.prog 150 [i64 n] (boo (decide (0<=n∧n<=1114111))):=by
 refine pv Tryz.func150 ?_;repeat' ((conv=>whnf);first|exact kQ|(refine bk ?_ ?_<;>intro _<;>try(exfalso;omega))|refine stq ?_)
 all_goals(conv=>whnf)
 all_goals first
  | exact aC.yes om
  | exact aC.no om
theorem yC {s:Spn}:Pu Tryz.prog 115 [.agg (Eb s)] (boo (decide (0<=s.lo∧s.lo<=s.hi∧s.hi<=1114111))):=by
 refine pv Tryz.func115 ?_;repeat' ((conv=>whnf);first|exact kQ|(refine bk ?_ ?_<;>intro _<;>try(exfalso;omega))|refine stq ?_|refine cd lz (λ_=>?_) (λ_=>?_)|fail)
 all_goals(conv=>whnf)
 all_goals first
  | exact aC.yes om
  | exact aC.no om
theorem xM {p:Prp}(hp:p.ok):Pu Tryz.prog 81 [bn p] (boo (decide (PrV p))):=by
 have hl:=hp.long;have hs:=hp.spans;by_cases hv:PV p.names
 ·refine pv Tryz.func81 ?_;repeat' ((conv=>whnf);first|exact kQ|(refine bk ?_ ?_<;>intro _<;>try(exfalso;omega))|refine stq ?_|refine Cll.pk (DM asm asm) ?_)
  all_goals(conv=>whnf)
  refine aH.by aB T0 (λk:Nat=>⟨tmp 69 [(1,.ptr 0 0),(17,cg p.spans),(18,i64 p.spans.length),(19,i64 (k:Int))],⟨1,[(0,.cells [strs p.names,cg p.spans] true)]⟩⟩)
   (λk=>k<=p.spans.length∧∀ i (h:i<p.spans.length),i<k->SpQ p.spans p.names.length i p.spans[i]) (λk=>p.spans.length-k) 0 ⟨by omega,λ_ _ h=>by omega⟩ ?_ ?_
  ·exact lq [(0,_)] []
  intro k ⟨h3,h4⟩;by_cases hk:k=0
  ·subst hk;repeat' ((conv=>whnf);first|exact kQ|(refine bk ?_ ?_<;>intro _<;>try(exfalso;omega))|refine stq ?_|refine cd yC (λ_=>?_) (λ_=>?_)|fail)
   all_goals(conv=>whnf)
   all_goals first
    | exact aC.no (λhc=>by have:=(hc.2 0 om).1;omega)
    | exact aC.yes ⟨hv,λi h=>by omega⟩
    | (refine⟨0+1,⟨by omega,ag om h4 ⟨by omega,λh=>absurd rfl h⟩⟩,by omega,?_⟩
       exact lq [(0,_)] [])
  ·have h5:=h4 (k-1) om om;have h6:=h5.1;have e:p.spans.getD (k-1) default=p.spans[k-1]:=aK om;repeat' ((conv=>whnf);first|exact kQ|(refine bk ?_ ?_<;>intro _<;>try(exfalso;omega))|refine stq ?_|refine cd yC (λ_=>?_) (λ_=>?_)|refine Idx.atS (by intro _;rfl) (k-1) om om ?_)
   all_goals(conv=>whnf)
   all_goals first
    | exact aC.no (λhc=>by have h7:=hc.2 k om;have:=h7.1;have:=h7.2 hk;rw[e] at this;omega)
    | exact aC.yes ⟨hv,bg om h4⟩
    | (refine⟨k+1,⟨by omega,ag om h4 ⟨by omega,λ_=>by rw[e];omega⟩⟩,by omega,?_⟩
       exact lq [(0,_)] [])
 ·refine pv Tryz.func81 ?_;repeat' ((conv=>whnf);first|exact kQ|(refine bk ?_ ?_<;>intro _<;>try(exfalso;omega))|refine stq ?_|refine cp (Fp asm asm) ?_|fail)
  all_goals(conv=>whnf)
  exact aC.no (λhc=>hv hc.1)
theorem eK {p:Prp}(hp:p.ok):Pu Tryz.prog 117 [bn p] (boo (decide (PrV p))):=by
 have hn:=hp.names;have hl:=hp.long;have hs:=hp.spans;refine pv Tryz.func117 ?_;repeat' ((conv=>whnf);first|exact kQ|(refine bk ?_ ?_<;>intro _<;>try(exfalso;omega))|refine stq ?_|refine cd (H1 sd sd) (λ_=>?_) (λ_=>?_)|fail)
 all_goals(conv=>whnf)
 all_goals first
  | exact aC.no (λhc=>by have:=hc.1;contradiction)
  | skip
 rename_i hv
 refine aH.by aB T0 (λk:Nat=>⟨tmp 88 [(1,.ptr 0 0),(3,i64 (k:Int))],⟨1,[(0,.cells [strs p.names,cg p.spans] true)]⟩⟩)
  (λk=>k<=p.spans.length∧∀ i (h:i<p.spans.length),i<k->SpQ p.spans p.names.length i p.spans[i]) (λk=>p.spans.length-k) 0 ⟨by omega,λ_ _ h=>by omega⟩ ?_ ?_
 ·exact lq [(0,_)] []
 intro k ⟨h3,h4⟩;by_cases hk:k=0
 ·subst hk;repeat' ((conv=>whnf);first|exact kQ|(refine bk ?_ ?_<;>intro _<;>try(exfalso;omega))|refine stq ?_)
  all_goals(conv=>whnf)
  all_goals first
   | exact aC.no (λhc=>by have:=(hc.2 0 om).1;omega)
   | exact aC.yes ⟨hv,λi h=>by omega⟩
   | (refine⟨0+1,⟨by omega,ag om h4 ⟨by omega,λh=>absurd rfl h⟩⟩,by omega,?_⟩
      exact lq [(0,_)] [])
 ·have h5:=h4 (k-1) om om;have h6:=h5.1;have e:p.spans.getD (k-1) default=p.spans[k-1]:=aK om;repeat' ((conv=>whnf);first|exact kQ|(refine bk ?_ ?_<;>intro _<;>try(exfalso;omega))|refine stq ?_|refine Idx.atS (by intro _;rfl) (k-1) om om ?_)
  all_goals(conv=>whnf)
  all_goals first
   | exact aC.no (λhc=>by have h7:=hc.2 k om;have:=h7.1;have:=h7.2 hk;rw[e] at this;omega)
   | exact aC.yes ⟨hv,bg om h4⟩
   | (refine⟨k+1,⟨by omega,ag om h4 ⟨by omega,λ_=>by rw[e];omega⟩⟩,by omega,?_⟩
      exact lq [(0,_)] [])
end
section
open Go Go.Am Classical
set_option maxRecDepth 100000
theorem xG1.rdX {p:Prop}(h:p:=by first|exact Rd.same (aW _)|exact Rd.int em|exact Rd.frzp rfl rfl (Rds.cons (Rd.same (aW _)) Rds.nil)|exact Rd.frzp rfl rfl (Rds.cons (Rd.same rfl) Rds.nil)|exact Rd.same (by first|(simp[aN,aE,hc];done)|fail)|exact Rd.int (by first|(rw[em];omega;done)|fail)|fail):p:=h
theorem xG1.rbX {p:Prop}(h:p:=by first|exact Rb.cells (Rds.cons (Rd.same (aP _)) (Rds.cons (Rd.same (aW _)) Rds.nil)) rfl|exact Rb.cells (Rds.eqs (zF _) (fk (λ_=>rfl) rfl)) rfl|exact Rb.cells (Rds.eqs (sX om) (aS (λ_=>rfl) _)) rfl|exact Rb.cells (by first|(rw[hcp];exact Rds.same (by first|(simp only[cQ,aE,aP,aW,Bool.and_self];done)|fail);done)|fail) rfl|exact Rb.cells (by first|(rw[hcp];exact Rds.cons (Rd.frz rfl rfl (kD rfl) (Rds.cons (Rd.same rfl) Rds.nil)) (Rds.cons Rd.nil Rds.nil);done)|fail) rfl|exact Rb.map (Res.eqs (by first|(rw[kE om];done)|fail) (dZ _ _))|exact Rb.cells (Rds.eqs (by first|(rw[<-sW om];simp[jX,hm];done)|fail) (fk (λ_=>rfl) rfl)) rfl|exact Rb.cells (Rds.eqs (by first|(rw[<-sW om];simp only[jX,hm,if_false];rfl;done)|fail) (fk (λ_=>rfl) rfl)) rfl|exact Rb.cells (Rds.eqs (by first|(rw[<-sW om];rfl;done)|fail) (fk (λ_=>rfl) rfl)) rfl|fail):p:=h
open xG1
variable [GT]
def other:Str:=[79,116,104,101,114]
noncomputable def cnt (p:Prp):Prp:=if PrV p then p else⟨[other],[]⟩
def dO:List Spn->Int->Int
 | [],_=>0
 | s::l,c=>if s.lo<=c∧c<=s.hi then s.val else dO l c
theorem uc {l:List Spn}{k:Nat}(h:k<l.length) (c:Int):dO (l.drop k) c=if l[k].lo<=c∧c<=l[k].hi then l[k].val else dO (l.drop (k+1)) c:=by
 rw[kK h];rfl
theorem ur {p:Prp}(hp:p.ok):Pu Tryz.prog 105 [bn p] (bn (cnt p)):=by
 refine pv Tryz.func105 ?_;repeat' ((conv=>whnf);first|exact kQ|(refine bk ?_ ?_<;>intro _<;>try(exfalso;omega))|refine stq ?_|refine cd (eK sd) (λ_=>?_) (λ_=>?_)|fail)
 all_goals(conv=>whnf)
 ·rename_i hv;rw[show cnt p=p from by simp[cnt,hv]];exact aC.same (ld p) rfl
 ·rename_i hv;rw[show cnt p=⟨[other],[]⟩ from by simp[cnt,hv]];exact⟨.agg (.cons (.frz rfl rfl (kD rfl) (.cons (.same rfl) .nil)) (.cons .nil .nil))⟩
theorem get_c {p:Prp}{c:Int}(hp:p.ok):Pu Tryz.prog 106 [bn p,i64 c] (i64 (dO (cnt p).spans c)):=by
 have hs:(cnt p).spans.length<=9223372036854775807:=by
  unfold cnt;split
  ·exact hp.spans
  ·simp
 refine pv Tryz.func106 ?_;repeat' ((conv=>whnf);first|exact kQ|(refine bk ?_ ?_<;>intro _<;>try(exfalso;omega))|refine stq ?_|refine cp (ur sd) ?_|fail)
 all_goals(conv=>whnf)
 generalize cnt p=q at *
 refine aH.by aB T0 (λk:Nat=>⟨tmp 40 [(1,i64 c),(5,.ptr 0 0),(6,i64 (k:Int))],⟨1,[(0,.cells [strs q.names,cg q.spans] true)]⟩⟩)
  (λk=>k<=q.spans.length∧dO (q.spans.drop k) c=dO q.spans c) (λk=>q.spans.length-k) 0 ⟨by omega,rfl⟩ ?_ ?_
 ·exact lq [(0,_)] []
 intro k ⟨h3,h4⟩;repeat' ((conv=>whnf);first|exact kQ|(refine bk ?_ ?_<;>intro _<;>try(exfalso;omega))|refine stq ?_)
 all_goals(conv=>whnf)
 all_goals first
  | exact aC.int (by rw[<-h4,uc om,if_pos om])
  | exact aC.int (by rw[<-h4,List.drop_eq_nil_of_le om];rfl)
  | (refine⟨k+1,⟨by omega,by rw[<-h4,uc (k:=k) om,if_neg om]⟩,by omega,?_⟩
     exact lq [(0,_)] [])
theorem AH {l:List Spn}{n:Int}(hn:1<=n) (h:∀ i (h:i<l.length),1<=l[i].val∧l[i].val<n) (c:Int):0<=dO l c∧dO l c<n:=by
 induction l with
 | nil=>simp only[dO];omega
 | cons s l ih=>
  simp only[dO];split
  ·have:=h 0 si;simp at this;omega
  ·exact ih λi hi=>by have:=h (i+1) (by simp;omega);simpa using this
theorem i9 {p:Prp}(c:Int):0<=dO (cnt p).spans c∧dO (cnt p).spans c<(cnt p).names.length:=by
 unfold cnt;split
 ·rename_i hv;exact AH (by have:=hv.1.1;omega) (λi h=>by have:=(hv.2 i h).1;omega) c
 ·simp[dO]
theorem Iq {p:Prp}(c:Int):(dO (cnt p).spans c).toNat<(cnt p).names.length:=by have:=i9 (p:=p) c;omega
noncomputable def iw (p:Prp) (c:Int):Str:=(cnt p).names[(dO (cnt p).spans c).toNat]'(Iq c)
theorem FL {p:Prp}{c:Int}(hp:p.ok):Pu Tryz.prog 72 [bn p,i64 c] (.str (iw p c)):=by
 have hr:=i9 (p:=p) c;refine pv Tryz.func72 ?_;repeat' ((conv=>whnf);first|exact kQ|(refine bk ?_ ?_<;>intro _<;>try(exfalso;omega))|refine stq ?_|refine cp (ur sd) ?_|refine cp (get_c sd) ?_|refine Idx.at (dO (cnt p).spans c).toNat om om ?_)
 all_goals(conv=>whnf)
 exact aC.same rfl rfl
def jX (l:List Str) (s:Str):Int:=if s∈l then l.idxOf s else 0
theorem Fr {l:List Str}{s:Str}{k:Nat}(h:k<l.length) (e:l[k]=s) (hn:¬s∈l.take k):jX l s=k:=by
 have hm:s∈l:=e▸kM h;unfold jX;rw[if_pos hm]
 have h1:l.idxOf s<=k:=by
  refine Nat.le_of_not_lt λhlt=>?_
  have:=List.not_of_lt_findIdx hlt
  simp[e] at this
 have h2:¬l.idxOf s<k:=λhlt=>hn (jT.2 ⟨l.idxOf s,by omega,hlt,by simp⟩)
 congr 1;omega
noncomputable def ak (p:Prp) (l:List Str) (text:List Int):List Int:=text.map λc=>jX l (iw p c)
theorem xh {p:Prp}{l:List Str}{text:List Int}{k:Nat}(h:k<text.length):ak p l (text.take (k+1))=ak p l (text.take k)++[jX l (iw p text[k])]:=(kp h).symm
theorem xC {n s:Nat}{g:FuncId}{cap:List D}{p:Nat->Prop}(hc:aE cap=true) (hn:n<=4611686018427387903) (hs:s<=n) (h1:∀ i,i<s->¬p i) (h2:∀ i,s<=i->i<n->p i)
  (hf:∀ i:Nat,i<n->Pu Tryz.prog g ([i64 i]++cap) (boo (decide (p i)))):Pu Tryz.prog 88 [i64 n,.fn (.func g) [] cap] (i64 s):=by
 refine Pu.of_v aB T0 Tryz.func88 rfl rfl (by simp[aN,aE,hc]) ?_;repeat' ((conv=>whnf);first|exact kQ|(refine bk ?_ ?_<;>intro _<;>try(exfalso;omega))|refine stq ?_)
 refine aH.by2 aB T0 (λi j:Nat=>⟨tmp 26 [(1,.fn (.func g) [] cap),(5,i64 i),(6,i64 j)],⟨0,[]⟩⟩)
  (λi j=>i<=s∧s<=j∧j<=n) (λi j=>j-i) 0 n ⟨by omega,by omega,by omega⟩ ?_ ?_
 ·exact lq0
 intro i j ⟨h3,h4,h5⟩
 have em:IntKind.i64.wrap ((IntKind.u64.wrap ((i:Int)+(j:Int))).fdiv (2 ^ min (Int.toNat 1) IntKind.u64.bits))=(((i+j) / 2:Nat):Int):=by
  have e1:IntKind.u64.wrap ((i:Int)+(j:Int))=(i:Int)+(j:Int):=by
   simp[IntKind.wrap,IntKind.bits,IntKind.signed];omega
  rw[e1,Int.fdiv_eq_ediv_of_nonneg _ (by decide)];simp[IntKind.wrap,IntKind.bits,IntKind.signed];omega
 repeat' ((conv=>whnf);first|exact kQ|(refine bk ?_ ?_<;>intro _<;>try(exfalso;omega))|refine stq ?_|refine cd (p:=p ((i+j) / 2)) (by rw[em];exact hf _ om) (λ_=>?_) (λ_=>?_)|refine Chk.mk (sJ (by rw[em];omega) (by rw[em];omega)) ?_)
 all_goals(conv=>whnf)
 all_goals first
  | exact aC.int om
  | (refine⟨i,(i+j) / 2,⟨by omega,Nat.le_of_not_lt λhlt=>h1 _ hlt asm,by omega⟩,by omega,?_⟩
     exact lq0)
  | (refine⟨(i+j) / 2+1,j,⟨Nat.succ_le_of_lt (Nat.lt_of_not_le λhle=>absurd (h2 _ hle om) asm),by omega,by omega⟩,by omega,?_⟩
     exact lq0)
theorem EH {l:List Spn}{c:Int}{k:Nat}(hk:k<l.length):Pu Tryz.prog 116 ([i64 (k:Int)]++[.iptr [cg l],.iptr [i64 c]]) (boo (decide (c<=l[k].hi))):=by
 refine pv Tryz.func116 ?_;repeat' ((conv=>whnf);first|exact kQ|(refine bk ?_ ?_<;>intro _<;>try(exfalso;omega))|refine stq ?_)
 all_goals(conv=>whnf)
 all_goals first
  | exact aC.yes om
  | exact aC.no om
def D0 (l:List Spn):Prop:=∀ i (h:i<l.length),l[i].lo<=l[i].hi∧∀ h0:i≠0,(l[i-1]'(by omega)).hi<l[i].lo
theorem Hf {l:List Spn}{n:Int}(h:∀ i (h:i<l.length),SpQ l n i l[i]):D0 l:=λi hi=>by
 obtain⟨h1,h2⟩:=h i hi;refine⟨by omega,λh0=>?_⟩;have:=(h2 h0).1
 rwa [aK om] at this
theorem vV {l:List Spn}(h:D0 l){i:Nat}(j:Nat) (hi:i<l.length) (hj:i+j<l.length):l[i].hi<=l[i+j].hi:=by
 induction j with
 | zero=>exact Int.le_refl _
 | succ j ih=>
  have h1:=ih om;have h2:=h (i+(j+1)) hj;have h3:=h2.2 om;have h4:=h2.1;have e:i+(j+1)-1=i+j:=by omega
  simp only[e] at h3;omega
theorem ub {l:List Spn}{c:Int}(h:∀ i (h:i<l.length),¬(l[i].lo<=c∧c<=l[i].hi)):dO l c=0:=by
 induction l with
 | nil=>rfl
 | cons s l ih=>
  simp only[dO];rw[if_neg (show ¬(s.lo<=c∧c<=s.hi) from h 0 si)];exact ih λi hi=>h (i+1) (by simpa using hi)
theorem IQ {l:List Spn}{c:Int}{s:Nat}(hs:s<l.length) (h:∀ i (hi:i<l.length),i<s->¬(l[i].lo<=c∧c<=l[i].hi)) (h2:l[s].lo<=c∧c<=l[s].hi):dO l c=l[s].val:=by
 induction l generalizing s with
 | nil=>simp at hs
 | cons x l ih=>
  simp only[dO];cases s with
  | zero=>rw[if_pos (show x.lo<=c∧c<=x.hi from h2)];rfl
  | succ s=>
   rw[if_neg (show ¬(x.lo<=c∧c<=x.hi) from h 0 si om)];exact ih (s:=s) (by simpa using hs) (λi hi hlt=>h (i+1) (by simpa using hi) om) h2
noncomputable def bB (l:List Spn) (c:Int):Nat:=l.findIdx λs=>decide (c<=s.hi)
theorem sS (l:List Spn) (c:Int):bB l c<=l.length:=List.findIdx_le_length
theorem fp {l:List Spn}{c:Int}{i:Nat}(h:i<l.length) (hlt:i<bB l c):¬c<=l[i].hi:=by
 have:=List.not_of_lt_findIdx hlt
 simpa using this
theorem my {l:List Spn}{c:Int}(h:bB l c<l.length):c<=l[bB l c].hi:=by
 have:=List.findIdx_getElem (p:=λs:Spn=>decide (c<=s.hi)) (w:=h)
 exact of_decide_eq_true this
theorem sK {l:List Spn}(hr:D0 l) (c:Int):dO l c=if h:bB l c<l.length then(if l[bB l c].lo<=c then l[bB l c].val else 0) else 0:=by
 split
 ·rename_i hs;have h1:=my hs;split
  ·rename_i h2;exact IQ hs (λi hi hlt=>by have:=fp hi hlt;omega) ⟨h2,h1⟩
  ·rename_i h2;refine ub λi hi=>?_
   rcases Nat.lt_trichotomy i (bB l c) with hlt|he|hgt
   ·have:=fp hi hlt;omega
   ·subst he;omega
   ·have h3:=vV hr (i-1-bB l c) hs om;have h4:=(hr i hi).2 om;have e:bB l c+(i-1-bB l c)=i-1:=by omega
    simp only[e] at h3;omega
 ·rename_i hs;refine ub λi hi=>?_
  have:=fp (c:=c) hi om
  omega
theorem At {l:List Spn}{c:Int}(hn:l.length<=4611686018427387903) (hr:D0 l):Pu Tryz.prog 82 [cg l,i64 c] (i64 (dO l c)):=by
 rw[sK hr c];have h0:=sS l c
 have hse:Pu Tryz.prog 88 [i64 l.length,.fn (.func 116) [] [.iptr [cg l],.iptr [i64 c]]] (i64 (bB l c)):=
  xC (p:=λi=>∃ h:i<l.length,c<=l[i].hi) (by simp[aN,aE,aW]) hn h0 (λi hi ⟨h,hc⟩=>fp h hi hc)
   (λi h1 h2=>⟨h2,by
    have h3:=my (l:=l) (c:=c) om;have h4:=vV hr (i-bB l c) (i:=bB l c) om om;have e:bB l c+(i-bB l c)=i:=by omega
    simp only[e] at h4
    omega⟩)
   (λi hi=>by
    have:=EH (l:=l) (c:=c) hi
    exact(congrArg (λb=>Pu Tryz.prog _ _ (boo b)) (decide_eq_decide.2 ⟨λh=>⟨hi,h⟩,λ⟨_,h⟩=>h⟩)).mp this)
 refine pv Tryz.func82 ?_
 conv=>whnf
 refine db.weak aB T0 (s0:=⟨tmp 28 [(2,.iptr [cg l]),(3,.iptr [i64 c])],⟨0,[]⟩⟩) ?_ ?_
 ·exact lq [] [0,1]
 repeat' ((conv=>whnf);first|exact kQ|(refine bk ?_ ?_<;>intro _<;>try(exfalso;omega))|refine stq ?_|refine cp hse ?_|fail)
 all_goals(conv=>whnf)
 all_goals first
  | exact aC.int (by rw[dif_pos om,if_pos asm])
  | exact aC.int (by rw[dif_pos om,if_neg asm])
  | exact aC.int (by rw[dif_neg om])
theorem yY (p:Prp):D0 (cnt p).spans:=by
 unfold cnt;split
 ·rename_i hv;exact Hf hv.2
 ·intro i h;simp at h
theorem Dp {p:Prp}(h:p.spans.length<=1000):(cnt p).spans.length<=1000:=by
 unfold cnt;split
 ·exact h
 ·simp
theorem Dq {p:Prp}(h:p.names.length<=1000):(cnt p).names.length<=1000:=by
 unfold cnt;split
 ·exact h
 ·simp
set_option maxHeartbeats 8000000 in
theorem D5 {p:Prp}{t:Tbl}{text:List Int}(hp:p.ok) (ht:t.ok) (hx:text.length<=1000) (hs:p.spans.length<=1000) (hnn:p.names.length<=1000):Pu Tryz.prog 45 [bn p,iM t,aD text] (aD (if TV t then ak p t.classes text else [])):=by
 have h1:=ht.classes;have hr:=yY p;have hs2:=Dp hs;have hn2:=Dq hnn;refine pv Tryz.func45 ?_;repeat' ((conv=>whnf);first|exact kQ|(refine bk ?_ ?_<;>intro _<;>try(exfalso;omega))|refine stq ?_|refine cd (nH sd) (λ_=>?_) (λ_=>?_)|refine cd (xM sd) (λ_=>?_) (λ_=>?_)|fail)
 all_goals(conv=>whnf)
 ·rename_i hv hpv;have hcp:cnt p=p:=by simp[cnt,hpv]
  refine aH.by aB T0 (λk:Nat=>⟨tmp 81 [(2,aD text),(3,.ptr 0 0),(7,.map 1),(29,strs t.classes),(30,i64 t.classes.length),(31,i64 (k:Int))],⟨2,[(0,.cells [strs (cnt p).names,cg (cnt p).spans] true),(1,.map (pos (t.classes.take k) 0))]⟩⟩)
   (λk=>k<=t.classes.length) (λk=>t.classes.length-k) 0 om ?_ ?_
  ·exact lq [(0,_),(1,_)] [9]
  intro k h3;repeat' ((conv=>whnf);first|exact kQ|(refine bk ?_ ?_<;>intro _<;>try(exfalso;omega))|refine stq ?_|(refine fV.pos (λ_ _=>?_) (λ_=>?_)<;>(try(exfalso;exact(hv.1.2.2 k om).2 asm))))
  all_goals(conv=>whnf)
  ·refine⟨k+1,by omega,by omega,?_⟩;exact lq [(0,_),(1,_)] []
  refine aH.by aB T0 (λk:Nat=>⟨tmp 81 [(2,aD text),(3,.ptr 0 0),(7,.map 1),(10,.sl 2 0 (cnt p).names.length (cnt p).names.length 1 true),(45,strs (cnt p).names),(46,i64 (cnt p).names.length),(47,i64 (k:Int))],⟨3,[(0,.cells [strs (cnt p).names,cg (cnt p).spans] true),(1,.map (pos t.classes 0)),(2,.cells (gx (λs=>i64 (jX t.classes s)) (i64 0) (cnt p).names k) true)]⟩⟩)
   (λk=>k<=(cnt p).names.length) (λk=>(cnt p).names.length-k) 0 om ?_ ?_
  ·exact lq [(0,_),(1,_),(2,_)] []
  intro k h4;repeat' ((conv=>whnf);first|exact kQ|(refine bk ?_ ?_<;>intro _<;>try(exfalso;omega))|refine stq ?_|(refine fV.pos (λ_ _=>?_) (λ_=>?_))|refine Put.one (by rw[iJ om];omega) ?_)
  all_goals(conv=>whnf)
  ·rename_i _ hm;refine⟨k+1,by omega,by omega,?_⟩;exact lq [(0,_),(1,_),(2,_)] []
  ·rename_i hm;refine⟨k+1,by omega,by omega,?_⟩;exact lq [(0,_),(1,_),(2,_)] []
  refine aH.by aB T0 (λk:Nat=>⟨tmp 81 [(3,.ptr 0 0),(10,.sl 2 0 (cnt p).names.length (cnt p).names.length 1 true),(13,.sl 3 0 text.length text.length 1 true),(62,aD text),(63,i64 text.length),(64,i64 (k:Int))],⟨4,[(0,.cells [strs (cnt p).names,cg (cnt p).spans] true),(2,.cells ((cnt p).names.map λs=>i64 (jX t.classes s)) true),(3,.cells (gx (λc=>i64 (jX t.classes (iw p c))) (i64 0) text k) true)]⟩⟩)
   (λk=>k<=text.length) (λk=>text.length-k) 0 om ?_ ?_
  ·exact lq [(0,_),(2,_),(3,_)] []
  intro k h5;have hg:=i9 (p:=p) (text.getD k 0);repeat' ((conv=>whnf);first|exact kQ|(refine bk ?_ ?_<;>intro _<;>try(exfalso;omega))|refine stq ?_|refine cp (At sd sd) ?_|refine cO.at (dO (cnt p).spans text[k]).toNat (by rw[aK om] at hg;omega) (by rw[aK om] at hg;omega) ?_|refine Get.map (by rw[aK om] at hg;omega) ?_|refine Put.one (by rw[iJ om];omega) ?_)
  all_goals(conv=>whnf)
  ·refine⟨k+1,by omega,by omega,?_⟩;exact lq [(0,_),(2,_),(3,_)] []
  ·rw[if_pos hv];exact aC.frz1 (l:=ak p t.classes text) (f:=i64) rfl (by rw[sX om];simp[ak]) (by simp[ak]) (λ_=>rfl) rfl
 ·rename_i hv hpv;have hcp:cnt p=⟨[other],[]⟩:=by simp[cnt,hpv]
  refine aH.by aB T0 (λk:Nat=>⟨tmp 81 [(2,aD text),(3,.ptr 0 0),(7,.map 1),(29,strs t.classes),(30,i64 t.classes.length),(31,i64 (k:Int))],⟨2,[(0,.cells [strs (cnt p).names,cg (cnt p).spans] true),(1,.map (pos (t.classes.take k) 0))]⟩⟩)
   (λk=>k<=t.classes.length) (λk=>t.classes.length-k) 0 om ?_ ?_
  ·exact lq [(0,_),(1,_)] [9]
  intro k h3;repeat' ((conv=>whnf);first|exact kQ|(refine bk ?_ ?_<;>intro _<;>try(exfalso;omega))|refine stq ?_|(refine fV.pos (λ_ _=>?_) (λ_=>?_)<;>(try(exfalso;exact(hv.1.2.2 k om).2 asm))))
  all_goals(conv=>whnf)
  ·refine⟨k+1,by omega,by omega,?_⟩;exact lq [(0,_),(1,_)] []
  refine aH.by aB T0 (λk:Nat=>⟨tmp 81 [(2,aD text),(3,.ptr 0 0),(7,.map 1),(10,.sl 2 0 (cnt p).names.length (cnt p).names.length 1 true),(45,strs (cnt p).names),(46,i64 (cnt p).names.length),(47,i64 (k:Int))],⟨3,[(0,.cells [strs (cnt p).names,cg (cnt p).spans] true),(1,.map (pos t.classes 0)),(2,.cells (gx (λs=>i64 (jX t.classes s)) (i64 0) (cnt p).names k) true)]⟩⟩)
   (λk=>k<=(cnt p).names.length) (λk=>(cnt p).names.length-k) 0 om ?_ ?_
  ·exact lq [(0,_),(1,_),(2,_)] []
  intro k h4;repeat' ((conv=>whnf);first|exact kQ|(refine bk ?_ ?_<;>intro _<;>try(exfalso;omega))|refine stq ?_|(refine fV.pos (λ_ _=>?_) (λ_=>?_))|refine Put.one (by rw[iJ om];omega) ?_)
  all_goals(conv=>whnf)
  ·rename_i _ hm;refine⟨k+1,by omega,by omega,?_⟩;exact lq [(0,_),(1,_),(2,_)] []
  ·rename_i hm;refine⟨k+1,by omega,by omega,?_⟩;exact lq [(0,_),(1,_),(2,_)] []
  refine aH.by aB T0 (λk:Nat=>⟨tmp 81 [(3,.ptr 0 0),(10,.sl 2 0 (cnt p).names.length (cnt p).names.length 1 true),(13,.sl 3 0 text.length text.length 1 true),(62,aD text),(63,i64 text.length),(64,i64 (k:Int))],⟨4,[(0,.cells [strs (cnt p).names,cg (cnt p).spans] true),(2,.cells ((cnt p).names.map λs=>i64 (jX t.classes s)) true),(3,.cells (gx (λc=>i64 (jX t.classes (iw p c))) (i64 0) text k) true)]⟩⟩)
   (λk=>k<=text.length) (λk=>text.length-k) 0 om ?_ ?_
  ·exact lq [(0,_),(2,_),(3,_)] []
  intro k h5;have hg:=i9 (p:=p) (text.getD k 0);repeat' ((conv=>whnf);first|exact kQ|(refine bk ?_ ?_<;>intro _<;>try(exfalso;omega))|refine stq ?_|refine cp (At sd sd) ?_|refine cO.at (dO (cnt p).spans text[k]).toNat (by rw[aK om] at hg;omega) (by rw[aK om] at hg;omega) ?_|refine Get.map (by rw[aK om] at hg;omega) ?_|refine Put.one (by rw[iJ om];omega) ?_)
  all_goals(conv=>whnf)
  ·refine⟨k+1,by omega,by omega,?_⟩;exact lq [(0,_),(2,_),(3,_)] []
  ·rw[if_pos hv];exact aC.frz1 (l:=ak p t.classes text) (f:=i64) rfl (by rw[sX om];simp[ak]) (by simp[ak]) (λ_=>rfl) rfl
 ·rename_i hv;rw[if_neg hv];exact⟨.nil⟩
end
section
open Go Go.Am Classical
set_option maxRecDepth 100000
abbrev bl (a b:Str):Bool:=Op.bytesLess a b
theorem uz:∀ a:Str,bl a a=false
 | []=>rfl
 | x::a=>by simp only[bl,Op.bytesLess];simp[uz a]
theorem yi:∀ {a b c:Str},bl a b=true->bl b c=true->bl a c=true
 | _,[],_,h,_=>by simp[bl,Op.bytesLess] at h
 | _,_::_,[],_,h=>by simp[bl,Op.bytesLess] at h
 | [],_::_,_::_,_,_=>by simp[bl,Op.bytesLess]
 | x::a,y::b,z::c,h1,h2=>by
  simp only[bl,Op.bytesLess,kN,kC,decide_eq_true_eq,beq_iff_eq] at *;rcases h1 with h1|⟨rfl,h1⟩
  ·rcases h2 with h2|⟨rfl,_⟩
   ·exact .inl (UInt8.lt_trans h1 h2)
   ·exact .inl h1
  ·rcases h2 with h2|⟨rfl,h2⟩
   ·exact .inl h2
   ·exact .inr ⟨rfl,yi h1 h2⟩
structure Mpg where
 frm:Int
 to:List Int
 tag:Str
 deriving Inhabited
def bef (a b:Mpg):Prop:=a.frm<b.frm∨(a.frm=b.frm∧bl a.tag b.tag=true)
theorem Dt {a b c:Mpg}(h1:bef a b) (h2:bef b c):bef a c:=by
 unfold bef at *;rcases h1 with h1|⟨e1,h1⟩<;>rcases h2 with h2|⟨e2,h2⟩
 ·exact .inl om
 ·exact .inl om
 ·exact .inl om
 ·exact .inr ⟨by omega,yi h1 h2⟩
theorem I1 {a b:Mpg}(h:bef a b):¬(b.frm=a.frm∧b.tag=a.tag):=by
 rintro⟨e1,e2⟩;rcases h with h|⟨_,h⟩
 ·omega
 ·rw[e2,uz] at h;cases h
def wN (a b:Str):Int:=if bl a b=true then -1 else if a=b then 0 else 1
def GV (a b:Mpg):Int:=if iB a.frm b.frm=0 then wN a.tag b.tag else iB a.frm b.frm
theorem B0 {a b:Mpg}:GV a b<0↔bef a b:=by
 unfold GV wN iB bef;by_cases h1:a.frm<b.frm
 ·simp[h1]
 ·by_cases h2:b.frm<a.frm
  ·simp[h1,h2];omega
  ·have e:a.frm=b.frm:=by omega
   simp only[e,if_true,if_false,Int.lt_irrefl,false_or,true_and];by_cases h3:bl a.tag b.tag=true
   ·simp[h3]
   ·simp only[h3];by_cases h4:a.tag=b.tag
    ·simp[h4]
    ·simp[h4]
def cpQ (n:Int):Prop:=0<=n∧n<=1114111
def lI (m:Mpg):Prop:=cpQ m.frm∧∀ j (h:j<m.to.length),cpQ m.to[j]
def EN (m:Mpg):Prop:=m.tag=[]∨mt m.tag
def Tw (l:List Mpg):Prop:=∃ i,∃ h:i<l.length,∃ k,∃ hk:k<i,l[i].frm=(l[k]'(by omega)).frm∧l[i].tag=(l[k]'(by omega)).tag
def Asc (l:List Mpg):Prop:=∀ i (h:i<l.length),∀ h0:i≠0,bef (l[i-1]'(by omega)) l[i]
theorem Asc.lt {l:List Mpg}(h:Asc l):∀ (d i:Nat) (hi:i+d+1<l.length),bef (l[i]'(by omega)) l[i+d+1]
 | 0,i,hi=>by have:=h (i+1) hi om;simpa using this
 | d+1,i,hi=>Dt (Asc.lt h d i om) (h (i+d+1+1) hi om)
theorem Asc.once {l:List Mpg}(h:Asc l):¬Tw l:=by
 rintro⟨i,hi,k,hk,e⟩;have:=Asc.lt h (i-k-1) k om
 have e2:k+(i-k-1)+1=i:=by omega
 simp only[e2] at this;exact I1 this e
noncomputable def dj (l:List Mpg):Int:=
 if ∀ i (h:i<l.length),lI l[i] then(if ∀ i (h:i<l.length),l[i].to.length<=64 then(if ∀ i (h:i<l.length),EN l[i] then 0 else 6) else 2) else 1
def MOk (l:List Mpg):Prop:=dj l=0∧Asc l
end
section
open Go Go.Am Classical
set_option maxRecDepth 100000
variable [GT]
abbrev ca (r:Rng):List D:=[i64 r.lo,i64 r.hi]
abbrev a7 (l:List Rng):D:=lstS ca l
theorem ad (l:List Rng):aN (a7 l)=true:=fL (λ_=>rfl) l
abbrev ix (m:Mpg):List D:=[i64 m.frm,aD m.to,.str m.tag]
abbrev cP (l:List Mpg):D:=lstS ix l
theorem rt (m:Mpg):aE (ix m)=true:=by simp[aE,aN,aI]
theorem az (l:List Mpg):aN (cP l)=true:=fL rt l
structure Db where
 major:Int
 minor:Int
 cat:Prp
 wid:Prp
 scr:Prp
 gra:Prp
 wor:Prp
 sen:Prp
 lin:Prp
 classes:List Spn
 decomp:List Mpg
 excl:List Rng
 lower:List Mpg
 upper:List Mpg
 title:List Mpg
 fold:List Mpg
 cased:List Rng
 ignor:List Rng
 start:List Rng
 cont:List Rng
 medial:List Rng
 confu:List Mpg
abbrev prpC (p:Prp):List D:=[strs p.names,cg p.spans]
abbrev dbC (d:Db):List D:=[i64 d.major,i64 d.minor,strs d.cat.names,cg d.cat.spans,strs d.wid.names,cg d.wid.spans,strs d.scr.names,cg d.scr.spans,strs d.gra.names,cg d.gra.spans,strs d.wor.names,cg d.wor.spans,strs d.sen.names,cg d.sen.spans,strs d.lin.names,cg d.lin.spans,
 cg d.classes,cP d.decomp,a7 d.excl,cP d.lower,cP d.upper,cP d.title,cP d.fold,a7 d.cased,a7 d.ignor,a7 d.start,a7 d.cont,a7 d.medial,cP d.confu]
abbrev dbD (d:Db):D:=.agg (dbC d)
theorem cR (d:Db):aE (dbC d)=true:=by simp[aE,aN,aP,aW,az,ad]
def prop (d:Db):Nat->Prp
 | 0=>d.cat
 | 1=>d.wid
 | 2=>d.scr
 | 3=>d.gra
 | 4=>d.wor
 | 5=>d.sen
 | _=>d.lin
def Cc (d:Db):Nat->List Rng
 | 0=>d.excl
 | 1=>d.cased
 | 2=>d.ignor
 | 3=>d.start
 | 4=>d.cont
 | _=>d.medial
def gD (d:Db):Nat->List Mpg
 | 9=>d.decomp
 | 11=>d.lower
 | 12=>d.upper
 | 13=>d.title
 | 14=>d.fold
 | _=>d.confu
def ClQ (l:List Spn) (i:Nat) (s:Spn):Prop:=(0<=s.lo∧s.lo<=s.hi∧s.hi<=1114111∧1<=s.val∧s.val<=254) ∧
 (i≠0->(l.getD (i-1) default).hi<s.lo∧¬(s.lo=(l.getD (i-1) default).hi+1∧s.val=(l.getD (i-1) default).val))
def ClV (l:List Spn):Prop:=∀ i (h:i<l.length),ClQ l i l[i]
def vH (n:Int):Prop:=0<=n∧n<=9999
def Jb (d:Db):Nat->Prop
 | 0=>vH d.major∧vH d.minor
 | 1=>PrV d.cat
 | 2=>PrV d.wid
 | 3=>PrV d.scr
 | 4=>PrV d.gra
 | 5=>PrV d.wor
 | 6=>PrV d.sen
 | 7=>PrV d.lin
 | 8=>ClV d.classes
 | 9=>MOk d.decomp
 | 10=>c8 d.excl
 | 11=>MOk d.lower
 | 12=>MOk d.upper
 | 13=>MOk d.title
 | 14=>MOk d.fold
 | 15=>c8 d.cased
 | 16=>c8 d.ignor
 | 17=>c8 d.start
 | 18=>c8 d.cont
 | 19=>c8 d.medial
 | _=>MOk d.confu
def DbV (d:Db):Prop:=∀ k,k<21->Jb d k
def SmM (l:List Mpg):Prop:=(∀ i (h:i<l.length),i<30->l[i].to.length<=65∧l[i].tag.length<=40)∧l.length<=20
def SmD (d:Db):Prop:=d.classes.length<=16∧(∀ k,k<7->(prop d k).names.length<=30∧(prop d k).spans.length<=16)∧(∀ k,k<6->(Cc d k).length<=12)∧∀ k,k<21->SmM (gD d k)
structure Db.ok (d:Db):Prop where
 prop:∀ k,(prop d k).ok
 sets:∀ k,(Cc d k).length<=9223372036854775807
 maps:∀ k,(gD d k).length<=9223372036854775807∧∀ i (h:i<(gD d k).length),(gD d k)[i].to.length<=9223372036854775807∧(gD d k)[i].tag.length<=9223372036854775807
 classes:d.classes.length<=9223372036854775807
def gy:List Int->Int
 | []=>0
 | e::l=>if e=0 then gy l else e
theorem wG:∀ {l:List Int}{k:Nat}(h:k<l.length),(∀ i (hi:i<l.length),i<k->l[i]=0)->l[k]≠0->gy l=l[k]
 | [],k,h,_,_=>by simp at h
 | e::l,0,_,_,h2=>by simp only[List.getElem_cons_zero] at h2 ⊢;rw[gy,if_neg h2]
 | e::l,k+1,h,h1,h2=>by
  have e0:e=0:=h1 0 si om;rw[gy,if_pos e0];simp only[List.getElem_cons_succ] at h2 ⊢;exact wG (by simpa using h) (λi hi hk=>by have:=h1 (i+1) (by simpa using hi) om;simpa using this) h2
theorem lv:∀ {l:List Int},gy l=0↔∀ i (hi:i<l.length),l[i]=0
 | []=>by simp[gy]
 | e::l=>by
  rw[gy];constructor
  ·intro h i hi;split at h
   ·rename_i e0;cases i with
    | zero=>simpa using e0
    | succ i=>simpa using lv.1 h i (by simpa using hi)
   ·rename_i e0;exact absurd h e0
  ·intro h;have e0:e=0:=h 0 si;rw[if_pos e0];exact lv.2 λi hi=>by have:=h (i+1) (by simpa using hi);simpa using this
end
section
open Go Go.Am Classical
set_option maxRecDepth 100000
theorem xG2.rdX {p:Prop}(h:p:=by first|exact Rd.sl' rfl sim sim|fail):p:=h
theorem xG2.rbX {p:Prop}(h:p:=by first|exact Rb.cells (Rds.eqs (af (by intro _;rfl) (x::xs) _) (aF (by intro _;rfl) _)) rfl|fail):p:=h
open xG2
variable [GT]
def qe:List Int->List Int->Int
 | [],[]=>0
 | [],_::_=>-1
 | _::_,[]=>1
 | x::a,y::b=>if x<y then -1 else if y<x then 1 else qe a b
theorem uv {a b:List Int}{k:Nat}(h1:k<a.length) (h2:k<b.length):qe (a.drop k) (b.drop k)=if a[k]<b[k] then -1 else if b[k]<a[k] then 1 else qe (a.drop (k+1)) (b.drop (k+1)):=by
 rw[kK h1,kK h2];rfl
theorem GW {a b:List Int}{k:Nat}(h1:k<=a.length) (h2:k<=b.length) (hk:¬(k<a.length∧k<b.length)):qe (a.drop k) (b.drop k)=if a.length<b.length then -1 else if b.length<a.length then 1 else 0:=by
 by_cases ha:k<a.length
 ·rw[kK ha,(List.drop_eq_nil_of_le om:b.drop k=[]),if_neg om,if_pos om];rfl
 ·rw[(List.drop_eq_nil_of_le om:a.drop k=[])];by_cases hb:k<b.length
  ·rw[kK hb,if_pos om];rfl
  ·rw[(List.drop_eq_nil_of_le om:b.drop k=[]),if_neg om,if_neg om];rfl
theorem pP:∀ {a b:List Int},qe a b=0↔a=b
 | [],[]=>by simp[qe]
 | [],_::_=>by simp[qe]
 | _::_,[]=>by simp[qe]
 | x::a,y::b=>by
  simp only[qe,List.cons.injEq];have:=pP (a:=a) (b:=b)
  by_cases h1:x<y
  ·rw[if_pos h1];constructor
   ·intro h;omega
   ·rintro⟨rfl,_⟩;omega
  ·rw[if_neg h1];by_cases h2:y<x
   ·rw[if_pos h2];constructor
    ·intro h;omega
    ·rintro⟨rfl,_⟩;omega
   ·rw[if_neg h2,this];exact⟨λh=>⟨by omega,h⟩,λh=>h.2⟩
theorem D3 {a b:List Int}(ha:a.length<=9223372036854775807):Pu Tryz.prog 43 [aD a,aD b] (i64 (qe a b)):=by
 refine pv Tryz.func43 ?_;repeat' ((conv=>whnf);first|exact kQ|(refine bk ?_ ?_<;>intro _<;>try(exfalso;omega))|refine stq ?_)
 refine aH.by aB T0 (λk:Nat=>⟨tmp 46 [(0,aD a),(1,aD b),(5,i64 (k:Int))],⟨0,[]⟩⟩) (λk=>k<=a.length∧k<=b.length∧qe (a.drop k) (b.drop k)=qe a b) (λk=>a.length-k) 0 ⟨by omega,by omega,rfl⟩ ?_ ?_
 ·exact lq0
 intro k ⟨h1,h2,h3⟩;repeat' ((conv=>whnf);first|exact kQ|(refine bk ?_ ?_<;>intro _<;>try(exfalso;omega))|refine stq ?_)
 all_goals(conv=>whnf)
 all_goals first
  | (refine aC.int ?_
     rw[<-h3]
     first
      | (rw[GW h1 h2 om];(repeat' split)<;>omega)
      | (rw[uv om om];(repeat' split)<;>omega))
  | skip
 refine⟨k+1,⟨by omega,by omega,by rw[<-h3,uv (k:=k) om om,if_neg om,if_neg om]⟩,by omega,?_⟩;exact lq0
theorem JD {a b:List Int}(ha:a.length<=9223372036854775807):Pu Tryz.prog 16 [aD a,aD b] (boo (decide (a=b))):=by
 refine pv Tryz.func16 ?_;repeat' ((conv=>whnf);first|exact kQ|(refine bk ?_ ?_<;>intro _<;>try(exfalso;omega))|refine stq ?_|refine cp (D3 sd) ?_|fail)
 all_goals(conv=>whnf)
 all_goals first
  | exact aC.yes (pP.1 asm)
  | exact aC.no (λhc=>absurd (pP.2 hc) asm)
theorem Ag {t:Tbl}{l:List Int}(ht:t.ok) (hx:l.length<=1000) (hok:okL t l):Pu Tryz.prog 101 [iM t,aD l] (aD (acts t l)):=by
 have hL:=Left_c ht hx;have hR:=I9 ht hx;rw[if_pos hok] at hL hR;have hc:=hok.1;have hl:=hok.2.2.2.2.1;have hr:=hok.2.2.2.2.2;have nL:=SL_len (nx:=t.left.next) (l:=l);have nR:=SR_len (nx:=t.right.next) (l:=l);refine pv Tryz.func101 ?_;repeat' ((conv=>whnf);first|exact kQ|(refine bk ?_ ?_<;>intro _<;>try(exfalso;omega))|refine stq ?_|refine cp hL ?_|refine cp hR ?_|fail)
 all_goals(conv=>whnf)
 refine aH.by2 aB T0 (λ(k:Nat) (o:List Int)=>⟨tmp 41 [(2,.ptr 0 0),(5,aD (SL t.left.next l)),(6,aD (SR t.right.next l)),(7,aU 1 1 o),(18,i64 (SL t.left.next l).length),(19,i64 (k:Int))],⟨2,bz 1 (λx=>[i64 x]) o++[(0,.cells [strs t.classes,aD t.actions,bc t.left.next,bc t.left.marks,bc t.right.next,bc t.right.marks] true)]⟩⟩)
  (λk o=>k<=l.length+1∧o=(acts t l).take k) (λk _=>l.length+1-k) 0 [] ⟨by omega,rfl⟩ ?_ ?_
 ·exact lq [(0,_)] []
 intro k o ⟨h3,h4⟩;by_cases hk:k<l.length+1
 ·have d1:=oU hl hc k om;have d2:=lU hr hc (l.length-k) om;have hd:=GJ hok.2 d1 d2;rw[<-Gx (nx:=t.left.next) (l:=l) (k:=k) om,<-Gw (nx:=t.right.next) (l:=l) (k:=k) om] at hd;have hs:=Dx (t:=t) (l:=l) hk;rw[<-h4,<-Gx (nx:=t.left.next) (l:=l) (k:=k) om,<-Gw (nx:=t.right.next) (l:=l) (k:=k) om] at hs;cases o with
  | nil=>
   repeat' ((conv=>whnf);first|exact kQ|(refine bk ?_ ?_<;>intro _<;>try(exfalso;omega))|refine stq ?_|refine cp hd ?_|fail)
   all_goals(conv=>whnf)
   refine⟨k+1,_,⟨by omega,hs.symm⟩,by omega,?_⟩;exact lq [(0,_),(1,_)] []
  | cons x xs=>
   have hlen:(x::xs).length<=1001:=by rw[h4];simp[acts];omega
   repeat' ((conv=>whnf);first|exact kQ|(refine bk ?_ ?_<;>intro _<;>try(exfalso;omega))|refine stq ?_|refine cp hd ?_|fail)
   all_goals(conv=>whnf)
   refine⟨k+1,_,⟨by omega,hs.symm⟩,by omega,?_⟩;exact lq [(0,_),(1,_)] []
 ·have hall:(acts t l).take k=acts t l:=kE (by rw[dW];omega);rw[hall] at h4;cases o with
  | nil=>exact absurd h4.symm (by intro h;have:=dW (t:=t) (l:=l);rw[h] at this;simp at this)
  | cons x xs=>
   repeat' ((conv=>whnf);first|exact kQ|(refine bk ?_ ?_<;>intro _<;>try(exfalso;omega))|refine stq ?_)
   rw[<-h4];exact aC.own1 (id:=1) (l:=x::xs) (λ_=>rfl)
theorem AF {l:List Str}{s:Str}(h:1<=l.length):0<=jX l s∧jX l s<l.length:=by
 unfold jX;split
 ·rename_i hm;have:=List.idxOf_lt_length_of_mem hm
  omega
 ·omega
theorem r4 {p:Prp}{t:Tbl}{text:List Int}(hv:TV t):CL (ak p t.classes text) t.classes.length:=by
 intro i h;simp only[ak,List.getElem_map];exact AF hv.1.1
theorem FK {p:Prp}{t:Tbl}{text:List Int}(hv:TV t):okL t (ak p t.classes text):=⟨r4 hv,hv⟩
noncomputable def j7 (p:Prp) (t:Tbl) (text:List Int):List Int:=if TV t then acts t (ak p t.classes text) else []
theorem zg {p:Prp}{t:Tbl}{text:List Int}(hp:p.ok) (ht:t.ok) (h1:p.names.length<=1000) (h2:p.spans.length<=1000) (hx:text.length<=1000):Pu Tryz.prog 67 [bn p,iM t,aD text] (aD (j7 p t text)):=by
 refine pv Tryz.func67 ?_;by_cases hv:TV t
 ·have hc:=D5 (text:=text) hp ht om om om;rw[if_pos hv] at hc;have ha:=Ag ht (show(ak p t.classes text).length<=1000 by simp[ak];omega) (FK hv);rw[j7,if_pos hv];repeat' ((conv=>whnf);first|exact kQ|(refine bk ?_ ?_<;>intro _<;>try(exfalso;omega))|refine stq ?_|(refine Cll.dec (nH ht) (λ_=>?_) (λ_=>?_)<;>(try contradiction))|refine ap.by aB T0 [0,0,0,0,14,31,63] (by kernel_rfl) ?_|refine cp hc ?_|refine cp ha ?_|fail)
  all_goals(conv=>whnf)
  exact aC.same (aI _) rfl
 ·rw[j7,if_neg hv];repeat' ((conv=>whnf);first|exact kQ|(refine bk ?_ ?_<;>intro _<;>try(exfalso;omega))|refine stq ?_|(refine Cll.dec (nH ht) (λ_=>?_) (λ_=>?_)<;>(try contradiction)))
  all_goals(conv=>whnf)
  exact⟨.nil⟩
def btw:Int->List Int->List Rng
 | _,[]=>[]
 | s,e::l=>if s<e then⟨s,e⟩::btw e l else btw s l
theorem d6 {s e:Int}{l:List Int}(h:s<e):btw s (e::l)=⟨s,e⟩::btw e l:=by rw[btw,if_pos h]
theorem fQ {s e:Int}{l:List Int}(h:¬s<e):btw s (e::l)=btw s l:=by rw[btw,if_neg h]
theorem d8 {α β:Type}{P:Program}(x:Sem α) (f:α->Sem β):b7 P (x >>= f)=(b7 P x).bind λa=>b7 P (f a):=by
 show b7 P (x.bind f)=_
 induction x with
 | pure a=>rfl
 | program k ih=>exact ih _
 | mark m k ih=>exact ih
 | _=>rfl
theorem Cq {α β:Type}{P:Program}(x:Sem α) (f:α->β):b7 P (f <$> x)=(b7 P x).map f:=by
 rw[map_eq_pure_bind,d8];cases b7 P x<;>rfl
theorem gY {α:Type}{P:Program}(a:α):b7 P (pure a:Sem α)=some a:=rfl
theorem iP {P:Program}:b7 P program=some P:=rfl
theorem fH {P:Program}{t:TypeId}{d:TypeDesc}(h:P.underlying t=some d):b7 P (underlying t)=some d:=by
 simp only[underlying,d8,iP,Option.bind_some,h,gY]
theorem pw {P:Program}{d:Nat}{t:TypeId}{k:IntKind}{a b:Int}(h:P.underlying t=some (.int k)):b7 P (Op.equalIn (d+1) t (.int .i64 a) (.int .i64 b))=some (a == b):=by
 simp[Op.equalIn,d8,fH h,gY]
theorem rc {P:Program}{t:TypeId}{k:IntKind}{cs:Array Value}{o:Nat}{v:Value}(h:P.underlying t=some (.int k)) (hv:cs[o]?=some v):b7 P (part t cs o)=some v:=by
 simp[part,isAgg,d8,fH h,gY,hv]
theorem xO {P:Program}{d:Nat}{t:TypeId}{f0 f1:Field}{k:IntKind}{a b c e:Int}(h:P.underlying t=some (.struct #[f0,f1])) (hs:P.stoodInHeld t=false) (n0:f0.name ≠ "_") (n1:f1.name ≠ "_") (o0:f0.offset=0) (o1:f1.offset=1) (t0:P.underlying f0.type=some (.int k)) (t1:P.underlying f1.type=some (.int k)) :
  b7 P (Op.equalIn (d+2) t (.agg #[.int .i64 a,.int .i64 b]) (.agg #[.int .i64 c,.int .i64 e]))=some (a == c&&b == e):=by
 rw[Op.equalIn];simp[d8,fH h,iP,hs,n0,n1,o0,o1,rc t0,pw t0];by_cases h1:a=c<;>by_cases h2:b=e<;>simp[h1,h2,d8,gY,rc t1,pw t1]
theorem Gv {P:Program}{t:TypeId}{f0 f1:Field}{k:IntKind}{a b c e:Int}{ox oy:Operand}(h:P.underlying t=some (.struct #[f0,f1])) (hs:P.stoodInHeld t=false) (n0:f0.name ≠ "_") (n1:f1.name ≠ "_") (o0:f0.offset=0) (o1:f1.offset=1) (t0:P.underlying f0.type=some (.int k)) (t1:P.underlying f1.type=some (.int k)) (hg:P.eqGuardType P.depth t=false) :
  cf P .neq t ox oy (.agg [i64 a,i64 b]) (.agg [i64 c,i64 e])=some (.v (.bool (!(a == c&&b == e)))):=by
 have e1:b7 P (do eqGuard .neq t ox oy (.agg #[.int .i64 a,.int .i64 b]) (.agg #[.int .i64 c,.int .i64 e]);binOp .neq t (.agg #[.int .i64 a,.int .i64 b]) (.agg #[.int .i64 c,.int .i64 e]))=some (.bool (!(a == c&&b == e))):=by
  have e2:b7 P (Op.equalIn 10000 t (.agg #[.int .i64 a,.int .i64 b]) (.agg #[.int .i64 c,.int .i64 e]))=some (a == c&&b == e):=xO (d:=9998) h hs n0 n1 o0 o1 t0 t1;simp[eqGuard,binOp,d8,iP,hg,Op.equal,Op.maxDepth,e2,gY,Cq]
 have e3:cf P .neq t ox oy (.agg [i64 a,i64 b]) (.agg [i64 c,i64 e])=(match b7 P (do eqGuard .neq t ox oy (.agg #[.int .i64 a,.int .i64 b]) (.agg #[.int .i64 c,.int .i64 e]);binOp .neq t (.agg #[.int .i64 a,.int .i64 b]) (.agg #[.int .i64 c,.int .i64 e])) with|some r=>ofV r|none=>none):=rfl;rw[e3,e1];rfl
theorem BW {a b c e:Int}{ox oy:Operand}:cf Tryz.prog .neq 66 ox oy (.agg [i64 a,i64 b]) (.agg [i64 c,i64 e])=some (.v (.bool (!(a == c&&b == e)))):=
 Gv (k:=.i64) rfl (by kernel_rfl) (by decide) (by decide) rfl rfl rfl rfl (by kernel_rfl)
theorem qn {x y:Rng}{ox oy:Operand}(h:¬x=y):cf Tryz.prog .neq 66 ox oy (.agg (ca x)) (.agg (ca y))=some (.v (.bool true)):=by
 rw[BW];cases x;cases y;simp at h;simp only[kA,D.v.injEq,Value.bool.injEq,Bool.not_eq_true',Bool.and_eq_false_imp,beq_iff_eq,beq_eq_false_iff_ne];exact h
theorem v3 {x:Rng}{ox oy:Operand}:cf Tryz.prog .neq 66 ox oy (.agg (ca x)) (.agg (ca x))=some (.v (.bool false)):=by
 rw[BW];simp
end
end Go.Proofs.YtbmdndckndnehaaGreatDoor
