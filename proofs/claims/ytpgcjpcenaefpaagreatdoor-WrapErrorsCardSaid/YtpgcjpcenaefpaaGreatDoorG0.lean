/-
  Contracts of functions over data: properties.
-/
import Derived.Test.YtpgcjpcenaefpaaGreatDoorQ1
import Derived.Test.YtpgcjpcenaefpaaGreatDoorAmF
import Derived.Test.YtpgcjpcenaefpaaGreatDoorH0
set_option linter.unusedSectionVars false
namespace Go.Proofs.YtpgcjpcenaefpaaGreatDoor
section
open Go Go.Am Classical
set_option maxRecDepth 100000
variable [GT]
theorem sq {s:Str}(hs:s.length<=9223372036854775807):Pu Tryz.prog 153 [.str s] (boo (decide (s≠[]∧s.length<=32∧xp s))):=by
 refine pv Tryz.func153 ?_;repeat' ((conv=>whnf);first|exact kQ|(refine bk ?_ ?_<;>intro _<;>try(exfalso;omega))|refine stq ?_)
 all_goals(conv=>whnf)
 all_goals first
  | exact aC.no (λhc=>hc.1 asm)
  | exact aC.no (λhc=>by omega)
  | skip
 refine aH.by aB T0 (λk:Nat=>⟨tmp 51 [(0,.str s),(14,i64 s.length),(15,i64 (k:Int))],⟨0,[]⟩⟩) (λk=>k<=s.length∧∀ i (h:i<s.length),i<k->wb (s[i].toNat:Int)) (λk=>s.length-k) 0 ⟨by omega,λ_ _ h=>by omega⟩ ?_ ?_
 ·exact lq0
 intro k ⟨h1,h2⟩;repeat' ((conv=>whnf);first|exact kQ|(refine bk ?_ ?_<;>intro _<;>try(exfalso;omega))|refine stq ?_)
 all_goals(conv=>whnf)
 all_goals first
  | exact aC.no (λhc=>absurd (hc.2.2 k om) (by unfold wb;omega))
  | exact aC.yes ⟨by assumption,by omega,bZ om h2⟩
  | (refine⟨k+1,⟨by omega,ah om h2 (by unfold wb;omega)⟩,by omega,?_⟩
     exact lq0)
def PV (l:List Str):Prop:=1<=l.length∧l.length<=250∧∀ i (h:i<l.length),lx l[i]∧¬l[i]∈l.take i
theorem Gs {l:List Str}(hn:l.length<=9223372036854775807) (hl:long l):Pu Tryz.prog 89 [strs l] (boo (decide (PV l))):=by
 refine pv Tryz.func89 ?_;repeat' ((conv=>whnf);first|exact kQ|(refine bk ?_ ?_<;>intro _<;>try(exfalso;omega))|refine stq ?_)
 all_goals(conv=>whnf)
 all_goals first
  | exact aC.no (λhc=>by have:=hc.1;have:=hc.2.1;omega)
  | skip
 refine aH.by aB T0 (λk:Nat=>⟨tmp 39 [(0,strs l),(3,i64 (k:Int))],⟨0,[]⟩⟩)
  (λk=>k<=l.length∧∀ i (h:i<l.length),i<k->lx l[i]∧¬l[i]∈l.take i) (λk=>l.length-k) 0 ⟨by omega,λ_ _ h=>by omega⟩ ?_ ?_
 ·exact lq0
 intro k ⟨h1,h2⟩;repeat' ((conv=>whnf);first|exact kQ|(refine bk ?_ ?_<;>intro _<;>try(exfalso;omega))|refine stq ?_|refine cd (Di sd) (λ_=>?_) (λ_=>?_)|fail)
 all_goals(conv=>whnf)
 all_goals first
  | exact aC.no (λhc=>by obtain⟨⟨_,_,_⟩,_⟩:=hc.2.2 k om;first|omega|contradiction|simp_all)
  | exact aC.yes ⟨by omega,by omega,bZ om h2⟩
  | skip
 rename_i a1
 refine aH.by aB T0 (λj:Nat=>⟨tmp 39 [(0,strs l),(3,i64 (k:Int)),(4,i64 (j:Int))],⟨0,[]⟩⟩)
  (λj=>j<=k∧∀ i (h:i<l.length),i<j->l[i]≠l[k]) (λj=>k-j) 0 ⟨by omega,λ_ _ h=>by omega⟩ ?_ ?_
 ·exact lq0
 intro j ⟨h3,h4⟩;repeat' ((conv=>whnf);first|exact kQ|(refine bk ?_ ?_<;>intro _<;>try(exfalso;omega))|refine stq ?_)
 all_goals(conv=>whnf)
 all_goals first
  | exact aC.no (λhc=>(hc.2.2 k om).2 (mY.2 ⟨j,by omega,by omega,by assumption⟩))
  | (refine⟨j+1,⟨by omega,ah om h4 asm⟩,by omega,?_⟩
     exact lq0)
  | (refine⟨k+1,⟨by omega,ah om h2 ⟨a1,λhm=>by obtain⟨i,hi,hlt,e⟩:=mY.1 hm;exact h4 i hi om e⟩⟩,by omega,?_⟩
     exact lq0)
abbrev nilM:D:=.v (.map none)
theorem Ej {l:List Str}(hl:long l) (hp:¬PV l):Pu Tryz.prog 115 [strs l] (.tup [nilM,boo false]):=by
 refine pv Tryz.func115 ?_;repeat' ((conv=>whnf);first|exact kQ|(refine bk ?_ ?_<;>intro _<;>try(exfalso;omega))|refine stq ?_)
 all_goals(conv=>whnf)
 all_goals first
  | exact aC.same rfl rfl
  | skip
 refine aH.by aB T0 (λk:Nat=>⟨tmp 42 [(4,.map 0),(18,strs l),(19,i64 l.length),(20,i64 (k:Int))],⟨1,[(0,.map (pos (l.take k) 0))]⟩⟩)
  (λk=>k<=l.length∧∀ i (h:i<l.length),i<k->lx l[i]∧¬l[i]∈l.take i) (λk=>l.length-k) 0 ⟨by omega,λ_ _ h=>by omega⟩ ?_ ?_
 ·exact lq [(0,_)] []
 intro k ⟨h1,h2⟩;repeat' ((conv=>whnf);first|exact kQ|(refine bk ?_ ?_<;>intro _<;>try(exfalso;omega))|refine stq ?_|refine cd (sq sd) (λ_=>?_) (λ_=>?_)|(refine fE.pos (λ_ _=>?_) (λ_=>?_)<;>(try contradiction)))
 all_goals(conv=>whnf)
 all_goals first
  | exact aC.same rfl rfl
  | (exfalso;exact hp ⟨by omega,by omega,bZ om h2⟩)
  | skip
 rename_i a1 a2 a3;refine⟨k+1,⟨by omega,ah om h2 ⟨a2,a1⟩⟩,by omega,?_⟩;exact lq [(0,_)] []
theorem B8 {l:List Str}(hl:long l) (hp:PV l):Pk Tryz.prog 115 [strs l] 1 (λn=>.tup [.map n,boo true]) (λn=>[(n,.map (pos l 0))]):=by
 refine Pk.of_v aB T0 Tryz.func115 rfl rfl (by simp[aF,ai]) ?_;repeat' ((conv=>whnf);first|exact kQ|(refine bk ?_ ?_<;>intro _<;>try(exfalso;omega))|refine stq ?_)
 all_goals(conv=>whnf)
 all_goals first
  | (exfalso;have:=hp.1;have:=hp.2.1;omega)
  | skip
 refine aH.by aB T0 (λk:Nat=>⟨tmp 42 [(4,.map 0),(18,strs l),(19,i64 l.length),(20,i64 (k:Int))],⟨1,[(0,.map (pos (l.take k) 0))]⟩⟩)
  (λk=>k<=l.length) (λk=>l.length-k) 0 om ?_ ?_
 ·exact lq [(0,_)] []
 intro k h1;repeat' ((conv=>whnf);first|exact kQ|(refine bk ?_ ?_<;>intro _<;>try(exfalso;omega))|refine stq ?_|refine cd (sq sd) (λ_=>?_) (λ_=>?_)|(refine fE.pos (λ_ _=>?_) (λ_=>?_)<;>(try contradiction)))
 all_goals(conv=>whnf)
 all_goals first
  | (exfalso;obtain⟨a1,a2⟩:=hp.2.2 k om;first|contradiction|(rename_i a3;exact a3 a1))
  | (refine⟨k+1,by omega,by omega,?_⟩
     exact lq [(0,_)] [])
  | exact⟨[0],rfl,⟨by simp,λn=>.tup (.cons (.map (by simp[sgn])) (.cons (.same rfl) .nil)),λn=>.cons (id:=0) (by simp[sgn]) rfl rfl (.map (.eqs (by rw[kE om]) (dN _ _))) .nil⟩⟩
structure Spn where
 lo:Int
 hi:Int
 val:Int
 deriving Inhabited
structure Prp where
 names:List Str
 spans:List Spn
abbrev DV (s:Spn):List D:=[i64 s.lo,i64 s.hi,i64 s.val]
abbrev cV (l:List Spn):D:=lstS DV l
abbrev bw (p:Prp):D:=.agg [strs p.names,cV p.spans]
theorem ae (l:List Spn):aI (cV l)=true:=e8 (λ_=>rfl) l
theorem s9 (p:Prp):aI (bw p)=true:=by simp[aI,aF,ai,ae]
structure Prp.ok (p:Prp):Prop where
 names:p.names.length<=9223372036854775807
 long:long p.names
 spans:p.spans.length<=9223372036854775807
def SpQ (l:List Spn) (n:Int) (i:Nat) (s:Spn):Prop:=(0<=s.lo∧s.lo<=s.hi∧s.hi<=1114111∧1<=s.val∧s.val<n) ∧
 (i≠0->(l.getD (i-1) default).hi<s.lo∧¬(s.lo=(l.getD (i-1) default).hi+1∧s.val=(l.getD (i-1) default).val))
def PrV (p:Prp):Prop:=PV p.names∧∀ i (h:i<p.spans.length),SpQ p.spans p.names.length i p.spans[i]
theorem lD {n:Int}:Pu Tryz.prog 154 [i64 n] (boo (decide (0<=n∧n<=1114111))):=by
 refine pv Tryz.func154 ?_;repeat' ((conv=>whnf);first|exact kQ|(refine bk ?_ ?_<;>intro _<;>try(exfalso;omega))|refine stq ?_)
 all_goals(conv=>whnf)
 all_goals first
  | exact aC.yes om
  | exact aC.no om
theorem xH {s:Spn}:Pu Tryz.prog 116 [.agg (DV s)] (boo (decide (0<=s.lo∧s.lo<=s.hi∧s.hi<=1114111))):=by
 refine pv Tryz.func116 ?_;repeat' ((conv=>whnf);first|exact kQ|(refine bk ?_ ?_<;>intro _<;>try(exfalso;omega))|refine stq ?_|refine cd lD (λ_=>?_) (λ_=>?_)|fail)
 all_goals(conv=>whnf)
 all_goals first
  | exact aC.yes om
  | exact aC.no om
theorem wM {p:Prp}(hp:p.ok):Pu Tryz.prog 84 [bw p] (boo (decide (PrV p))):=by
 have hl:=hp.long;have hs:=hp.spans;by_cases hv:PV p.names
 ·refine pv Tryz.func84 ?_;repeat' ((conv=>whnf);first|exact kQ|(refine bk ?_ ?_<;>intro _<;>try(exfalso;omega))|refine stq ?_|refine Cll.pk (B8 asm asm) ?_)
  all_goals(conv=>whnf)
  refine aH.by aB T0 (λk:Nat=>⟨tmp 69 [(1,.ptr 0 0),(17,cV p.spans),(18,i64 p.spans.length),(19,i64 (k:Int))],⟨1,[(0,.cells [strs p.names,cV p.spans] true)]⟩⟩)
   (λk=>k<=p.spans.length∧∀ i (h:i<p.spans.length),i<k->SpQ p.spans p.names.length i p.spans[i]) (λk=>p.spans.length-k) 0 ⟨by omega,λ_ _ h=>by omega⟩ ?_ ?_
  ·exact lq [(0,_)] []
  intro k ⟨h3,h4⟩;by_cases hk:k=0
  ·subst hk;repeat' ((conv=>whnf);first|exact kQ|(refine bk ?_ ?_<;>intro _<;>try(exfalso;omega))|refine stq ?_|refine cd xH (λ_=>?_) (λ_=>?_)|fail)
   all_goals(conv=>whnf)
   all_goals first
    | exact aC.no (λhc=>by have:=(hc.2 0 om).1;omega)
    | exact aC.yes ⟨hv,λi h=>by omega⟩
    | (refine⟨0+1,⟨by omega,ah om h4 ⟨by omega,λh=>absurd rfl h⟩⟩,by omega,?_⟩
       exact lq [(0,_)] [])
  ·have h5:=h4 (k-1) om om;have h6:=h5.1;have e:p.spans.getD (k-1) default=p.spans[k-1]:=aK om;repeat' ((conv=>whnf);first|exact kQ|(refine bk ?_ ?_<;>intro _<;>try(exfalso;omega))|refine stq ?_|refine cd xH (λ_=>?_) (λ_=>?_)|refine Idx.atS (by intro _;rfl) (k-1) om om ?_)
   all_goals(conv=>whnf)
   all_goals first
    | exact aC.no (λhc=>by have h7:=hc.2 k om;have:=h7.1;have:=h7.2 hk;rw[e] at this;omega)
    | exact aC.yes ⟨hv,bZ om h4⟩
    | (refine⟨k+1,⟨by omega,ah om h4 ⟨by omega,λ_=>by rw[e];omega⟩⟩,by omega,?_⟩
       exact lq [(0,_)] [])
 ·refine pv Tryz.func84 ?_;repeat' ((conv=>whnf);first|exact kQ|(refine bk ?_ ?_<;>intro _<;>try(exfalso;omega))|refine stq ?_|refine cp (Ej asm asm) ?_|fail)
  all_goals(conv=>whnf)
  exact aC.no (λhc=>hv hc.1)
theorem ek {p:Prp}(hp:p.ok):Pu Tryz.prog 64 [bw p] (boo (decide (PrV p))):=by
 have hn:=hp.names;have hl:=hp.long;have hs:=hp.spans;refine pv Tryz.func64 ?_;repeat' ((conv=>whnf);first|exact kQ|(refine bk ?_ ?_<;>intro _<;>try(exfalso;omega))|refine stq ?_|refine cd (Gs sd sd) (λ_=>?_) (λ_=>?_)|fail)
 all_goals(conv=>whnf)
 all_goals first
  | exact aC.no (λhc=>by have:=hc.1;contradiction)
  | skip
 rename_i hv
 refine aH.by aB T0 (λk:Nat=>⟨tmp 88 [(1,.ptr 0 0),(3,i64 (k:Int))],⟨1,[(0,.cells [strs p.names,cV p.spans] true)]⟩⟩)
  (λk=>k<=p.spans.length∧∀ i (h:i<p.spans.length),i<k->SpQ p.spans p.names.length i p.spans[i]) (λk=>p.spans.length-k) 0 ⟨by omega,λ_ _ h=>by omega⟩ ?_ ?_
 ·exact lq [(0,_)] []
 intro k ⟨h3,h4⟩;by_cases hk:k=0
 ·subst hk;repeat' ((conv=>whnf);first|exact kQ|(refine bk ?_ ?_<;>intro _<;>try(exfalso;omega))|refine stq ?_)
  all_goals(conv=>whnf)
  all_goals first
   | exact aC.no (λhc=>by have:=(hc.2 0 om).1;omega)
   | exact aC.yes ⟨hv,λi h=>by omega⟩
   | (refine⟨0+1,⟨by omega,ah om h4 ⟨by omega,λh=>absurd rfl h⟩⟩,by omega,?_⟩
      exact lq [(0,_)] [])
 ·have h5:=h4 (k-1) om om;have h6:=h5.1;have e:p.spans.getD (k-1) default=p.spans[k-1]:=aK om;repeat' ((conv=>whnf);first|exact kQ|(refine bk ?_ ?_<;>intro _<;>try(exfalso;omega))|refine stq ?_|refine Idx.atS (by intro _;rfl) (k-1) om om ?_)
  all_goals(conv=>whnf)
  all_goals first
   | exact aC.no (λhc=>by have h7:=hc.2 k om;have:=h7.1;have:=h7.2 hk;rw[e] at this;omega)
   | exact aC.yes ⟨hv,bZ om h4⟩
   | (refine⟨k+1,⟨by omega,ah om h4 ⟨by omega,λ_=>by rw[e];omega⟩⟩,by omega,?_⟩
      exact lq [(0,_)] [])
end
section
open Go Go.Am Classical
set_option maxRecDepth 100000
theorem xG1.rdX {p:Prop}(h:p:=by first|exact Rd.same (ae _)|exact Rd.int em|exact Rd.frzp rfl rfl (Rds.cons (Rd.same (ae _)) Rds.nil)|exact Rd.frzp rfl rfl (Rds.cons (Rd.same rfl) Rds.nil)|exact Rd.sl' rfl sim sim|exact Rd.same (by first|(simp[aI,aF,hc];done)|fail)|exact Rd.int (by first|(rw[em];omega;done)|fail)|fail):p:=h
theorem xG1.rbX {p:Prop}(h:p:=by first|exact Rb.cells (Rds.cons (Rd.same (ai _)) (Rds.cons (Rd.same (ae _)) Rds.nil)) rfl|exact Rb.cells (Rds.eqs (aU (by intro _;rfl) (x::xs) _) (aE (by intro _;rfl) _)) rfl|exact Rb.cells (Rds.eqs (yI _) (fU (λ_=>rfl) rfl)) rfl|exact Rb.cells (Rds.eqs (rN om) (aS (λ_=>rfl) _)) rfl|exact Rb.cells (by first|(rw[hcp];exact Rds.same (by first|(simp only[cI,aF,ai,ae,Bool.and_self];done)|fail);done)|fail) rfl|exact Rb.cells (by first|(rw[hcp];exact Rds.cons (Rd.frz rfl rfl (kD rfl) (Rds.cons (Rd.same rfl) Rds.nil)) (Rds.cons Rd.nil Rds.nil);done)|fail) rfl|exact Rb.map (Res.eqs (by first|(rw[kE om];done)|fail) (dN _ _))|exact Rb.cells (Rds.eqs (by first|(rw[<-rM om];simp[pD,hm];done)|fail) (fU (λ_=>rfl) rfl)) rfl|exact Rb.cells (Rds.eqs (by first|(rw[<-rM om];simp only[pD,hm,if_false];rfl;done)|fail) (fU (λ_=>rfl) rfl)) rfl|exact Rb.cells (Rds.eqs (by first|(rw[<-rM om];rfl;done)|fail) (fU (λ_=>rfl) rfl)) rfl|fail):p:=h
open xG1
variable [GT]
def other:Str:=[79,116,104,101,114]
noncomputable def cnt (p:Prp):Prp:=if PrV p then p else⟨[other],[]⟩
def fA:List Spn->Int->Int
 | [],_=>0
 | s::l,c=>if s.lo<=c∧c<=s.hi then s.val else fA l c
theorem zJ {l:List Spn}{n:Int}(hn:1<=n) (h:∀ i (h:i<l.length),1<=l[i].val∧l[i].val<n) (c:Int):0<=fA l c∧fA l c<n:=by
 induction l with
 | nil=>simp only[fA];omega
 | cons s l ih=>
  simp only[fA];split
  ·have:=h 0 si;simp at this;omega
  ·exact ih λi hi=>by have:=h (i+1) (by simp;omega);simpa using this
theorem lE {p:Prp}(c:Int):0<=fA (cnt p).spans c∧fA (cnt p).spans c<(cnt p).names.length:=by
 unfold cnt;split
 ·rename_i hv;exact zJ (by have:=hv.1.1;omega) (λi h=>by have:=(hv.2 i h).1;omega) c
 ·simp[fA]
theorem Hh {p:Prp}(c:Int):(fA (cnt p).spans c).toNat<(cnt p).names.length:=by have:=lE (p:=p) c;omega
noncomputable def qp (p:Prp) (c:Int):Str:=(cnt p).names[(fA (cnt p).spans c).toNat]'(Hh c)
def pD (l:List Str) (s:Str):Int:=if s∈l then l.idxOf s else 0
noncomputable def av (p:Prp) (l:List Str) (text:List Int):List Int:=text.map λc=>pD l (qp p c)
theorem wF {n s:Nat}{g:FuncId}{cap:List D}{p:Nat->Prop}(hc:aF cap=true) (hn:n<=4611686018427387903) (hs:s<=n) (h1:∀ i,i<s->¬p i) (h2:∀ i,s<=i->i<n->p i)
  (hf:∀ i:Nat,i<n->Pu Tryz.prog g ([i64 i]++cap) (boo (decide (p i)))):Pu Tryz.prog 117 [i64 n,.fn (.func g) [] cap] (i64 s):=by
 refine Pu.of_v aB T0 Tryz.func117 rfl rfl (by simp[aI,aF,hc]) ?_;repeat' ((conv=>whnf);first|exact kQ|(refine bk ?_ ?_<;>intro _<;>try(exfalso;omega))|refine stq ?_)
 refine aH.by2 aB T0 (λi j:Nat=>⟨tmp 26 [(1,.fn (.func g) [] cap),(5,i64 i),(6,i64 j)],⟨0,[]⟩⟩)
  (λi j=>i<=s∧s<=j∧j<=n) (λi j=>j-i) 0 n ⟨by omega,by omega,by omega⟩ ?_ ?_
 ·exact lq0
 intro i j ⟨h3,h4,h5⟩
 have em:IntKind.i64.wrap ((IntKind.u64.wrap ((i:Int)+(j:Int))).fdiv (2 ^ min (Int.toNat 1) IntKind.u64.bits))=(((i+j) / 2:Nat):Int):=by
  have e1:IntKind.u64.wrap ((i:Int)+(j:Int))=(i:Int)+(j:Int):=by
   simp[IntKind.wrap,IntKind.bits,IntKind.signed];omega
  rw[e1,Int.fdiv_eq_ediv_of_nonneg _ (by decide)];simp[IntKind.wrap,IntKind.bits,IntKind.signed];omega
 repeat' ((conv=>whnf);first|exact kQ|(refine bk ?_ ?_<;>intro _<;>try(exfalso;omega))|refine stq ?_|refine cd (p:=p ((i+j) / 2)) (by rw[em];exact hf _ om) (λ_=>?_) (λ_=>?_)|refine Chk.mk (og (by rw[em];omega) (by rw[em];omega)) ?_)
 all_goals(conv=>whnf)
 all_goals first
  | exact aC.int om
  | (refine⟨i,(i+j) / 2,⟨by omega,Nat.le_of_not_lt λhlt=>h1 _ hlt asm,by omega⟩,by omega,?_⟩
     exact lq0)
  | (refine⟨(i+j) / 2+1,j,⟨Nat.succ_le_of_lt (Nat.lt_of_not_le λhle=>absurd (h2 _ hle om) asm),by omega,by omega⟩,by omega,?_⟩
     exact lq0)
theorem C6 {l:List Spn}{c:Int}{k:Nat}(hk:k<l.length):Pu Tryz.prog 118 ([i64 (k:Int)]++[.iptr [cV l],.iptr [i64 c]]) (boo (decide (c<=l[k].hi))):=by
 refine pv Tryz.func118 ?_;repeat' ((conv=>whnf);first|exact kQ|(refine bk ?_ ?_<;>intro _<;>try(exfalso;omega))|refine stq ?_)
 all_goals(conv=>whnf)
 all_goals first
  | exact aC.yes om
  | exact aC.no om
def Cr (l:List Spn):Prop:=∀ i (h:i<l.length),l[i].lo<=l[i].hi∧∀ h0:i≠0,(l[i-1]'(by omega)).hi<l[i].lo
theorem GQ {l:List Spn}{n:Int}(h:∀ i (h:i<l.length),SpQ l n i l[i]):Cr l:=λi hi=>by
 obtain⟨h1,h2⟩:=h i hi;refine⟨by omega,λh0=>?_⟩;have:=(h2 h0).1
 rwa [aK om] at this
theorem uW {l:List Spn}(h:Cr l){i:Nat}(j:Nat) (hi:i<l.length) (hj:i+j<l.length):l[i].hi<=l[i+j].hi:=by
 induction j with
 | zero=>exact Int.le_refl _
 | succ j ih=>
  have h1:=ih om;have h2:=h (i+(j+1)) hj;have h3:=h2.2 om;have h4:=h2.1;have e:i+(j+1)-1=i+j:=by omega
  simp only[e] at h3;omega
theorem tL {l:List Spn}{c:Int}(h:∀ i (h:i<l.length),¬(l[i].lo<=c∧c<=l[i].hi)):fA l c=0:=by
 induction l with
 | nil=>rfl
 | cons s l ih=>
  simp only[fA];rw[if_neg (show ¬(s.lo<=c∧c<=s.hi) from h 0 si)];exact ih λi hi=>h (i+1) (by simpa using hi)
theorem HJ {l:List Spn}{c:Int}{s:Nat}(hs:s<l.length) (h:∀ i (hi:i<l.length),i<s->¬(l[i].lo<=c∧c<=l[i].hi)) (h2:l[s].lo<=c∧c<=l[s].hi):fA l c=l[s].val:=by
 induction l generalizing s with
 | nil=>simp at hs
 | cons x l ih=>
  simp only[fA];cases s with
  | zero=>rw[if_pos (show x.lo<=c∧c<=x.hi from h2)];rfl
  | succ s=>
   rw[if_neg (show ¬(x.lo<=c∧c<=x.hi) from h 0 si om)];exact ih (s:=s) (by simpa using hs) (λi hi hlt=>h (i+1) (by simpa using hi) om) h2
noncomputable def a6 (l:List Spn) (c:Int):Nat:=l.findIdx λs=>decide (c<=s.hi)
theorem rJ (l:List Spn) (c:Int):a6 l c<=l.length:=List.findIdx_le_length
theorem fX {l:List Spn}{c:Int}{i:Nat}(h:i<l.length) (hlt:i<a6 l c):¬c<=l[i].hi:=by
 have:=List.not_of_lt_findIdx hlt
 simpa using this
theorem l9 {l:List Spn}{c:Int}(h:a6 l c<l.length):c<=l[a6 l c].hi:=by
 have:=List.findIdx_getElem (p:=λs:Spn=>decide (c<=s.hi)) (w:=h)
 exact of_decide_eq_true this
theorem rC {l:List Spn}(hr:Cr l) (c:Int):fA l c=if h:a6 l c<l.length then(if l[a6 l c].lo<=c then l[a6 l c].val else 0) else 0:=by
 split
 ·rename_i hs;have h1:=l9 hs;split
  ·rename_i h2;exact HJ hs (λi hi hlt=>by have:=fX hi hlt;omega) ⟨h2,h1⟩
  ·rename_i h2;refine tL λi hi=>?_
   rcases Nat.lt_trichotomy i (a6 l c) with hlt|he|hgt
   ·have:=fX hi hlt;omega
   ·subst he;omega
   ·have h3:=uW hr (i-1-a6 l c) hs om;have h4:=(hr i hi).2 om;have e:a6 l c+(i-1-a6 l c)=i-1:=by omega
    simp only[e] at h3;omega
 ·rename_i hs;refine tL λi hi=>?_
  have:=fX (c:=c) hi om
  omega
theorem zr {l:List Spn}{c:Int}(hn:l.length<=4611686018427387903) (hr:Cr l):Pu Tryz.prog 85 [cV l,i64 c] (i64 (fA l c)):=by
 rw[rC hr c];have h0:=rJ l c
 have hse:Pu Tryz.prog 117 [i64 l.length,.fn (.func 118) [] [.iptr [cV l],.iptr [i64 c]]] (i64 (a6 l c)):=
  wF (p:=λi=>∃ h:i<l.length,c<=l[i].hi) (by simp[aI,aF,ae]) hn h0 (λi hi ⟨h,hc⟩=>fX h hi hc)
   (λi h1 h2=>⟨h2,by
    have h3:=l9 (l:=l) (c:=c) om;have h4:=uW hr (i-a6 l c) (i:=a6 l c) om om;have e:a6 l c+(i-a6 l c)=i:=by omega
    simp only[e] at h4
    omega⟩)
   (λi hi=>by
    have:=C6 (l:=l) (c:=c) hi
    exact(congrArg (λb=>Pu Tryz.prog _ _ (boo b)) (decide_eq_decide.2 ⟨λh=>⟨hi,h⟩,λ⟨_,h⟩=>h⟩)).mp this)
 refine pv Tryz.func85 ?_
 conv=>whnf
 refine cF.weak aB T0 (s0:=⟨tmp 28 [(2,.iptr [cV l]),(3,.iptr [i64 c])],⟨0,[]⟩⟩) ?_ ?_
 ·exact lq [] [0,1]
 repeat' ((conv=>whnf);first|exact kQ|(refine bk ?_ ?_<;>intro _<;>try(exfalso;omega))|refine stq ?_|refine cp hse ?_|fail)
 all_goals(conv=>whnf)
 all_goals first
  | exact aC.int (by rw[dif_pos om,if_pos asm])
  | exact aC.int (by rw[dif_pos om,if_neg asm])
  | exact aC.int (by rw[dif_neg om])
theorem xa (p:Prp):Cr (cnt p).spans:=by
 unfold cnt;split
 ·rename_i hv;exact GQ hv.2
 ·intro i h;simp at h
theorem Ca {p:Prp}(h:p.spans.length<=1000):(cnt p).spans.length<=1000:=by
 unfold cnt;split
 ·exact h
 ·simp
theorem Cb {p:Prp}(h:p.names.length<=1000):(cnt p).names.length<=1000:=by
 unfold cnt;split
 ·exact h
 ·simp
set_option maxHeartbeats 8000000 in
theorem tq {p:Prp}{t:Tbl}{text:List Int}(hp:p.ok) (ht:t.ok) (hx:text.length<=1000) (hs:p.spans.length<=1000) (hnn:p.names.length<=1000):Pu Tryz.prog 61 [bw p,f9 t,aD text] (aD (if TV t then av p t.classes text else [])):=by
 have h1:=ht.classes;have hr:=xa p;have hs2:=Ca hs;have hn2:=Cb hnn;refine pv Tryz.func61 ?_;repeat' ((conv=>whnf);first|exact kQ|(refine bk ?_ ?_<;>intro _<;>try(exfalso;omega))|refine stq ?_|refine cd (kY sd) (λ_=>?_) (λ_=>?_)|refine cd (wM sd) (λ_=>?_) (λ_=>?_)|fail)
 all_goals(conv=>whnf)
 ·rename_i hv hpv;have hcp:cnt p=p:=by simp[cnt,hpv]
  refine aH.by aB T0 (λk:Nat=>⟨tmp 81 [(2,aD text),(3,.ptr 0 0),(7,.map 1),(29,strs t.classes),(30,i64 t.classes.length),(31,i64 (k:Int))],⟨2,[(0,.cells [strs (cnt p).names,cV (cnt p).spans] true),(1,.map (pos (t.classes.take k) 0))]⟩⟩)
   (λk=>k<=t.classes.length) (λk=>t.classes.length-k) 0 om ?_ ?_
  ·exact lq [(0,_),(1,_)] [9]
  intro k h3;repeat' ((conv=>whnf);first|exact kQ|(refine bk ?_ ?_<;>intro _<;>try(exfalso;omega))|refine stq ?_|(refine fE.pos (λ_ _=>?_) (λ_=>?_)<;>(try(exfalso;exact(hv.1.2.2 k om).2 asm))))
  all_goals(conv=>whnf)
  ·refine⟨k+1,by omega,by omega,?_⟩;exact lq [(0,_),(1,_)] []
  refine aH.by aB T0 (λk:Nat=>⟨tmp 81 [(2,aD text),(3,.ptr 0 0),(7,.map 1),(10,.sl 2 0 (cnt p).names.length (cnt p).names.length 1 true),(45,strs (cnt p).names),(46,i64 (cnt p).names.length),(47,i64 (k:Int))],⟨3,[(0,.cells [strs (cnt p).names,cV (cnt p).spans] true),(1,.map (pos t.classes 0)),(2,.cells (gX (λs=>i64 (pD t.classes s)) (i64 0) (cnt p).names k) true)]⟩⟩)
   (λk=>k<=(cnt p).names.length) (λk=>(cnt p).names.length-k) 0 om ?_ ?_
  ·exact lq [(0,_),(1,_),(2,_)] []
  intro k h4;repeat' ((conv=>whnf);first|exact kQ|(refine bk ?_ ?_<;>intro _<;>try(exfalso;omega))|refine stq ?_|(refine fE.pos (λ_ _=>?_) (λ_=>?_))|refine Put.one (by rw[gy om];omega) ?_)
  all_goals(conv=>whnf)
  ·rename_i _ hm;refine⟨k+1,by omega,by omega,?_⟩;exact lq [(0,_),(1,_),(2,_)] []
  ·rename_i hm;refine⟨k+1,by omega,by omega,?_⟩;exact lq [(0,_),(1,_),(2,_)] []
  refine aH.by aB T0 (λk:Nat=>⟨tmp 81 [(3,.ptr 0 0),(10,.sl 2 0 (cnt p).names.length (cnt p).names.length 1 true),(13,.sl 3 0 text.length text.length 1 true),(62,aD text),(63,i64 text.length),(64,i64 (k:Int))],⟨4,[(0,.cells [strs (cnt p).names,cV (cnt p).spans] true),(2,.cells ((cnt p).names.map λs=>i64 (pD t.classes s)) true),(3,.cells (gX (λc=>i64 (pD t.classes (qp p c))) (i64 0) text k) true)]⟩⟩)
   (λk=>k<=text.length) (λk=>text.length-k) 0 om ?_ ?_
  ·exact lq [(0,_),(2,_),(3,_)] []
  intro k h5;have hg:=lE (p:=p) (text.getD k 0);repeat' ((conv=>whnf);first|exact kQ|(refine bk ?_ ?_<;>intro _<;>try(exfalso;omega))|refine stq ?_|refine cp (zr sd sd) ?_|refine bp.at (fA (cnt p).spans text[k]).toNat (by rw[aK om] at hg;omega) (by rw[aK om] at hg;omega) ?_|refine Get.map (by rw[aK om] at hg;omega) ?_|refine Put.one (by rw[gy om];omega) ?_)
  all_goals(conv=>whnf)
  ·refine⟨k+1,by omega,by omega,?_⟩;exact lq [(0,_),(2,_),(3,_)] []
  ·rw[if_pos hv];exact aC.frz1 (l:=av p t.classes text) (f:=i64) rfl (by rw[rN om];simp[av]) (by simp[av]) (λ_=>rfl) rfl
 ·rename_i hv hpv;have hcp:cnt p=⟨[other],[]⟩:=by simp[cnt,hpv]
  refine aH.by aB T0 (λk:Nat=>⟨tmp 81 [(2,aD text),(3,.ptr 0 0),(7,.map 1),(29,strs t.classes),(30,i64 t.classes.length),(31,i64 (k:Int))],⟨2,[(0,.cells [strs (cnt p).names,cV (cnt p).spans] true),(1,.map (pos (t.classes.take k) 0))]⟩⟩)
   (λk=>k<=t.classes.length) (λk=>t.classes.length-k) 0 om ?_ ?_
  ·exact lq [(0,_),(1,_)] [9]
  intro k h3;repeat' ((conv=>whnf);first|exact kQ|(refine bk ?_ ?_<;>intro _<;>try(exfalso;omega))|refine stq ?_|(refine fE.pos (λ_ _=>?_) (λ_=>?_)<;>(try(exfalso;exact(hv.1.2.2 k om).2 asm))))
  all_goals(conv=>whnf)
  ·refine⟨k+1,by omega,by omega,?_⟩;exact lq [(0,_),(1,_)] []
  refine aH.by aB T0 (λk:Nat=>⟨tmp 81 [(2,aD text),(3,.ptr 0 0),(7,.map 1),(10,.sl 2 0 (cnt p).names.length (cnt p).names.length 1 true),(45,strs (cnt p).names),(46,i64 (cnt p).names.length),(47,i64 (k:Int))],⟨3,[(0,.cells [strs (cnt p).names,cV (cnt p).spans] true),(1,.map (pos t.classes 0)),(2,.cells (gX (λs=>i64 (pD t.classes s)) (i64 0) (cnt p).names k) true)]⟩⟩)
   (λk=>k<=(cnt p).names.length) (λk=>(cnt p).names.length-k) 0 om ?_ ?_
  ·exact lq [(0,_),(1,_),(2,_)] []
  intro k h4;repeat' ((conv=>whnf);first|exact kQ|(refine bk ?_ ?_<;>intro _<;>try(exfalso;omega))|refine stq ?_|(refine fE.pos (λ_ _=>?_) (λ_=>?_))|refine Put.one (by rw[gy om];omega) ?_)
  all_goals(conv=>whnf)
  ·rename_i _ hm;refine⟨k+1,by omega,by omega,?_⟩;exact lq [(0,_),(1,_),(2,_)] []
  ·rename_i hm;refine⟨k+1,by omega,by omega,?_⟩;exact lq [(0,_),(1,_),(2,_)] []
  refine aH.by aB T0 (λk:Nat=>⟨tmp 81 [(3,.ptr 0 0),(10,.sl 2 0 (cnt p).names.length (cnt p).names.length 1 true),(13,.sl 3 0 text.length text.length 1 true),(62,aD text),(63,i64 text.length),(64,i64 (k:Int))],⟨4,[(0,.cells [strs (cnt p).names,cV (cnt p).spans] true),(2,.cells ((cnt p).names.map λs=>i64 (pD t.classes s)) true),(3,.cells (gX (λc=>i64 (pD t.classes (qp p c))) (i64 0) text k) true)]⟩⟩)
   (λk=>k<=text.length) (λk=>text.length-k) 0 om ?_ ?_
  ·exact lq [(0,_),(2,_),(3,_)] []
  intro k h5;have hg:=lE (p:=p) (text.getD k 0);repeat' ((conv=>whnf);first|exact kQ|(refine bk ?_ ?_<;>intro _<;>try(exfalso;omega))|refine stq ?_|refine cp (zr sd sd) ?_|refine bp.at (fA (cnt p).spans text[k]).toNat (by rw[aK om] at hg;omega) (by rw[aK om] at hg;omega) ?_|refine Get.map (by rw[aK om] at hg;omega) ?_|refine Put.one (by rw[gy om];omega) ?_)
  all_goals(conv=>whnf)
  ·refine⟨k+1,by omega,by omega,?_⟩;exact lq [(0,_),(2,_),(3,_)] []
  ·rw[if_pos hv];exact aC.frz1 (l:=av p t.classes text) (f:=i64) rfl (by rw[rN om];simp[av]) (by simp[av]) (λ_=>rfl) rfl
 ·rename_i hv;rw[if_neg hv];exact⟨.nil⟩
end
section
open Go Go.Am Classical
set_option maxRecDepth 100000
abbrev bl (a b:Str):Bool:=Op.bytesLess a b
theorem td:∀ a:Str,bl a a=false
 | []=>rfl
 | x::a=>by simp only[bl,Op.bytesLess];simp[td a]
theorem xm:∀ {a b c:Str},bl a b=true->bl b c=true->bl a c=true
 | _,[],_,h,_=>by simp[bl,Op.bytesLess] at h
 | _,_::_,[],_,h=>by simp[bl,Op.bytesLess] at h
 | [],_::_,_::_,_,_=>by simp[bl,Op.bytesLess]
 | x::a,y::b,z::c,h1,h2=>by
  simp only[bl,Op.bytesLess,kN,kC,decide_eq_true_eq,beq_iff_eq] at *;rcases h1 with h1|⟨rfl,h1⟩
  ·rcases h2 with h2|⟨rfl,_⟩
   ·exact .inl (UInt8.lt_trans h1 h2)
   ·exact .inl h1
  ·rcases h2 with h2|⟨rfl,h2⟩
   ·exact .inl h2
   ·exact .inr ⟨rfl,xm h1 h2⟩
structure Mpg where
 frm:Int
 to:List Int
 tag:Str
 deriving Inhabited
def bef (a b:Mpg):Prop:=a.frm<b.frm∨(a.frm=b.frm∧bl a.tag b.tag=true)
theorem Ci {a b c:Mpg}(h1:bef a b) (h2:bef b c):bef a c:=by
 unfold bef at *;rcases h1 with h1|⟨e1,h1⟩<;>rcases h2 with h2|⟨e2,h2⟩
 ·exact .inl om
 ·exact .inl om
 ·exact .inl om
 ·exact .inr ⟨by omega,xm h1 h2⟩
theorem Hp {a b:Mpg}(h:bef a b):¬(b.frm=a.frm∧b.tag=a.tag):=by
 rintro⟨e1,e2⟩;rcases h with h|⟨_,h⟩
 ·omega
 ·rw[e2,td] at h;cases h
def vM (a b:Str):Int:=if bl a b=true then -1 else if a=b then 0 else 1
def FQ (a b:Mpg):Int:=if gp a.frm b.frm=0 then vM a.tag b.tag else gp a.frm b.frm
theorem Av {a b:Mpg}:FQ a b<0↔bef a b:=by
 unfold FQ vM gp bef;by_cases h1:a.frm<b.frm
 ·simp[h1]
 ·by_cases h2:b.frm<a.frm
  ·simp[h1,h2];omega
  ·have e:a.frm=b.frm:=by omega
   simp only[e,if_true,if_false,Int.lt_irrefl,false_or,true_and];by_cases h3:bl a.tag b.tag=true
   ·simp[h3]
   ·simp only[h3];by_cases h4:a.tag=b.tag
    ·simp[h4]
    ·simp[h4]
def cpQ (n:Int):Prop:=0<=n∧n<=1114111
def j5 (m:Mpg):Prop:=cpQ m.frm∧∀ j (h:j<m.to.length),cpQ m.to[j]
def DB (m:Mpg):Prop:=m.tag=[]∨lx m.tag
def Tw (l:List Mpg):Prop:=∃ i,∃ h:i<l.length,∃ k,∃ hk:k<i,l[i].frm=(l[k]'(by omega)).frm∧l[i].tag=(l[k]'(by omega)).tag
def Asc (l:List Mpg):Prop:=∀ i (h:i<l.length),∀ h0:i≠0,bef (l[i-1]'(by omega)) l[i]
theorem Asc.lt {l:List Mpg}(h:Asc l):∀ (d i:Nat) (hi:i+d+1<l.length),bef (l[i]'(by omega)) l[i+d+1]
 | 0,i,hi=>by have:=h (i+1) hi om;simpa using this
 | d+1,i,hi=>Ci (Asc.lt h d i om) (h (i+d+1+1) hi om)
theorem Asc.once {l:List Mpg}(h:Asc l):¬Tw l:=by
 rintro⟨i,hi,k,hk,e⟩;have:=Asc.lt h (i-k-1) k om
 have e2:k+(i-k-1)+1=i:=by omega
 simp only[e2] at this;exact Hp this e
noncomputable def dR (l:List Mpg):Int:=
 if ∀ i (h:i<l.length),j5 l[i] then(if ∀ i (h:i<l.length),l[i].to.length<=64 then(if ∀ i (h:i<l.length),DB l[i] then 0 else 6) else 2) else 1
def MOk (l:List Mpg):Prop:=dR l=0∧Asc l
end
section
open Go Go.Am Classical
set_option maxRecDepth 100000
variable [GT]
abbrev bX (r:Rng):List D:=[i64 r.lo,i64 r.hi]
abbrev bB (l:List Rng):D:=lstS bX l
theorem aw (l:List Rng):aI (bB l)=true:=e8 (λ_=>rfl) l
abbrev iV (m:Mpg):List D:=[i64 m.frm,aD m.to,.str m.tag]
abbrev cH (l:List Mpg):D:=lstS iV l
theorem qi (m:Mpg):aF (iV m)=true:=by simp[aF,aI,aO]
theorem bn (l:List Mpg):aI (cH l)=true:=e8 qi l
structure Db where
 major:Int
 minor:Int
 cat:Prp
 wid:Prp
 scr:Prp
 gra:Prp
 wor:Prp
 sen:Prp
 lin:Prp
 classes:List Spn
 decomp:List Mpg
 excl:List Rng
 lower:List Mpg
 upper:List Mpg
 title:List Mpg
 fold:List Mpg
 cased:List Rng
 ignor:List Rng
 start:List Rng
 cont:List Rng
 medial:List Rng
 confu:List Mpg
abbrev prpC (p:Prp):List D:=[strs p.names,cV p.spans]
abbrev dbC (d:Db):List D:=[i64 d.major,i64 d.minor,strs d.cat.names,cV d.cat.spans,strs d.wid.names,cV d.wid.spans,strs d.scr.names,cV d.scr.spans,strs d.gra.names,cV d.gra.spans,strs d.wor.names,cV d.wor.spans,strs d.sen.names,cV d.sen.spans,strs d.lin.names,cV d.lin.spans,
 cV d.classes,cH d.decomp,bB d.excl,cH d.lower,cH d.upper,cH d.title,cH d.fold,bB d.cased,bB d.ignor,bB d.start,bB d.cont,bB d.medial,cH d.confu]
abbrev dbD (d:Db):D:=.agg (dbC d)
theorem cT (d:Db):aF (dbC d)=true:=by simp[aF,aI,ai,ae,bn,aw]
def prop (d:Db):Nat->Prp
 | 0=>d.cat
 | 1=>d.wid
 | 2=>d.scr
 | 3=>d.gra
 | 4=>d.wor
 | 5=>d.sen
 | _=>d.lin
def Ba (d:Db):Nat->List Rng
 | 0=>d.excl
 | 1=>d.cased
 | 2=>d.ignor
 | 3=>d.start
 | 4=>d.cont
 | _=>d.medial
def fm (d:Db):Nat->List Mpg
 | 9=>d.decomp
 | 11=>d.lower
 | 12=>d.upper
 | 13=>d.title
 | 14=>d.fold
 | _=>d.confu
def ClQ (l:List Spn) (i:Nat) (s:Spn):Prop:=(0<=s.lo∧s.lo<=s.hi∧s.hi<=1114111∧1<=s.val∧s.val<=254) ∧
 (i≠0->(l.getD (i-1) default).hi<s.lo∧¬(s.lo=(l.getD (i-1) default).hi+1∧s.val=(l.getD (i-1) default).val))
def ClV (l:List Spn):Prop:=∀ i (h:i<l.length),ClQ l i l[i]
def uH (n:Int):Prop:=0<=n∧n<=9999
def IP (d:Db):Nat->Prop
 | 0=>uH d.major∧uH d.minor
 | 1=>PrV d.cat
 | 2=>PrV d.wid
 | 3=>PrV d.scr
 | 4=>PrV d.gra
 | 5=>PrV d.wor
 | 6=>PrV d.sen
 | 7=>PrV d.lin
 | 8=>ClV d.classes
 | 9=>MOk d.decomp
 | 10=>cr d.excl
 | 11=>MOk d.lower
 | 12=>MOk d.upper
 | 13=>MOk d.title
 | 14=>MOk d.fold
 | 15=>cr d.cased
 | 16=>cr d.ignor
 | 17=>cr d.start
 | 18=>cr d.cont
 | 19=>cr d.medial
 | _=>MOk d.confu
def DbV (d:Db):Prop:=∀ k,k<21->IP d k
def SmM (l:List Mpg):Prop:=(∀ i (h:i<l.length),i<30->l[i].to.length<=65∧l[i].tag.length<=40)∧l.length<=20
def SmD (d:Db):Prop:=d.classes.length<=16∧(∀ k,k<7->(prop d k).names.length<=30∧(prop d k).spans.length<=16)∧(∀ k,k<6->(Ba d k).length<=12)∧∀ k,k<21->SmM (fm d k)
structure Db.ok (d:Db):Prop where
 prop:∀ k,(prop d k).ok
 sets:∀ k,(Ba d k).length<=9223372036854775807
 maps:∀ k,(fm d k).length<=9223372036854775807∧∀ i (h:i<(fm d k).length),(fm d k)[i].to.length<=9223372036854775807∧(fm d k)[i].tag.length<=9223372036854775807
 classes:d.classes.length<=9223372036854775807
def gY:List Int->Int
 | []=>0
 | e::l=>if e=0 then gY l else e
theorem vH:∀ {l:List Int}{k:Nat}(h:k<l.length),(∀ i (hi:i<l.length),i<k->l[i]=0)->l[k]≠0->gY l=l[k]
 | [],k,h,_,_=>by simp at h
 | e::l,0,_,_,h2=>by simp only[List.getElem_cons_zero] at h2 ⊢;rw[gY,if_neg h2]
 | e::l,k+1,h,h1,h2=>by
  have e0:e=0:=h1 0 si om;rw[gY,if_pos e0];simp only[List.getElem_cons_succ] at h2 ⊢;exact vH (by simpa using h) (λi hi hk=>by have:=h1 (i+1) (by simpa using hi) om;simpa using this) h2
theorem ky:∀ {l:List Int},gY l=0↔∀ i (hi:i<l.length),l[i]=0
 | []=>by simp[gY]
 | e::l=>by
  rw[gY];constructor
  ·intro h i hi;split at h
   ·rename_i e0;cases i with
    | zero=>simpa using e0
    | succ i=>simpa using ky.1 h i (by simpa using hi)
   ·rename_i e0;exact absurd h e0
  ·intro h;have e0:e=0:=h 0 si;rw[if_pos e0];exact ky.2 λi hi=>by have:=h (i+1) (by simpa using hi);simpa using this
end
section
open Go Go.Am Classical
set_option maxRecDepth 100000
theorem xG2.rdX {p:Prop}(h:p:=by first|exact Rd.sl' rfl sim sim|fail):p:=h
theorem xG2.rbX {p:Prop}(h:p:=by first|exact Rb.cells (Rds.eqs (aU (by intro _;rfl) (x::xs) _) (aE (by intro _;rfl) _)) rfl|exact Rb.cells (Rds.eqs (aU (c:=bX) (sz:=2) (by intro _;rfl) (x::xs) (⟨s,b[k]'hk'⟩:Rng)) (aE (by intro _;rfl) _)) rfl|exact Rb.cells (Rds.eqs (aU (c:=bX) (sz:=2) (by intro _;rfl) (x::xs) (⟨s,n⟩:Rng)) (aE (by intro _;rfl) _)) rfl|fail):p:=h
open xG2
variable [GT]
theorem zc {t:Tbl}{l:List Int}(ht:t.ok) (hx:l.length<=1000) (hok:okL t l):Pu Tryz.prog 81 [f9 t,aD l] (aD (acts t l)):=by
 have hL:=Left_c ht hx;have hR:=Hx ht hx;rw[if_pos hok] at hL hR;have hc:=hok.1;have hl:=hok.2.2.2.2.1;have hr:=hok.2.2.2.2.2;have nL:=SL_len (nx:=t.left.next) (l:=l);have nR:=SR_len (nx:=t.right.next) (l:=l);refine pv Tryz.func81 ?_;repeat' ((conv=>whnf);first|exact kQ|(refine bk ?_ ?_<;>intro _<;>try(exfalso;omega))|refine stq ?_|refine cp hL ?_|refine cp hR ?_|fail)
 all_goals(conv=>whnf)
 refine aH.by2 aB T0 (λ(k:Nat) (o:List Int)=>⟨tmp 41 [(2,.ptr 0 0),(5,aD (SL t.left.next l)),(6,aD (SR t.right.next l)),(7,aV 1 1 o),(18,i64 (SL t.left.next l).length),(19,i64 (k:Int))],⟨2,cK 1 (λx=>[i64 x]) o++[(0,.cells [strs t.classes,aD t.actions,bM t.left.next,bM t.left.marks,bM t.right.next,bM t.right.marks] true)]⟩⟩)
  (λk o=>k<=l.length+1∧o=(acts t l).take k) (λk _=>l.length+1-k) 0 [] ⟨by omega,rfl⟩ ?_ ?_
 ·exact lq [(0,_)] []
 intro k o ⟨h3,h4⟩;by_cases hk:k<l.length+1
 ·have d1:=nT hl hc k om;have d2:=kZ hr hc (l.length-k) om;have hd:=E7 hok.2 d1 d2;rw[<-Fp (nx:=t.left.next) (l:=l) (k:=k) om,<-Fo (nx:=t.right.next) (l:=l) (k:=k) om] at hd;have hs:=Co (t:=t) (l:=l) hk;rw[<-h4,<-Fp (nx:=t.left.next) (l:=l) (k:=k) om,<-Fo (nx:=t.right.next) (l:=l) (k:=k) om] at hs;cases o with
  | nil=>
   repeat' ((conv=>whnf);first|exact kQ|(refine bk ?_ ?_<;>intro _<;>try(exfalso;omega))|refine stq ?_|refine cp hd ?_|fail)
   all_goals(conv=>whnf)
   refine⟨k+1,_,⟨by omega,hs.symm⟩,by omega,?_⟩;exact lq [(0,_),(1,_)] []
  | cons x xs=>
   have hlen:(x::xs).length<=1001:=by rw[h4];simp[acts];omega
   repeat' ((conv=>whnf);first|exact kQ|(refine bk ?_ ?_<;>intro _<;>try(exfalso;omega))|refine stq ?_|refine cp hd ?_|fail)
   all_goals(conv=>whnf)
   refine⟨k+1,_,⟨by omega,hs.symm⟩,by omega,?_⟩;exact lq [(0,_),(1,_)] []
 ·have hall:(acts t l).take k=acts t l:=kE (by rw[dY];omega);rw[hall] at h4;cases o with
  | nil=>exact absurd h4.symm (by intro h;have:=dY (t:=t) (l:=l);rw[h] at this;simp at this)
  | cons x xs=>
   repeat' ((conv=>whnf);first|exact kQ|(refine bk ?_ ?_<;>intro _<;>try(exfalso;omega))|refine stq ?_)
   rw[<-h4];exact aC.own1 (id:=1) (l:=x::xs) (λ_=>rfl)
theorem zH {l:List Str}{s:Str}(h:1<=l.length):0<=pD l s∧pD l s<l.length:=by
 unfold pD;split
 ·rename_i hm;have:=List.idxOf_lt_length_of_mem hm
  omega
 ·omega
theorem qo {p:Prp}{t:Tbl}{text:List Int}(hv:TV t):CL (av p t.classes text) t.classes.length:=by
 intro i h;simp only[av,List.getElem_map];exact zH hv.1.1
theorem D5 {p:Prp}{t:Tbl}{text:List Int}(hv:TV t):okL t (av p t.classes text):=⟨qo hv,hv⟩
noncomputable def gg (p:Prp) (t:Tbl) (text:List Int):List Int:=if TV t then acts t (av p t.classes text) else []
theorem qO {p:Prp}{t:Tbl}{text:List Int}(hp:p.ok) (ht:t.ok) (h1:p.names.length<=1000) (h2:p.spans.length<=1000) (hx:text.length<=1000):Pu Tryz.prog 59 [bw p,f9 t,aD text] (aD (gg p t text)):=by
 refine pv Tryz.func59 ?_;by_cases hv:TV t
 ·have hc:=tq (text:=text) hp ht om om om;rw[if_pos hv] at hc;have ha:=zc ht (show(av p t.classes text).length<=1000 by simp[av];omega) (D5 hv);rw[gg,if_pos hv];repeat' ((conv=>whnf);first|exact kQ|(refine bk ?_ ?_<;>intro _<;>try(exfalso;omega))|refine stq ?_|(refine Cll.dec (kY ht) (λ_=>?_) (λ_=>?_)<;>(try contradiction))|refine ac.by aB T0 [0,0,0,0,14,31,63] (by kernel_rfl) ?_|refine cp hc ?_|refine cp ha ?_|fail)
  all_goals(conv=>whnf)
  exact aC.same (aO _) rfl
 ·rw[gg,if_neg hv];repeat' ((conv=>whnf);first|exact kQ|(refine bk ?_ ?_<;>intro _<;>try(exfalso;omega))|refine stq ?_|(refine Cll.dec (kY ht) (λ_=>?_) (λ_=>?_)<;>(try contradiction)))
  all_goals(conv=>whnf)
  exact⟨.nil⟩
def btw:Int->List Int->List Rng
 | _,[]=>[]
 | s,e::l=>if s<e then⟨s,e⟩::btw e l else btw s l
theorem eR {s e:Int}{l:List Int}(h:s<e):btw s (e::l)=⟨s,e⟩::btw e l:=by rw[btw,if_pos h]
theorem jO {s e:Int}{l:List Int}(h:¬s<e):btw s (e::l)=btw s l:=by rw[btw,if_neg h]
theorem dE {α β:Type}{P:Program}(x:Sem α) (f:α->Sem β):bY P (x >>= f)=(bY P x).bind λa=>bY P (f a):=by
 show bY P (x.bind f)=_
 induction x with
 | pure a=>rfl
 | program k ih=>exact ih _
 | mark m k ih=>exact ih
 | _=>rfl
theorem sn {α β:Type}{P:Program}(x:Sem α) (f:α->β):bY P (f <$> x)=(bY P x).map f:=by
 rw[map_eq_pure_bind,dE];cases bY P x<;>rfl
theorem ep {α:Type}{P:Program}(a:α):bY P (pure a:Sem α)=some a:=rfl
theorem fI {P:Program}:bY P program=some P:=rfl
theorem eo {P:Program}{t:TypeId}{d:TypeDesc}(h:P.underlying t=some d):bY P (underlying t)=some d:=by
 simp only[underlying,dE,fI,Option.bind_some,h,ep]
theorem oT {P:Program}{d:Nat}{t:TypeId}{k:IntKind}{a b:Int}(h:P.underlying t=some (.int k)):bY P (Op.equalIn (d+1) t (.int .i64 a) (.int .i64 b))=some (a == b):=by
 simp[Op.equalIn,dE,eo h,ep]
theorem qU {P:Program}{t:TypeId}{k:IntKind}{cs:Array Value}{o:Nat}{v:Value}(h:P.underlying t=some (.int k)) (hv:cs[o]?=some v):bY P (part t cs o)=some v:=by
 simp[part,isAgg,dE,eo h,ep,hv]
theorem oS {P:Program}{d:Nat}{t:TypeId}{f0 f1:Field}{k:IntKind}{a b c e:Int}(h:P.underlying t=some (.struct #[f0,f1])) (hs:P.stoodInHeld t=false) (n0:f0.name ≠ "_") (n1:f1.name ≠ "_") (o0:f0.offset=0) (o1:f1.offset=1) (t0:P.underlying f0.type=some (.int k)) (t1:P.underlying f1.type=some (.int k)) :
  bY P (Op.equalIn (d+2) t (.agg #[.int .i64 a,.int .i64 b]) (.agg #[.int .i64 c,.int .i64 e]))=some (a == c&&b == e):=by
 rw[Op.equalIn];simp[dE,eo h,fI,hs,n0,n1,o0,o1,qU t0,oT t0];by_cases h1:a=c<;>by_cases h2:b=e<;>simp[h1,h2,dE,ep,qU t1,oT t1]
theorem Fl {P:Program}{t:TypeId}{f0 f1:Field}{k:IntKind}{a b c e:Int}{ox oy:Operand}(h:P.underlying t=some (.struct #[f0,f1])) (hs:P.stoodInHeld t=false) (n0:f0.name ≠ "_") (n1:f1.name ≠ "_") (o0:f0.offset=0) (o1:f1.offset=1) (t0:P.underlying f0.type=some (.int k)) (t1:P.underlying f1.type=some (.int k)) (hg:P.eqGuardType P.depth t=false) :
  b9 P .neq t ox oy (.agg [i64 a,i64 b]) (.agg [i64 c,i64 e])=some (.v (.bool (!(a == c&&b == e)))):=by
 have e1:bY P (do eqGuard .neq t ox oy (.agg #[.int .i64 a,.int .i64 b]) (.agg #[.int .i64 c,.int .i64 e]);binOp .neq t (.agg #[.int .i64 a,.int .i64 b]) (.agg #[.int .i64 c,.int .i64 e]))=some (.bool (!(a == c&&b == e))):=by
  have e2:bY P (Op.equalIn 10000 t (.agg #[.int .i64 a,.int .i64 b]) (.agg #[.int .i64 c,.int .i64 e]))=some (a == c&&b == e):=oS (d:=9998) h hs n0 n1 o0 o1 t0 t1;simp[eqGuard,binOp,dE,fI,hg,Op.equal,Op.maxDepth,e2,ep,sn]
 have e3:b9 P .neq t ox oy (.agg [i64 a,i64 b]) (.agg [i64 c,i64 e])=(match bY P (do eqGuard .neq t ox oy (.agg #[.int .i64 a,.int .i64 b]) (.agg #[.int .i64 c,.int .i64 e]);binOp .neq t (.agg #[.int .i64 a,.int .i64 b]) (.agg #[.int .i64 c,.int .i64 e])) with|some r=>ofV r|none=>none):=rfl;rw[e3,e1];rfl
theorem pN {a b c e:Int}{ox oy:Operand}:b9 Tryz.prog .neq 52 ox oy (.agg [i64 a,i64 b]) (.agg [i64 c,i64 e])=some (.v (.bool (!(a == c&&b == e)))):=
 Fl (k:=.i64) rfl (by kernel_rfl) (by decide) (by decide) rfl rfl rfl rfl (by kernel_rfl)
theorem pM {x y:Rng}{ox oy:Operand}(h:¬x=y):b9 Tryz.prog .neq 52 ox oy (.agg (bX x)) (.agg (bX y))=some (.v (.bool true)):=by
 rw[pN];cases x;cases y;simp at h;simp only[kA,D.v.injEq,Value.bool.injEq,Bool.not_eq_true',Bool.and_eq_false_imp,beq_iff_eq,beq_eq_false_iff_ne];exact h
theorem ni {x:Rng}{ox oy:Operand}:b9 Tryz.prog .neq 52 ox oy (.agg (bX x)) (.agg (bX x))=some (.v (.bool false)):=by
 rw[pN];simp
end
end Go.Proofs.YtpgcjpcenaefpaaGreatDoor
