/-
  Contracts of functions over data: properties.
-/
import Derived.Test.YtlimkdlhldlolaaGreatDoorQ1
import Derived.Test.YtlimkdlhldlolaaGreatDoorH0
set_option linter.unusedSectionVars false
namespace Go.Proofs.YtlimkdlhldlolaaGreatDoor
open Go Go.Am Classical
set_option maxRecDepth 100000
section
variable [GT]
theorem tL {s:Str}(hs:s.length<=9223372036854775807):Pu Tryz.prog 158 [.str s] (boo (decide (s≠[]/\s.length<=32/\yh s))):=by
 refine pv Tryz.func158 ?_;repeat' ((conv=>whnf);first|exact kQ|(refine bk ?_ ?_<;>intro _<;>try exact exo)|refine stq ?_)
 all_goals(conv=>whnf)
 all_goals first
  | exact aD.no (λhc=>hc.1 asm)
  | exact aD.no (λhc=>om)
  | skip
 refine aG.by aB T0 (λk:Nat=>⟨tmp 51 [(0,.str s),(14,i64 s.length),(15,i64 (k:Int))],⟨0,[]⟩⟩) (λk=>k<=s.length/\∀ i (h:i<s.length),i<k->wb (s[i].toNat:Int)) (λk=>s.length-k) 0 ⟨om,λ_ _ h=>om⟩ ?_ ?_
 .exact lq0
 intro k ⟨h1,h2⟩;repeat' ((conv=>whnf);first|exact kQ|(refine bk ?_ ?_<;>intro _<;>try exact exo)|refine stq ?_)
 all_goals(conv=>whnf)
 all_goals first
  | exact aD.no (λhc=>absurd (hc.2.2 k om) (by unfold wb;omega))
  | exact aD.yes ⟨asm,om,bt om h2⟩
  | (refine⟨k+1,⟨om,aj om h2 (by unfold wb;omega)⟩,om,?_⟩
     exact lq0)
def PV (l:List Str):Prop:=1<=l.length/\l.length<=250/\∀ i (h:i<l.length),mN l[i]/\¬l[i]∈l.take i
theorem Hz {l:List Str}(hn:l.length<=9223372036854775807) (hl:long l):Pu Tryz.prog 88 [strs l] (boo (decide (PV l))):=by
 refine pv Tryz.func88 ?_;repeat' ((conv=>whnf);first|exact kQ|(refine bk ?_ ?_<;>intro _<;>try exact exo)|refine stq ?_)
 all_goals(conv=>whnf)
 all_goals first
  | exact aD.no (λhc=>by have:=hc.1;have:=hc.2.1;omega)
  | skip
 refine aG.by aB T0 (λk:Nat=>⟨tmp 39 [(0,strs l),(3,i64 (k:Int))],⟨0,[]⟩⟩)
  (λk=>k<=l.length/\∀ i (h:i<l.length),i<k->mN l[i]/\¬l[i]∈l.take i) (λk=>l.length-k) 0 ⟨om,λ_ _ h=>om⟩ ?_ ?_
 .exact lq0
 intro k ⟨h1,h2⟩;repeat' ((conv=>whnf);first|exact kQ|(refine bk ?_ ?_<;>intro _<;>try exact exo)|refine stq ?_|refine cd (Ei sd) (λ_=>?_) (λ_=>?_)|fail)
 all_goals(conv=>whnf)
 all_goals first
  | exact aD.no (λhc=>by obtain⟨⟨_,_,_⟩,_⟩:=hc.2.2 k om;first|omega|contradiction|simp_all)
  | exact aD.yes ⟨om,om,bt om h2⟩
  | skip
 rename_i a1
 refine aG.by aB T0 (λj:Nat=>⟨tmp 39 [(0,strs l),(3,i64 (k:Int)),(4,i64 (j:Int))],⟨0,[]⟩⟩)
  (λj=>j<=k/\∀ i (h:i<l.length),i<j->l[i]≠l[k]) (λj=>k-j) 0 ⟨om,λ_ _ h=>om⟩ ?_ ?_
 .exact lq0
 intro j ⟨h3,h4⟩;repeat' ((conv=>whnf);first|exact kQ|(refine bk ?_ ?_<;>intro _<;>try exact exo)|refine stq ?_)
 all_goals(conv=>whnf)
 all_goals first
  | exact aD.no (λhc=>(hc.2.2 k om).2 (jT.2 ⟨j,om,om,asm⟩))
  | (refine⟨j+1,⟨om,aj om h4 asm⟩,om,?_⟩
     exact lq0)
  | (refine⟨k+1,⟨om,aj om h2 ⟨a1,λhm=>by obtain⟨i,hi,hlt,e⟩:=jT.1 hm;exact h4 i hi om e⟩⟩,om,?_⟩
     exact lq0)
abbrev nilM:D:=.v (.map none)
theorem Fi {l:List Str}(hl:long l) (hp:¬PV l):Pu Tryz.prog 113 [strs l] (.tup [nilM,boo false]):=by
 refine pv Tryz.func113 ?_;repeat' ((conv=>whnf);first|exact kQ|(refine bk ?_ ?_<;>intro _<;>try exact exo)|refine stq ?_)
 all_goals(conv=>whnf)
 all_goals first
  | exact aD.same rfl rfl
  | skip
 refine aG.by aB T0 (λk:Nat=>⟨tmp 42 [(4,.map 0),(18,strs l),(19,i64 l.length),(20,i64 (k:Int))],⟨1,[(0,.map (pos (l.take k) 0))]⟩⟩)
  (λk=>k<=l.length/\∀ i (h:i<l.length),i<k->mN l[i]/\¬l[i]∈l.take i) (λk=>l.length-k) 0 ⟨om,λ_ _ h=>om⟩ ?_ ?_
 .exact lq [(0,_)] []
 intro k ⟨h1,h2⟩;repeat' ((conv=>whnf);first|exact kQ|(refine bk ?_ ?_<;>intro _<;>try exact exo)|refine stq ?_|refine cd (tL sd) (λ_=>?_) (λ_=>?_)|(refine fW.pos (λ_ _=>?_) (λ_=>?_)<;>(try contradiction)))
 all_goals(conv=>whnf)
 all_goals first
  | exact aD.same rfl rfl
  | (exfalso;exact hp ⟨om,om,bt om h2⟩)
  | skip
 rename_i a1 a2 a3;refine⟨k+1,⟨om,aj om h2 ⟨a2,a1⟩⟩,om,?_⟩;exact lq [(0,_)] []
theorem Cx {l:List Str}(hl:long l) (hp:PV l):Pk Tryz.prog 113 [strs l] 1 (λn=>.tup [.map n,boo true]) (λn=>[(n,.map (pos l 0))]):=by
 refine Pk.of_v aB T0 Tryz.func113 rfl rfl (by simp[aF,aX]) ?_;repeat' ((conv=>whnf);first|exact kQ|(refine bk ?_ ?_<;>intro _<;>try exact exo)|refine stq ?_)
 all_goals(conv=>whnf)
 all_goals first
  | (exfalso;have:=hp.1;have:=hp.2.1;omega)
  | skip
 refine aG.by aB T0 (λk:Nat=>⟨tmp 42 [(4,.map 0),(18,strs l),(19,i64 l.length),(20,i64 (k:Int))],⟨1,[(0,.map (pos (l.take k) 0))]⟩⟩)
  (λk=>k<=l.length) (λk=>l.length-k) 0 om ?_ ?_
 .exact lq [(0,_)] []
 intro k h1;repeat' ((conv=>whnf);first|exact kQ|(refine bk ?_ ?_<;>intro _<;>try exact exo)|refine stq ?_|refine cd (tL sd) (λ_=>?_) (λ_=>?_)|(refine fW.pos (λ_ _=>?_) (λ_=>?_)<;>(try contradiction)))
 all_goals(conv=>whnf)
 all_goals first
  | (exfalso;obtain⟨a1,a2⟩:=hp.2.2 k om;first|contradiction|(rename_i a3;exact a3 a1))
  | (refine⟨k+1,om,om,?_⟩
     exact lq [(0,_)] [])
  | exact⟨[0],rfl,⟨si,λn=>.tup (.cons (.map (by simp[sgn])) (.cons (.same rfl) .nil)),λn=>.cons (id:=0) (by simp[sgn]) rfl rfl (.map (.eqs (by rw[kE om]) (dZ _ _))) .nil⟩⟩
structure Spn where
 lo:Int
 hi:Int
 val:Int
 deriving Inhabited
structure Prp where
 names:List Str
 spans:List Spn
abbrev EO (s:Spn):List D:=[i64 s.lo,i64 s.hi,i64 s.val]
abbrev cg (l:List Spn):D:=lstS EO l
abbrev bY (p:Prp):D:=.agg [strs p.names,cg p.spans]
theorem ah (l:List Spn):aK (cg l)=true:=fS (λ_=>rfl) l
theorem io (p:Prp):aK (bY p)=true:=by simp[aK,aF,aX,ah]
structure Prp.ok (p:Prp):Prop where
 names:p.names.length<=9223372036854775807
 long:long p.names
 spans:p.spans.length<=9223372036854775807
def SpQ (l:List Spn) (n:Int) (i:Nat) (s:Spn):Prop:=(0<=s.lo/\s.lo<=s.hi/\s.hi<=1114111/\1<=s.val/\s.val<n) /\
 (i≠0->(l.getD (i-1) default).hi<s.lo/\¬(s.lo=(l.getD (i-1) default).hi+1/\s.val=(l.getD (i-1) default).val))
def PrV (p:Prp):Prop:=PV p.names/\∀ i (h:i<p.spans.length),SpQ p.spans p.names.length i p.spans[i]
theorem lV {n:Int}:Pu Tryz.prog 159 [i64 n] (boo (decide (0<=n/\n<=1114111))):=by
 refine pv Tryz.func159 ?_;repeat' ((conv=>whnf);first|exact kQ|(refine bk ?_ ?_<;>intro _<;>try exact exo)|refine stq ?_)
 all_goals(conv=>whnf)
 all_goals first
  | exact aD.yes om
  | exact aD.no om
theorem xu {s:Spn}:Pu Tryz.prog 114 [.agg (EO s)] (boo (decide (0<=s.lo/\s.lo<=s.hi/\s.hi<=1114111))):=by
 refine pv Tryz.func114 ?_;repeat' ((conv=>whnf);first|exact kQ|(refine bk ?_ ?_<;>intro _<;>try exact exo)|refine stq ?_|refine cd lV (λ_=>?_) (λ_=>?_)|fail)
 all_goals(conv=>whnf)
 all_goals first
  | exact aD.yes om
  | exact aD.no om
theorem wu {p:Prp}(hp:p.ok):Pu Tryz.prog 83 [bY p] (boo (decide (PrV p))):=by
 have hl:=hp.long;have hs:=hp.spans;by_cases hv:PV p.names
 .refine pv Tryz.func83 ?_;repeat' ((conv=>whnf);first|exact kQ|(refine bk ?_ ?_<;>intro _<;>try exact exo)|refine stq ?_|refine Cll.pk (Cx asm asm) ?_)
  (conv=>whnf)
  refine aG.by aB T0 (λk:Nat=>⟨tmp 69 [(1,.ptr 0 0),(17,cg p.spans),(18,i64 p.spans.length),(19,i64 (k:Int))],⟨1,[(0,.cells [strs p.names,cg p.spans] true)]⟩⟩)
   (λk=>k<=p.spans.length/\∀ i (h:i<p.spans.length),i<k->SpQ p.spans p.names.length i p.spans[i]) (λk=>p.spans.length-k) 0 ⟨om,λ_ _ h=>om⟩ ?_ ?_
  .exact lq [(0,_)] []
  intro k ⟨h3,h4⟩;by_cases hk:k=0
  .subst hk;repeat' ((conv=>whnf);first|exact kQ|(refine bk ?_ ?_<;>intro _<;>try exact exo)|refine stq ?_|refine cd xu (λ_=>?_) (λ_=>?_)|fail)
   all_goals(conv=>whnf)
   all_goals first
    | exact aD.no (λhc=>by have:=(hc.2 0 om).1;omega)
    | exact aD.yes ⟨hv,λi h=>om⟩
    | (refine⟨0+1,⟨om,aj om h4 ⟨om,λh=>absurd rfl h⟩⟩,om,?_⟩
       exact lq [(0,_)] [])
  .have h5:=h4 (k-1) om om;have h6:=h5.1;have e:p.spans.getD (k-1) default=p.spans[k-1]:=aH om;repeat' ((conv=>whnf);first|exact kQ|(refine bk ?_ ?_<;>intro _<;>try exact exo)|refine stq ?_|refine cd xu (λ_=>?_) (λ_=>?_)|refine Idx.atS (by intro _;rfl) (k-1) om om ?_)
   all_goals(conv=>whnf)
   all_goals first
    | exact aD.no (λhc=>by have h7:=hc.2 k om;have:=h7.1;have:=h7.2 hk;rw[e] at this;omega)
    | exact aD.yes ⟨hv,bt om h4⟩
    | (refine⟨k+1,⟨om,aj om h4 ⟨om,λ_=>by rw[e];omega⟩⟩,om,?_⟩
       exact lq [(0,_)] [])
 .refine pv Tryz.func83 ?_;repeat' ((conv=>whnf);first|exact kQ|(refine bk ?_ ?_<;>intro _<;>try exact exo)|refine stq ?_|refine cp (Fi asm asm) ?_|fail)
  (conv=>whnf)
  exact aD.no (λhc=>hv hc.1)
theorem eO {p:Prp}(hp:p.ok):Pu Tryz.prog 58 [bY p] (boo (decide (PrV p))):=by
 have hn:=hp.names;have hl:=hp.long;have hs:=hp.spans;refine pv Tryz.func58 ?_;repeat' ((conv=>whnf);first|exact kQ|(refine bk ?_ ?_<;>intro _<;>try exact exo)|refine stq ?_|refine cd (Hz sd sd) (λ_=>?_) (λ_=>?_)|fail)
 all_goals(conv=>whnf)
 all_goals first
  | exact aD.no (λhc=>by have:=hc.1;contradiction)
  | skip
 rename_i hv
 refine aG.by aB T0 (λk:Nat=>⟨tmp 88 [(1,.ptr 0 0),(3,i64 (k:Int))],⟨1,[(0,.cells [strs p.names,cg p.spans] true)]⟩⟩)
  (λk=>k<=p.spans.length/\∀ i (h:i<p.spans.length),i<k->SpQ p.spans p.names.length i p.spans[i]) (λk=>p.spans.length-k) 0 ⟨om,λ_ _ h=>om⟩ ?_ ?_
 .exact lq [(0,_)] []
 intro k ⟨h3,h4⟩;by_cases hk:k=0
 .subst hk;repeat' ((conv=>whnf);first|exact kQ|(refine bk ?_ ?_<;>intro _<;>try exact exo)|refine stq ?_)
  all_goals(conv=>whnf)
  all_goals first
   | exact aD.no (λhc=>by have:=(hc.2 0 om).1;omega)
   | exact aD.yes ⟨hv,λi h=>om⟩
   | (refine⟨0+1,⟨om,aj om h4 ⟨om,λh=>absurd rfl h⟩⟩,om,?_⟩
      exact lq [(0,_)] [])
 .have h5:=h4 (k-1) om om;have h6:=h5.1;have e:p.spans.getD (k-1) default=p.spans[k-1]:=aH om;repeat' ((conv=>whnf);first|exact kQ|(refine bk ?_ ?_<;>intro _<;>try exact exo)|refine stq ?_|refine Idx.atS (by intro _;rfl) (k-1) om om ?_)
  all_goals(conv=>whnf)
  all_goals first
   | exact aD.no (λhc=>by have h7:=hc.2 k om;have:=h7.1;have:=h7.2 hk;rw[e] at this;omega)
   | exact aD.yes ⟨hv,bt om h4⟩
   | (refine⟨k+1,⟨om,aj om h4 ⟨om,λ_=>by rw[e];omega⟩⟩,om,?_⟩
      exact lq [(0,_)] [])
end
section
theorem xG1.rdX {p:Prop}(h:p:=by first|exact Rd.same (ah _)|exact Rd.int em|exact Rd.frzp rfl rfl (Rds.cons (Rd.same (ah _)) Rds.nil)|exact Rd.frzp rfl rfl (Rds.cons (Rd.same rfl) Rds.nil)|exact Rd.sl' rfl sim sim|exact Rd.same (by first|(simp[aK,aF,hc];done)|fail)|exact Rd.int (by first|(rw[em];omega;done)|fail)|fail):p:=h
theorem xG1.rbX {p:Prop}(h:p:=by first|exact Rb.cells (Rds.cons (Rd.same (aX _)) (Rds.cons (Rd.same (ah _)) Rds.nil)) rfl|exact Rb.cells (Rds.eqs (aQ (by intro _;rfl) (x::xs) _) (aE (by intro _;rfl) _)) rfl|exact Rb.cells (Rds.eqs (y7 _) (fh (λ_=>rfl) rfl)) rfl|exact Rb.cells (Rds.eqs (rV om) (aU (λ_=>rfl) _)) rfl|exact Rb.cells (by first|(rw[hcp];exact Rds.same (by first|(simp only[cz,aF,aX,ah,Bool.and_self];done)|fail);done)|fail) rfl|exact Rb.cells (by first|(rw[hcp];exact Rds.cons (Rd.frz rfl rfl (kD rfl) (Rds.cons (Rd.same rfl) Rds.nil)) (Rds.cons Rd.nil Rds.nil);done)|fail) rfl|exact Rb.map (Res.eqs (by first|(rw[kE om];done)|fail) (dZ _ _))|exact Rb.cells (Rds.eqs (by first|(rw[<-rU om];simp[gC,hm];done)|fail) (fh (λ_=>rfl) rfl)) rfl|exact Rb.cells (Rds.eqs (by first|(rw[<-rU om];simp only[gC,hm,if_false];rfl;done)|fail) (fh (λ_=>rfl) rfl)) rfl|exact Rb.cells (Rds.eqs (by first|(rw[<-rU om];rfl;done)|fail) (fh (λ_=>rfl) rfl)) rfl|fail):p:=h
open xG1
variable [GT]
def other:Str:=[79,116,104,101,114]
noncomputable def cnt (p:Prp):Prp:=if PrV p then p else⟨[other],[]⟩
def dj:List Spn->Int->Int
 | [],_=>0
 | s::l,c=>if s.lo<=c/\c<=s.hi then s.val else dj l c
theorem tq {l:List Spn}{k:Nat}(h:k<l.length) (c:Int):dj (l.drop k) c=if l[k].lo<=c/\c<=l[k].hi then l[k].val else dj (l.drop (k+1)) c:=by
 rw[kK h];rfl
theorem uA {p:Prp}(hp:p.ok):Pu Tryz.prog 135 [bY p] (bY (cnt p)):=by
 refine pv Tryz.func135 ?_;repeat' ((conv=>whnf);first|exact kQ|(refine bk ?_ ?_<;>intro _<;>try exact exo)|refine stq ?_|refine cd (eO sd) (λ_=>?_) (λ_=>?_)|fail)
 all_goals(conv=>whnf)
 .rename_i hv;rw[show cnt p=p from by simp[cnt,hv]];exact aD.same (io p) rfl
 .rename_i hv;rw[show cnt p=⟨[other],[]⟩ from by simp[cnt,hv]];exact⟨.agg (.cons (.frz rfl rfl (kD rfl) (.cons (.same rfl) .nil)) (.cons .nil .nil))⟩
theorem get_c {p:Prp}{c:Int}(hp:p.ok):Pu Tryz.prog 136 [bY p,i64 c] (i64 (dj (cnt p).spans c)):=by
 have hs:(cnt p).spans.length<=9223372036854775807:=by
  unfold cnt;split
  .exact hp.spans
  .simp
 refine pv Tryz.func136 ?_;repeat' ((conv=>whnf);first|exact kQ|(refine bk ?_ ?_<;>intro _<;>try exact exo)|refine stq ?_|refine cp (uA sd) ?_|fail)
 (conv=>whnf)
 generalize cnt p=q at *
 refine aG.by aB T0 (λk:Nat=>⟨tmp 40 [(1,i64 c),(5,.ptr 0 0),(6,i64 (k:Int))],⟨1,[(0,.cells [strs q.names,cg q.spans] true)]⟩⟩)
  (λk=>k<=q.spans.length/\dj (q.spans.drop k) c=dj q.spans c) (λk=>q.spans.length-k) 0 ⟨om,rfl⟩ ?_ ?_
 .exact lq [(0,_)] []
 intro k ⟨h3,h4⟩;repeat' ((conv=>whnf);first|exact kQ|(refine bk ?_ ?_<;>intro _<;>try exact exo)|refine stq ?_)
 all_goals(conv=>whnf)
 all_goals first
  | exact aD.int (by rw[<-h4,tq om,if_pos om])
  | exact aD.int (by rw[<-h4,List.drop_eq_nil_of_le om];rfl)
  | (refine⟨k+1,⟨om,by rw[<-h4,tq (k:=k) om,if_neg om]⟩,om,?_⟩
     exact lq [(0,_)] [])
theorem z8 {l:List Spn}{n:Int}(hn:1<=n) (h:∀ i (h:i<l.length),1<=l[i].val/\l[i].val<n) (c:Int):0<=dj l c/\dj l c<n:=by
 induction l with
 | nil=>simp only[dj];omega
 | cons s l ih=>
  simp only[dj];split
  .have:=h 0 si;simp at this;omega
  .exact ih λi hi=>by have:=h (i+1) (by simp;omega);simpa using this
theorem i6 {p:Prp}(c:Int):0<=dj (cnt p).spans c/\dj (cnt p).spans c<(cnt p).names.length:=by
 unfold cnt;split
 .rename_i hv;exact z8 (by have:=hv.1.1;omega) (λi h=>by have:=(hv.2 i h).1;omega) c
 .simp[dj]
theorem Iq {p:Prp}(c:Int):(dj (cnt p).spans c).toNat<(cnt p).names.length:=by have:=i6 (p:=p) c;omega
noncomputable def fu (p:Prp) (c:Int):Str:=(cnt p).names[(dj (cnt p).spans c).toNat]'(Iq c)
theorem vJ {p:Prp}{c:Int}(hp:p.ok):Pu Tryz.prog 97 [bY p,i64 c] (.str (fu p c)):=by
 have hr:=i6 (p:=p) c;refine pv Tryz.func97 ?_;repeat' ((conv=>whnf);first|exact kQ|(refine bk ?_ ?_<;>intro _<;>try exact exo)|refine stq ?_|refine cp (uA sd) ?_|refine cp (get_c sd) ?_|refine Idx.at (dj (cnt p).spans c).toNat om om ?_)
 (conv=>whnf)
 exact aD.same rfl rfl
def gC (l:List Str) (s:Str):Int:=if s∈l then l.idxOf s else 0
theorem xz {l:List Str}{s:Str}{k:Nat}(h:k<l.length) (e:l[k]=s) (hn:¬s∈l.take k):gC l s=k:=by
 have hm:s∈l:=e▸kM h;unfold gC;rw[if_pos hm]
 have h1:l.idxOf s<=k:=by
  refine Nat.le_of_not_lt λhlt=>?_
  have:=List.not_of_lt_findIdx hlt
  simp[e] at this
 have h2:¬l.idxOf s<k:=λhlt=>hn (jT.2 ⟨l.idxOf s,om,hlt,si⟩)
 congr 1;omega
theorem wr {l:List Str}{s:Str}(hn:l.length<=9223372036854775807):Pu Tryz.prog 96 [strs l,.str s] (i64 (gC l s)):=by
 refine pv Tryz.func96 ?_;repeat' ((conv=>whnf);first|exact kQ|(refine bk ?_ ?_<;>intro _<;>try exact exo)|refine stq ?_)
 refine aG.by aB T0 (λk:Nat=>⟨tmp 19 [(0,strs l),(1,.str s),(5,i64 (k:Int))],⟨0,[]⟩⟩)
  (λk=>k<=l.length/\¬s∈l.take k) (λk=>l.length-k) 0 ⟨om,si⟩ ?_ ?_
 .exact lq0
 intro k ⟨h3,h4⟩;repeat' ((conv=>whnf);first|exact kQ|(refine bk ?_ ?_<;>intro _<;>try exact exo)|refine stq ?_)
 all_goals(conv=>whnf)
 all_goals first
  | exact aD.int (xz om asm h4).symm
  | exact aD.int (by rw[kE om] at h4;simp[gC,h4])
  | (refine⟨k+1,⟨om,by rw[bI om];simp only[List.mem_append,List.mem_singleton,not_or];exact⟨h4,λe=>by simp_all⟩⟩,om,?_⟩
     exact lq0)
noncomputable def aW (p:Prp) (l:List Str) (text:List Int):List Int:=text.map λc=>gC l (fu p c)
theorem kc {p:Prp}{l:List Str}{text:List Int}{k:Nat}(h:k<text.length):aW p l (text.take (k+1))=aW p l (text.take k)++[gC l (fu p text[k])]:=(kg h).symm
theorem B0 {p:Prp}{l:List Str}{text:List Int}(hp:p.ok) (hl:l.length<=9223372036854775807) (ht:text.length<=1000):Pu Tryz.prog 67 [bY p,strs l,aC text] (aC (aW p l text)):=by
 refine pv Tryz.func67 ?_;repeat' ((conv=>whnf);first|exact kQ|(refine bk ?_ ?_<;>intro _<;>try exact exo)|refine stq ?_)
 refine aG.by2 aB T0 (λ(k:Nat) (o:List Int)=>⟨tmp 27 [(1,strs l),(2,aC text),(3,.ptr 0 0),(7,aP 1 1 o),(8,i64 (k:Int))],⟨2,bS 1 (λx=>[i64 x]) o++[(0,.cells [strs p.names,cg p.spans] true)]⟩⟩)
  (λk o=>k<=text.length/\o=aW p l (text.take k)) (λk _=>text.length-k) 0 [] ⟨om,rfl⟩ ?_ ?_
 .exact lq [(0,_)] []
 intro k o ⟨h3,h4⟩;cases o with
 | nil=>
  repeat' ((conv=>whnf);first|exact kQ|(refine bk ?_ ?_<;>intro _<;>try exact exo)|refine stq ?_|refine cp (vJ sd) ?_|refine cp (wr sd) ?_|refine ac.by aB T0 [0,0,0,0,0,24,56,124,254,510,1023,2047] (by kernel_rfl) ?_)
  all_goals(conv=>whnf)
  .refine⟨k+1,([]:List Int)++[gC l (fu p text[k])],⟨om,by simp only[kc (show k<text.length by omega),<-h4]⟩,om,?_⟩;exact lq [(0,_),(1,_)] []
  .rw[show aW p l text=[] from by rw[h4,kE om]];exact⟨.nil⟩
 | cons x xs=>
  have hk:(x::xs).length<=1000:=by rw[h4];simp[aW];omega
  repeat' ((conv=>whnf);first|exact kQ|(refine bk ?_ ?_<;>intro _<;>try exact exo)|refine stq ?_|refine cp (vJ sd) ?_|refine cp (wr sd) ?_|refine ac.by aB T0 [0,0,0,0,0,24,56,124,254,510,1023,2047] (by kernel_rfl) ?_)
  all_goals(conv=>whnf)
  .refine⟨k+1,(x::xs)++[gC l (fu p text[k])],⟨om,by simp only[kc (show k<text.length by omega),<-h4]⟩,om,?_⟩;exact lq [(0,_),(1,_)] []
  .rw[show aW p l text=x::xs from by rw[h4,kE om]];exact aD.own1 (id:=1) (l:=x::xs) (λ_=>rfl)
theorem wg {n s:Nat}{g:FuncId}{cap:List D}{p:Nat->Prop}(hc:aF cap=true) (hn:n<=4611686018427387903) (hs:s<=n) (h1:∀ i,i<s->¬p i) (h2:∀ i,s<=i->i<n->p i)
  (hf:∀ i:Nat,i<n->Pu Tryz.prog g ([i64 i]++cap) (boo (decide (p i)))):Pu Tryz.prog 115 [i64 n,.fn (.func g) [] cap] (i64 s):=by
 refine Pu.of_v aB T0 Tryz.func115 rfl rfl (by simp[aK,aF,hc]) ?_;repeat' ((conv=>whnf);first|exact kQ|(refine bk ?_ ?_<;>intro _<;>try exact exo)|refine stq ?_)
 refine aG.by2 aB T0 (λi j:Nat=>⟨tmp 26 [(1,.fn (.func g) [] cap),(5,i64 i),(6,i64 j)],⟨0,[]⟩⟩)
  (λi j=>i<=s/\s<=j/\j<=n) (λi j=>j-i) 0 n ⟨om,om,om⟩ ?_ ?_
 .exact lq0
 intro i j ⟨h3,h4,h5⟩
 have em:IntKind.i64.wrap ((IntKind.u64.wrap ((i:Int)+(j:Int))).fdiv (2 ^ min (Int.toNat 1) IntKind.u64.bits))=(((i+j) / 2:Nat):Int):=by
  have e1:IntKind.u64.wrap ((i:Int)+(j:Int))=(i:Int)+(j:Int):=by
   simp[IntKind.wrap,IntKind.bits,IntKind.signed];omega
  rw[e1,Int.fdiv_eq_ediv_of_nonneg _ (by decide)];simp[IntKind.wrap,IntKind.bits,IntKind.signed];omega
 repeat' ((conv=>whnf);first|exact kQ|(refine bk ?_ ?_<;>intro _<;>try exact exo)|refine stq ?_|refine cd (p:=p ((i+j) / 2)) (by rw[em];exact hf _ om) (λ_=>?_) (λ_=>?_)|refine Chk.mk (ko (by rw[em];omega) (by rw[em];omega)) ?_)
 all_goals(conv=>whnf)
 all_goals first
  | exact aD.int om
  | (refine⟨i,(i+j) / 2,⟨om,Nat.le_of_not_lt λhlt=>h1 _ hlt asm,om⟩,om,?_⟩
     exact lq0)
  | (refine⟨(i+j) / 2+1,j,⟨Nat.succ_le_of_lt (Nat.lt_of_not_le λhle=>absurd (h2 _ hle om) asm),om,om⟩,om,?_⟩
     exact lq0)
theorem D0 {l:List Spn}{c:Int}{k:Nat}(hk:k<l.length):Pu Tryz.prog 116 ([i64 (k:Int)]++[.iptr [cg l],.iptr [i64 c]]) (boo (decide (c<=l[k].hi))):=by
 refine pv Tryz.func116 ?_;repeat' ((conv=>whnf);first|exact kQ|(refine bk ?_ ?_<;>intro _<;>try exact exo)|refine stq ?_)
 all_goals(conv=>whnf)
 all_goals first
  | exact aD.yes om
  | exact aD.no om
def Di (l:List Spn):Prop:=∀ i (h:i<l.length),l[i].lo<=l[i].hi/\∀ h0:i≠0,(l[i-1]'(by omega)).hi<l[i].lo
theorem HV {l:List Spn}{n:Int}(h:∀ i (h:i<l.length),SpQ l n i l[i]):Di l:=λi hi=>by
 obtain⟨h1,h2⟩:=h i hi;refine⟨om,λh0=>?_⟩;have:=(h2 h0).1
 rwa [aH om] at this
theorem un {l:List Spn}(h:Di l){i:Nat}(j:Nat) (hi:i<l.length) (hj:i+j<l.length):l[i].hi<=l[i+j].hi:=by
 induction j with
 | zero=>exact Int.le_refl _
 | succ j ih=>
  have h1:=ih om;have h2:=h (i+(j+1)) hj;have h3:=h2.2 om;have h4:=h2.1;have e:i+(j+1)-1=i+j:=by omega
  simp only[e] at h3;omega
theorem tp {l:List Spn}{c:Int}(h:∀ i (h:i<l.length),¬(l[i].lo<=c/\c<=l[i].hi)):dj l c=0:=by
 induction l with
 | nil=>rfl
 | cons s l ih=>
  simp only[dj];rw[if_neg (show ¬(s.lo<=c/\c<=s.hi) from h 0 si)];exact ih λi hi=>h (i+1) (by simpa using hi)
theorem IY {l:List Spn}{c:Int}{s:Nat}(hs:s<l.length) (h:∀ i (hi:i<l.length),i<s->¬(l[i].lo<=c/\c<=l[i].hi)) (h2:l[s].lo<=c/\c<=l[s].hi):dj l c=l[s].val:=by
 induction l generalizing s with
 | nil=>simp at hs
 | cons x l ih=>
  simp only[dj];cases s with
  | zero=>rw[if_pos (show x.lo<=c/\c<=x.hi from h2)];rfl
  | succ s=>
   rw[if_neg (show ¬(x.lo<=c/\c<=x.hi) from h 0 si om)];exact ih (s:=s) (by simpa using hs) (λi hi hlt=>h (i+1) (by simpa using hi) om) h2
noncomputable def bD (l:List Spn) (c:Int):Nat:=l.findIdx λs=>decide (c<=s.hi)
theorem rR (l:List Spn) (c:Int):bD l c<=l.length:=List.findIdx_le_length
theorem fj {l:List Spn}{c:Int}{i:Nat}(h:i<l.length) (hlt:i<bD l c):¬c<=l[i].hi:=by
 have:=List.not_of_lt_findIdx hlt
 simpa using this
theorem mU {l:List Spn}{c:Int}(h:bD l c<l.length):c<=l[bD l c].hi:=by
 have:=List.findIdx_getElem (p:=λs:Spn=>decide (c<=s.hi)) (w:=h)
 exact of_decide_eq_true this
theorem rJ {l:List Spn}(hr:Di l) (c:Int):dj l c=if h:bD l c<l.length then(if l[bD l c].lo<=c then l[bD l c].val else 0) else 0:=by
 split
 .rename_i hs;have h1:=mU hs;split
  .rename_i h2;exact IY hs (λi hi hlt=>by have:=fj hi hlt;omega) ⟨h2,h1⟩
  .rename_i h2;refine tp λi hi=>?_
   rcases Nat.lt_trichotomy i (bD l c) with hlt|he|hgt
   .have:=fj hi hlt;omega
   .subst he;omega
   .have h3:=un hr (i-1-bD l c) hs om;have h4:=(hr i hi).2 om;have e:bD l c+(i-1-bD l c)=i-1:=by omega
    simp only[e] at h3;omega
 .rename_i hs;refine tp λi hi=>?_
  have:=fj (c:=c) hi om
  omega
theorem Af {l:List Spn}{c:Int}(hn:l.length<=4611686018427387903) (hr:Di l):Pu Tryz.prog 84 [cg l,i64 c] (i64 (dj l c)):=by
 rw[rJ hr c];have h0:=rR l c
 have hse:Pu Tryz.prog 115 [i64 l.length,.fn (.func 116) [] [.iptr [cg l],.iptr [i64 c]]] (i64 (bD l c)):=
  wg (p:=λi=>∃ h:i<l.length,c<=l[i].hi) (by simp[aK,aF,ah]) hn h0 (λi hi ⟨h,hc⟩=>fj h hi hc)
   (λi h1 h2=>⟨h2,by
    have h3:=mU (l:=l) (c:=c) om;have h4:=un hr (i-bD l c) (i:=bD l c) om om;have e:bD l c+(i-bD l c)=i:=by omega
    simp only[e] at h4
    omega⟩)
   (λi hi=>by
    have:=D0 (l:=l) (c:=c) hi
    exact(congrArg (λb=>Pu Tryz.prog _ _ (boo b)) (decide_eq_decide.2 ⟨λh=>⟨hi,h⟩,λ⟨_,h⟩=>h⟩)).mp this)
 refine pv Tryz.func84 ?_
 conv=>whnf
 refine bX.weak aB T0 (s0:=⟨tmp 28 [(2,.iptr [cg l]),(3,.iptr [i64 c])],⟨0,[]⟩⟩) ?_ ?_
 .exact lq [] [0,1]
 repeat' ((conv=>whnf);first|exact kQ|(refine bk ?_ ?_<;>intro _<;>try exact exo)|refine stq ?_|refine cp hse ?_|fail)
 all_goals(conv=>whnf)
 all_goals first
  | exact aD.int (by rw[dif_pos om,if_pos asm])
  | exact aD.int (by rw[dif_pos om,if_neg asm])
  | exact aD.int (by rw[dif_neg om])
theorem yT (p:Prp):Di (cnt p).spans:=by
 unfold cnt;split
 .rename_i hv;exact HV hv.2
 .intro i h;simp at h
theorem DP {p:Prp}(h:p.spans.length<=1000):(cnt p).spans.length<=1000:=by
 unfold cnt;split
 .exact h
 .simp
theorem DQ {p:Prp}(h:p.names.length<=1000):(cnt p).names.length<=1000:=by
 unfold cnt;split
 .exact h
 .simp
set_option maxHeartbeats 8000000 in
theorem uQ {p:Prp}{t:Tbl}{text:List Int}(hp:p.ok) (ht:t.ok) (hx:text.length<=1000) (hs:p.spans.length<=1000) (hnn:p.names.length<=1000):Pu Tryz.prog 55 [bY p,gQ t,aC text] (aC (if TV t then aW p t.classes text else [])):=by
 have h1:=ht.classes;have hr:=yT p;have hs2:=DP hs;have hn2:=DQ hnn;refine pv Tryz.func55 ?_;repeat' ((conv=>whnf);first|exact kQ|(refine bk ?_ ?_<;>intro _<;>try exact exo)|refine stq ?_|refine cd (lA sd) (λ_=>?_) (λ_=>?_)|refine cd (wu sd) (λ_=>?_) (λ_=>?_)|fail)
 all_goals(conv=>whnf)
 .rename_i hv hpv;have hcp:cnt p=p:=by simp[cnt,hpv]
  refine aG.by aB T0 (λk:Nat=>⟨tmp 81 [(2,aC text),(3,.ptr 0 0),(7,.map 1),(29,strs t.classes),(30,i64 t.classes.length),(31,i64 (k:Int))],⟨2,[(0,.cells [strs (cnt p).names,cg (cnt p).spans] true),(1,.map (pos (t.classes.take k) 0))]⟩⟩)
   (λk=>k<=t.classes.length) (λk=>t.classes.length-k) 0 om ?_ ?_
  .exact lq [(0,_),(1,_)] [9]
  intro k h3;repeat' ((conv=>whnf);first|exact kQ|(refine bk ?_ ?_<;>intro _<;>try exact exo)|refine stq ?_|(refine fW.pos (λ_ _=>?_) (λ_=>?_)<;>(try(exfalso;exact(hv.1.2.2 k om).2 asm))))
  all_goals(conv=>whnf)
  .refine⟨k+1,om,om,?_⟩;exact lq [(0,_),(1,_)] []
  refine aG.by aB T0 (λk:Nat=>⟨tmp 81 [(2,aC text),(3,.ptr 0 0),(7,.map 1),(10,.sl 2 0 (cnt p).names.length (cnt p).names.length 1 true),(45,strs (cnt p).names),(46,i64 (cnt p).names.length),(47,i64 (k:Int))],⟨3,[(0,.cells [strs (cnt p).names,cg (cnt p).spans] true),(1,.map (pos t.classes 0)),(2,.cells (gw (λs=>i64 (gC t.classes s)) (i64 0) (cnt p).names k) true)]⟩⟩)
   (λk=>k<=(cnt p).names.length) (λk=>(cnt p).names.length-k) 0 om ?_ ?_
  .exact lq [(0,_),(1,_),(2,_)] []
  intro k h4;repeat' ((conv=>whnf);first|exact kQ|(refine bk ?_ ?_<;>intro _<;>try exact exo)|refine stq ?_|(refine fW.pos (λ_ _=>?_) (λ_=>?_))|refine Put.one (by rw[iK om];omega) ?_)
  all_goals(conv=>whnf)
  .rename_i _ hm;refine⟨k+1,om,om,?_⟩;exact lq [(0,_),(1,_),(2,_)] []
  .rename_i hm;refine⟨k+1,om,om,?_⟩;exact lq [(0,_),(1,_),(2,_)] []
  refine aG.by aB T0 (λk:Nat=>⟨tmp 81 [(3,.ptr 0 0),(10,.sl 2 0 (cnt p).names.length (cnt p).names.length 1 true),(13,.sl 3 0 text.length text.length 1 true),(62,aC text),(63,i64 text.length),(64,i64 (k:Int))],⟨4,[(0,.cells [strs (cnt p).names,cg (cnt p).spans] true),(2,.cells ((cnt p).names.map λs=>i64 (gC t.classes s)) true),(3,.cells (gw (λc=>i64 (gC t.classes (fu p c))) (i64 0) text k) true)]⟩⟩)
   (λk=>k<=text.length) (λk=>text.length-k) 0 om ?_ ?_
  .exact lq [(0,_),(2,_),(3,_)] []
  intro k h5;have hg:=i6 (p:=p) (text.getD k 0);repeat' ((conv=>whnf);first|exact kQ|(refine bk ?_ ?_<;>intro _<;>try exact exo)|refine stq ?_|refine cp (Af sd sd) ?_|refine bT.at (dj (cnt p).spans text[k]).toNat (by rw[aH om] at hg;omega) (by rw[aH om] at hg;omega) ?_|refine Get.map (by rw[aH om] at hg;omega) ?_|refine Put.one (by rw[iK om];omega) ?_)
  all_goals(conv=>whnf)
  .refine⟨k+1,om,om,?_⟩;exact lq [(0,_),(2,_),(3,_)] []
  .rw[if_pos hv];exact aD.frz1 (l:=aW p t.classes text) (f:=i64) rfl (by rw[rV om];simp[aW]) (by simp[aW]) (λ_=>rfl) rfl
 .rename_i hv hpv;have hcp:cnt p=⟨[other],[]⟩:=by simp[cnt,hpv]
  refine aG.by aB T0 (λk:Nat=>⟨tmp 81 [(2,aC text),(3,.ptr 0 0),(7,.map 1),(29,strs t.classes),(30,i64 t.classes.length),(31,i64 (k:Int))],⟨2,[(0,.cells [strs (cnt p).names,cg (cnt p).spans] true),(1,.map (pos (t.classes.take k) 0))]⟩⟩)
   (λk=>k<=t.classes.length) (λk=>t.classes.length-k) 0 om ?_ ?_
  .exact lq [(0,_),(1,_)] [9]
  intro k h3;repeat' ((conv=>whnf);first|exact kQ|(refine bk ?_ ?_<;>intro _<;>try exact exo)|refine stq ?_|(refine fW.pos (λ_ _=>?_) (λ_=>?_)<;>(try(exfalso;exact(hv.1.2.2 k om).2 asm))))
  all_goals(conv=>whnf)
  .refine⟨k+1,om,om,?_⟩;exact lq [(0,_),(1,_)] []
  refine aG.by aB T0 (λk:Nat=>⟨tmp 81 [(2,aC text),(3,.ptr 0 0),(7,.map 1),(10,.sl 2 0 (cnt p).names.length (cnt p).names.length 1 true),(45,strs (cnt p).names),(46,i64 (cnt p).names.length),(47,i64 (k:Int))],⟨3,[(0,.cells [strs (cnt p).names,cg (cnt p).spans] true),(1,.map (pos t.classes 0)),(2,.cells (gw (λs=>i64 (gC t.classes s)) (i64 0) (cnt p).names k) true)]⟩⟩)
   (λk=>k<=(cnt p).names.length) (λk=>(cnt p).names.length-k) 0 om ?_ ?_
  .exact lq [(0,_),(1,_),(2,_)] []
  intro k h4;repeat' ((conv=>whnf);first|exact kQ|(refine bk ?_ ?_<;>intro _<;>try exact exo)|refine stq ?_|(refine fW.pos (λ_ _=>?_) (λ_=>?_))|refine Put.one (by rw[iK om];omega) ?_)
  all_goals(conv=>whnf)
  .rename_i _ hm;refine⟨k+1,om,om,?_⟩;exact lq [(0,_),(1,_),(2,_)] []
  .rename_i hm;refine⟨k+1,om,om,?_⟩;exact lq [(0,_),(1,_),(2,_)] []
  refine aG.by aB T0 (λk:Nat=>⟨tmp 81 [(3,.ptr 0 0),(10,.sl 2 0 (cnt p).names.length (cnt p).names.length 1 true),(13,.sl 3 0 text.length text.length 1 true),(62,aC text),(63,i64 text.length),(64,i64 (k:Int))],⟨4,[(0,.cells [strs (cnt p).names,cg (cnt p).spans] true),(2,.cells ((cnt p).names.map λs=>i64 (gC t.classes s)) true),(3,.cells (gw (λc=>i64 (gC t.classes (fu p c))) (i64 0) text k) true)]⟩⟩)
   (λk=>k<=text.length) (λk=>text.length-k) 0 om ?_ ?_
  .exact lq [(0,_),(2,_),(3,_)] []
  intro k h5;have hg:=i6 (p:=p) (text.getD k 0);repeat' ((conv=>whnf);first|exact kQ|(refine bk ?_ ?_<;>intro _<;>try exact exo)|refine stq ?_|refine cp (Af sd sd) ?_|refine bT.at (dj (cnt p).spans text[k]).toNat (by rw[aH om] at hg;omega) (by rw[aH om] at hg;omega) ?_|refine Get.map (by rw[aH om] at hg;omega) ?_|refine Put.one (by rw[iK om];omega) ?_)
  all_goals(conv=>whnf)
  .refine⟨k+1,om,om,?_⟩;exact lq [(0,_),(2,_),(3,_)] []
  .rw[if_pos hv];exact aD.frz1 (l:=aW p t.classes text) (f:=i64) rfl (by rw[rV om];simp[aW]) (by simp[aW]) (λ_=>rfl) rfl
 .rename_i hv;rw[if_neg hv];exact⟨.nil⟩
end
section
abbrev bl (a b:Str):Bool:=Op.bytesLess a b
theorem uH:∀ a:Str,bl a a=false
 | []=>rfl
 | x::a=>by simp only[bl,Op.bytesLess];simp[uH a]
theorem yd:∀ {a b c:Str},bl a b=true->bl b c=true->bl a c=true
 | _,[],_,h,_=>by simp[bl,Op.bytesLess] at h
 | _,_::_,[],_,h=>by simp[bl,Op.bytesLess] at h
 | [],_::_,_::_,_,_=>by simp[bl,Op.bytesLess]
 | x::a,y::b,z::c,h1,h2=>by
  simp only[bl,Op.bytesLess,kN,kC,decide_eq_true_eq,beq_iff_eq] at *;rcases h1 with h1|⟨rfl,h1⟩
  .rcases h2 with h2|⟨rfl,_⟩
   .exact .inl (UInt8.lt_trans h1 h2)
   .exact .inl h1
  .rcases h2 with h2|⟨rfl,h2⟩
   .exact .inl h2
   .exact .inr ⟨rfl,yd h1 h2⟩
structure Mpg where
 frm:Int
 to:List Int
 tag:Str
 deriving Inhabited
def bef (a b:Mpg):Prop:=a.frm<b.frm\/(a.frm=b.frm/\bl a.tag b.tag=true)
theorem DY {a b c:Mpg}(h1:bef a b) (h2:bef b c):bef a c:=by
 unfold bef at *;rcases h1 with h1|⟨e1,h1⟩<;>rcases h2 with h2|⟨e2,h2⟩
 .exact .inl om
 .exact .inl om
 .exact .inl om
 .exact .inr ⟨om,yd h1 h2⟩
theorem I0 {a b:Mpg}(h:bef a b):¬(b.frm=a.frm/\b.tag=a.tag):=by
 rintro⟨e1,e2⟩;rcases h with h|⟨_,h⟩
 .omega
 .rw[e2,uH] at h;cases h
def vZ (a b:Str):Int:=if bl a b=true then -1 else if a=b then 0 else 1
def GI (a b:Mpg):Int:=if iB a.frm b.frm=0 then vZ a.tag b.tag else iB a.frm b.frm
theorem Bj {a b:Mpg}:GI a b<0↔bef a b:=by
 unfold GI vZ iB bef;by_cases h1:a.frm<b.frm
 .simp[h1]
 .by_cases h2:b.frm<a.frm
  .simp[h1,h2];omega
  .have e:a.frm=b.frm:=om;simp only[e,if_true,if_false,Int.lt_irrefl,false_or,true_and];by_cases h3:bl a.tag b.tag=true
   .simp[h3]
   .simp only[h3];by_cases h4:a.tag=b.tag
    .simp[h4]
    .simp[h4]
def cpQ (n:Int):Prop:=0<=n/\n<=1114111
def kr (m:Mpg):Prop:=cpQ m.frm/\∀ j (h:j<m.to.length),cpQ m.to[j]
def D8 (m:Mpg):Prop:=m.tag=[]\/mN m.tag
def Tw (l:List Mpg):Prop:=∃ i,∃ h:i<l.length,∃ k,∃ hk:k<i,l[i].frm=(l[k]'(by omega)).frm/\l[i].tag=(l[k]'(by omega)).tag
def Asc (l:List Mpg):Prop:=∀ i (h:i<l.length),∀ h0:i≠0,bef (l[i-1]'(by omega)) l[i]
theorem Asc.lt {l:List Mpg}(h:Asc l):∀ (d i:Nat) (hi:i+d+1<l.length),bef (l[i]'(by omega)) l[i+d+1]
 | 0,i,hi=>by have:=h (i+1) hi om;simpa using this
 | d+1,i,hi=>DY (Asc.lt h d i om) (h (i+d+1+1) hi om)
theorem Asc.once {l:List Mpg}(h:Asc l):¬Tw l:=by
 rintro⟨i,hi,k,hk,e⟩;have:=Asc.lt h (i-k-1) k om
 have e2:k+(i-k-1)+1=i:=by omega
 simp only[e2] at this;exact I0 this e
noncomputable def dg (l:List Mpg):Int:=
 if ∀ i (h:i<l.length),kr l[i] then(if ∀ i (h:i<l.length),l[i].to.length<=64 then(if ∀ i (h:i<l.length),D8 l[i] then 0 else 6) else 2) else 1
def MOk (l:List Mpg):Prop:=dg l=0/\Asc l
end
section
variable [GT]
abbrev bm (r:Rng):List D:=[i64 r.lo,i64 r.hi]
abbrev ax (l:List Rng):D:=lstS bm l
theorem ak (l:List Rng):aK (ax l)=true:=fS (λ_=>rfl) l
abbrev iu (m:Mpg):List D:=[i64 m.frm,aC m.to,.str m.tag]
abbrev cT (l:List Mpg):D:=lstS iu l
theorem ql (m:Mpg):aF (iu m)=true:=by simp[aF,aK,aM]
theorem bn (l:List Mpg):aK (cT l)=true:=fS ql l
structure Db where
 major:Int
 minor:Int
 cat:Prp
 wid:Prp
 scr:Prp
 gra:Prp
 wor:Prp
 sen:Prp
 lin:Prp
 classes:List Spn
 decomp:List Mpg
 excl:List Rng
 lower:List Mpg
 upper:List Mpg
 title:List Mpg
 fold:List Mpg
 cased:List Rng
 ignor:List Rng
 start:List Rng
 cont:List Rng
 medial:List Rng
 confu:List Mpg
abbrev prpC (p:Prp):List D:=[strs p.names,cg p.spans]
abbrev dbC (d:Db):List D:=[i64 d.major,i64 d.minor,strs d.cat.names,cg d.cat.spans,strs d.wid.names,cg d.wid.spans,strs d.scr.names,cg d.scr.spans,strs d.gra.names,cg d.gra.spans,strs d.wor.names,cg d.wor.spans,strs d.sen.names,cg d.sen.spans,strs d.lin.names,cg d.lin.spans,
 cg d.classes,cT d.decomp,ax d.excl,cT d.lower,cT d.upper,cT d.title,cT d.fold,ax d.cased,ax d.ignor,ax d.start,ax d.cont,ax d.medial,cT d.confu]
abbrev dbD (d:Db):D:=.agg (dbC d)
theorem cV (d:Db):aF (dbC d)=true:=by simp[aF,aK,aX,ah,bn,ak]
def prop (d:Db):Nat->Prp
 | 0=>d.cat
 | 1=>d.wid
 | 2=>d.scr
 | 3=>d.gra
 | 4=>d.wor
 | 5=>d.sen
 | _=>d.lin
def CH (d:Db):Nat->List Rng
 | 0=>d.excl
 | 1=>d.cased
 | 2=>d.ignor
 | 3=>d.start
 | 4=>d.cont
 | _=>d.medial
def gB (d:Db):Nat->List Mpg
 | 9=>d.decomp
 | 11=>d.lower
 | 12=>d.upper
 | 13=>d.title
 | 14=>d.fold
 | _=>d.confu
def ClQ (l:List Spn) (i:Nat) (s:Spn):Prop:=(0<=s.lo/\s.lo<=s.hi/\s.hi<=1114111/\1<=s.val/\s.val<=254) /\
 (i≠0->(l.getD (i-1) default).hi<s.lo/\¬(s.lo=(l.getD (i-1) default).hi+1/\s.val=(l.getD (i-1) default).val))
def ClV (l:List Spn):Prop:=∀ i (h:i<l.length),ClQ l i l[i]
def uX (n:Int):Prop:=0<=n/\n<=9999
def Ja (d:Db):Nat->Prop
 | 0=>uX d.major/\uX d.minor
 | 1=>PrV d.cat
 | 2=>PrV d.wid
 | 3=>PrV d.scr
 | 4=>PrV d.gra
 | 5=>PrV d.wor
 | 6=>PrV d.sen
 | 7=>PrV d.lin
 | 8=>ClV d.classes
 | 9=>MOk d.decomp
 | 10=>dB d.excl
 | 11=>MOk d.lower
 | 12=>MOk d.upper
 | 13=>MOk d.title
 | 14=>MOk d.fold
 | 15=>dB d.cased
 | 16=>dB d.ignor
 | 17=>dB d.start
 | 18=>dB d.cont
 | 19=>dB d.medial
 | _=>MOk d.confu
def DbV (d:Db):Prop:=∀ k,k<21->Ja d k
def SmM (l:List Mpg):Prop:=(∀ i (h:i<l.length),i<30->l[i].to.length<=65/\l[i].tag.length<=40)/\l.length<=20
def SmD (d:Db):Prop:=d.classes.length<=16/\(∀ k,k<7->(prop d k).names.length<=30/\(prop d k).spans.length<=16)/\(∀ k,k<6->(CH d k).length<=12)/\∀ k,k<21->SmM (gB d k)
structure Db.ok (d:Db):Prop where
 prop:∀ k,(prop d k).ok
 sets:∀ k,(CH d k).length<=9223372036854775807
 maps:∀ k,(gB d k).length<=9223372036854775807/\∀ i (h:i<(gB d k).length),(gB d k)[i].to.length<=9223372036854775807/\(gB d k)[i].tag.length<=9223372036854775807
 classes:d.classes.length<=9223372036854775807
def gx:List Int->Int
 | []=>0
 | e::l=>if e=0 then gx l else e
theorem vV:∀ {l:List Int}{k:Nat}(h:k<l.length),(∀ i (hi:i<l.length),i<k->l[i]=0)->l[k]≠0->gx l=l[k]
 | [],k,h,_,_=>by simp at h
 | e::l,0,_,_,h2=>by simp only[List.getElem_cons_zero] at h2 ⊢;rw[gx,if_neg h2]
 | e::l,k+1,h,h1,h2=>by
  have e0:e=0:=h1 0 si om;rw[gx,if_pos e0];simp only[List.getElem_cons_succ] at h2 ⊢;exact vV (by simpa using h) (λi hi hk=>by have:=h1 (i+1) (by simpa using hi) om;simpa using this) h2
theorem lQ:∀ {l:List Int},gx l=0↔∀ i (hi:i<l.length),l[i]=0
 | []=>by simp[gx]
 | e::l=>by
  rw[gx];constructor
  .intro h i hi;split at h
   .rename_i e0;cases i with
    | zero=>simpa using e0
    | succ i=>simpa using lQ.1 h i (by simpa using hi)
   .rename_i e0;exact absurd h e0
  .intro h;have e0:e=0:=h 0 si;rw[if_pos e0];exact lQ.2 λi hi=>by have:=h (i+1) (by simpa using hi);simpa using this
end
section
theorem xG2.rdX {p:Prop}(h:p:=by first|exact Rd.sl' rfl sim sim|fail):p:=h
theorem xG2.rbX {p:Prop}(h:p:=by first|exact Rb.cells (Rds.eqs (aQ (by intro _;rfl) (x::xs) _) (aE (by intro _;rfl) _)) rfl|exact Rb.cells (Rds.eqs (aQ (c:=bm) (sz:=2) (by intro _;rfl) (x::xs) (⟨s,b[k]'hk'⟩:Rng)) (aE (by intro _;rfl) _)) rfl|exact Rb.cells (Rds.eqs (aQ (c:=bm) (sz:=2) (by intro _;rfl) (x::xs) (⟨s,n⟩:Rng)) (aE (by intro _;rfl) _)) rfl|fail):p:=h
open xG2
variable [GT]
theorem AP {t:Tbl}{l:List Int}(ht:t.ok) (hx:l.length<=1000) (hok:okL t l):Pu Tryz.prog 80 [gQ t,aC l] (aC (acts t l)):=by
 have hL:=Left_c ht hx;have hR:=I8 ht hx;rw[if_pos hok] at hL hR;have hc:=hok.1;have hl:=hok.2.2.2.2.1;have hr:=hok.2.2.2.2.2;have nL:=SL_len (nx:=t.left.next) (l:=l);have nR:=SR_len (nx:=t.right.next) (l:=l);refine pv Tryz.func80 ?_;repeat' ((conv=>whnf);first|exact kQ|(refine bk ?_ ?_<;>intro _<;>try exact exo)|refine stq ?_|refine cp hL ?_|refine cp hR ?_|fail)
 (conv=>whnf)
 refine aG.by2 aB T0 (λ(k:Nat) (o:List Int)=>⟨tmp 41 [(2,.ptr 0 0),(5,aC (SL t.left.next l)),(6,aC (SR t.right.next l)),(7,aP 1 1 o),(18,i64 (SL t.left.next l).length),(19,i64 (k:Int))],⟨2,bS 1 (λx=>[i64 x]) o++[(0,.cells [strs t.classes,aC t.actions,bU t.left.next,bU t.left.marks,bU t.right.next,bU t.right.marks] true)]⟩⟩)
  (λk o=>k<=l.length+1/\o=(acts t l).take k) (λk _=>l.length+1-k) 0 [] ⟨om,rfl⟩ ?_ ?_
 .exact lq [(0,_)] []
 intro k o ⟨h3,h4⟩;by_cases hk:k<l.length+1
 .have d1:=nt hl hc k om;have d2:=lB hr hc (l.length-k) om;have hd:=F7 hok.2 d1 d2;rw[<-Gi (nx:=t.left.next) (l:=l) (k:=k) om,<-Gh (nx:=t.right.next) (l:=l) (k:=k) om] at hd;have hs:=De (t:=t) (l:=l) hk;rw[<-h4,<-Gi (nx:=t.left.next) (l:=l) (k:=k) om,<-Gh (nx:=t.right.next) (l:=l) (k:=k) om] at hs;cases o with
  | nil=>
   repeat' ((conv=>whnf);first|exact kQ|(refine bk ?_ ?_<;>intro _<;>try exact exo)|refine stq ?_|refine cp hd ?_|fail)
   (conv=>whnf)
   refine⟨k+1,_,⟨om,hs.symm⟩,om,?_⟩;exact lq [(0,_),(1,_)] []
  | cons x xs=>
   have hlen:(x::xs).length<=1001:=by rw[h4];simp[acts];omega
   repeat' ((conv=>whnf);first|exact kQ|(refine bk ?_ ?_<;>intro _<;>try exact exo)|refine stq ?_|refine cp hd ?_|fail)
   (conv=>whnf)
   refine⟨k+1,_,⟨om,hs.symm⟩,om,?_⟩;exact lq [(0,_),(1,_)] []
 .have hall:(acts t l).take k=acts t l:=kE (by rw[cm];omega);rw[hall] at h4;cases o with
  | nil=>exact absurd h4.symm (by intro h;have:=cm (t:=t) (l:=l);rw[h] at this;simp at this)
  | cons x xs=>
   repeat' ((conv=>whnf);first|exact kQ|(refine bk ?_ ?_<;>intro _<;>try exact exo)|refine stq ?_)
   rw[<-h4];exact aD.own1 (id:=1) (l:=x::xs) (λ_=>rfl)
theorem z7 {l:List Str}{s:Str}(h:1<=l.length):0<=gC l s/\gC l s<l.length:=by
 unfold gC;split
 .rename_i hm;have:=List.idxOf_lt_length_of_mem hm
  omega
 .omega
theorem ip {p:Prp}{t:Tbl}{text:List Int}(hv:TV t):CL (aW p t.classes text) t.classes.length:=by
 intro i h;simp only[aW,List.getElem_map];exact z7 hv.1.1
theorem FB {p:Prp}{t:Tbl}{text:List Int}(hv:TV t):okL t (aW p t.classes text):=⟨ip hv,hv⟩
noncomputable def cn (p:Prp) (t:Tbl) (text:List Int):List Int:=if TV t then acts t (aW p t.classes text) else []
theorem qR {p:Prp}{t:Tbl}{text:List Int}(hp:p.ok) (ht:t.ok) (h1:p.names.length<=1000) (h2:p.spans.length<=1000) (hx:text.length<=1000):Pu Tryz.prog 53 [bY p,gQ t,aC text] (aC (cn p t text)):=by
 refine pv Tryz.func53 ?_;by_cases hv:TV t
 .have hc:=uQ (text:=text) hp ht om om om;rw[if_pos hv] at hc;have ha:=AP ht (show(aW p t.classes text).length<=1000 by simp[aW];omega) (FB hv);rw[cn,if_pos hv];repeat' ((conv=>whnf);first|exact kQ|(refine bk ?_ ?_<;>intro _<;>try exact exo)|refine stq ?_|(refine Cll.dec (lA ht) (λ_=>?_) (λ_=>?_)<;>(try contradiction))|refine ac.by aB T0 [0,0,0,0,14,31,63] (by kernel_rfl) ?_|refine cp hc ?_|refine cp ha ?_|fail)
  (conv=>whnf)
  exact aD.same (aM _) rfl
 .rw[cn,if_neg hv];repeat' ((conv=>whnf);first|exact kQ|(refine bk ?_ ?_<;>intro _<;>try exact exo)|refine stq ?_|(refine Cll.dec (lA ht) (λ_=>?_) (λ_=>?_)<;>(try contradiction)))
  (conv=>whnf)
  exact⟨.nil⟩
def btw:Int->List Int->List Rng
 | _,[]=>[]
 | s,e::l=>if s<e then⟨s,e⟩::btw e l else btw s l
theorem cJ {s e:Int}{l:List Int}(h:s<e):btw s (e::l)=⟨s,e⟩::btw e l:=by rw[btw,if_pos h]
theorem dW {s e:Int}{l:List Int}(h:¬s<e):btw s (e::l)=btw s l:=by rw[btw,if_neg h]
theorem po {b:List Int}{n:Int}{k:Nat}(h:k<b.length):(b++[n]).drop k=b[k]::(b++[n]).drop (k+1):=by
 rw[kK (by simp;omega),List.getElem_append_left h]
theorem pq {b:List Int}{n:Int}{k:Nat}(h:k=b.length):(b++[n]).drop k=n::(b++[n]).drop (k+1):=by
 rw[kK (by simp;omega),List.getElem_append_right om];simp
theorem yK {b:List Int}{n:Int}{k:Nat}(h:¬k<=b.length):(b++[n]).drop k=[]:=List.drop_of_length_le (by simp;omega)
theorem Dn {b:List Int}{n:Int}(hx:b.length<=1001):Pu Tryz.prog 45 [aC b,i64 n] (ax (btw 0 (b++[n]))):=by
 refine pv Tryz.func45 ?_;repeat' ((conv=>whnf);first|exact kQ|(refine bk ?_ ?_<;>intro _<;>try exact exo)|refine stq ?_)
 refine aG.by3 aB T0 (λ(k:Nat) (s:Int) (o:List Rng)=>⟨tmp 35 [(0,aC b),(1,i64 n),(5,aP 0 2 o),(6,i64 s),(7,i64 (k:Int))],⟨1,bS 0 bm o⟩⟩)
  (λk s o=>(k<=b.length+1/\o.length<=k)/\btw 0 (b++[n])=o++btw s ((b++[n]).drop k)) (λk _ _=>b.length+1-k) 0 0 [] ⟨⟨om,si⟩,rfl⟩ ?_ ?_
 .exact lq0
 intro k s o ⟨⟨h3,h5⟩,h4⟩;cases o with
 | nil=>
  repeat' ((conv=>whnf);first|exact kQ|(refine bk ?_ ?_<;>intro _<;>try exact exo)|refine stq ?_)
  all_goals(conv=>whnf)
  all_goals first
   | (refine⟨k+1,s,[],⟨⟨om,si⟩,by rw[h4,po om,dW om]⟩,om,?_⟩
      exact lq0)
   | (refine⟨k+1,s,[],⟨⟨om,si⟩,by rw[h4,pq om,dW om]⟩,om,?_⟩
      exact lq0)
   | (have hk':k<b.length:=by omega
      refine⟨k+1,b[k]'hk',[⟨s,b[k]'hk'⟩],⟨⟨om,si⟩,by rw[h4,po hk',cJ om];rfl⟩,om,?_⟩
      exact lq [(0,_)] [])
   | (refine⟨k+1,n,[⟨s,n⟩],⟨⟨om,si⟩,by rw[h4,pq om,cJ om];rfl⟩,om,?_⟩
      exact lq [(0,_)] [])
   | (rw[h4,yK om]
      exact⟨.nil⟩)
 | cons x xs=>
  have hlen:(x::xs).length<=1002:=by omega
  repeat' ((conv=>whnf);first|exact kQ|(refine bk ?_ ?_<;>intro _<;>try exact exo)|refine stq ?_)
  all_goals(conv=>whnf)
  all_goals first
   | (refine⟨k+1,s,x::xs,⟨⟨om,om⟩,by rw[h4,po om,dW om]⟩,om,?_⟩
      exact lq [(0,_)] [])
   | (refine⟨k+1,s,x::xs,⟨⟨om,om⟩,by rw[h4,pq om,dW om]⟩,om,?_⟩
      exact lq [(0,_)] [])
   | (have hk':k<b.length:=by omega
      refine⟨k+1,b[k]'hk',(x::xs)++[⟨s,b[k]'hk'⟩],⟨⟨om,by rw[kG];simp only[List.length_singleton];omega⟩,by rw[h4,po hk',cJ om,List.append_assoc];rfl⟩,om,?_⟩
      exact lq [(0,_)] [])
   | (refine⟨k+1,n,(x::xs)++[⟨s,n⟩],⟨⟨om,by rw[kG];simp only[List.length_singleton];omega⟩,by rw[h4,pq om,cJ om,List.append_assoc];rfl⟩,om,?_⟩
      exact lq [(0,_)] [])
   | (rw[h4,yK om,btw,List.append_nil]
      exact aD.own (id:=0) (es:=2) (c:=bm) (l:=x::xs) (rest:=[]) (λ_=>rfl) (λ_=>rfl))
theorem eD {α β:Type}{P:Program}(x:Sem α) (f:α->Sem β):cD P (x >>= f)=(cD P x).bind λa=>cD P (f a):=by
 show cD P (x.bind f)=_
 induction x with
 | pure a=>rfl
 | program k ih=>exact ih _
 | mark m k ih=>exact ih
 | _=>rfl
theorem CT {α β:Type}{P:Program}(x:Sem α) (f:α->β):cD P (f <$> x)=(cD P x).map f:=by
 rw[map_eq_pure_bind,eD];cases cD P x<;>rfl
theorem gW {α:Type}{P:Program}(a:α):cD P (pure a:Sem α)=some a:=rfl
theorem iO {P:Program}:cD P program=some P:=rfl
theorem fL {P:Program}{t:TypeId}{d:TypeDesc}(h:P.underlying t=some d):cD P (underlying t)=some d:=by
 simp only[underlying,eD,iO,Option.bind_some,h,gW]
theorem oh {P:Program}{d:Nat}{t:TypeId}{k:IntKind}{a b:Int}(h:P.underlying t=some (.int k)):cD P (Op.equalIn (d+1) t (.int .i64 a) (.int .i64 b))=some (a == b):=by
 simp[Op.equalIn,eD,fL h,gW]
theorem qX {P:Program}{t:TypeId}{k:IntKind}{cs:Array Value}{o:Nat}{v:Value}(h:P.underlying t=some (.int k)) (hv:cs[o]?=some v):cD P (part t cs o)=some v:=by
 simp[part,isAgg,eD,fL h,gW,hv]
theorem ww {P:Program}{d:Nat}{t:TypeId}{f0 f1:Field}{k:IntKind}{a b c e:Int}(h:P.underlying t=some (.struct #[f0,f1])) (hs:P.stoodInHeld t=false) (n0:f0.name ≠ "_") (n1:f1.name ≠ "_") (o0:f0.offset=0) (o1:f1.offset=1) (t0:P.underlying f0.type=some (.int k)) (t1:P.underlying f1.type=some (.int k)) :
  cD P (Op.equalIn (d+2) t (.agg #[.int .i64 a,.int .i64 b]) (.agg #[.int .i64 c,.int .i64 e]))=some (a == c&&b == e):=by
 rw[Op.equalIn];simp[eD,fL h,iO,hs,n0,n1,o0,o1,qX t0,oh t0];by_cases h1:a=c<;>by_cases h2:b=e<;>simp[h1,h2,eD,gW,qX t1,oh t1]
theorem Gg {P:Program}{t:TypeId}{f0 f1:Field}{k:IntKind}{a b c e:Int}{ox oy:Operand}(h:P.underlying t=some (.struct #[f0,f1])) (hs:P.stoodInHeld t=false) (n0:f0.name ≠ "_") (n1:f1.name ≠ "_") (o0:f0.offset=0) (o1:f1.offset=1) (t0:P.underlying f0.type=some (.int k)) (t1:P.underlying f1.type=some (.int k)) (hg:P.eqGuardType P.depth t=false) :
  cS P .neq t ox oy (.agg [i64 a,i64 b]) (.agg [i64 c,i64 e])=some (.v (.bool (!(a == c&&b == e)))):=by
 have e1:cD P (do eqGuard .neq t ox oy (.agg #[.int .i64 a,.int .i64 b]) (.agg #[.int .i64 c,.int .i64 e]);binOp .neq t (.agg #[.int .i64 a,.int .i64 b]) (.agg #[.int .i64 c,.int .i64 e]))=some (.bool (!(a == c&&b == e))):=by
  have e2:cD P (Op.equalIn 10000 t (.agg #[.int .i64 a,.int .i64 b]) (.agg #[.int .i64 c,.int .i64 e]))=some (a == c&&b == e):=ww (d:=9998) h hs n0 n1 o0 o1 t0 t1;simp[eqGuard,binOp,eD,iO,hg,Op.equal,Op.maxDepth,e2,gW,CT]
 have e3:cS P .neq t ox oy (.agg [i64 a,i64 b]) (.agg [i64 c,i64 e])=(match cD P (do eqGuard .neq t ox oy (.agg #[.int .i64 a,.int .i64 b]) (.agg #[.int .i64 c,.int .i64 e]);binOp .neq t (.agg #[.int .i64 a,.int .i64 b]) (.agg #[.int .i64 c,.int .i64 e])) with|some r=>ofV r|none=>none):=rfl;rw[e3,e1];rfl
theorem pX {a b c e:Int}{ox oy:Operand}:cS Tryz.prog .neq 54 ox oy (.agg [i64 a,i64 b]) (.agg [i64 c,i64 e])=some (.v (.bool (!(a == c&&b == e)))):=
 Gg (k:=.i64) rfl (by kernel_rfl) (by decide) (by decide) rfl rfl rfl rfl (by kernel_rfl)
theorem pW {x y:Rng}{ox oy:Operand}(h:¬x=y):cS Tryz.prog .neq 54 ox oy (.agg (bm x)) (.agg (bm y))=some (.v (.bool true)):=by
 rw[pX];cases x;cases y;simp at h;simp only[kA,D.v.injEq,Value.bool.injEq,Bool.not_eq_true',Bool.and_eq_false_imp,beq_iff_eq,beq_eq_false_iff_ne];exact h
theorem oC {x:Rng}{ox oy:Operand}:cS Tryz.prog .neq 54 ox oy (.agg (bm x)) (.agg (bm x))=some (.v (.bool false)):=by
 rw[pX];simp
end
end Go.Proofs.YtlimkdlhldlolaaGreatDoor
