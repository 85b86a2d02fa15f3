/-
  Contracts of functions over data: properties.
-/
import Derived.Test.YtjpgpihbhicinaaGreatDoorQ1
import Derived.Test.YtjpgpihbhicinaaGreatDoorAmF
import Derived.Test.YtjpgpihbhicinaaGreatDoorH0
set_option linter.unusedSectionVars false
namespace Go.Proofs.YtjpgpihbhicinaaGreatDoor
section
open Go Go.Am Classical
set_option maxRecDepth 100000
variable [GT]
theorem j8 {s:Str}(hs:s.length≤9223372036854775807):Pu Tryz.prog 127 [.str s] (boo (decide (s≠[]∧s.length≤32∧za s))):=by
 refine Pu.of_v aA T0 Tryz.func127 rfl rfl rfl ?_;repeat' ((conv=>whnf)<;>(first|refine aE.go aA T0 ?_|exact kQ|(refine Br.mk (fun _=>?_) (fun _=>?_)<;>(try(exfalso;omega)))|refine stq ?_))
 all_goals(conv=>whnf)
 all_goals first
  | exact aN.no (fun hc=>hc.1 (by assumption))
  | exact aN.no (fun hc=>by omega)
  | skip
 refine aT.by aA T0 (fun k:Nat=>⟨tmp 51 [(0,.str s),(14,i64 s.length),(15,i64 (k:Int))],⟨0,[]⟩⟩) (fun k=>k≤s.length∧∀ i (h:i<s.length),i<k→wb (s[i].toNat:Int)) (fun k=>s.length-k) 0 ⟨by omega,fun _ _ h=>by omega⟩ ?_ ?_
 ·exact Lf.of2 [] [] enA bxA rfl rfl
 intro k ⟨h1,h2⟩;repeat' ((conv=>whnf)<;>(first|refine aE.go aA T0 ?_|exact kQ|(refine Br.mk (fun _=>?_) (fun _=>?_)<;>(try(exfalso;omega)))|refine stq ?_))
 all_goals(conv=>whnf)
 all_goals first
  | exact aN.no (fun hc=>absurd (hc.2.2 k (by omega)) (by unfold wb;omega))
  | exact aN.yes ⟨by assumption,by omega,dJ (by omega) h2⟩
  | (refine⟨k+1,⟨by omega,bc (by omega) h2 (by unfold wb;omega)⟩,by omega,?_⟩
     exact Lf.of2 [] [] enA bxA rfl rfl)
def PV (l:List Str):Prop:=1≤l.length∧l.length≤250∧∀ i (h:i<l.length),mj l[i]∧¬l[i]∈l.take i
abbrev nilM:D:=.v (.map none)
theorem BL {l:List Str}(hl:long l) (hp:¬PV l):Pu Tryz.prog 93 [strs l] (.tup [nilM,boo false]):=by
 refine Pu.of_v aA T0 Tryz.func93 rfl rfl (by simp[aC,aG]) ?_;repeat' ((conv=>whnf)<;>(first|refine aE.go aA T0 ?_|exact kQ|(refine Br.mk (fun _=>?_) (fun _=>?_)<;>(try(exfalso;omega)))|refine stq ?_))
 all_goals(conv=>whnf)
 all_goals first
  | exact aN.same rfl rfl
  | skip
 refine aT.by aA T0 (fun k:Nat=>⟨tmp 42 [(4,.map 0),(18,strs l),(19,i64 l.length),(20,i64 (k:Int))],⟨1,[(0,.map (pos (l.take k) 0))]⟩⟩)
  (fun k=>k≤l.length∧∀ i (h:i<l.length),i<k→mj l[i]∧¬l[i]∈l.take i) (fun k=>l.length-k) 0 ⟨by omega,fun _ _ h=>by omega⟩ ?_ ?_
 ·exact Lf.of2 [(0,_)] [] enA bxA rfl rfl
 intro k ⟨h1,h2⟩;repeat' ((conv=>whnf)<;>(first|refine aE.go aA T0 ?_|exact kQ|(refine Br.mk (fun _=>?_) (fun _=>?_)<;>(try(exfalso;omega)))|refine stq ?_|refine Cll.dec (j8 sd) (fun _=>?_) (fun _=>?_)|refine aW.dec (j8 sd) (fun _=>?_) (fun _=>?_)|(refine fL.pos (fun _ _=>?_) (fun _=>?_)<;>(try contradiction))))
 all_goals(conv=>whnf)
 all_goals first
  | exact aN.same rfl rfl
  | (exfalso;exact hp ⟨by omega,by omega,dJ (by omega) h2⟩)
  | skip
 rename_i a1 a2 a3;refine⟨k+1,⟨by omega,bc (by omega) h2 ⟨a2,a1⟩⟩,by omega,?_⟩;exact Lf.of2 [(0,_)] [] enA bxA rfl rfl
theorem y8 {l:List Str}(hl:long l) (hp:PV l):Pk Tryz.prog 93 [strs l] 1 (fun n=>.tup [.map n,boo true]) (fun n=>[(n,.map (pos l 0))]):=by
 refine Pk.of_v aA T0 Tryz.func93 rfl rfl (by simp[aC,aG]) ?_;repeat' ((conv=>whnf)<;>(first|refine aE.go aA T0 ?_|exact kQ|(refine Br.mk (fun _=>?_) (fun _=>?_)<;>(try(exfalso;omega)))|refine stq ?_))
 all_goals(conv=>whnf)
 all_goals first
  | (exfalso;have:=hp.1;have:=hp.2.1;omega)
  | skip
 refine aT.by aA T0 (fun k:Nat=>⟨tmp 42 [(4,.map 0),(18,strs l),(19,i64 l.length),(20,i64 (k:Int))],⟨1,[(0,.map (pos (l.take k) 0))]⟩⟩)
  (fun k=>k≤l.length) (fun k=>l.length-k) 0 (by omega) ?_ ?_
 ·exact Lf.of2 [(0,_)] [] enA bxA rfl rfl
 intro k h1;repeat' ((conv=>whnf)<;>(first|refine aE.go aA T0 ?_|exact kQ|(refine Br.mk (fun _=>?_) (fun _=>?_)<;>(try(exfalso;omega)))|refine stq ?_|refine Cll.dec (j8 sd) (fun _=>?_) (fun _=>?_)|refine aW.dec (j8 sd) (fun _=>?_) (fun _=>?_)|(refine fL.pos (fun _ _=>?_) (fun _=>?_)<;>(try contradiction))))
 all_goals(conv=>whnf)
 all_goals first
  | (exfalso;obtain⟨a1,a2⟩:=hp.2.2 k (by omega);first|contradiction|(rename_i a3;exact a3 a1))
  | (refine⟨k+1,by omega,by omega,?_⟩
     exact Lf.of2 [(0,_)] [] enA bxA rfl rfl)
  | exact⟨[0],rfl,⟨by simp,fun n=>.tup (.cons (.map (by simp[sgn])) (.cons (.same rfl) .nil)),fun n=>.cons (id:=0) (by simp[sgn]) rfl rfl (.map (.eqs (by rw[kE (by omega)]) (aZ _ _))) .nil⟩⟩
structure Spn where
 lo:Int
 hi:Int
 val:Int
 deriving Inhabited
structure Prp where
 names:List Str
 spans:List Spn
abbrev AE (s:Spn):List D:=[i64 s.lo,i64 s.hi,i64 s.val]
abbrev dN (l:List Spn):D:=lstS AE l
abbrev fF (p:Prp):D:=.agg [strs p.names,dN p.spans]
theorem aJ (l:List Spn):aH (dN l)=true:=eW (fun _=>rfl) l
theorem rS (p:Prp):aH (fF p)=true:=by simp[aH,aC,aG,aJ]
structure Prp.ok (p:Prp):Prop where
 names:p.names.length≤9223372036854775807
 long:long p.names
 spans:p.spans.length≤9223372036854775807
def SpQ (l:List Spn) (n:Int) (i:Nat) (s:Spn):Prop:=(0≤s.lo∧s.lo≤s.hi∧s.hi≤1114111∧1≤s.val∧s.val<n) ∧
 (i≠0→(l.getD (i-1) default).hi<s.lo∧¬(s.lo=(l.getD (i-1) default).hi+1∧s.val=(l.getD (i-1) default).val))
def PrV (p:Prp):Prop:=PV p.names∧∀ i (h:i<p.spans.length),SpQ p.spans p.names.length i p.spans[i]
theorem du {n:Int}:Pu Tryz.prog 128 [i64 n] (boo (decide (0≤n∧n≤1114111))):=by
 refine Pu.of_v aA T0 Tryz.func128 rfl rfl rfl ?_;repeat' ((conv=>whnf)<;>(first|refine aE.go aA T0 ?_|exact kQ|(refine Br.mk (fun _=>?_) (fun _=>?_)<;>(try(exfalso;omega)))|refine stq ?_))
 all_goals(conv=>whnf)
 all_goals first
  | exact aN.yes (by omega)
  | exact aN.no (by omega)
theorem mI {s:Spn}:Pu Tryz.prog 94 [.agg (AE s)] (boo (decide (0≤s.lo∧s.lo≤s.hi∧s.hi≤1114111))):=by
 refine Pu.of_v aA T0 Tryz.func94 rfl rfl rfl ?_;repeat' ((conv=>whnf)<;>(first|refine aE.go aA T0 ?_|exact kQ|(refine Br.mk (fun _=>?_) (fun _=>?_)<;>(try(exfalso;omega)))|refine stq ?_|refine Cll.dec (du) (fun _=>?_) (fun _=>?_)|refine aW.dec (du) (fun _=>?_) (fun _=>?_)))
 all_goals(conv=>whnf)
 all_goals first
  | exact aN.yes (by omega)
  | exact aN.no (by omega)
theorem lw {p:Prp}(hp:p.ok):Pu Tryz.prog 68 [fF p] (boo (decide (PrV p))):=by
 have hl:=hp.long;have hs:=hp.spans;by_cases hv:PV p.names
 ·refine Pu.of_v aA T0 Tryz.func68 rfl rfl (by simp[aH,aC,aG,aJ]) ?_;repeat' ((conv=>whnf)<;>(first|refine aE.go aA T0 ?_|exact kQ|(refine Br.mk (fun _=>?_) (fun _=>?_)<;>(try(exfalso;omega)))|refine stq ?_|refine Cll.pk (y8 (by assumption) (by assumption)) ?_))
  all_goals(conv=>whnf)
  refine aT.by aA T0 (fun k:Nat=>⟨tmp 69 [(1,.ptr 0 0),(17,dN p.spans),(18,i64 p.spans.length),(19,i64 (k:Int))],⟨1,[(0,.cells [strs p.names,dN p.spans] true)]⟩⟩)
   (fun k=>k≤p.spans.length∧∀ i (h:i<p.spans.length),i<k→SpQ p.spans p.names.length i p.spans[i]) (fun k=>p.spans.length-k) 0 ⟨by omega,fun _ _ h=>by omega⟩ ?_ ?_
  ·exact Lf.of2 [(0,_)] [] enA bxA rfl rfl
  intro k ⟨h3,h4⟩;by_cases hk:k=0
  ·subst hk;repeat' ((conv=>whnf)<;>(first|refine aE.go aA T0 ?_|exact kQ|(refine Br.mk (fun _=>?_) (fun _=>?_)<;>(try(exfalso;omega)))|refine stq ?_|refine Cll.dec (mI) (fun _=>?_) (fun _=>?_)|refine aW.dec (mI) (fun _=>?_) (fun _=>?_)))
   all_goals(conv=>whnf)
   all_goals first
    | exact aN.no (fun hc=>by have:=(hc.2 0 (by omega)).1;omega)
    | exact aN.yes ⟨hv,fun i h=>by omega⟩
    | (refine⟨0+1,⟨by omega,bc (by omega) h4 ⟨by omega,fun h=>absurd rfl h⟩⟩,by omega,?_⟩
       exact Lf.of2 [(0,_)] [] enA bxA rfl rfl)
  ·have h5:=h4 (k-1) (by omega) (by omega);have h6:=h5.1;have e:p.spans.getD (k-1) default=p.spans[k-1]:=ac (by omega);repeat' ((conv=>whnf)<;>(first|refine aE.go aA T0 ?_|exact kQ|(refine Br.mk (fun _=>?_) (fun _=>?_)<;>(try(exfalso;omega)))|refine stq ?_|refine Cll.dec (mI) (fun _=>?_) (fun _=>?_)|refine aW.dec (mI) (fun _=>?_) (fun _=>?_)|refine Idx.atS (by intro _;rfl) (k-1) (by omega) (by omega) ?_))
   all_goals(conv=>whnf)
   all_goals first
    | exact aN.no (fun hc=>by have h7:=hc.2 k (by omega);have:=h7.1;have:=h7.2 hk;rw[e] at this;omega)
    | exact aN.yes ⟨hv,dJ (by omega) h4⟩
    | (refine⟨k+1,⟨by omega,bc (by omega) h4 ⟨by omega,fun _=>by rw[e];omega⟩⟩,by omega,?_⟩
       exact Lf.of2 [(0,_)] [] enA bxA rfl rfl)
 ·refine Pu.of_v aA T0 Tryz.func68 rfl rfl (by simp[aH,aC,aG,aJ]) ?_;repeat' ((conv=>whnf)<;>(first|refine aE.go aA T0 ?_|exact kQ|(refine Br.mk (fun _=>?_) (fun _=>?_)<;>(try(exfalso;omega)))|refine stq ?_|refine Cll.pu (BL (by assumption) (by assumption)) ?_))
  all_goals(conv=>whnf)
  exact aN.no (fun hc=>hv hc.1)
end
section
open Go Go.Am Classical
set_option maxRecDepth 100000
variable [GT]
def other:Str:=[79,116,104,101,114]
noncomputable def cnt (p:Prp):Prp:=if PrV p then p else⟨[other],[]⟩
def jD:List Spn→Int→Int
 | [],_=>0
 | s::l,c=>if s.lo≤c∧c≤s.hi then s.val else jD l c
theorem wO {l:List Spn}{n:Int}(hn:1≤n) (h:∀ i (h:i<l.length),1≤l[i].val∧l[i].val<n) (c:Int):0≤jD l c∧jD l c<n:=by
 induction l with
 | nil=>simp only[jD];omega
 | cons s l ih=>
  simp only[jD];split
  ·have:=h 0 (by simp);simp at this;omega
  ·exact ih fun i hi=>by have:=h (i+1) (by simp;omega);simpa using this
theorem nB {p:Prp}(c:Int):0≤jD (cnt p).spans c∧jD (cnt p).spans c<(cnt p).names.length:=by
 unfold cnt;split
 ·rename_i hv;exact wO (by have:=hv.1.1;omega) (fun i h=>by have:=(hv.2 i h).1;omega) c
 ·simp[jD]
theorem Dr {p:Prp}(c:Int):(jD (cnt p).spans c).toNat<(cnt p).names.length:=by have:=nB (p:=p) c;omega
noncomputable def rT (p:Prp) (c:Int):Str:=(cnt p).names[(jD (cnt p).spans c).toNat]'(Dr c)
def ki (l:List Str) (s:Str):Int:=if s∈l then l.idxOf s else 0
noncomputable def bD (p:Prp) (l:List Str) (text:List Int):List Int:=text.map fun c=>ki l (rT p c)
theorem AM {n s:Nat}{g:FuncId}{cap:List D}{p:Nat→Prop}(hc:aC cap=true) (hn:n≤4611686018427387903) (hs:s≤n) (h1:∀ i,i<s→¬p i) (h2:∀ i,s≤i→i<n→p i)
  (hf:∀ i:Nat,i<n→Pu Tryz.prog g ([i64 i]++cap) (boo (decide (p i)))):Pu Tryz.prog 95 [i64 n,.fn (.func g) [] cap] (i64 s):=by
 refine Pu.of_v aA T0 Tryz.func95 rfl rfl (by simp[aH,aC,hc]) ?_;repeat' ((conv=>whnf)<;>(first|refine aE.go aA T0 ?_|exact kQ|(refine Br.mk (fun _=>?_) (fun _=>?_)<;>(try(exfalso;omega)))|refine stq ?_))
 refine aT.by2 aA T0 (fun i j:Nat=>⟨tmp 26 [(1,.fn (.func g) [] cap),(5,i64 i),(6,i64 j)],⟨0,[]⟩⟩)
  (fun i j=>i≤s∧s≤j∧j≤n) (fun i j=>j-i) 0 n ⟨by omega,by omega,by omega⟩ ?_ ?_
 ·exact Lf.of2 [] [] (by repeat(first|exact aI.nil|refine aI.cons rfl (by first|exact Rd.same (by simp[aH,aC,hc])|exact rdA|fail) ?_)) (by repeat(first|exact Bxs.nil|refine Bxs.cons rfl rfl rfl (by first|exact rbB|exact rbC|fail) ?_)) rfl rfl
 intro i j ⟨h3,h4,h5⟩
 have em:IntKind.i64.wrap ((IntKind.u64.wrap ((i:Int)+(j:Int))).fdiv (2 ^ min (Int.toNat 1) IntKind.u64.bits))=(((i+j) / 2:Nat):Int):=by
  have e1:IntKind.u64.wrap ((i:Int)+(j:Int))=(i:Int)+(j:Int):=by
   simp[IntKind.wrap,IntKind.bits,IntKind.signed];omega
  rw[e1,Int.fdiv_eq_ediv_of_nonneg _ (by decide)];simp[IntKind.wrap,IntKind.bits,IntKind.signed];omega
 repeat' ((conv=>whnf)<;>(first|refine aE.go aA T0 ?_|exact kQ|(refine Br.mk (fun _=>?_) (fun _=>?_)<;>(try(exfalso;omega)))|refine stq ?_|refine Cll.dec (p:=p ((i+j) / 2)) (by rw[em];exact hf _ (by omega)) (fun _=>?_) (fun _=>?_)|refine Chk.mk (rf (by rw[em];omega) (by rw[em];omega)) ?_))
 all_goals(conv=>whnf)
 all_goals first
  | exact aN.int (by omega)
  | (refine⟨i,(i+j) / 2,⟨by omega,Nat.le_of_not_lt fun hlt=>h1 _ hlt (by assumption),by omega⟩,by omega,?_⟩
     exact Lf.of2 [] [] (by(repeat(first|exact aI.nil|refine aI.cons rfl (by first|exact Rd.same (by simp[aH,aC,hc])|exact Rd.int em|exact rdA|fail) ?_|fail));(first|done|fail)) (by(repeat(first|exact Bxs.nil|refine Bxs.cons rfl rfl rfl (by first|exact rbB|exact rbC|fail) ?_|fail));(first|done|fail)) rfl rfl)
  | (refine⟨(i+j) / 2+1,j,⟨Nat.succ_le_of_lt (Nat.lt_of_not_le fun hle=>absurd (h2 _ hle (by omega)) (by assumption)),by omega,by omega⟩,by omega,?_⟩
     exact Lf.of2 [] [] (by(repeat(first|exact aI.nil|refine aI.cons rfl (by first|exact Rd.same (by simp[aH,aC,hc])|exact Rd.int (by rw[em];omega)|exact rdA|fail) ?_|fail));(first|done|fail)) (by(repeat(first|exact Bxs.nil|refine Bxs.cons rfl rfl rfl (by first|exact rbB|exact rbC|fail) ?_|fail));(first|done|fail)) rfl rfl)
theorem zr {l:List Spn}{c:Int}{k:Nat}(hk:k<l.length):Pu Tryz.prog 96 ([i64 (k:Int)]++[.iptr [dN l],.iptr [i64 c]]) (boo (decide (c≤l[k].hi))):=by
 refine Pu.of_v aA T0 Tryz.func96 rfl rfl (by simp[aH,aC,aJ]) ?_;repeat' ((conv=>whnf)<;>(first|refine aE.go aA T0 ?_|exact kQ|(refine Br.mk (fun _=>?_) (fun _=>?_)<;>(try(exfalso;omega)))|refine stq ?_))
 all_goals(conv=>whnf)
 all_goals first
  | exact aN.yes (by omega)
  | exact aN.no (by omega)
def CN (l:List Spn):Prop:=∀ i (h:i<l.length),l[i].lo≤l[i].hi∧∀ h0:i≠0,(l[i-1]'(by omega)).hi<l[i].lo
theorem Ct {l:List Spn}{n:Int}(h:∀ i (h:i<l.length),SpQ l n i l[i]):CN l:=fun i hi=>by
 obtain⟨h1,h2⟩:=h i hi;refine⟨by omega,fun h0=>?_⟩;have:=(h2 h0).1
 rwa [ac (by omega)] at this
theorem xF {l:List Spn}(h:CN l){i:Nat}(j:Nat) (hi:i<l.length) (hj:i+j<l.length):l[i].hi≤l[i+j].hi:=by
 induction j with
 | zero=>exact Int.le_refl _
 | succ j ih=>
  have h1:=ih (by omega);have h2:=h (i+(j+1)) hj;have h3:=h2.2 (by omega);have h4:=h2.1;have e:i+(j+1)-1=i+j:=by omega
  simp only[e] at h3;omega
theorem rh {l:List Spn}{c:Int}(h:∀ i (h:i<l.length),¬(l[i].lo≤c∧c≤l[i].hi)):jD l c=0:=by
 induction l with
 | nil=>rfl
 | cons s l ih=>
  simp only[jD];rw[if_neg (show ¬(s.lo≤c∧c≤s.hi) from h 0 (by simp))];exact ih fun i hi=>h (i+1) (by simpa using hi)
theorem DZ {l:List Spn}{c:Int}{s:Nat}(hs:s<l.length) (h:∀ i (hi:i<l.length),i<s→¬(l[i].lo≤c∧c≤l[i].hi)) (h2:l[s].lo≤c∧c≤l[s].hi):jD l c=l[s].val:=by
 induction l generalizing s with
 | nil=>simp at hs
 | cons x l ih=>
  simp only[jD];cases s with
  | zero=>rw[if_pos (show x.lo≤c∧c≤x.hi from h2)];rfl
  | succ s=>
   rw[if_neg (show ¬(x.lo≤c∧c≤x.hi) from h 0 (by simp) (by omega))];exact ih (s:=s) (by simpa using hs) (fun i hi hlt=>h (i+1) (by simpa using hi) (by omega)) h2
noncomputable def cW (l:List Spn) (c:Int):Nat:=l.findIdx fun s=>decide (c≤s.hi)
theorem wS (l:List Spn) (c:Int):cW l c≤l.length:=List.findIdx_le_length
theorem gW {l:List Spn}{c:Int}{i:Nat}(h:i<l.length) (hlt:i<cW l c):¬c≤l[i].hi:=by
 have:=List.not_of_lt_findIdx hlt
 simpa using this
theorem qG {l:List Spn}{c:Int}(h:cW l c<l.length):c≤l[cW l c].hi:=by
 have:=List.findIdx_getElem (p:=fun s:Spn=>decide (c≤s.hi)) (w:=h)
 exact of_decide_eq_true this
theorem wP {l:List Spn}(hr:CN l) (c:Int):jD l c=if h:cW l c<l.length then(if l[cW l c].lo≤c then l[cW l c].val else 0) else 0:=by
 split
 ·rename_i hs;have h1:=qG hs;split
  ·rename_i h2;exact DZ hs (fun i hi hlt=>by have:=gW hi hlt;omega) ⟨h2,h1⟩
  ·rename_i h2;refine rh fun i hi=>?_
   rcases Nat.lt_trichotomy i (cW l c) with hlt|he|hgt
   ·have:=gW hi hlt;omega
   ·subst he;omega
   ·have h3:=xF hr (i-1-cW l c) hs (by omega);have h4:=(hr i hi).2 (by omega);have e:cW l c+(i-1-cW l c)=i-1:=by omega
    simp only[e] at h3;omega
 ·rename_i hs;refine rh fun i hi=>?_
  have:=gW (c:=c) hi (by omega)
  omega
theorem wt {l:List Spn}{c:Int}(hn:l.length≤4611686018427387903) (hr:CN l):Pu Tryz.prog 69 [dN l,i64 c] (i64 (jD l c)):=by
 rw[wP hr c];have h0:=wS l c
 have hse:Pu Tryz.prog 95 [i64 l.length,.fn (.func 96) [] [.iptr [dN l],.iptr [i64 c]]] (i64 (cW l c)):=
  AM (p:=fun i=>∃ h:i<l.length,c≤l[i].hi) (by simp[aH,aC,aJ]) hn h0 (fun i hi ⟨h,hc⟩=>gW h hi hc)
   (fun i h1 h2=>⟨h2,by
    have h3:=qG (l:=l) (c:=c) (by omega);have h4:=xF hr (i-cW l c) (i:=cW l c) (by omega) (by omega);have e:cW l c+(i-cW l c)=i:=by omega
    simp only[e] at h4
    omega⟩)
   (fun i hi=>by
    have:=zr (l:=l) (c:=c) hi
    exact(congrArg (fun b=>Pu Tryz.prog _ _ (boo b)) (decide_eq_decide.2 ⟨fun h=>⟨hi,h⟩,fun⟨_,h⟩=>h⟩)).mp this)
 refine Pu.of_v aA T0 Tryz.func69 rfl rfl (by simp[aH,aC,aJ]) ?_
 conv=>whnf
 refine aE.weak aA T0 (s0:=⟨tmp 28 [(2,.iptr [dN l]),(3,.iptr [i64 c])],⟨0,[]⟩⟩) ?_ ?_
 ·exact Lf.of2 [] [0,1] (by repeat(first|exact aI.nil|refine aI.cons rfl (by first|exact Rd.frzp rfl rfl (Rds.cons (Rd.same (aJ _)) Rds.nil)|exact Rd.frzp rfl rfl (Rds.cons (Rd.same rfl) Rds.nil)|exact rdA|fail) ?_)) (by repeat(first|exact Bxs.nil|refine Bxs.cons rfl rfl rfl (by first|exact rbB|exact rbC|fail) ?_)) rfl rfl
 repeat' ((conv=>whnf)<;>(first|refine aE.go aA T0 ?_|exact kQ|(refine Br.mk (fun _=>?_) (fun _=>?_)<;>(try(exfalso;omega)))|refine stq ?_|refine Cll.pu hse ?_))
 all_goals(conv=>whnf)
 all_goals first
  | exact aN.int (by rw[dif_pos (by omega),if_pos (by assumption)])
  | exact aN.int (by rw[dif_pos (by omega),if_neg (by assumption)])
  | exact aN.int (by rw[dif_neg (by omega)])
theorem Bp (p:Prp):CN (cnt p).spans:=by
 unfold cnt;split
 ·rename_i hv;exact Ct hv.2
 ·intro i h;simp at h
theorem zT {p:Prp}(h:p.spans.length≤1000):(cnt p).spans.length≤1000:=by
 unfold cnt;split
 ·exact h
 ·simp
theorem zU {p:Prp}(h:p.names.length≤1000):(cnt p).names.length≤1000:=by
 unfold cnt;split
 ·exact h
 ·simp
theorem sH {p:Prp}{t:Tbl}{text:List Int}(hp:p.ok) (ht:t.ok) (hx:text.length≤1000) (hs:p.spans.length≤1000) (hnn:p.names.length≤1000):Pu Tryz.prog 39 [fF p,d7 t,aQ text] (aQ (if TV t then bD p t.classes text else [])):=by
 have h1:=ht.classes;have hr:=Bp p;have hs2:=zT hs;have hn2:=zU hnn;refine Pu.of_v aA T0 Tryz.func39 rfl rfl (by simp[aH,aC,aG,aJ,aD,ah]) ?_;repeat' ((conv=>whnf)<;>(first|refine aE.go aA T0 ?_|exact kQ|(refine Br.mk (fun _=>?_) (fun _=>?_)<;>(try(exfalso;omega)))|refine stq ?_|refine Cll.dec (iQ sd) (fun _=>?_) (fun _=>?_)|refine aW.dec (iQ sd) (fun _=>?_) (fun _=>?_)|refine Cll.dec (lw sd) (fun _=>?_) (fun _=>?_)|refine aW.dec (lw sd) (fun _=>?_) (fun _=>?_)))
 all_goals(conv=>whnf)
 ·rename_i hv hpv;have hcp:cnt p=p:=by simp[cnt,hpv]
  refine aT.by aA T0 (fun k:Nat=>⟨tmp 81 [(2,aQ text),(3,.ptr 0 0),(7,.map 1),(29,strs t.classes),(30,i64 t.classes.length),(31,i64 (k:Int))],⟨2,[(0,.cells [strs (cnt p).names,dN (cnt p).spans] true),(1,.map (pos (t.classes.take k) 0))]⟩⟩)
   (fun k=>k≤t.classes.length) (fun k=>t.classes.length-k) 0 (by omega) ?_ ?_
  ·exact Lf.of2 [(0,_),(1,_)] [9] enA (by repeat(first|exact Bxs.nil|refine Bxs.cons rfl rfl rfl (by first|exact Rb.cells (by rw[hcp];exact Rds.same (by simp only[cL,aC,aG,aJ,Bool.and_self])) rfl|exact Rb.cells (by rw[hcp];exact Rds.cons (Rd.frz rfl rfl (kD rfl) (Rds.cons (Rd.same rfl) Rds.nil)) (Rds.cons Rd.nil Rds.nil)) rfl|exact rbB|exact Rb.cells bk rfl|exact rbC|fail) ?_)) rfl rfl
  intro k h3;repeat' ((conv=>whnf)<;>(first|refine aE.go aA T0 ?_|exact kQ|(refine Br.mk (fun _=>?_) (fun _=>?_)<;>(try(exfalso;omega)))|refine stq ?_|(refine fL.pos (fun _ _=>?_) (fun _=>?_)<;>(try(exfalso;exact(hv.1.2.2 k (by omega)).2 (by assumption))))))
  all_goals(conv=>whnf)
  ·refine⟨k+1,by omega,by omega,?_⟩;exact Lf.of2 [(0,_),(1,_)] [] enA bxA rfl rfl
  refine aT.by aA T0 (fun k:Nat=>⟨tmp 81 [(2,aQ text),(3,.ptr 0 0),(7,.map 1),(10,.sl 2 0 (cnt p).names.length (cnt p).names.length 1 true),(45,strs (cnt p).names),(46,i64 (cnt p).names.length),(47,i64 (k:Int))],⟨3,[(0,.cells [strs (cnt p).names,dN (cnt p).spans] true),(1,.map (pos t.classes 0)),(2,.cells (gE (fun s=>i64 (ki t.classes s)) (i64 0) (cnt p).names k) true)]⟩⟩)
   (fun k=>k≤(cnt p).names.length) (fun k=>(cnt p).names.length-k) 0 (by omega) ?_ ?_
  ·exact Lf.of2 [(0,_),(1,_),(2,_)] [] enA (by repeat(first|exact Bxs.nil|refine Bxs.cons rfl rfl rfl (by first|exact Rb.cells (Rds.eqs (iL _) (bz (fun _=>rfl) rfl)) rfl|exact Rb.map (Res.eqs (by rw[kE (by omega)]) (aZ _ _))|exact rbB|exact Rb.cells bk rfl|exact rbC|fail) ?_)) rfl rfl
  intro k h4;repeat' ((conv=>whnf)<;>(first|refine aE.go aA T0 ?_|exact kQ|(refine Br.mk (fun _=>?_) (fun _=>?_)<;>(try(exfalso;omega)))|refine stq ?_|(refine fL.pos (fun _ _=>?_) (fun _=>?_))|refine Put.one (by rw[gX (by omega)];omega) ?_))
  all_goals(conv=>whnf)
  ·rename_i _ hm;refine⟨k+1,by omega,by omega,?_⟩;exact Lf.of2 [(0,_),(1,_),(2,_)] [] enA (by repeat(first|exact Bxs.nil|refine Bxs.cons rfl rfl rfl (by first|exact Rb.cells (Rds.eqs (by rw[←iF (by omega)];simp[ki,hm]) (bz (fun _=>rfl) rfl)) rfl|exact rbB|exact Rb.cells bk rfl|exact rbC|fail) ?_)) rfl rfl
  ·rename_i hm;refine⟨k+1,by omega,by omega,?_⟩;exact Lf.of2 [(0,_),(1,_),(2,_)] [] enA (by repeat(first|exact Bxs.nil|refine Bxs.cons rfl rfl rfl (by first|exact Rb.cells (Rds.eqs (by rw[←iF (by omega)];simp only[ki,hm,if_false];rfl) (bz (fun _=>rfl) rfl)) rfl|exact rbB|exact Rb.cells bk rfl|exact rbC|fail) ?_)) rfl rfl
  refine aT.by aA T0 (fun k:Nat=>⟨tmp 81 [(3,.ptr 0 0),(10,.sl 2 0 (cnt p).names.length (cnt p).names.length 1 true),(13,.sl 3 0 text.length text.length 1 true),(62,aQ text),(63,i64 text.length),(64,i64 (k:Int))],⟨4,[(0,.cells [strs (cnt p).names,dN (cnt p).spans] true),(2,.cells ((cnt p).names.map fun s=>i64 (ki t.classes s)) true),(3,.cells (gE (fun c=>i64 (ki t.classes (rT p c))) (i64 0) text k) true)]⟩⟩)
   (fun k=>k≤text.length) (fun k=>text.length-k) 0 (by omega) ?_ ?_
  ·exact Lf.of2 [(0,_),(2,_),(3,_)] [] enA (by repeat(first|exact Bxs.nil|refine Bxs.cons rfl rfl rfl (by first|exact Rb.cells (Rds.eqs (iL _) (bz (fun _=>rfl) rfl)) rfl|exact Rb.cells (Rds.eqs (mM (by omega)) (aY (fun _=>rfl) _)) rfl|exact rbB|exact Rb.cells bk rfl|exact rbC|fail) ?_)) rfl rfl
  intro k h5;have hg:=nB (p:=p) (text.getD k 0);repeat' ((conv=>whnf)<;>(first|refine aE.go aA T0 ?_|exact kQ|(refine Br.mk (fun _=>?_) (fun _=>?_)<;>(try(exfalso;omega)))|refine stq ?_|refine Cll.pu (wt sd sd) ?_|refine ch.at (jD (cnt p).spans text[k]).toNat (by rw[ac (by omega)] at hg;omega) (by rw[ac (by omega)] at hg;omega) ?_|refine Get.map (by rw[ac (by omega)] at hg;omega) ?_|refine Put.one (by rw[gX (by omega)];omega) ?_))
  all_goals(conv=>whnf)
  ·refine⟨k+1,by omega,by omega,?_⟩;exact Lf.of2 [(0,_),(2,_),(3,_)] [] enA (by repeat(first|exact Bxs.nil|refine Bxs.cons rfl rfl rfl (by first|exact Rb.cells (Rds.eqs (by rw[←iF (by omega)];rfl) (bz (fun _=>rfl) rfl)) rfl|exact rbB|exact Rb.cells bk rfl|exact rbC|fail) ?_)) rfl rfl
  ·rw[if_pos hv];exact aN.frz1 (l:=bD p t.classes text) (f:=i64) rfl (by rw[mM (by omega)];simp[bD]) (by simp[bD]) (fun _=>rfl) rfl
 ·rename_i hv hpv;have hcp:cnt p=⟨[other],[]⟩:=by simp[cnt,hpv]
  refine aT.by aA T0 (fun k:Nat=>⟨tmp 81 [(2,aQ text),(3,.ptr 0 0),(7,.map 1),(29,strs t.classes),(30,i64 t.classes.length),(31,i64 (k:Int))],⟨2,[(0,.cells [strs (cnt p).names,dN (cnt p).spans] true),(1,.map (pos (t.classes.take k) 0))]⟩⟩)
   (fun k=>k≤t.classes.length) (fun k=>t.classes.length-k) 0 (by omega) ?_ ?_
  ·exact Lf.of2 [(0,_),(1,_)] [9] enA (by repeat(first|exact Bxs.nil|refine Bxs.cons rfl rfl rfl (by first|exact Rb.cells (by rw[hcp];exact Rds.same (by simp only[cL,aC,aG,aJ,Bool.and_self])) rfl|exact Rb.cells (by rw[hcp];exact Rds.cons (Rd.frz rfl rfl (kD rfl) (Rds.cons (Rd.same rfl) Rds.nil)) (Rds.cons Rd.nil Rds.nil)) rfl|exact rbB|exact Rb.cells bk rfl|exact rbC|fail) ?_)) rfl rfl
  intro k h3;repeat' ((conv=>whnf)<;>(first|refine aE.go aA T0 ?_|exact kQ|(refine Br.mk (fun _=>?_) (fun _=>?_)<;>(try(exfalso;omega)))|refine stq ?_|(refine fL.pos (fun _ _=>?_) (fun _=>?_)<;>(try(exfalso;exact(hv.1.2.2 k (by omega)).2 (by assumption))))))
  all_goals(conv=>whnf)
  ·refine⟨k+1,by omega,by omega,?_⟩;exact Lf.of2 [(0,_),(1,_)] [] enA bxA rfl rfl
  refine aT.by aA T0 (fun k:Nat=>⟨tmp 81 [(2,aQ text),(3,.ptr 0 0),(7,.map 1),(10,.sl 2 0 (cnt p).names.length (cnt p).names.length 1 true),(45,strs (cnt p).names),(46,i64 (cnt p).names.length),(47,i64 (k:Int))],⟨3,[(0,.cells [strs (cnt p).names,dN (cnt p).spans] true),(1,.map (pos t.classes 0)),(2,.cells (gE (fun s=>i64 (ki t.classes s)) (i64 0) (cnt p).names k) true)]⟩⟩)
   (fun k=>k≤(cnt p).names.length) (fun k=>(cnt p).names.length-k) 0 (by omega) ?_ ?_
  ·exact Lf.of2 [(0,_),(1,_),(2,_)] [] enA (by repeat(first|exact Bxs.nil|refine Bxs.cons rfl rfl rfl (by first|exact Rb.cells (Rds.eqs (iL _) (bz (fun _=>rfl) rfl)) rfl|exact Rb.map (Res.eqs (by rw[kE (by omega)]) (aZ _ _))|exact rbB|exact Rb.cells bk rfl|exact rbC|fail) ?_)) rfl rfl
  intro k h4;repeat' ((conv=>whnf)<;>(first|refine aE.go aA T0 ?_|exact kQ|(refine Br.mk (fun _=>?_) (fun _=>?_)<;>(try(exfalso;omega)))|refine stq ?_|(refine fL.pos (fun _ _=>?_) (fun _=>?_))|refine Put.one (by rw[gX (by omega)];omega) ?_))
  all_goals(conv=>whnf)
  ·rename_i _ hm;refine⟨k+1,by omega,by omega,?_⟩;exact Lf.of2 [(0,_),(1,_),(2,_)] [] enA (by repeat(first|exact Bxs.nil|refine Bxs.cons rfl rfl rfl (by first|exact Rb.cells (Rds.eqs (by rw[←iF (by omega)];simp[ki,hm]) (bz (fun _=>rfl) rfl)) rfl|exact rbB|exact Rb.cells bk rfl|exact rbC|fail) ?_)) rfl rfl
  ·rename_i hm;refine⟨k+1,by omega,by omega,?_⟩;exact Lf.of2 [(0,_),(1,_),(2,_)] [] enA (by repeat(first|exact Bxs.nil|refine Bxs.cons rfl rfl rfl (by first|exact Rb.cells (Rds.eqs (by rw[←iF (by omega)];simp only[ki,hm,if_false];rfl) (bz (fun _=>rfl) rfl)) rfl|exact rbB|exact Rb.cells bk rfl|exact rbC|fail) ?_)) rfl rfl
  refine aT.by aA T0 (fun k:Nat=>⟨tmp 81 [(3,.ptr 0 0),(10,.sl 2 0 (cnt p).names.length (cnt p).names.length 1 true),(13,.sl 3 0 text.length text.length 1 true),(62,aQ text),(63,i64 text.length),(64,i64 (k:Int))],⟨4,[(0,.cells [strs (cnt p).names,dN (cnt p).spans] true),(2,.cells ((cnt p).names.map fun s=>i64 (ki t.classes s)) true),(3,.cells (gE (fun c=>i64 (ki t.classes (rT p c))) (i64 0) text k) true)]⟩⟩)
   (fun k=>k≤text.length) (fun k=>text.length-k) 0 (by omega) ?_ ?_
  ·exact Lf.of2 [(0,_),(2,_),(3,_)] [] enA (by repeat(first|exact Bxs.nil|refine Bxs.cons rfl rfl rfl (by first|exact Rb.cells (Rds.eqs (iL _) (bz (fun _=>rfl) rfl)) rfl|exact Rb.cells (Rds.eqs (mM (by omega)) (aY (fun _=>rfl) _)) rfl|exact rbB|exact Rb.cells bk rfl|exact rbC|fail) ?_)) rfl rfl
  intro k h5;have hg:=nB (p:=p) (text.getD k 0);repeat' ((conv=>whnf)<;>(first|refine aE.go aA T0 ?_|exact kQ|(refine Br.mk (fun _=>?_) (fun _=>?_)<;>(try(exfalso;omega)))|refine stq ?_|refine Cll.pu (wt sd sd) ?_|refine ch.at (jD (cnt p).spans text[k]).toNat (by rw[ac (by omega)] at hg;omega) (by rw[ac (by omega)] at hg;omega) ?_|refine Get.map (by rw[ac (by omega)] at hg;omega) ?_|refine Put.one (by rw[gX (by omega)];omega) ?_))
  all_goals(conv=>whnf)
  ·refine⟨k+1,by omega,by omega,?_⟩;exact Lf.of2 [(0,_),(2,_),(3,_)] [] enA (by repeat(first|exact Bxs.nil|refine Bxs.cons rfl rfl rfl (by first|exact Rb.cells (Rds.eqs (by rw[←iF (by omega)];rfl) (bz (fun _=>rfl) rfl)) rfl|exact rbB|exact Rb.cells bk rfl|exact rbC|fail) ?_)) rfl rfl
  ·rw[if_pos hv];exact aN.frz1 (l:=bD p t.classes text) (f:=i64) rfl (by rw[mM (by omega)];simp[bD]) (by simp[bD]) (fun _=>rfl) rfl
 ·rename_i hv;rw[if_neg hv];exact⟨.nil⟩
end
section
open Go Go.Am Classical
set_option maxRecDepth 100000
abbrev bl (a b:Str):Bool:=Op.bytesLess a b
structure Mpg where
 frm:Int
 to:List Int
 tag:Str
 deriving Inhabited
def bef (a b:Mpg):Prop:=a.frm<b.frm∨(a.frm=b.frm∧bl a.tag b.tag=true)
def tN (a b:Str):Int:=if bl a b=true then -1 else if a=b then 0 else 1
def Bs (a b:Mpg):Int:=if gN a.frm b.frm=0 then tN a.tag b.tag else gN a.frm b.frm
theorem xx {a b:Mpg}:Bs a b<0↔bef a b:=by
 unfold Bs tN gN bef;by_cases h1:a.frm<b.frm
 ·simp[h1]
 ·by_cases h2:b.frm<a.frm
  ·simp[h1,h2];omega
  ·have e:a.frm=b.frm:=by omega
   simp only[e,if_true,if_false,Int.lt_irrefl,false_or,true_and];by_cases h3:bl a.tag b.tag=true
   ·simp[h3]
   ·simp only[h3];by_cases h4:a.tag=b.tag
    ·simp[h4]
    ·simp[h4]
def cpQ (n:Int):Prop:=0≤n∧n≤1114111
def nA (m:Mpg):Prop:=cpQ m.frm∧∀ j (h:j<m.to.length),cpQ m.to[j]
def Cd (m:Mpg):Prop:=m.tag=[]∨mj m.tag
def Asc (l:List Mpg):Prop:=∀ i (h:i<l.length),∀ h0:i≠0,bef (l[i-1]'(by omega)) l[i]
noncomputable def fG (l:List Mpg):Int:=
 if ∀ i (h:i<l.length),nA l[i] then(if ∀ i (h:i<l.length),l[i].to.length≤64 then(if ∀ i (h:i<l.length),Cd l[i] then 0 else 6) else 2) else 1
def MOk (l:List Mpg):Prop:=fG l=0∧Asc l
end
section
open Go Go.Am Classical
set_option maxRecDepth 100000
variable [GT]
abbrev cO (r:Rng):List D:=[i64 r.lo,i64 r.hi]
abbrev bQ (l:List Rng):D:=lstS cO l
theorem aO (l:List Rng):aH (bQ l)=true:=eW (fun _=>rfl) l
abbrev oN (m:Mpg):List D:=[i64 m.frm,aQ m.to,.str m.tag]
abbrev dK (l:List Mpg):D:=lstS oN l
theorem wC (m:Mpg):aC (oN m)=true:=by simp[aC,aH,aD]
theorem aP (l:List Mpg):aH (dK l)=true:=eW wC l
structure Db where
 major:Int
 minor:Int
 cat:Prp
 wid:Prp
 scr:Prp
 gra:Prp
 wor:Prp
 sen:Prp
 lin:Prp
 classes:List Spn
 decomp:List Mpg
 excl:List Rng
 lower:List Mpg
 upper:List Mpg
 title:List Mpg
 fold:List Mpg
 cased:List Rng
 ignor:List Rng
 start:List Rng
 cont:List Rng
 medial:List Rng
 confu:List Mpg
abbrev prpC (p:Prp):List D:=[strs p.names,dN p.spans]
abbrev dbC (d:Db):List D:=[i64 d.major,i64 d.minor,strs d.cat.names,dN d.cat.spans,strs d.wid.names,dN d.wid.spans,strs d.scr.names,dN d.scr.spans,strs d.gra.names,dN d.gra.spans,strs d.wor.names,dN d.wor.spans,strs d.sen.names,dN d.sen.spans,strs d.lin.names,dN d.lin.spans,
 dN d.classes,dK d.decomp,bQ d.excl,dK d.lower,dK d.upper,dK d.title,dK d.fold,bQ d.cased,bQ d.ignor,bQ d.start,bQ d.cont,bQ d.medial,dK d.confu]
abbrev dbD (d:Db):D:=.agg (dbC d)
theorem aa (d:Db):aC (dbC d)=true:=by simp[aC,aH,aG,aJ,aP,aO]
def prop (d:Db):Nat→Prp
 | 0=>d.cat
 | 1=>d.wid
 | 2=>d.scr
 | 3=>d.gra
 | 4=>d.wor
 | 5=>d.sen
 | _=>d.lin
def yg (d:Db):Nat→List Rng
 | 0=>d.excl
 | 1=>d.cased
 | 2=>d.ignor
 | 3=>d.start
 | 4=>d.cont
 | _=>d.medial
def ic (d:Db):Nat→List Mpg
 | 9=>d.decomp
 | 11=>d.lower
 | 12=>d.upper
 | 13=>d.title
 | 14=>d.fold
 | _=>d.confu
def ClQ (l:List Spn) (i:Nat) (s:Spn):Prop:=(0≤s.lo∧s.lo≤s.hi∧s.hi≤1114111∧1≤s.val∧s.val≤254) ∧
 (i≠0→(l.getD (i-1) default).hi<s.lo∧¬(s.lo=(l.getD (i-1) default).hi+1∧s.val=(l.getD (i-1) default).val))
def ClV (l:List Spn):Prop:=∀ i (h:i<l.length),ClQ l i l[i]
def yV (n:Int):Prop:=0≤n∧n≤9999
def EN (d:Db):Nat→Prop
 | 0=>yV d.major∧yV d.minor
 | 1=>PrV d.cat
 | 2=>PrV d.wid
 | 3=>PrV d.scr
 | 4=>PrV d.gra
 | 5=>PrV d.wor
 | 6=>PrV d.sen
 | 7=>PrV d.lin
 | 8=>ClV d.classes
 | 9=>MOk d.decomp
 | 10=>gx d.excl
 | 11=>MOk d.lower
 | 12=>MOk d.upper
 | 13=>MOk d.title
 | 14=>MOk d.fold
 | 15=>gx d.cased
 | 16=>gx d.ignor
 | 17=>gx d.start
 | 18=>gx d.cont
 | 19=>gx d.medial
 | _=>MOk d.confu
def DbV (d:Db):Prop:=∀ k,k<21→EN d k
def SmM (l:List Mpg):Prop:=(∀ i (h:i<l.length),i<30→l[i].to.length≤65∧l[i].tag.length≤40)∧l.length≤20
def SmD (d:Db):Prop:=d.classes.length≤16∧(∀ k,k<7→(prop d k).names.length≤30∧(prop d k).spans.length≤16)∧(∀ k,k<6→(yg d k).length≤12)∧∀ k,k<21→SmM (ic d k)
structure Db.ok (d:Db):Prop where
 prop:∀ k,(prop d k).ok
 sets:∀ k,(yg d k).length≤9223372036854775807
 maps:∀ k,(ic d k).length≤9223372036854775807∧∀ i (h:i<(ic d k).length),(ic d k)[i].to.length≤9223372036854775807∧(ic d k)[i].tag.length≤9223372036854775807
 classes:d.classes.length≤9223372036854775807
def gL:List Int→Int
 | []=>0
 | e::l=>if e=0 then gL l else e
theorem tH:∀ {l:List Int}{k:Nat}(h:k<l.length),(∀ i (hi:i<l.length),i<k→l[i]=0)→l[k]≠0→gL l=l[k]
 | [],k,h,_,_=>by simp at h
 | e::l,0,_,_,h2=>by simp only[List.getElem_cons_zero] at h2 ⊢;rw[gL,if_neg h2]
 | e::l,k+1,h,h1,h2=>by
  have e0:e=0:=h1 0 (by simp) (by omega);rw[gL,if_pos e0];simp only[List.getElem_cons_succ] at h2 ⊢;exact tH (by simpa using h) (fun i hi hk=>by have:=h1 (i+1) (by simpa using hi) (by omega);simpa using this) h2
theorem kY:∀ {l:List Int},gL l=0↔∀ i (hi:i<l.length),l[i]=0
 | []=>by simp[gL]
 | e::l=>by
  rw[gL];constructor
  ·intro h i hi;split at h
   ·rename_i e0;cases i with
    | zero=>simpa using e0
    | succ i=>simpa using kY.1 h i (by simpa using hi)
   ·rename_i e0;exact absurd h e0
  ·intro h;have e0:e=0:=h 0 (by simp);rw[if_pos e0];exact kY.2 fun i hi=>by have:=h (i+1) (by simpa using hi);simpa using this
end
section
open Go Go.Am Classical
set_option maxRecDepth 100000
variable [GT]
def oQ:List Int→List Int→Int
 | [],[]=>0
 | [],_::_=>-1
 | _::_,[]=>1
 | x::a,y::b=>if x<y then -1 else if y<x then 1 else oQ a b
theorem r6 {a b:List Int}{k:Nat}(h1:k<a.length) (h2:k<b.length):oQ (a.drop k) (b.drop k)=if a[k]<b[k] then -1 else if b[k]<a[k] then 1 else oQ (a.drop (k+1)) (b.drop (k+1)):=by
 rw[kK h1,kK h2];rfl
theorem Bt {a b:List Int}{k:Nat}(h1:k≤a.length) (h2:k≤b.length) (hk:¬(k<a.length∧k<b.length)):oQ (a.drop k) (b.drop k)=if a.length<b.length then -1 else if b.length<a.length then 1 else 0:=by
 by_cases ha:k<a.length
 ·rw[kK ha,(List.drop_eq_nil_of_le (by omega):b.drop k=[]),if_neg (by omega),if_pos (by omega)];rfl
 ·rw[(List.drop_eq_nil_of_le (by omega):a.drop k=[])];by_cases hb:k<b.length
  ·rw[kK hb,if_pos (by omega)];rfl
  ·rw[(List.drop_eq_nil_of_le (by omega):b.drop k=[]),if_neg (by omega),if_neg (by omega)];rfl
theorem nC:∀ {a b:List Int},oQ a b=0↔a=b
 | [],[]=>by simp[oQ]
 | [],_::_=>by simp[oQ]
 | _::_,[]=>by simp[oQ]
 | x::a,y::b=>by
  simp only[oQ,List.cons.injEq];have:=nC (a:=a) (b:=b)
  by_cases h1:x<y
  ·rw[if_pos h1];constructor
   ·intro h;omega
   ·rintro⟨rfl,_⟩;omega
  ·rw[if_neg h1];by_cases h2:y<x
   ·rw[if_pos h2];constructor
    ·intro h;omega
    ·rintro⟨rfl,_⟩;omega
   ·rw[if_neg h2,this];exact⟨fun h=>⟨by omega,h⟩,fun h=>h.2⟩
theorem zf {a b:List Int}(ha:a.length≤9223372036854775807):Pu Tryz.prog 36 [aQ a,aQ b] (i64 (oQ a b)):=by
 refine Pu.of_v aA T0 Tryz.func36 rfl rfl (by simp[aC,aD]) ?_;repeat' ((conv=>whnf)<;>(first|refine aE.go aA T0 ?_|exact kQ|(refine Br.mk (fun _=>?_) (fun _=>?_)<;>(try(exfalso;omega)))|refine stq ?_))
 refine aT.by aA T0 (fun k:Nat=>⟨tmp 46 [(0,aQ a),(1,aQ b),(5,i64 (k:Int))],⟨0,[]⟩⟩) (fun k=>k≤a.length∧k≤b.length∧oQ (a.drop k) (b.drop k)=oQ a b) (fun k=>a.length-k) 0 ⟨by omega,by omega,rfl⟩ ?_ ?_
 ·exact Lf.of2 [] [] enA bxA rfl rfl
 intro k ⟨h1,h2,h3⟩;repeat' ((conv=>whnf)<;>(first|refine aE.go aA T0 ?_|exact kQ|(refine Br.mk (fun _=>?_) (fun _=>?_)<;>(try(exfalso;omega)))|refine stq ?_))
 all_goals(conv=>whnf)
 all_goals first
  | (refine aN.int ?_
     rw[←h3]
     first
      | (rw[Bt h1 h2 (by omega)];(repeat' split)<;>omega)
      | (rw[r6 (by omega) (by omega)];(repeat' split)<;>omega))
  | skip
 refine⟨k+1,⟨by omega,by omega,by rw[←h3,r6 (k:=k) (by omega) (by omega),if_neg (by omega),if_neg (by omega)]⟩,by omega,?_⟩;exact Lf.of2 [] [] enA bxA rfl rfl
theorem yM {a b:List Int}(ha:a.length≤9223372036854775807):Pu Tryz.prog 16 [aQ a,aQ b] (boo (decide (a=b))):=by
 refine Pu.of_v aA T0 Tryz.func16 rfl rfl (by simp[aC,aD]) ?_;repeat' ((conv=>whnf)<;>(first|refine aE.go aA T0 ?_|exact kQ|(refine Br.mk (fun _=>?_) (fun _=>?_)<;>(try(exfalso;omega)))|refine stq ?_|refine Cll.pu (zf sd) ?_))
 all_goals(conv=>whnf)
 all_goals first
  | exact aN.yes (nC.1 (by assumption))
  | exact aN.no (fun hc=>absurd (nC.2 hc) (by assumption))
theorem wi {t:Tbl}{l:List Int}(ht:t.ok) (hx:l.length≤1000) (hok:okL t l):Pu Tryz.prog 78 [d7 t,aQ l] (aQ (acts t l)):=by
 have hL:=Left_c ht hx;have hR:=D4 ht hx;rw[if_pos hok] at hL hR;have hc:=hok.1;have hl:=hok.2.2.2.2.1;have hr:=hok.2.2.2.2.2;have nL:=SL_len (nx:=t.left.next) (l:=l);have nR:=SR_len (nx:=t.right.next) (l:=l);refine Pu.of_v aA T0 Tryz.func78 rfl rfl (by simp[aH,aC,ah,aD,aG]) ?_;repeat' ((conv=>whnf)<;>(first|refine aE.go aA T0 ?_|exact kQ|(refine Br.mk (fun _=>?_) (fun _=>?_)<;>(try(exfalso;omega)))|refine stq ?_|refine aW.pu hL ?_|refine aW.pu hR ?_))
 all_goals(conv=>whnf)
 refine aT.by2 aA T0 (fun(k:Nat) (o:List Int)=>⟨tmp 41 [(2,.ptr 0 0),(5,aQ (SL t.left.next l)),(6,aQ (SR t.right.next l)),(7,aj 1 1 o),(18,i64 (SL t.left.next l).length),(19,i64 (k:Int))],⟨2,cx 1 (fun x=>[i64 x]) o++[(0,.cells [strs t.classes,aQ t.actions,bO t.left.next,bO t.left.marks,bO t.right.next,bO t.right.marks] true)]⟩⟩)
  (fun k o=>k≤l.length+1∧o=(acts t l).take k) (fun k _=>l.length+1-k) 0 [] ⟨by omega,rfl⟩ ?_ ?_
 ·exact Lf.of2 [(0,_)] [] enA bxA rfl rfl
 intro k o ⟨h3,h4⟩;by_cases hk:k<l.length+1
 ·have d1:=mc hl hc k (by omega);have d2:=j3 hr hc (l.length-k) (by omega);have hd:=Bg hok.2 d1 d2;rw[←CK (nx:=t.left.next) (l:=l) (k:=k) (by omega),←CJ (nx:=t.right.next) (l:=l) (k:=k) (by omega)] at hd;have hs:=zb (t:=t) (l:=l) hk;rw[←h4,←CK (nx:=t.left.next) (l:=l) (k:=k) (by omega),←CJ (nx:=t.right.next) (l:=l) (k:=k) (by omega)] at hs;cases o with
  | nil=>
   repeat' ((conv=>whnf)<;>(first|refine aE.go aA T0 ?_|exact kQ|(refine Br.mk (fun _=>?_) (fun _=>?_)<;>(try(exfalso;omega)))|refine stq ?_|refine aW.pu hd ?_))
   all_goals(conv=>whnf)
   refine⟨k+1,_,⟨by omega,hs.symm⟩,by omega,?_⟩;exact Lf.of2 [(0,_),(1,_)] [] enA bxA rfl rfl
  | cons x xs=>
   have hlen:(x::xs).length≤1001:=by rw[h4];simp[acts];omega
   repeat' ((conv=>whnf)<;>(first|refine aE.go aA T0 ?_|exact kQ|(refine Br.mk (fun _=>?_) (fun _=>?_)<;>(try(exfalso;omega)))|refine stq ?_|refine aW.pu hd ?_))
   all_goals(conv=>whnf)
   refine⟨k+1,_,⟨by omega,hs.symm⟩,by omega,?_⟩;exact Lf.of2 [(0,_),(1,_)] [] (by repeat(first|exact aI.nil|refine aI.cons rfl (by first|exact Rd.sl' rfl (by simp) (by simp)|exact rdA|fail) ?_)) (by repeat(first|exact Bxs.nil|refine Bxs.cons rfl rfl rfl (by first|exact Rb.cells (Rds.eqs (bA (by intro _;rfl) (x::xs) _) (aM (by intro _;rfl) _)) rfl|exact rbB|exact Rb.cells (by(repeat(first|exact Rds.nil|refine Rds.cons (by first|exact Rd.sl' rfl (by simp) (by simp)|exact rdA|fail) ?_|fail));(first|done|fail)) rfl|exact rbC|fail) ?_)) rfl rfl
 ·have hall:(acts t l).take k=acts t l:=kE (by rw[dR];omega);rw[hall] at h4;cases o with
  | nil=>exact absurd h4.symm (by intro h;have:=dR (t:=t) (l:=l);rw[h] at this;simp at this)
  | cons x xs=>
   repeat' ((conv=>whnf)<;>(first|refine aE.go aA T0 ?_|exact kQ|(refine Br.mk (fun _=>?_) (fun _=>?_)<;>(try(exfalso;omega)))|refine stq ?_))
   rw[←h4];exact aN.own1 (id:=1) (l:=x::xs) (fun _=>rfl)
theorem wM {l:List Str}{s:Str}(h:1≤l.length):0≤ki l s∧ki l s<l.length:=by
 unfold ki;split
 ·rename_i hm;have:=List.idxOf_lt_length_of_mem hm
  omega
 ·omega
theorem ph {p:Prp}{t:Tbl}{text:List Int}(hv:TV t):CL (bD p t.classes text) t.classes.length:=by
 intro i h;simp only[bD,List.getElem_map];exact wM hv.1.1
theorem Aq {p:Prp}{t:Tbl}{text:List Int}(hv:TV t):okL t (bD p t.classes text):=⟨ph hv,hv⟩
noncomputable def i4 (p:Prp) (t:Tbl) (text:List Int):List Int:=if TV t then acts t (bD p t.classes text) else []
theorem pI {p:Prp}{t:Tbl}{text:List Int}(hp:p.ok) (ht:t.ok) (h1:p.names.length≤1000) (h2:p.spans.length≤1000) (hx:text.length≤1000):Pu Tryz.prog 52 [fF p,d7 t,aQ text] (aQ (i4 p t text)):=by
 refine Pu.of_v aA T0 Tryz.func52 rfl rfl (by simp[aH,aC,aG,aJ,aD,ah]) ?_;by_cases hv:TV t
 ·have hc:=sH (text:=text) hp ht (by omega) (by omega) (by omega);rw[if_pos hv] at hc;have ha:=wi ht (show(bD p t.classes text).length≤1000 by simp[bD];omega) (Aq hv);rw[i4,if_pos hv];repeat' ((conv=>whnf)<;>(first|refine aE.go aA T0 ?_|exact kQ|(refine Br.mk (fun _=>?_) (fun _=>?_)<;>(try(exfalso;omega)))|refine stq ?_|(refine Cll.dec (iQ ht) (fun _=>?_) (fun _=>?_)<;>(try contradiction))|refine bS.by aA T0 [0,0,0,0,14,31,63] (by kernel_rfl) ?_|refine aW.pu hc ?_|refine aW.pu ha ?_))
  all_goals(conv=>whnf)
  exact aN.same (aD _) rfl
 ·rw[i4,if_neg hv];repeat' ((conv=>whnf)<;>(first|refine aE.go aA T0 ?_|exact kQ|(refine Br.mk (fun _=>?_) (fun _=>?_)<;>(try(exfalso;omega)))|refine stq ?_|(refine Cll.dec (iQ ht) (fun _=>?_) (fun _=>?_)<;>(try contradiction))))
  all_goals(conv=>whnf)
  exact⟨.nil⟩
def btw:Int→List Int→List Rng
 | _,[]=>[]
 | s,e::l=>if s<e then⟨s,e⟩::btw e l else btw s l
theorem ez {s e:Int}{l:List Int}(h:s<e):btw s (e::l)=⟨s,e⟩::btw e l:=by rw[btw,if_pos h]
theorem gH {s e:Int}{l:List Int}(h:¬s<e):btw s (e::l)=btw s l:=by rw[btw,if_neg h]
theorem dW {α β:Type}{P:Program}(x:Sem α) (f:α→Sem β):cF P (x >>= f)=(cF P x).bind fun a=>cF P (f a):=by
 show cF P (x.bind f)=_
 induction x with
 | pure a=>rfl
 | program k ih=>exact ih _
 | mark m k ih=>exact ih
 | _=>rfl
theorem yk {α β:Type}{P:Program}(x:Sem α) (f:α→β):cF P (f <$> x)=(cF P x).map f:=by
 rw[map_eq_pure_bind,dW];cases cF P x<;>rfl
theorem fq {α:Type}{P:Program}(a:α):cF P (pure a:Sem α)=some a:=rfl
theorem gn {P:Program}:cF P program=some P:=rfl
theorem eV {P:Program}{t:TypeId}{d:TypeDesc}(h:P.underlying t=some d):cF P (underlying t)=some d:=by
 simp only[underlying,dW,gn,Option.bind_some,h,fq]
theorem nj {P:Program}{d:Nat}{t:TypeId}{k:IntKind}{a b:Int}(h:P.underlying t=some (.int k)):cF P (Op.equalIn (d+1) t (.int .i64 a) (.int .i64 b))=some (a == b):=by
 simp[Op.equalIn,dW,eV h,fq]
theorem pS {P:Program}{t:TypeId}{k:IntKind}{cs:Array Value}{o:Nat}{v:Value}(h:P.underlying t=some (.int k)) (hv:cs[o]?=some v):cF P (part t cs o)=some v:=by
 simp[part,isAgg,dW,eV h,fq,hv]
theorem uH {P:Program}{d:Nat}{t:TypeId}{f0 f1:Field}{k:IntKind}{a b c e:Int}(h:P.underlying t=some (.struct #[f0,f1])) (hs:P.stoodInHeld t=false) (n0:f0.name ≠ "_") (n1:f1.name ≠ "_") (o0:f0.offset=0) (o1:f1.offset=1) (t0:P.underlying f0.type=some (.int k)) (t1:P.underlying f1.type=some (.int k)) :
  cF P (Op.equalIn (d+2) t (.agg #[.int .i64 a,.int .i64 b]) (.agg #[.int .i64 c,.int .i64 e]))=some (a == c&&b == e):=by
 rw[Op.equalIn];simp[dW,eV h,gn,hs,n0,n1,o0,o1,pS t0,nj t0];by_cases h1:a=c<;>by_cases h2:b=e<;>simp[h1,h2,dW,fq,pS t1,nj t1]
theorem CI {P:Program}{t:TypeId}{f0 f1:Field}{k:IntKind}{a b c e:Int}{ox oy:Operand}(h:P.underlying t=some (.struct #[f0,f1])) (hs:P.stoodInHeld t=false) (n0:f0.name ≠ "_") (n1:f1.name ≠ "_") (o0:f0.offset=0) (o1:f1.offset=1) (t0:P.underlying f0.type=some (.int k)) (t1:P.underlying f1.type=some (.int k)) (hg:P.eqGuardType P.depth t=false) :
  cV P .neq t ox oy (.agg [i64 a,i64 b]) (.agg [i64 c,i64 e])=some (.v (.bool (!(a == c&&b == e)))):=by
 have e1:cF P (do eqGuard .neq t ox oy (.agg #[.int .i64 a,.int .i64 b]) (.agg #[.int .i64 c,.int .i64 e]);binOp .neq t (.agg #[.int .i64 a,.int .i64 b]) (.agg #[.int .i64 c,.int .i64 e]))=some (.bool (!(a == c&&b == e))):=by
  have e2:cF P (Op.equalIn 10000 t (.agg #[.int .i64 a,.int .i64 b]) (.agg #[.int .i64 c,.int .i64 e]))=some (a == c&&b == e):=uH (d:=9998) h hs n0 n1 o0 o1 t0 t1;simp[eqGuard,binOp,dW,gn,hg,Op.equal,Op.maxDepth,e2,fq,yk]
 have e3:cV P .neq t ox oy (.agg [i64 a,i64 b]) (.agg [i64 c,i64 e])=(match cF P (do eqGuard .neq t ox oy (.agg #[.int .i64 a,.int .i64 b]) (.agg #[.int .i64 c,.int .i64 e]);binOp .neq t (.agg #[.int .i64 a,.int .i64 b]) (.agg #[.int .i64 c,.int .i64 e])) with|some r=>ofV r|none=>none):=rfl;rw[e3,e1];rfl
theorem xS {a b c e:Int}{ox oy:Operand}:cV Tryz.prog .neq 55 ox oy (.agg [i64 a,i64 b]) (.agg [i64 c,i64 e])=some (.v (.bool (!(a == c&&b == e)))):=
 CI (k:=.i64) rfl (by kernel_rfl) (by decide) (by decide) rfl rfl rfl rfl (by kernel_rfl)
theorem ob {x y:Rng}{ox oy:Operand}(h:¬x=y):cV Tryz.prog .neq 55 ox oy (.agg (cO x)) (.agg (cO y))=some (.v (.bool true)):=by
 rw[xS];cases x;cases y;simp at h;simp only[kA,D.v.injEq,Value.bool.injEq,Bool.not_eq_true',Bool.and_eq_false_imp,beq_iff_eq,beq_eq_false_iff_ne];exact h
theorem s6 {x:Rng}{ox oy:Operand}:cV Tryz.prog .neq 55 ox oy (.agg (cO x)) (.agg (cO x))=some (.v (.bool false)):=by
 rw[xS];simp
end
end Go.Proofs.YtjpgpihbhicinaaGreatDoor
