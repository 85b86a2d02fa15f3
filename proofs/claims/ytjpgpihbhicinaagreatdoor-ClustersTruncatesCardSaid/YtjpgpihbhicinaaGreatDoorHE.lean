/-
  Contracts of functions over data: valid mappings of the reference.
-/
import Derived.Test.YtjpgpihbhicinaaGreatDoorH5
import Derived.Test.YtjpgpihbhicinaaGreatDoorH8
set_option linter.unusedSectionVars false
namespace Go.Proofs.YtjpgpihbhicinaaGreatDoor
section
open Go Go.Am Classical
set_option maxRecDepth 100000
variable [GT]
theorem zG {m:Mpg}(hm:m.to.length<=9223372036854775807):Pu Tryz.prog 175 [.agg (ig m)] (boo (decide (kb m))):=by
 refine Pu.of_v aA T0 Tryz.func175 rfl rfl (by simp[aB,aJ,aF]) ?_;repeat' ((conv=>whnf)<;>(first|refine sg ?_|exact kQ|(refine Br.mk ?_ ?_<;>intro _<;>try(exfalso;omega))|refine stq ?_))
 refine aU.by aA T0 (fun k:Nat=>⟨tmp 21 [(1,.ptr 0 0),(3,i64 (k:Int))],⟨1,[(0,.cells (ig m) true)]⟩⟩)
  (fun k=>k<=m.to.length∧∀ i (h:i<m.to.length),i<k->cpQ m.to[i]) (fun k=>m.to.length-k) 0 ⟨by omega,fun _ _ h=>by omega⟩ ?_ ?_
 ·exact Lf.of2 [(0,_)] [] enA (by repeat(first|exact Bxs.nil|refine Bxs.cons rfl rfl rfl (by first|exact Rb.cells (Rds.same (mH _)) rfl|exact rbB|exact Rb.cells bK rfl|exact rbC|fail) ?_)) rfl rfl
 intro k ⟨h3,h4⟩;by_cases hk:k<m.to.length
 ·repeat' ((conv=>whnf)<;>(first|refine sg ?_|exact kQ|(refine Br.mk ?_ ?_<;>intro _<;>try(exfalso;omega))|refine stq ?_|refine Cll.dec (cL) (fun _=>?_) (fun _=>?_)|refine aO.dec (cL) (fun _=>?_) (fun _=>?_)))
  all_goals(conv=>whnf)
  all_goals first
   | exact aI.no (fun hc=>by rename_i h;exact h (hc.2 k hk))
   | (refine⟨k+1,⟨by omega,ay (by omega) h4 (by assumption)⟩,by omega,?_⟩
      exact Lf.of2 [(0,_)] [] enA (by(repeat(first|exact Bxs.nil|refine Bxs.cons rfl rfl rfl (by first|exact Rb.cells (Rds.same (mH _)) rfl|exact rbB|exact Rb.cells bK rfl|exact rbC|fail) ?_|fail));(first|done|fail)) rfl rfl)
 ·repeat' ((conv=>whnf)<;>(first|refine sg ?_|exact kQ|(refine Br.mk ?_ ?_<;>intro _<;>try(exfalso;omega))|refine stq ?_|refine Cll.dec (cL) (fun _=>?_) (fun _=>?_)|refine aO.dec (cL) (fun _=>?_) (fun _=>?_)))
  all_goals(conv=>whnf)
  all_goals first
   | exact aI.no (fun hc=>by rename_i h;exact h hc.1)
   | exact aI.yes ⟨by assumption,cD (by omega) h4⟩
theorem wN {a b:Mpg}:Pu Tryz.prog 147 [.agg (ig a),.agg (ig b)] (boo (decide (bef a b))):=by
 refine Pu.of_v aA T0 Tryz.func147 rfl rfl (by simp[aB,aJ,aF]) ?_;repeat' ((conv=>whnf)<;>(first|refine sg ?_|exact kQ|(refine Br.mk ?_ ?_<;>intro _<;>try(exfalso;omega))|refine stq ?_))
 all_goals(conv=>whnf)
 all_goals first
  | exact aI.yes (.inl (by omega))
  | exact aI.yes (.inr ⟨by omega,by assumption⟩)
  | exact aI.no (by rintro(h|⟨h,h'⟩)<;>first|omega|contradiction)
theorem yE {l:List Mpg}(hlen:l.length<=9223372036854775806):Pu Tryz.prog 177 [ce l] (boo (decide (Tw l))):=by
 refine Pu.of_v aA T0 Tryz.func177 rfl rfl (by simp[aB,aN]) ?_;repeat' ((conv=>whnf)<;>(first|refine sg ?_|exact kQ|(refine Br.mk ?_ ?_<;>intro _<;>try(exfalso;omega))|refine stq ?_))
 refine aU.by aA T0 (fun k:Nat=>⟨tmp 40 [(0,ce l),(3,i64 (k:Int))],⟨0,[]⟩⟩)
  (fun k=>k<=l.length∧∀ i (h:i<l.length),i<k->∀ j (hj:j<i),¬(l[i].frm=(l[j]'(by omega)).frm∧l[i].tag=(l[j]'(by omega)).tag)) (fun k=>l.length-k) 0 ⟨by omega,fun _ _ h=>by omega⟩ ?_ ?_
 ·exact Lf.of2 [] [] enA bxA rfl rfl
 intro k ⟨h3,h4⟩;by_cases hk:k<l.length
 ·repeat' ((conv=>whnf)<;>(first|refine sg ?_|exact kQ|(refine Br.mk ?_ ?_<;>intro _<;>try(exfalso;omega))|refine stq ?_|fail))
  refine aU.by aA T0 (fun j:Nat=>⟨tmp 40 [(0,ce l),(3,i64 (k:Int)),(4,i64 (j:Int))],⟨0,[]⟩⟩)
   (fun j=>j<=k∧∀ i (h:i<k),i<j->¬(l[k].frm=(l[i]'(by omega)).frm∧l[k].tag=(l[i]'(by omega)).tag)) (fun j=>k-j) 0 ⟨by omega,fun _ _ h=>by omega⟩ ?_ ?_
  ·exact Lf.of2 [] [] enA bxA rfl rfl
  intro j ⟨h5,h6⟩;repeat' ((conv=>whnf)<;>(first|refine Idx.atS (sz:=3) (c:=ig) (by intro _;rfl) j (by omega) (by omega) ?_|refine Idx.atS (sz:=3) (c:=ig) (by intro _;rfl) k (by omega) (by omega) ?_|refine sg ?_|exact kQ|(refine Br.mk ?_ ?_<;>intro _<;>try(exfalso;omega))|refine stq ?_))
  all_goals(conv=>whnf)
  all_goals first
   | exact aI.yes ⟨k,hk,j,by omega,by assumption,by assumption⟩
   | (refine⟨j+1,⟨by omega,ay (by omega) h6 (fun hc=>by first|exact absurd hc.1 (by assumption)|exact absurd hc.2 (by assumption))⟩,by omega,?_⟩
      exact Lf.of2 [] [] enA bxA rfl rfl)
   | (refine⟨k+1,⟨by omega,ay (by omega) h4 (fun i hi=>h6 i hi (by omega))⟩,by omega,?_⟩
      exact Lf.of2 [] [] enA bxA rfl rfl)
 ·repeat' ((conv=>whnf)<;>(first|refine sg ?_|exact kQ|(refine Br.mk ?_ ?_<;>intro _<;>try(exfalso;omega))|refine stq ?_))
  all_goals(conv=>whnf)
  exact aI.no (fun⟨i,hi,j,hj,e⟩=>h4 i hi (by omega) j hj e)
noncomputable def tA (l:List Mpg):Int:=if d5 l=0 then(if Tw l then 5 else 0) else d5 l
theorem uE {l:List Mpg}{e:Int}(h:d5 l=e) (h0:e≠0):tA l=e:=by rw[tA,if_neg (by omega),h]
theorem uns_c {l:List Mpg}(ho:DZ l):Pu Tryz.prog 146 [ce l] (i64 (tA l)):=by
 have hlen:=ho.len;refine Pu.of_v aA T0 Tryz.func146 rfl rfl (by simp[aB,aN]) ?_;repeat' ((conv=>whnf)<;>(first|refine sg ?_|exact kQ|(refine Br.mk ?_ ?_<;>intro _<;>try(exfalso;omega))|refine stq ?_))
 refine aU.by aA T0 (fun k:Nat=>⟨tmp 54 [(0,ce l),(3,i64 (k:Int))],⟨0,[]⟩⟩)
  (fun k=>k<=l.length∧∀ i (h:i<l.length),i<k->kb l[i]) (fun k=>l.length-k) 0 ⟨by omega,fun _ _ h=>by omega⟩ ?_ ?_
 ·exact Lf.of2 [] [] enA bxA rfl rfl
 intro k ⟨h3,h4⟩;by_cases hk:k<l.length
 ·have hto:=ho.to k hk;repeat' ((conv=>whnf)<;>(first|refine sg ?_|exact kQ|(refine Br.mk ?_ ?_<;>intro _<;>try(exfalso;omega))|refine stq ?_|refine Cll.dec (zG sd) (fun _=>?_) (fun _=>?_)|refine aO.dec (zG sd) (fun _=>?_) (fun _=>?_)))
  all_goals(conv=>whnf)
  all_goals first
   | exact aI.int (uE (pE1 hk (by assumption)) (by omega)).symm
   | (refine⟨k+1,⟨by omega,ay (by omega) h4 (by assumption)⟩,by omega,?_⟩
      exact Lf.of2 [] [] enA bxA rfl rfl)
 ·have g1:=cD (by omega:l.length<=k) h4;repeat' ((conv=>whnf)<;>(first|refine sg ?_|exact kQ|(refine Br.mk ?_ ?_<;>intro _<;>try(exfalso;omega))|refine stq ?_|fail))
  refine aU.by aA T0 (fun k:Nat=>⟨tmp 54 [(0,ce l),(4,i64 (k:Int))],⟨0,[]⟩⟩)
   (fun k=>k<=l.length∧∀ i (h:i<l.length),i<k->l[i].to.length<=64) (fun k=>l.length-k) 0 ⟨by omega,fun _ _ h=>by omega⟩ ?_ ?_
  ·exact Lf.of2 [] [] enA bxA rfl rfl
  intro k ⟨h3,h4⟩;by_cases hk:k<l.length
  ·have hto:=ho.to k hk;repeat' ((conv=>whnf)<;>(first|refine sg ?_|exact kQ|(refine Br.mk ?_ ?_<;>intro _<;>try(exfalso;omega))|refine stq ?_))
   all_goals(conv=>whnf)
   all_goals first
    | exact aI.int (uE (pE2 g1 hk (by omega)) (by omega)).symm
    | (refine⟨k+1,⟨by omega,ay (by omega) h4 (by omega)⟩,by omega,?_⟩
       exact Lf.of2 [] [] enA bxA rfl rfl)
  ·have g2:=cD (by omega:l.length<=k) h4;repeat' ((conv=>whnf)<;>(first|refine sg ?_|exact kQ|(refine Br.mk ?_ ?_<;>intro _<;>try(exfalso;omega))|refine stq ?_|fail))
   refine aU.by aA T0 (fun k:Nat=>⟨tmp 54 [(0,ce l),(5,i64 (k:Int))],⟨0,[]⟩⟩)
    (fun k=>k<=l.length∧∀ i (h:i<l.length),i<k->BA l[i]) (fun k=>l.length-k) 0 ⟨by omega,fun _ _ h=>by omega⟩ ?_ ?_
   ·exact Lf.of2 [] [] enA bxA rfl rfl
   intro k ⟨h3,h4⟩;by_cases hk:k<l.length
   ·have htg:=ho.tag k hk;repeat' ((conv=>whnf)<;>(first|refine sg ?_|exact kQ|(refine Br.mk ?_ ?_<;>intro _<;>try(exfalso;omega))|refine stq ?_|refine Cll.dec (yY sd) (fun _=>?_) (fun _=>?_)|refine aO.dec (yY sd) (fun _=>?_) (fun _=>?_)))
    all_goals(conv=>whnf)
    all_goals first
     | exact aI.int (uE (pE6 g1 g2 hk (by rintro(h|h)<;>first|contradiction|exact absurd h (by assumption))) (by omega)).symm
     | (refine⟨k+1,⟨by omega,ay (by omega) h4 (by first|exact .inl (by assumption)|exact .inr (by assumption))⟩,by omega,?_⟩
        exact Lf.of2 [] [] enA bxA rfl rfl)
   ·repeat' ((conv=>whnf)<;>(first|refine sg ?_|exact kQ|(refine Br.mk ?_ ?_<;>intro _<;>try(exfalso;omega))|refine stq ?_|refine Cll.dec (yE sd) (fun _=>?_) (fun _=>?_)|refine aO.dec (yE sd) (fun _=>?_) (fun _=>?_)))
    all_goals(conv=>whnf)
    all_goals first
     | exact aI.int (by rename_i h;rw[tA,if_pos (pE0 g1 g2 (cD (by omega) h4)),if_pos h])
     | exact aI.int (by rename_i h;rw[tA,if_pos (pE0 g1 g2 (cD (by omega) h4)),if_neg h])
theorem rm {l:List Mpg}(ho:DZ l):∃ e:Int,Pu Tryz.prog 109 [ce l] (i64 e)∧(e=0↔MOk l):=by
 have hlen:=ho.len;have hu:=uns_c ho;by_cases h0:tA l=0
 ·rw[h0] at hu
  have hp:d5 l=0:=by
   rw[tA] at h0;split at h0
   ·assumption
   ·exact h0
  refine⟨if Asc l then 0 else 4,?_,fun h=>⟨hp,by split at h<;>first|assumption|omega⟩,fun h=>by rw[if_pos h.2]⟩;refine Pu.of_v aA T0 Tryz.func109 rfl rfl (by simp[aB,aN]) ?_;repeat' ((conv=>whnf)<;>(first|refine sg ?_|exact kQ|(refine Br.mk ?_ ?_<;>intro _<;>try(exfalso;omega))|refine stq ?_|refine Cll.pu (hu) ?_|fail))
  refine aU.by aA T0 (fun k:Nat=>⟨tmp 27 [(0,ce l),(4,i64 ((k+1:Nat):Int))],⟨0,[]⟩⟩)
   (fun k=>k<=l.length∧∀ i (h:i<l.length),i<=k->∀ h0:i≠0,bef (l[i-1]'(by omega)) l[i]) (fun k=>l.length-k) 0 ⟨by omega,fun i h hi h0=>by omega⟩ ?_ ?_
  ·exact Lf.of2 [] [] enA bxA rfl rfl
  intro k ⟨h3,h4⟩;by_cases hk:k+1<l.length
  ·repeat' ((conv=>whnf)<;>(first|refine Idx.atS (sz:=3) (c:=ig) (by intro _;rfl) k (by omega) (by omega) ?_|refine Idx.atS (sz:=3) (c:=ig) (by intro _;rfl) (k+1) (by omega) (by omega) ?_|refine sg ?_|exact kQ|(refine Br.mk ?_ ?_<;>intro _<;>try(exfalso;omega))|refine stq ?_|refine Cll.dec (wN) (fun _=>?_) (fun _=>?_)|refine aO.dec (wN) (fun _=>?_) (fun _=>?_)))
   all_goals(conv=>whnf)
   all_goals first
    | exact aI.int (by rename_i hb;rw[if_neg (fun ha:Asc l=>hb (by have:=ha (k+1) hk (by omega);simpa using this))])
    | (rename_i hb
       refine⟨k+1,⟨by omega,fun i h hi h0=>(Decidable.em (i=k+1)).elim (fun he=>by subst he;simpa using hb) (fun he=>h4 i h (by omega) h0)⟩,by omega,?_⟩
       exact Lf.of2 [] [] enA bxA rfl rfl)
  ·repeat' ((conv=>whnf)<;>(first|refine sg ?_|exact kQ|(refine Br.mk ?_ ?_<;>intro _<;>try(exfalso;omega))|refine stq ?_))
   all_goals(conv=>whnf)
   have ha:Asc l:=fun i h h0=>h4 i h (by omega) h0
   exact aI.int (by rw[if_pos ha])
 ·refine⟨tA l,?_,fun h=>absurd h h0,fun h=>by rw[tA,if_pos h.1,if_neg h.2.once]⟩;refine Pu.of_v aA T0 Tryz.func109 rfl rfl (by simp[aB,aN]) ?_;repeat' ((conv=>whnf)<;>(first|refine sg ?_|exact kQ|(refine Br.mk ?_ ?_<;>intro _<;>try(exfalso;omega))|refine stq ?_|refine Cll.pu (hu) ?_))
  all_goals(conv=>whnf)
  exact aI.same rfl rfl
end
section
open Go Go.Am Classical
set_option maxRecDepth 100000
variable [GT]
theorem ad:Pu Tryz.prog 46 [] (strs bA):=by
 refine Pu.of_v aA T0 Tryz.func46 rfl rfl rfl ?_;repeat' ((conv=>whnf)<;>(first|refine sg ?_|exact kQ|(refine Br.mk ?_ ?_<;>intro _<;>try(exfalso;omega))|refine stq ?_))
 all_goals(conv=>whnf)
 exact⟨Rd.frz rfl rfl (kD rfl) (Rds.eqs rfl rfl)⟩
set_option maxHeartbeats 8000000 in
theorem gt (d:Db):∀ k:Nat,k<7->Pu Tryz.prog 43 [dbD d,i64 (k:Int)] (du (prop d k)):=by
 intro k hk;have hn:=lB (prop d k);rcases(by omega:k=0∨k=1∨k=2∨k=3∨k=4∨k=5∨k=6) with rfl|rfl|rfl|rfl|rfl|rfl|rfl
 all_goals
  refine Pu.of_v aA T0 Tryz.func43 rfl rfl (by simp[aJ,aB,aE,aG,aN,aK]) ?_;repeat' ((conv=>whnf)<;>(first|refine sg ?_|exact kQ|(refine Br.mk ?_ ?_<;>intro _<;>try(exfalso;omega))|refine stq ?_))
  all_goals(conv=>whnf)
  exact⟨Rd.eqd rfl hn⟩
theorem lA (l:List Rng):aJ (rI l)=true:=by simp[aJ,aB,aK]
set_option maxHeartbeats 8000000 in
theorem lx (d:Db):∀ k:Nat,k<6->Pu Tryz.prog 45 [dbD d,i64 (k:Int)] (rI (zl d k)):=by
 intro k hk;have hn:=lA (zl d k);rcases(by omega:k=0∨k=1∨k=2∨k=3∨k=4∨k=5) with rfl|rfl|rfl|rfl|rfl|rfl
 all_goals
  refine Pu.of_v aA T0 Tryz.func45 rfl rfl (by simp[aJ,aB,aE,aG,aN,aK]) ?_;repeat' ((conv=>whnf)<;>(first|refine sg ?_|exact kQ|(refine Br.mk ?_ ?_<;>intro _<;>try(exfalso;omega))|refine stq ?_))
  all_goals(conv=>whnf)
  exact⟨Rd.eqd rfl hn⟩
set_option maxHeartbeats 8000000 in
theorem ly (d:Db):∀ k:Nat,k<21->Pu Tryz.prog 48 [dbD d,i64 (k:Int)] (ce (fg d k)):=by
 intro k hk;have hn:=aN (fg d k);rcases(by omega:k=0∨k=1∨k=2∨k=3∨k=4∨k=5∨k=6∨k=7∨k=8∨k=9∨k=10∨k=11∨k=12∨k=13∨k=14∨k=15∨k=16∨k=17∨k=18∨k=19∨k=20) with rfl|rfl|rfl|rfl|rfl|rfl|rfl|rfl|rfl|rfl|rfl|rfl|rfl|rfl|rfl|rfl|rfl|rfl|rfl|rfl|rfl
 all_goals
  refine Pu.of_v aA T0 Tryz.func48 rfl rfl (by simp[aJ,aB,aE,aG,aN,aK]) ?_;repeat' ((conv=>whnf)<;>(first|refine Br.strF rfl ?_|refine Br.strT rfl ?_|refine Idx.at (f:=D.str) (l:=bA) _ rfl (kD rfl) ?_|refine sg ?_|exact kQ|(refine Br.mk ?_ ?_<;>intro _<;>try(exfalso;omega))|refine stq ?_|refine Cll.pu (ad) ?_))
  all_goals(conv=>whnf)
  exact⟨Rd.eqd rfl hn⟩
def sof (k:Nat):Int:=([-1,-1,-1,-1,-1,-1,-1,-1,-1,-1,0,-1,-1,-1,-1,1,2,3,4,5,-1]:List Int).getD k 0
set_option maxHeartbeats 8000000 in
theorem d9:∀ k:Nat,k<21->Pu Tryz.prog 107 [.str (hG k)] (i64 (sof k)):=by
 intro k hk;rcases(by omega:k=0∨k=1∨k=2∨k=3∨k=4∨k=5∨k=6∨k=7∨k=8∨k=9∨k=10∨k=11∨k=12∨k=13∨k=14∨k=15∨k=16∨k=17∨k=18∨k=19∨k=20) with rfl|rfl|rfl|rfl|rfl|rfl|rfl|rfl|rfl|rfl|rfl|rfl|rfl|rfl|rfl|rfl|rfl|rfl|rfl|rfl|rfl
 all_goals
  refine Pu.of_v aA T0 Tryz.func107 rfl rfl rfl ?_;repeat' ((conv=>whnf)<;>(first|refine Br.strF rfl ?_|refine Br.strT rfl ?_|refine sg ?_|exact kQ|(refine Br.mk ?_ ?_<;>intro _<;>try(exfalso;omega))|refine stq ?_))
  all_goals(conv=>whnf)
  exact⟨Rd.eqd rfl rfl⟩
theorem o9 {n:Int}:Pu Tryz.prog 79 [i64 n] (boo (decide (s9 n))):=by
 refine Pu.of_v aA T0 Tryz.func79 rfl rfl rfl ?_;repeat' ((conv=>whnf)<;>(first|refine sg ?_|exact kQ|(refine Br.mk ?_ ?_<;>intro _<;>try(exfalso;omega))|refine stq ?_))
 all_goals(conv=>whnf)
 all_goals first
  | exact aI.yes ⟨by omega,by omega⟩
  | exact aI.no (fun hc=>by have:=hc.1;have:=hc.2;omega)
theorem rcls_c {l:List Spn}(hl:l.length<=9223372036854775807):Pu Tryz.prog 106 [dO l] (boo (decide (ClV l))):=by
 refine Pu.of_v aA T0 Tryz.func106 rfl rfl (by simp[aB,aG]) ?_;repeat' ((conv=>whnf)<;>(first|refine sg ?_|exact kQ|(refine Br.mk ?_ ?_<;>intro _<;>try(exfalso;omega))|refine stq ?_))
 refine aU.by aA T0 (fun k:Nat=>⟨tmp 76 [(0,dO l),(3,i64 (k:Int))],⟨0,[]⟩⟩)
  (fun k=>k<=l.length∧∀ i (h:i<l.length),i<k->ClQ l i l[i]) (fun k=>l.length-k) 0 ⟨by omega,fun _ _ h=>by omega⟩ ?_ ?_
 ·exact Lf.of2 [] [] enA bxA rfl rfl
 intro k ⟨h3,h4⟩;by_cases hk:k=0
 ·subst hk;repeat' ((conv=>whnf)<;>(first|refine sg ?_|exact kQ|(refine Br.mk ?_ ?_<;>intro _<;>try(exfalso;omega))|refine stq ?_))
  all_goals(conv=>whnf)
  all_goals first
   | exact aI.no (fun hc=>by have:=(hc 0 (by omega)).1;omega)
   | exact aI.yes (cD (by omega) h4)
   | (refine⟨0+1,⟨by omega,ay (by omega) h4 ⟨by omega,fun h=>absurd rfl h⟩⟩,by omega,?_⟩
      exact Lf.of2 [] [] enA bxA rfl rfl)
 ·by_cases hk2:k<l.length
  ·have h5:=h4 (k-1) (by omega) (by omega);have h6:=h5.1;have e:l.getD (k-1) default=l[k-1]:=aX (by omega);repeat' ((conv=>whnf)<;>(first|refine sg ?_|exact kQ|(refine Br.mk ?_ ?_<;>intro _<;>try(exfalso;omega))|refine stq ?_|refine Idx.atS (by intro _;rfl) (k-1) (by omega) (by omega) ?_))
   all_goals(conv=>whnf)
   all_goals first
    | exact aI.no (fun hc=>by have h7:=hc k (by omega);have:=h7.1;have:=h7.2 hk;rw[e] at this;omega)
    | (refine⟨k+1,⟨by omega,ay (by omega) h4 ⟨by omega,fun _=>by rw[e];omega⟩⟩,by omega,?_⟩
       exact Lf.of2 [] [] enA bxA rfl rfl)
  ·repeat' ((conv=>whnf)<;>(first|refine sg ?_|exact kQ|(refine Br.mk ?_ ?_<;>intro _<;>try(exfalso;omega))|refine stq ?_))
   all_goals(conv=>whnf)
   exact aI.yes (cD (by omega) h4)
theorem um {l:List Rng}:Pu Tryz.prog 44 [rI l] (boo (decide (l.length<=12))):=by
 refine Pu.of_v aA T0 Tryz.func44 rfl rfl (by simp[aJ,aB,aK]) ?_;repeat' ((conv=>whnf)<;>(first|refine sg ?_|exact kQ|(refine Br.mk ?_ ?_<;>intro _<;>try(exfalso;omega))|refine stq ?_))
 all_goals(conv=>whnf)
 all_goals first
  | exact aI.yes (by omega)
  | exact aI.no (by omega)
theorem B2 {l:List Mpg}(hlen:l.length<=9223372036854775807) (hto0:∀ i (h:i<l.length),l[i].to.length<=9223372036854775807∧l[i].tag.length<=9223372036854775807):Pu Tryz.prog 47 [ce l] (boo (decide (SmM l))):=by
 refine Pu.of_v aA T0 Tryz.func47 rfl rfl (by simp[aB,aN]) ?_;repeat' ((conv=>whnf)<;>(first|refine sg ?_|exact kQ|(refine Br.mk ?_ ?_<;>intro _<;>try(exfalso;omega))|refine stq ?_))
 refine aU.by aA T0 (fun k:Nat=>⟨tmp 33 [(0,ce l),(3,i64 (k:Int))],⟨0,[]⟩⟩)
  (fun k=>(k<=l.length∧k<=30)∧∀ i (h:i<l.length),i<k->(i<30->l[i].to.length<=65∧l[i].tag.length<=40)) (fun k=>l.length-k) 0 ⟨by omega,fun _ _ h=>by omega⟩ ?_ ?_
 ·exact Lf.of2 [] [] enA bxA rfl rfl
 intro k ⟨⟨h3,h5⟩,h4⟩;by_cases hk:k<l.length
 ·have hto:=(hto0 k hk).1;have htg:=(hto0 k hk).2;by_cases hk3:k<30
  ·repeat' ((conv=>whnf)<;>(first|refine sg ?_|exact kQ|(refine Br.mk ?_ ?_<;>intro _<;>try(exfalso;omega))|refine stq ?_))
   all_goals(conv=>whnf)
   all_goals first
    | exact aI.no (fun hc=>by have:=hc.1 k hk hk3;omega)
    | (refine⟨k+1,⟨⟨by omega,by omega⟩,ay hk h4 (fun _=>by omega)⟩,by omega,?_⟩
       exact Lf.of2 [] [] enA bxA rfl rfl)
  ·repeat' ((conv=>whnf)<;>(first|refine sg ?_|exact kQ|(refine Br.mk ?_ ?_<;>intro _<;>try(exfalso;omega))|refine stq ?_))
   all_goals(conv=>whnf)
   all_goals first
    | exact aI.no (fun hc=>by have:=hc.2;omega)
    | exact aI.yes ⟨fun i h hi=>h4 i h (by omega) hi,by omega⟩
 ·repeat' ((conv=>whnf)<;>(first|refine sg ?_|exact kQ|(refine Br.mk ?_ ?_<;>intro _<;>try(exfalso;omega))|refine stq ?_))
  all_goals(conv=>whnf)
  all_goals first
   | exact aI.no (fun hc=>by have:=hc.2;omega)
   | exact aI.yes ⟨fun i h hi=>h4 i h (by omega) hi,by omega⟩
end
section
open Go Go.Am Classical
set_option maxRecDepth 100000
variable [GT]
theorem BI {Q:Nat->Prop}{k:Nat}(h:∀ i,i<k->Q i) (h0:Q k):∀ i,i<k+1->Q i:=fun i hi=>by
 rcases(by omega:i<k∨i=k) with h1|rfl
 ·exact h i h1
 ·exact h0
theorem Cp {d:Db}(ho:d.ok):Pu Tryz.prog 28 [dbD d] (boo (decide (SmD d))):=by
 have hcl:=ho.classes;refine Pu.of_v aA T0 Tryz.func28 rfl rfl (by simp[aJ,aB,aE,aG,aN,aK]) ?_;repeat' ((conv=>whnf)<;>(first|refine sg ?_|exact kQ|(refine Br.mk ?_ ?_<;>intro _<;>try(exfalso;omega))|refine stq ?_))
 all_goals(conv=>whnf)
 all_goals first
  | exact aI.no (fun hc=>by have:=hc.1;omega)
  | skip
 refine aU.by aA T0 (fun k:Nat=>⟨tmp 49 [(1,.ptr 0 0),(3,i64 (k:Int))],⟨1,[(0,.cells (dbC d) true)]⟩⟩)
  (fun k=>k<=7∧∀ i,i<k->(prop d i).names.length<=30∧(prop d i).spans.length<=16) (fun k=>7-k) 0 ⟨by omega,fun _ h=>by omega⟩ ?_ ?_
 ·exact Lf.of2 [(0,_)] [] enA (by repeat(first|exact Bxs.nil|refine Bxs.cons rfl rfl rfl (by first|exact Rb.cells (Rds.same (ae d)) rfl|exact rbB|exact Rb.cells bK rfl|exact rbC|fail) ?_)) rfl rfl
 intro k ⟨h3,h4⟩;by_cases hk:k<7
 ·have hp:=gt d k hk;have hn:=(ho.prop k).names;have hsp:=(ho.prop k).spans;repeat' ((conv=>whnf)<;>(first|refine sg ?_|exact kQ|(refine Br.mk ?_ ?_<;>intro _<;>try(exfalso;omega))|refine stq ?_|refine Cll.pu (hp) ?_))
  all_goals(conv=>whnf)
  all_goals first
   | exact aI.no (fun hc=>by have:=hc.2.1 k hk;omega)
   | (refine⟨k+1,⟨by omega,BI h4 (by omega)⟩,by omega,?_⟩
      exact Lf.of2 [(0,_)] [] enA (by(repeat(first|exact Bxs.nil|refine Bxs.cons rfl rfl rfl (by first|exact Rb.cells (Rds.same (ae d)) rfl|exact rbB|exact Rb.cells bK rfl|exact rbC|fail) ?_|fail));(first|done|fail)) rfl rfl)
 have g1:=fun i (hi:i<7)=>h4 i (by omega)
 repeat' ((conv=>whnf)<;>(first|refine sg ?_|exact kQ|(refine Br.mk ?_ ?_<;>intro _<;>try(exfalso;omega))|refine stq ?_|fail))
 refine aU.by aA T0 (fun k:Nat=>⟨tmp 49 [(1,.ptr 0 0),(5,i64 (k:Int))],⟨1,[(0,.cells (dbC d) true)]⟩⟩)
  (fun k=>k<=6∧∀ i,i<k->(zl d i).length<=12) (fun k=>6-k) 0 ⟨by omega,fun _ h=>by omega⟩ ?_ ?_
 ·exact Lf.of2 [(0,_)] [] enA (by repeat(first|exact Bxs.nil|refine Bxs.cons rfl rfl rfl (by first|exact Rb.cells (Rds.same (ae d)) rfl|exact rbB|exact Rb.cells bK rfl|exact rbC|fail) ?_)) rfl rfl
 intro k ⟨h3,h4⟩;by_cases hk:k<6
 ·have hp:=lx d k hk;repeat' ((conv=>whnf)<;>(first|refine sg ?_|exact kQ|(refine Br.mk ?_ ?_<;>intro _<;>try(exfalso;omega))|refine stq ?_|refine Cll.pu (hp) ?_|refine Cll.dec (um) (fun _=>?_) (fun _=>?_)|refine aO.dec (um) (fun _=>?_) (fun _=>?_)))
  all_goals(conv=>whnf)
  all_goals first
   | exact aI.no (fun hc=>by have:=hc.2.2.1 k hk;omega)
   | (refine⟨k+1,⟨by omega,BI h4 (by omega)⟩,by omega,?_⟩
      exact Lf.of2 [(0,_)] [] enA (by(repeat(first|exact Bxs.nil|refine Bxs.cons rfl rfl rfl (by first|exact Rb.cells (Rds.same (ae d)) rfl|exact rbB|exact Rb.cells bK rfl|exact rbC|fail) ?_|fail));(first|done|fail)) rfl rfl)
 have g2:=fun i (hi:i<6)=>h4 i (by omega)
 repeat' ((conv=>whnf)<;>(first|refine sg ?_|exact kQ|(refine Br.mk ?_ ?_<;>intro _<;>try(exfalso;omega))|refine stq ?_|fail))
 refine aU.by aA T0 (fun k:Nat=>⟨tmp 49 [(1,.ptr 0 0),(6,i64 (k:Int))],⟨1,[(0,.cells (dbC d) true)]⟩⟩)
  (fun k=>k<=21∧∀ i,i<k->SmM (fg d i)) (fun k=>21-k) 0 ⟨by omega,fun _ h=>by omega⟩ ?_ ?_
 ·exact Lf.of2 [(0,_)] [] enA (by repeat(first|exact Bxs.nil|refine Bxs.cons rfl rfl rfl (by first|exact Rb.cells (Rds.same (ae d)) rfl|exact rbB|exact Rb.cells bK rfl|exact rbC|fail) ?_)) rfl rfl
 intro k ⟨h3,h4⟩;have hfl:bA.length=21:=rfl;by_cases hk:k<21
 ·have hp:=ly d k hk;have hm:=B2 (l:=fg d k) (ho.maps k).1 (ho.maps k).2;repeat' ((conv=>whnf)<;>(first|refine sg ?_|exact kQ|(refine Br.mk ?_ ?_<;>intro _<;>try(exfalso;omega))|refine stq ?_|refine Cll.pu (ad) ?_|refine Cll.pu (hp) ?_|refine Cll.dec (hm) (fun _=>?_) (fun _=>?_)|refine aO.dec (hm) (fun _=>?_) (fun _=>?_)))
  all_goals(conv=>whnf)
  all_goals first
   | exact aI.no (fun hc=>by have:=hc.2.2.2 k hk;contradiction)
   | (refine⟨k+1,⟨by omega,BI h4 (by assumption)⟩,by omega,?_⟩
      exact Lf.of2 [(0,_)] [] enA (by(repeat(first|exact Bxs.nil|refine Bxs.cons rfl rfl rfl (by first|exact Rb.cells (Rds.same (ae d)) rfl|exact rbB|exact Rb.cells bK rfl|exact rbC|fail) ?_|fail));(first|done|fail)) rfl rfl)
 repeat' ((conv=>whnf)<;>(first|refine sg ?_|exact kQ|(refine Br.mk ?_ ?_<;>intro _<;>try(exfalso;omega))|refine stq ?_|refine Cll.pu (ad) ?_))
 all_goals(conv=>whnf)
 exact aI.yes ⟨by omega,g1,g2,fun i hi=>h4 i (by omega)⟩
end
end Go.Proofs.YtjpgpihbhicinaaGreatDoor
