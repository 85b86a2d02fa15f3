/-
  Contracts of functions over data: valid mappings of the reference.
-/
import Derived.Test.YtnjmcdmjmaopdaaGreatDoorH5
import Derived.Test.YtnjmcdmjmaopdaaGreatDoorH8
set_option linter.unusedSectionVars false
namespace Go.Proofs.YtnjmcdmjmaopdaaGreatDoor
section
open Go Go.Am Classical
set_option maxRecDepth 100000
variable [GT]
theorem yn {m:Mpg}(hm:m.to.length≤9223372036854775807):Pu Tryz.prog 138 [.agg (ib m)] (boo (decide (kZ m))):=by
 refine Pu.of_v aA T0 Tryz.func138 rfl rfl (by simp[aD,aJ,aM]) ?_;repeat' ((conv=>whnf)<;>(first|refine aB.go aA T0 ?_|exact kQ|(refine Br.mk (fun _=>?_) (fun _=>?_)<;>(try(exfalso;omega)))|refine stq ?_))
 refine aU.by aA T0 (fun k:Nat=>⟨tmp 21 [(1,.ptr 0 0),(3,i64 (k:Int))],⟨1,[(0,.cells (ib m) true)]⟩⟩)
  (fun k=>k≤m.to.length∧∀ i (h:i<m.to.length),i<k→cpQ m.to[i]) (fun k=>m.to.length-k) 0 ⟨by omega,fun _ _ h=>by omega⟩ ?_ ?_
 ·exact Lf.of2 [(0,_)] [] enA (by repeat(first|exact Bxs.nil|refine Bxs.cons rfl rfl rfl (by first|exact Rb.cells (Rds.same (ly _)) rfl|exact rbB|exact Rb.cells bS rfl|exact rbC|fail) ?_)) rfl rfl
 intro k ⟨h3,h4⟩;by_cases hk:k<m.to.length
 ·repeat' ((conv=>whnf)<;>(first|refine aB.go aA T0 ?_|exact kQ|(refine Br.mk (fun _=>?_) (fun _=>?_)<;>(try(exfalso;omega)))|refine stq ?_|refine Cll.dec (cK) (fun _=>?_) (fun _=>?_)|refine aN.dec (cK) (fun _=>?_) (fun _=>?_)))
  all_goals(conv=>whnf)
  all_goals first
   | exact aH.no (fun hc=>by rename_i h;exact h (hc.2 k hk))
   | (refine⟨k+1,⟨by omega,ay (by omega) h4 (by assumption)⟩,by omega,?_⟩
      exact Lf.of2 [(0,_)] [] enA (by(repeat(first|exact Bxs.nil|refine Bxs.cons rfl rfl rfl (by first|exact Rb.cells (Rds.same (ly _)) rfl|exact rbB|exact Rb.cells bS rfl|exact rbC|fail) ?_|fail));(first|done|fail)) rfl rfl)
 ·repeat' ((conv=>whnf)<;>(first|refine aB.go aA T0 ?_|exact kQ|(refine Br.mk (fun _=>?_) (fun _=>?_)<;>(try(exfalso;omega)))|refine stq ?_|refine Cll.dec (cK) (fun _=>?_) (fun _=>?_)|refine aN.dec (cK) (fun _=>?_) (fun _=>?_)))
  all_goals(conv=>whnf)
  all_goals first
   | exact aH.no (fun hc=>by rename_i h;exact h hc.1)
   | exact aH.yes ⟨by assumption,cA (by omega) h4⟩
theorem vq {a b:Mpg}:Pu Tryz.prog 105 [.agg (ib a),.agg (ib b)] (boo (decide (bef a b))):=by
 refine Pu.of_v aA T0 Tryz.func105 rfl rfl (by simp[aD,aJ,aM]) ?_;repeat' ((conv=>whnf)<;>(first|refine aB.go aA T0 ?_|exact kQ|(refine Br.mk (fun _=>?_) (fun _=>?_)<;>(try(exfalso;omega)))|refine stq ?_))
 all_goals(conv=>whnf)
 all_goals first
  | exact aH.yes (.inl (by omega))
  | exact aH.yes (.inr ⟨by omega,by assumption⟩)
  | exact aH.no (by rintro(h|⟨h,h'⟩)<;>first|omega|contradiction)
theorem xl {l:List Mpg}(hlen:l.length≤9223372036854775806):Pu Tryz.prog 140 [cn l] (boo (decide (Tw l))):=by
 refine Pu.of_v aA T0 Tryz.func140 rfl rfl (by simp[aD,aP]) ?_;repeat' ((conv=>whnf)<;>(first|refine aB.go aA T0 ?_|exact kQ|(refine Br.mk (fun _=>?_) (fun _=>?_)<;>(try(exfalso;omega)))|refine stq ?_))
 refine aU.by aA T0 (fun k:Nat=>⟨tmp 40 [(0,cn l),(3,i64 (k:Int))],⟨0,[]⟩⟩)
  (fun k=>k≤l.length∧∀ i (h:i<l.length),i<k→∀ j (hj:j<i),¬(l[i].frm=(l[j]'(by omega)).frm∧l[i].tag=(l[j]'(by omega)).tag)) (fun k=>l.length-k) 0 ⟨by omega,fun _ _ h=>by omega⟩ ?_ ?_
 ·exact Lf.of2 [] [] enA bxA rfl rfl
 intro k ⟨h3,h4⟩;by_cases hk:k<l.length
 ·repeat' ((conv=>whnf)<;>(first|refine aB.go aA T0 ?_|exact kQ|(refine Br.mk (fun _=>?_) (fun _=>?_)<;>(try(exfalso;omega)))|refine stq ?_|fail))
  refine aU.by aA T0 (fun j:Nat=>⟨tmp 40 [(0,cn l),(3,i64 (k:Int)),(4,i64 (j:Int))],⟨0,[]⟩⟩)
   (fun j=>j≤k∧∀ i (h:i<k),i<j→¬(l[k].frm=(l[i]'(by omega)).frm∧l[k].tag=(l[i]'(by omega)).tag)) (fun j=>k-j) 0 ⟨by omega,fun _ _ h=>by omega⟩ ?_ ?_
  ·exact Lf.of2 [] [] enA bxA rfl rfl
  intro j ⟨h5,h6⟩;repeat' ((conv=>whnf)<;>(first|refine Idx.atS (sz:=3) (c:=ib) (by intro _;rfl) j (by omega) (by omega) ?_|refine Idx.atS (sz:=3) (c:=ib) (by intro _;rfl) k (by omega) (by omega) ?_|refine aB.go aA T0 ?_|exact kQ|(refine Br.mk (fun _=>?_) (fun _=>?_)<;>(try(exfalso;omega)))|refine stq ?_))
  all_goals(conv=>whnf)
  all_goals first
   | exact aH.yes ⟨k,hk,j,by omega,by assumption,by assumption⟩
   | (refine⟨j+1,⟨by omega,ay (by omega) h6 (fun hc=>by first|exact absurd hc.1 (by assumption)|exact absurd hc.2 (by assumption))⟩,by omega,?_⟩
      exact Lf.of2 [] [] enA bxA rfl rfl)
   | (refine⟨k+1,⟨by omega,ay (by omega) h4 (fun i hi=>h6 i hi (by omega))⟩,by omega,?_⟩
      exact Lf.of2 [] [] enA bxA rfl rfl)
 ·repeat' ((conv=>whnf)<;>(first|refine aB.go aA T0 ?_|exact kQ|(refine Br.mk (fun _=>?_) (fun _=>?_)<;>(try(exfalso;omega)))|refine stq ?_))
  all_goals(conv=>whnf)
  exact aH.no (fun⟨i,hi,j,hj,e⟩=>h4 i hi (by omega) j hj e)
noncomputable def se (l:List Mpg):Int:=if dw l=0 then(if Tw l then 5 else 0) else dw l
theorem uE {l:List Mpg}{e:Int}(h:dw l=e) (h0:e≠0):se l=e:=by rw[se,if_neg (by omega),h]
theorem uns_c {l:List Mpg}(ho:DD l):Pu Tryz.prog 104 [cn l] (i64 (se l)):=by
 have hlen:=ho.len;refine Pu.of_v aA T0 Tryz.func104 rfl rfl (by simp[aD,aP]) ?_;repeat' ((conv=>whnf)<;>(first|refine aB.go aA T0 ?_|exact kQ|(refine Br.mk (fun _=>?_) (fun _=>?_)<;>(try(exfalso;omega)))|refine stq ?_))
 refine aU.by aA T0 (fun k:Nat=>⟨tmp 54 [(0,cn l),(3,i64 (k:Int))],⟨0,[]⟩⟩)
  (fun k=>k≤l.length∧∀ i (h:i<l.length),i<k→kZ l[i]) (fun k=>l.length-k) 0 ⟨by omega,fun _ _ h=>by omega⟩ ?_ ?_
 ·exact Lf.of2 [] [] enA bxA rfl rfl
 intro k ⟨h3,h4⟩;by_cases hk:k<l.length
 ·have hto:=ho.to k hk;repeat' ((conv=>whnf)<;>(first|refine aB.go aA T0 ?_|exact kQ|(refine Br.mk (fun _=>?_) (fun _=>?_)<;>(try(exfalso;omega)))|refine stq ?_|refine Cll.dec (yn sd) (fun _=>?_) (fun _=>?_)|refine aN.dec (yn sd) (fun _=>?_) (fun _=>?_)))
  all_goals(conv=>whnf)
  all_goals first
   | exact aH.int (uE (pE1 hk (by assumption)) (by omega)).symm
   | (refine⟨k+1,⟨by omega,ay (by omega) h4 (by assumption)⟩,by omega,?_⟩
      exact Lf.of2 [] [] enA bxA rfl rfl)
 ·have g1:=cA (by omega:l.length≤k) h4;repeat' ((conv=>whnf)<;>(first|refine aB.go aA T0 ?_|exact kQ|(refine Br.mk (fun _=>?_) (fun _=>?_)<;>(try(exfalso;omega)))|refine stq ?_|fail))
  refine aU.by aA T0 (fun k:Nat=>⟨tmp 54 [(0,cn l),(4,i64 (k:Int))],⟨0,[]⟩⟩)
   (fun k=>k≤l.length∧∀ i (h:i<l.length),i<k→l[i].to.length≤64) (fun k=>l.length-k) 0 ⟨by omega,fun _ _ h=>by omega⟩ ?_ ?_
  ·exact Lf.of2 [] [] enA bxA rfl rfl
  intro k ⟨h3,h4⟩;by_cases hk:k<l.length
  ·have hto:=ho.to k hk;repeat' ((conv=>whnf)<;>(first|refine aB.go aA T0 ?_|exact kQ|(refine Br.mk (fun _=>?_) (fun _=>?_)<;>(try(exfalso;omega)))|refine stq ?_))
   all_goals(conv=>whnf)
   all_goals first
    | exact aH.int (uE (pE2 g1 hk (by omega)) (by omega)).symm
    | (refine⟨k+1,⟨by omega,ay (by omega) h4 (by omega)⟩,by omega,?_⟩
       exact Lf.of2 [] [] enA bxA rfl rfl)
  ·have g2:=cA (by omega:l.length≤k) h4;repeat' ((conv=>whnf)<;>(first|refine aB.go aA T0 ?_|exact kQ|(refine Br.mk (fun _=>?_) (fun _=>?_)<;>(try(exfalso;omega)))|refine stq ?_|fail))
   refine aU.by aA T0 (fun k:Nat=>⟨tmp 54 [(0,cn l),(5,i64 (k:Int))],⟨0,[]⟩⟩)
    (fun k=>k≤l.length∧∀ i (h:i<l.length),i<k→Ao l[i]) (fun k=>l.length-k) 0 ⟨by omega,fun _ _ h=>by omega⟩ ?_ ?_
   ·exact Lf.of2 [] [] enA bxA rfl rfl
   intro k ⟨h3,h4⟩;by_cases hk:k<l.length
   ·have htg:=ho.tag k hk;repeat' ((conv=>whnf)<;>(first|refine aB.go aA T0 ?_|exact kQ|(refine Br.mk (fun _=>?_) (fun _=>?_)<;>(try(exfalso;omega)))|refine stq ?_|refine Cll.dec (yA sd) (fun _=>?_) (fun _=>?_)|refine aN.dec (yA sd) (fun _=>?_) (fun _=>?_)))
    all_goals(conv=>whnf)
    all_goals first
     | exact aH.int (uE (pE6 g1 g2 hk (by rintro(h|h)<;>first|contradiction|exact absurd h (by assumption))) (by omega)).symm
     | (refine⟨k+1,⟨by omega,ay (by omega) h4 (by first|exact .inl (by assumption)|exact .inr (by assumption))⟩,by omega,?_⟩
        exact Lf.of2 [] [] enA bxA rfl rfl)
   ·repeat' ((conv=>whnf)<;>(first|refine aB.go aA T0 ?_|exact kQ|(refine Br.mk (fun _=>?_) (fun _=>?_)<;>(try(exfalso;omega)))|refine stq ?_|refine Cll.dec (xl sd) (fun _=>?_) (fun _=>?_)|refine aN.dec (xl sd) (fun _=>?_) (fun _=>?_)))
    all_goals(conv=>whnf)
    all_goals first
     | exact aH.int (by rename_i h;rw[se,if_pos (pE0 g1 g2 (cA (by omega) h4)),if_pos h])
     | exact aH.int (by rename_i h;rw[se,if_pos (pE0 g1 g2 (cA (by omega) h4)),if_neg h])
theorem rU {l:List Mpg}(ho:DD l):∃ e:Int,Pu Tryz.prog 73 [cn l] (i64 e)∧(e=0↔MOk l):=by
 have hlen:=ho.len;have hu:=uns_c ho;by_cases h0:se l=0
 ·rw[h0] at hu
  have hp:dw l=0:=by
   rw[se] at h0;split at h0
   ·assumption
   ·exact h0
  refine⟨if Asc l then 0 else 4,?_,fun h=>⟨hp,by split at h<;>first|assumption|omega⟩,fun h=>by rw[if_pos h.2]⟩;refine Pu.of_v aA T0 Tryz.func73 rfl rfl (by simp[aD,aP]) ?_;repeat' ((conv=>whnf)<;>(first|refine aB.go aA T0 ?_|exact kQ|(refine Br.mk (fun _=>?_) (fun _=>?_)<;>(try(exfalso;omega)))|refine stq ?_|refine Cll.pu (hu) ?_|fail))
  refine aU.by aA T0 (fun k:Nat=>⟨tmp 27 [(0,cn l),(4,i64 ((k+1:Nat):Int))],⟨0,[]⟩⟩)
   (fun k=>k≤l.length∧∀ i (h:i<l.length),i≤k→∀ h0:i≠0,bef (l[i-1]'(by omega)) l[i]) (fun k=>l.length-k) 0 ⟨by omega,fun i h hi h0=>by omega⟩ ?_ ?_
  ·exact Lf.of2 [] [] enA bxA rfl rfl
  intro k ⟨h3,h4⟩;by_cases hk:k+1<l.length
  ·repeat' ((conv=>whnf)<;>(first|refine Idx.atS (sz:=3) (c:=ib) (by intro _;rfl) k (by omega) (by omega) ?_|refine Idx.atS (sz:=3) (c:=ib) (by intro _;rfl) (k+1) (by omega) (by omega) ?_|refine aB.go aA T0 ?_|exact kQ|(refine Br.mk (fun _=>?_) (fun _=>?_)<;>(try(exfalso;omega)))|refine stq ?_|refine Cll.dec (vq) (fun _=>?_) (fun _=>?_)|refine aN.dec (vq) (fun _=>?_) (fun _=>?_)))
   all_goals(conv=>whnf)
   all_goals first
    | exact aH.int (by rename_i hb;rw[if_neg (fun ha:Asc l=>hb (by have:=ha (k+1) hk (by omega);simpa using this))])
    | (rename_i hb
       refine⟨k+1,⟨by omega,fun i h hi h0=>(Decidable.em (i=k+1)).elim (fun he=>by subst he;simpa using hb) (fun he=>h4 i h (by omega) h0)⟩,by omega,?_⟩
       exact Lf.of2 [] [] enA bxA rfl rfl)
  ·repeat' ((conv=>whnf)<;>(first|refine aB.go aA T0 ?_|exact kQ|(refine Br.mk (fun _=>?_) (fun _=>?_)<;>(try(exfalso;omega)))|refine stq ?_))
   all_goals(conv=>whnf)
   have ha:Asc l:=fun i h h0=>h4 i h (by omega) h0
   exact aH.int (by rw[if_pos ha])
 ·refine⟨se l,?_,fun h=>absurd h h0,fun h=>by rw[se,if_pos h.1,if_neg h.2.once]⟩;refine Pu.of_v aA T0 Tryz.func73 rfl rfl (by simp[aD,aP]) ?_;repeat' ((conv=>whnf)<;>(first|refine aB.go aA T0 ?_|exact kQ|(refine Br.mk (fun _=>?_) (fun _=>?_)<;>(try(exfalso;omega)))|refine stq ?_|refine Cll.pu (hu) ?_))
  all_goals(conv=>whnf)
  exact aH.same rfl rfl
end
section
open Go Go.Am Classical
set_option maxRecDepth 100000
variable [GT]
theorem ac:Pu Tryz.prog 20 [] (strs bB):=by
 refine Pu.of_v aA T0 Tryz.func20 rfl rfl rfl ?_;repeat' ((conv=>whnf)<;>(first|refine aB.go aA T0 ?_|exact kQ|(refine Br.mk (fun _=>?_) (fun _=>?_)<;>(try(exfalso;omega)))|refine stq ?_))
 all_goals(conv=>whnf)
 exact⟨Rd.frz rfl rfl (kD rfl) (Rds.eqs rfl rfl)⟩
set_option maxHeartbeats 8000000 in
theorem gu (d:Db):∀ k:Nat,k<7→Pu Tryz.prog 17 [dbD d,i64 (k:Int)] (iE (prop d k)):=by
 intro k hk;have hn:=nM (prop d k);rcases(by omega:k=0∨k=1∨k=2∨k=3∨k=4∨k=5∨k=6) with rfl|rfl|rfl|rfl|rfl|rfl|rfl
 all_goals
  refine Pu.of_v aA T0 Tryz.func17 rfl rfl (by simp[aJ,aD,aG,aK,aP,aO]) ?_;repeat' ((conv=>whnf)<;>(first|refine aB.go aA T0 ?_|exact kQ|(refine Br.mk (fun _=>?_) (fun _=>?_)<;>(try(exfalso;omega)))|refine stq ?_))
  all_goals(conv=>whnf)
  exact⟨Rd.eqd rfl hn⟩
theorem kz (l:List Rng):aJ (qt l)=true:=by simp[aJ,aD,aO]
set_option maxHeartbeats 8000000 in
theorem lg (d:Db):∀ k:Nat,k<6→Pu Tryz.prog 19 [dbD d,i64 (k:Int)] (qt (zN d k)):=by
 intro k hk;have hn:=kz (zN d k);rcases(by omega:k=0∨k=1∨k=2∨k=3∨k=4∨k=5) with rfl|rfl|rfl|rfl|rfl|rfl
 all_goals
  refine Pu.of_v aA T0 Tryz.func19 rfl rfl (by simp[aJ,aD,aG,aK,aP,aO]) ?_;repeat' ((conv=>whnf)<;>(first|refine aB.go aA T0 ?_|exact kQ|(refine Br.mk (fun _=>?_) (fun _=>?_)<;>(try(exfalso;omega)))|refine stq ?_))
  all_goals(conv=>whnf)
  exact⟨Rd.eqd rfl hn⟩
set_option maxHeartbeats 8000000 in
theorem lh (d:Db):∀ k:Nat,k<21→Pu Tryz.prog 22 [dbD d,i64 (k:Int)] (cn (fp d k)):=by
 intro k hk;have hn:=aP (fp d k);rcases(by omega:k=0∨k=1∨k=2∨k=3∨k=4∨k=5∨k=6∨k=7∨k=8∨k=9∨k=10∨k=11∨k=12∨k=13∨k=14∨k=15∨k=16∨k=17∨k=18∨k=19∨k=20) with rfl|rfl|rfl|rfl|rfl|rfl|rfl|rfl|rfl|rfl|rfl|rfl|rfl|rfl|rfl|rfl|rfl|rfl|rfl|rfl|rfl
 all_goals
  refine Pu.of_v aA T0 Tryz.func22 rfl rfl (by simp[aJ,aD,aG,aK,aP,aO]) ?_;repeat' ((conv=>whnf)<;>(first|refine Br.strF rfl ?_|refine Br.strT rfl ?_|refine Idx.at (f:=D.str) (l:=bB) _ rfl (kD rfl) ?_|refine aB.go aA T0 ?_|exact kQ|(refine Br.mk (fun _=>?_) (fun _=>?_)<;>(try(exfalso;omega)))|refine stq ?_|refine Cll.pu (ac) ?_))
  all_goals(conv=>whnf)
  exact⟨Rd.eqd rfl hn⟩
def sof (k:Nat):Int:=([-1,-1,-1,-1,-1,-1,-1,-1,-1,-1,0,-1,-1,-1,-1,1,2,3,4,5,-1]:List Int).getD k 0
set_option maxHeartbeats 8000000 in
theorem d8:∀ k:Nat,k<21→Pu Tryz.prog 71 [.str (hG k)] (i64 (sof k)):=by
 intro k hk;rcases(by omega:k=0∨k=1∨k=2∨k=3∨k=4∨k=5∨k=6∨k=7∨k=8∨k=9∨k=10∨k=11∨k=12∨k=13∨k=14∨k=15∨k=16∨k=17∨k=18∨k=19∨k=20) with rfl|rfl|rfl|rfl|rfl|rfl|rfl|rfl|rfl|rfl|rfl|rfl|rfl|rfl|rfl|rfl|rfl|rfl|rfl|rfl|rfl
 all_goals
  refine Pu.of_v aA T0 Tryz.func71 rfl rfl rfl ?_;repeat' ((conv=>whnf)<;>(first|refine Br.strF rfl ?_|refine Br.strT rfl ?_|refine aB.go aA T0 ?_|exact kQ|(refine Br.mk (fun _=>?_) (fun _=>?_)<;>(try(exfalso;omega)))|refine stq ?_))
  all_goals(conv=>whnf)
  exact⟨Rd.eqd rfl rfl⟩
theorem oc {n:Int}:Pu Tryz.prog 44 [i64 n] (boo (decide (sc n))):=by
 refine Pu.of_v aA T0 Tryz.func44 rfl rfl rfl ?_;repeat' ((conv=>whnf)<;>(first|refine aB.go aA T0 ?_|exact kQ|(refine Br.mk (fun _=>?_) (fun _=>?_)<;>(try(exfalso;omega)))|refine stq ?_))
 all_goals(conv=>whnf)
 all_goals first
  | exact aH.yes ⟨by omega,by omega⟩
  | exact aH.no (fun hc=>by have:=hc.1;have:=hc.2;omega)
theorem rcls_c {l:List Spn}(hl:l.length≤9223372036854775807):Pu Tryz.prog 70 [dK l] (boo (decide (ClV l))):=by
 refine Pu.of_v aA T0 Tryz.func70 rfl rfl (by simp[aD,aK]) ?_;repeat' ((conv=>whnf)<;>(first|refine aB.go aA T0 ?_|exact kQ|(refine Br.mk (fun _=>?_) (fun _=>?_)<;>(try(exfalso;omega)))|refine stq ?_))
 refine aU.by aA T0 (fun k:Nat=>⟨tmp 76 [(0,dK l),(3,i64 (k:Int))],⟨0,[]⟩⟩)
  (fun k=>k≤l.length∧∀ i (h:i<l.length),i<k→ClQ l i l[i]) (fun k=>l.length-k) 0 ⟨by omega,fun _ _ h=>by omega⟩ ?_ ?_
 ·exact Lf.of2 [] [] enA bxA rfl rfl
 intro k ⟨h3,h4⟩;by_cases hk:k=0
 ·subst hk;repeat' ((conv=>whnf)<;>(first|refine aB.go aA T0 ?_|exact kQ|(refine Br.mk (fun _=>?_) (fun _=>?_)<;>(try(exfalso;omega)))|refine stq ?_))
  all_goals(conv=>whnf)
  all_goals first
   | exact aH.no (fun hc=>by have:=(hc 0 (by omega)).1;omega)
   | exact aH.yes (cA (by omega) h4)
   | (refine⟨0+1,⟨by omega,ay (by omega) h4 ⟨by omega,fun h=>absurd rfl h⟩⟩,by omega,?_⟩
      exact Lf.of2 [] [] enA bxA rfl rfl)
 ·by_cases hk2:k<l.length
  ·have h5:=h4 (k-1) (by omega) (by omega);have h6:=h5.1;have e:l.getD (k-1) default=l[k-1]:=aW (by omega);repeat' ((conv=>whnf)<;>(first|refine aB.go aA T0 ?_|exact kQ|(refine Br.mk (fun _=>?_) (fun _=>?_)<;>(try(exfalso;omega)))|refine stq ?_|refine Idx.atS (by intro _;rfl) (k-1) (by omega) (by omega) ?_))
   all_goals(conv=>whnf)
   all_goals first
    | exact aH.no (fun hc=>by have h7:=hc k (by omega);have:=h7.1;have:=h7.2 hk;rw[e] at this;omega)
    | (refine⟨k+1,⟨by omega,ay (by omega) h4 ⟨by omega,fun _=>by rw[e];omega⟩⟩,by omega,?_⟩
       exact Lf.of2 [] [] enA bxA rfl rfl)
  ·repeat' ((conv=>whnf)<;>(first|refine aB.go aA T0 ?_|exact kQ|(refine Br.mk (fun _=>?_) (fun _=>?_)<;>(try(exfalso;omega)))|refine stq ?_))
   all_goals(conv=>whnf)
   exact aH.yes (cA (by omega) h4)
theorem uL {l:List Rng}:Pu Tryz.prog 18 [qt l] (boo (decide (l.length≤12))):=by
 refine Pu.of_v aA T0 Tryz.func18 rfl rfl (by simp[aJ,aD,aO]) ?_;repeat' ((conv=>whnf)<;>(first|refine aB.go aA T0 ?_|exact kQ|(refine Br.mk (fun _=>?_) (fun _=>?_)<;>(try(exfalso;omega)))|refine stq ?_))
 all_goals(conv=>whnf)
 all_goals first
  | exact aH.yes (by omega)
  | exact aH.no (by omega)
theorem Bc {l:List Mpg}(hlen:l.length≤9223372036854775807) (hto0:∀ i (h:i<l.length),l[i].to.length≤9223372036854775807∧l[i].tag.length≤9223372036854775807):Pu Tryz.prog 21 [cn l] (boo (decide (SmM l))):=by
 refine Pu.of_v aA T0 Tryz.func21 rfl rfl (by simp[aD,aP]) ?_;repeat' ((conv=>whnf)<;>(first|refine aB.go aA T0 ?_|exact kQ|(refine Br.mk (fun _=>?_) (fun _=>?_)<;>(try(exfalso;omega)))|refine stq ?_))
 refine aU.by aA T0 (fun k:Nat=>⟨tmp 33 [(0,cn l),(3,i64 (k:Int))],⟨0,[]⟩⟩)
  (fun k=>(k≤l.length∧k≤30)∧∀ i (h:i<l.length),i<k→(i<30→l[i].to.length≤65∧l[i].tag.length≤40)) (fun k=>l.length-k) 0 ⟨by omega,fun _ _ h=>by omega⟩ ?_ ?_
 ·exact Lf.of2 [] [] enA bxA rfl rfl
 intro k ⟨⟨h3,h5⟩,h4⟩;by_cases hk:k<l.length
 ·have hto:=(hto0 k hk).1;have htg:=(hto0 k hk).2;by_cases hk3:k<30
  ·repeat' ((conv=>whnf)<;>(first|refine aB.go aA T0 ?_|exact kQ|(refine Br.mk (fun _=>?_) (fun _=>?_)<;>(try(exfalso;omega)))|refine stq ?_))
   all_goals(conv=>whnf)
   all_goals first
    | exact aH.no (fun hc=>by have:=hc.1 k hk hk3;omega)
    | (refine⟨k+1,⟨⟨by omega,by omega⟩,ay hk h4 (fun _=>by omega)⟩,by omega,?_⟩
       exact Lf.of2 [] [] enA bxA rfl rfl)
  ·repeat' ((conv=>whnf)<;>(first|refine aB.go aA T0 ?_|exact kQ|(refine Br.mk (fun _=>?_) (fun _=>?_)<;>(try(exfalso;omega)))|refine stq ?_))
   all_goals(conv=>whnf)
   all_goals first
    | exact aH.no (fun hc=>by have:=hc.2;omega)
    | exact aH.yes ⟨fun i h hi=>h4 i h (by omega) hi,by omega⟩
 ·repeat' ((conv=>whnf)<;>(first|refine aB.go aA T0 ?_|exact kQ|(refine Br.mk (fun _=>?_) (fun _=>?_)<;>(try(exfalso;omega)))|refine stq ?_))
  all_goals(conv=>whnf)
  all_goals first
   | exact aH.no (fun hc=>by have:=hc.2;omega)
   | exact aH.yes ⟨fun i h hi=>h4 i h (by omega) hi,by omega⟩
end
section
open Go Go.Am Classical
set_option maxRecDepth 100000
variable [GT]
theorem Aw {Q:Nat→Prop}{k:Nat}(h:∀ i,i<k→Q i) (h0:Q k):∀ i,i<k+1→Q i:=fun i hi=>by
 rcases(by omega:i<k∨i=k) with h1|rfl
 ·exact h i h1
 ·exact h0
theorem vW {d:Db}(ho:d.ok):Pu Tryz.prog 9 [dbD d] (boo (decide (SmD d))):=by
 have hcl:=ho.classes;refine Pu.of_v aA T0 Tryz.func9 rfl rfl (by simp[aJ,aD,aG,aK,aP,aO]) ?_;repeat' ((conv=>whnf)<;>(first|refine aB.go aA T0 ?_|exact kQ|(refine Br.mk (fun _=>?_) (fun _=>?_)<;>(try(exfalso;omega)))|refine stq ?_))
 all_goals(conv=>whnf)
 all_goals first
  | exact aH.no (fun hc=>by have:=hc.1;omega)
  | skip
 refine aU.by aA T0 (fun k:Nat=>⟨tmp 49 [(1,.ptr 0 0),(3,i64 (k:Int))],⟨1,[(0,.cells (dbC d) true)]⟩⟩)
  (fun k=>k≤7∧∀ i,i<k→(prop d i).names.length≤30∧(prop d i).spans.length≤16) (fun k=>7-k) 0 ⟨by omega,fun _ h=>by omega⟩ ?_ ?_
 ·exact Lf.of2 [(0,_)] [] enA (by repeat(first|exact Bxs.nil|refine Bxs.cons rfl rfl rfl (by first|exact Rb.cells (Rds.same (am d)) rfl|exact rbB|exact Rb.cells bS rfl|exact rbC|fail) ?_)) rfl rfl
 intro k ⟨h3,h4⟩;by_cases hk:k<7
 ·have hp:=gu d k hk;have hn:=(ho.prop k).names;have hsp:=(ho.prop k).spans;repeat' ((conv=>whnf)<;>(first|refine aB.go aA T0 ?_|exact kQ|(refine Br.mk (fun _=>?_) (fun _=>?_)<;>(try(exfalso;omega)))|refine stq ?_|refine Cll.pu (hp) ?_))
  all_goals(conv=>whnf)
  all_goals first
   | exact aH.no (fun hc=>by have:=hc.2.1 k hk;omega)
   | (refine⟨k+1,⟨by omega,Aw h4 (by omega)⟩,by omega,?_⟩
      exact Lf.of2 [(0,_)] [] enA (by(repeat(first|exact Bxs.nil|refine Bxs.cons rfl rfl rfl (by first|exact Rb.cells (Rds.same (am d)) rfl|exact rbB|exact Rb.cells bS rfl|exact rbC|fail) ?_|fail));(first|done|fail)) rfl rfl)
 have g1:=fun i (hi:i<7)=>h4 i (by omega)
 repeat' ((conv=>whnf)<;>(first|refine aB.go aA T0 ?_|exact kQ|(refine Br.mk (fun _=>?_) (fun _=>?_)<;>(try(exfalso;omega)))|refine stq ?_|fail))
 refine aU.by aA T0 (fun k:Nat=>⟨tmp 49 [(1,.ptr 0 0),(5,i64 (k:Int))],⟨1,[(0,.cells (dbC d) true)]⟩⟩)
  (fun k=>k≤6∧∀ i,i<k→(zN d i).length≤12) (fun k=>6-k) 0 ⟨by omega,fun _ h=>by omega⟩ ?_ ?_
 ·exact Lf.of2 [(0,_)] [] enA (by repeat(first|exact Bxs.nil|refine Bxs.cons rfl rfl rfl (by first|exact Rb.cells (Rds.same (am d)) rfl|exact rbB|exact Rb.cells bS rfl|exact rbC|fail) ?_)) rfl rfl
 intro k ⟨h3,h4⟩;by_cases hk:k<6
 ·have hp:=lg d k hk;repeat' ((conv=>whnf)<;>(first|refine aB.go aA T0 ?_|exact kQ|(refine Br.mk (fun _=>?_) (fun _=>?_)<;>(try(exfalso;omega)))|refine stq ?_|refine Cll.pu (hp) ?_|refine Cll.dec (uL) (fun _=>?_) (fun _=>?_)|refine aN.dec (uL) (fun _=>?_) (fun _=>?_)))
  all_goals(conv=>whnf)
  all_goals first
   | exact aH.no (fun hc=>by have:=hc.2.2.1 k hk;omega)
   | (refine⟨k+1,⟨by omega,Aw h4 (by omega)⟩,by omega,?_⟩
      exact Lf.of2 [(0,_)] [] enA (by(repeat(first|exact Bxs.nil|refine Bxs.cons rfl rfl rfl (by first|exact Rb.cells (Rds.same (am d)) rfl|exact rbB|exact Rb.cells bS rfl|exact rbC|fail) ?_|fail));(first|done|fail)) rfl rfl)
 have g2:=fun i (hi:i<6)=>h4 i (by omega)
 repeat' ((conv=>whnf)<;>(first|refine aB.go aA T0 ?_|exact kQ|(refine Br.mk (fun _=>?_) (fun _=>?_)<;>(try(exfalso;omega)))|refine stq ?_|fail))
 refine aU.by aA T0 (fun k:Nat=>⟨tmp 49 [(1,.ptr 0 0),(6,i64 (k:Int))],⟨1,[(0,.cells (dbC d) true)]⟩⟩)
  (fun k=>k≤21∧∀ i,i<k→SmM (fp d i)) (fun k=>21-k) 0 ⟨by omega,fun _ h=>by omega⟩ ?_ ?_
 ·exact Lf.of2 [(0,_)] [] enA (by repeat(first|exact Bxs.nil|refine Bxs.cons rfl rfl rfl (by first|exact Rb.cells (Rds.same (am d)) rfl|exact rbB|exact Rb.cells bS rfl|exact rbC|fail) ?_)) rfl rfl
 intro k ⟨h3,h4⟩;have hfl:bB.length=21:=rfl;by_cases hk:k<21
 ·have hp:=lh d k hk;have hm:=Bc (l:=fp d k) (ho.maps k).1 (ho.maps k).2;repeat' ((conv=>whnf)<;>(first|refine aB.go aA T0 ?_|exact kQ|(refine Br.mk (fun _=>?_) (fun _=>?_)<;>(try(exfalso;omega)))|refine stq ?_|refine Cll.pu (ac) ?_|refine Cll.pu (hp) ?_|refine Cll.dec (hm) (fun _=>?_) (fun _=>?_)|refine aN.dec (hm) (fun _=>?_) (fun _=>?_)))
  all_goals(conv=>whnf)
  all_goals first
   | exact aH.no (fun hc=>by have:=hc.2.2.2 k hk;contradiction)
   | (refine⟨k+1,⟨by omega,Aw h4 (by assumption)⟩,by omega,?_⟩
      exact Lf.of2 [(0,_)] [] enA (by(repeat(first|exact Bxs.nil|refine Bxs.cons rfl rfl rfl (by first|exact Rb.cells (Rds.same (am d)) rfl|exact rbB|exact Rb.cells bS rfl|exact rbC|fail) ?_|fail));(first|done|fail)) rfl rfl)
 repeat' ((conv=>whnf)<;>(first|refine aB.go aA T0 ?_|exact kQ|(refine Br.mk (fun _=>?_) (fun _=>?_)<;>(try(exfalso;omega)))|refine stq ?_|refine Cll.pu (ac) ?_))
 all_goals(conv=>whnf)
 exact aH.yes ⟨by omega,g1,g2,fun i hi=>h4 i (by omega)⟩
end
end Go.Proofs.YtnjmcdmjmaopdaaGreatDoor
