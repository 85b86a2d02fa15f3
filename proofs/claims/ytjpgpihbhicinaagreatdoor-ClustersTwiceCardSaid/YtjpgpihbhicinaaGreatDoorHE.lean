/-
  Contracts of functions over data: valid mappings of the reference.
-/
import Derived.Test.YtjpgpihbhicinaaGreatDoorH5
import Derived.Test.YtjpgpihbhicinaaGreatDoorH8
set_option linter.unusedSectionVars false
namespace Go.Proofs.YtjpgpihbhicinaaGreatDoor
section
open Go Go.Am Classical
set_option maxRecDepth 100000
variable [GT]
end
section
open Go Go.Am Classical
set_option maxRecDepth 100000
variable [GT]
theorem pJ:Pu Tryz.prog 46 [] (strs bp):=by
 refine Pu.of_v aA T0 Tryz.func46 rfl rfl rfl ?_;repeat' ((conv=>whnf)<;>(first|refine aE.go aA T0 ?_|exact kQ|(refine Br.mk (fun _=>?_) (fun _=>?_)<;>(try(exfalso;omega)))|refine stq ?_))
 all_goals(conv=>whnf)
 exact⟨Rd.frz rfl rfl (kD rfl) (Rds.eqs rfl rfl)⟩
set_option maxHeartbeats 8000000 in
theorem Cs (d:Db):∀ k:Nat,k<7→Pu Tryz.prog 43 [dbD d,i64 (k:Int)] (fF (prop d k)):=by
 intro k hk;have hn:=rS (prop d k);rcases(by omega:k=0∨k=1∨k=2∨k=3∨k=4∨k=5∨k=6) with rfl|rfl|rfl|rfl|rfl|rfl|rfl
 all_goals
  refine Pu.of_v aA T0 Tryz.func43 rfl rfl (by simp[aH,aC,aG,aJ,aP,aO]) ?_;repeat' ((conv=>whnf)<;>(first|refine aE.go aA T0 ?_|exact kQ|(refine Br.mk (fun _=>?_) (fun _=>?_)<;>(try(exfalso;omega)))|refine stq ?_))
  all_goals(conv=>whnf)
  exact⟨Rd.eqd rfl hn⟩
theorem kT (l:List Rng):aH (AK l)=true:=by simp[aH,aC,aO]
set_option maxHeartbeats 8000000 in
theorem rset_c (d:Db):∀ k:Nat,k<6→Pu Tryz.prog 45 [dbD d,i64 (k:Int)] (AK (yg d k)):=by
 intro k hk;have hn:=kT (yg d k);rcases(by omega:k=0∨k=1∨k=2∨k=3∨k=4∨k=5) with rfl|rfl|rfl|rfl|rfl|rfl
 all_goals
  refine Pu.of_v aA T0 Tryz.func45 rfl rfl (by simp[aH,aC,aG,aJ,aP,aO]) ?_;repeat' ((conv=>whnf)<;>(first|refine aE.go aA T0 ?_|exact kQ|(refine Br.mk (fun _=>?_) (fun _=>?_)<;>(try(exfalso;omega)))|refine stq ?_))
  all_goals(conv=>whnf)
  exact⟨Rd.eqd rfl hn⟩
set_option maxHeartbeats 8000000 in
theorem rmap_c (d:Db):∀ k:Nat,k<21→Pu Tryz.prog 48 [dbD d,i64 (k:Int)] (dK (ic d k)):=by
 intro k hk;have hn:=aP (ic d k);rcases(by omega:k=0∨k=1∨k=2∨k=3∨k=4∨k=5∨k=6∨k=7∨k=8∨k=9∨k=10∨k=11∨k=12∨k=13∨k=14∨k=15∨k=16∨k=17∨k=18∨k=19∨k=20) with rfl|rfl|rfl|rfl|rfl|rfl|rfl|rfl|rfl|rfl|rfl|rfl|rfl|rfl|rfl|rfl|rfl|rfl|rfl|rfl|rfl
 all_goals
  refine Pu.of_v aA T0 Tryz.func48 rfl rfl (by simp[aH,aC,aG,aJ,aP,aO]) ?_;repeat' ((conv=>whnf)<;>(first|refine Br.strF rfl ?_|refine Br.strT rfl ?_|refine Idx.at (f:=D.str) (l:=bp) _ rfl (kD rfl) ?_|refine aE.go aA T0 ?_|exact kQ|(refine Br.mk (fun _=>?_) (fun _=>?_)<;>(try(exfalso;omega)))|refine stq ?_|refine Cll.pu (pJ) ?_))
  all_goals(conv=>whnf)
  exact⟨Rd.eqd rfl hn⟩
theorem t7 {l:List Rng}:Pu Tryz.prog 44 [AK l] (boo (decide (l.length≤12))):=by
 refine Pu.of_v aA T0 Tryz.func44 rfl rfl (by simp[aH,aC,aO]) ?_;repeat' ((conv=>whnf)<;>(first|refine aE.go aA T0 ?_|exact kQ|(refine Br.mk (fun _=>?_) (fun _=>?_)<;>(try(exfalso;omega)))|refine stq ?_))
 all_goals(conv=>whnf)
 all_goals first
  | exact aN.yes (by omega)
  | exact aN.no (by omega)
theorem Ar {l:List Mpg}(hlen:l.length≤9223372036854775807) (hto0:∀ i (h:i<l.length),l[i].to.length≤9223372036854775807∧l[i].tag.length≤9223372036854775807):Pu Tryz.prog 47 [dK l] (boo (decide (SmM l))):=by
 refine Pu.of_v aA T0 Tryz.func47 rfl rfl (by simp[aC,aP]) ?_;repeat' ((conv=>whnf)<;>(first|refine aE.go aA T0 ?_|exact kQ|(refine Br.mk (fun _=>?_) (fun _=>?_)<;>(try(exfalso;omega)))|refine stq ?_))
 refine aT.by aA T0 (fun k:Nat=>⟨tmp 33 [(0,dK l),(3,i64 (k:Int))],⟨0,[]⟩⟩)
  (fun k=>(k≤l.length∧k≤30)∧∀ i (h:i<l.length),i<k→(i<30→l[i].to.length≤65∧l[i].tag.length≤40)) (fun k=>l.length-k) 0 ⟨by omega,fun _ _ h=>by omega⟩ ?_ ?_
 ·exact Lf.of2 [] [] enA bxA rfl rfl
 intro k ⟨⟨h3,h5⟩,h4⟩;by_cases hk:k<l.length
 ·have hto:=(hto0 k hk).1;have htg:=(hto0 k hk).2;by_cases hk3:k<30
  ·repeat' ((conv=>whnf)<;>(first|refine aE.go aA T0 ?_|exact kQ|(refine Br.mk (fun _=>?_) (fun _=>?_)<;>(try(exfalso;omega)))|refine stq ?_))
   all_goals(conv=>whnf)
   all_goals first
    | exact aN.no (fun hc=>by have:=hc.1 k hk hk3;omega)
    | (refine⟨k+1,⟨⟨by omega,by omega⟩,bc hk h4 (fun _=>by omega)⟩,by omega,?_⟩
       exact Lf.of2 [] [] enA bxA rfl rfl)
  ·repeat' ((conv=>whnf)<;>(first|refine aE.go aA T0 ?_|exact kQ|(refine Br.mk (fun _=>?_) (fun _=>?_)<;>(try(exfalso;omega)))|refine stq ?_))
   all_goals(conv=>whnf)
   all_goals first
    | exact aN.no (fun hc=>by have:=hc.2;omega)
    | exact aN.yes ⟨fun i h hi=>h4 i h (by omega) hi,by omega⟩
 ·repeat' ((conv=>whnf)<;>(first|refine aE.go aA T0 ?_|exact kQ|(refine Br.mk (fun _=>?_) (fun _=>?_)<;>(try(exfalso;omega)))|refine stq ?_))
  all_goals(conv=>whnf)
  all_goals first
   | exact aN.no (fun hc=>by have:=hc.2;omega)
   | exact aN.yes ⟨fun i h hi=>h4 i h (by omega) hi,by omega⟩
end
section
open Go Go.Am Classical
set_option maxRecDepth 100000
variable [GT]
theorem AB {Q:Nat→Prop}{k:Nat}(h:∀ i,i<k→Q i) (h0:Q k):∀ i,i<k+1→Q i:=fun i hi=>by
 rcases(by omega:i<k∨i=k) with h1|rfl
 ·exact h i h1
 ·exact h0
theorem Bb {d:Db}(ho:d.ok):Pu Tryz.prog 28 [dbD d] (boo (decide (SmD d))):=by
 have hcl:=ho.classes;refine Pu.of_v aA T0 Tryz.func28 rfl rfl (by simp[aH,aC,aG,aJ,aP,aO]) ?_;repeat' ((conv=>whnf)<;>(first|refine aE.go aA T0 ?_|exact kQ|(refine Br.mk (fun _=>?_) (fun _=>?_)<;>(try(exfalso;omega)))|refine stq ?_))
 all_goals(conv=>whnf)
 all_goals first
  | exact aN.no (fun hc=>by have:=hc.1;omega)
  | skip
 refine aT.by aA T0 (fun k:Nat=>⟨tmp 49 [(1,.ptr 0 0),(3,i64 (k:Int))],⟨1,[(0,.cells (dbC d) true)]⟩⟩)
  (fun k=>k≤7∧∀ i,i<k→(prop d i).names.length≤30∧(prop d i).spans.length≤16) (fun k=>7-k) 0 ⟨by omega,fun _ h=>by omega⟩ ?_ ?_
 ·exact Lf.of2 [(0,_)] [] enA (by repeat(first|exact Bxs.nil|refine Bxs.cons rfl rfl rfl (by first|exact Rb.cells (Rds.same (aa d)) rfl|exact rbB|exact Rb.cells bk rfl|exact rbC|fail) ?_)) rfl rfl
 intro k ⟨h3,h4⟩;by_cases hk:k<7
 ·have hp:=Cs d k hk;have hn:=(ho.prop k).names;have hsp:=(ho.prop k).spans;repeat' ((conv=>whnf)<;>(first|refine aE.go aA T0 ?_|exact kQ|(refine Br.mk (fun _=>?_) (fun _=>?_)<;>(try(exfalso;omega)))|refine stq ?_|refine Cll.pu (hp) ?_))
  all_goals(conv=>whnf)
  all_goals first
   | exact aN.no (fun hc=>by have:=hc.2.1 k hk;omega)
   | (refine⟨k+1,⟨by omega,AB h4 (by omega)⟩,by omega,?_⟩
      exact Lf.of2 [(0,_)] [] enA (by(repeat(first|exact Bxs.nil|refine Bxs.cons rfl rfl rfl (by first|exact Rb.cells (Rds.same (aa d)) rfl|exact rbB|exact Rb.cells bk rfl|exact rbC|fail) ?_|fail));(first|done|fail)) rfl rfl)
 have g1:=fun i (hi:i<7)=>h4 i (by omega)
 repeat' ((conv=>whnf)<;>(first|refine aE.go aA T0 ?_|exact kQ|(refine Br.mk (fun _=>?_) (fun _=>?_)<;>(try(exfalso;omega)))|refine stq ?_|fail))
 refine aT.by aA T0 (fun k:Nat=>⟨tmp 49 [(1,.ptr 0 0),(5,i64 (k:Int))],⟨1,[(0,.cells (dbC d) true)]⟩⟩)
  (fun k=>k≤6∧∀ i,i<k→(yg d i).length≤12) (fun k=>6-k) 0 ⟨by omega,fun _ h=>by omega⟩ ?_ ?_
 ·exact Lf.of2 [(0,_)] [] enA (by repeat(first|exact Bxs.nil|refine Bxs.cons rfl rfl rfl (by first|exact Rb.cells (Rds.same (aa d)) rfl|exact rbB|exact Rb.cells bk rfl|exact rbC|fail) ?_)) rfl rfl
 intro k ⟨h3,h4⟩;by_cases hk:k<6
 ·have hp:=rset_c d k hk;repeat' ((conv=>whnf)<;>(first|refine aE.go aA T0 ?_|exact kQ|(refine Br.mk (fun _=>?_) (fun _=>?_)<;>(try(exfalso;omega)))|refine stq ?_|refine Cll.pu (hp) ?_|refine Cll.dec (t7) (fun _=>?_) (fun _=>?_)|refine aW.dec (t7) (fun _=>?_) (fun _=>?_)))
  all_goals(conv=>whnf)
  all_goals first
   | exact aN.no (fun hc=>by have:=hc.2.2.1 k hk;omega)
   | (refine⟨k+1,⟨by omega,AB h4 (by omega)⟩,by omega,?_⟩
      exact Lf.of2 [(0,_)] [] enA (by(repeat(first|exact Bxs.nil|refine Bxs.cons rfl rfl rfl (by first|exact Rb.cells (Rds.same (aa d)) rfl|exact rbB|exact Rb.cells bk rfl|exact rbC|fail) ?_|fail));(first|done|fail)) rfl rfl)
 have g2:=fun i (hi:i<6)=>h4 i (by omega)
 repeat' ((conv=>whnf)<;>(first|refine aE.go aA T0 ?_|exact kQ|(refine Br.mk (fun _=>?_) (fun _=>?_)<;>(try(exfalso;omega)))|refine stq ?_|fail))
 refine aT.by aA T0 (fun k:Nat=>⟨tmp 49 [(1,.ptr 0 0),(6,i64 (k:Int))],⟨1,[(0,.cells (dbC d) true)]⟩⟩)
  (fun k=>k≤21∧∀ i,i<k→SmM (ic d i)) (fun k=>21-k) 0 ⟨by omega,fun _ h=>by omega⟩ ?_ ?_
 ·exact Lf.of2 [(0,_)] [] enA (by repeat(first|exact Bxs.nil|refine Bxs.cons rfl rfl rfl (by first|exact Rb.cells (Rds.same (aa d)) rfl|exact rbB|exact Rb.cells bk rfl|exact rbC|fail) ?_)) rfl rfl
 intro k ⟨h3,h4⟩;have hfl:bp.length=21:=rfl;by_cases hk:k<21
 ·have hp:=rmap_c d k hk;have hm:=Ar (l:=ic d k) (ho.maps k).1 (ho.maps k).2;repeat' ((conv=>whnf)<;>(first|refine aE.go aA T0 ?_|exact kQ|(refine Br.mk (fun _=>?_) (fun _=>?_)<;>(try(exfalso;omega)))|refine stq ?_|refine Cll.pu (pJ) ?_|refine Cll.pu (hp) ?_|refine Cll.dec (hm) (fun _=>?_) (fun _=>?_)|refine aW.dec (hm) (fun _=>?_) (fun _=>?_)))
  all_goals(conv=>whnf)
  all_goals first
   | exact aN.no (fun hc=>by have:=hc.2.2.2 k hk;contradiction)
   | (refine⟨k+1,⟨by omega,AB h4 (by assumption)⟩,by omega,?_⟩
      exact Lf.of2 [(0,_)] [] enA (by(repeat(first|exact Bxs.nil|refine Bxs.cons rfl rfl rfl (by first|exact Rb.cells (Rds.same (aa d)) rfl|exact rbB|exact Rb.cells bk rfl|exact rbC|fail) ?_|fail));(first|done|fail)) rfl rfl)
 repeat' ((conv=>whnf)<;>(first|refine aE.go aA T0 ?_|exact kQ|(refine Br.mk (fun _=>?_) (fun _=>?_)<;>(try(exfalso;omega)))|refine stq ?_|refine Cll.pu (pJ) ?_))
 all_goals(conv=>whnf)
 exact aN.yes ⟨by omega,g1,g2,fun i hi=>h4 i (by omega)⟩
end
end Go.Proofs.YtjpgpihbhicinaaGreatDoor
