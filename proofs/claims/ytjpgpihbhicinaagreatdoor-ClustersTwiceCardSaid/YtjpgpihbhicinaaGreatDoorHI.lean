/-
  Contracts of functions over data: databases checked by the program.
-/
import Derived.Test.YtjpgpihbhicinaaGreatDoorH5
import Derived.Test.YtjpgpihbhicinaaGreatDoorHE
import Derived.Test.YtjpgpihbhicinaaGreatDoorG0
import Derived.Test.YtjpgpihbhicinaaGreatDoorAmF
set_option linter.unusedSectionVars false
namespace Go.Proofs.YtjpgpihbhicinaaGreatDoor
section
open Go Go.Am Classical
set_option maxRecDepth 100000
variable [GT]
theorem bN {a:Nat→Int}{n k:Nat}(hk:k<n) (h:∀ i,i<k→a i=0) (h0:a k≠0):gL ((List.range n).map a)=a k:=by
 have:=tH (l:=(List.range n).map a) (k:=k) (by simpa using hk) (fun i hi hik=>by simpa using h i hik) (by simpa using h0)
 simpa using this
theorem rt {a:Nat→Int}{n:Nat}:gL ((List.range n).map a)=0↔∀ i,i<n→a i=0:=by
 rw[kY];constructor
 ·intro h i hi;have:=h i (by simpa using hi)
  simpa using this
 ·intro h i hi
  have:i<n:=by simpa using hi
  simpa using h i this
theorem dM {a:Nat→Int}{k:Nat}(h:∀ i,i<k→a i=0) (h0:a k=0):∀ i,i<k+1→a i=0:=fun i hi=>by
 rcases(by omega:i<k∨i=k) with h1|rfl
 ·exact h i h1
 ·exact h0
set_option maxHeartbeats 8000000 in
theorem Bi {d:Db}{a:Nat→Int}(hc:∀ k,k<21→Pu Tryz.prog (fchk k) [.agg [.iptr ((dbC d).drop (foff k))]] (i64 (a k))):Pu Tryz.prog 49 [dbD d] (i64 (gL ((List.range 21).map a))):=by
 refine Pu.of_v aA T0 Tryz.func49 rfl rfl (by simp[aH,aC,aG,aJ,aP,aO]) ?_;repeat' ((conv=>whnf)<;>(first|refine aE.go aA T0 ?_|exact kQ|(refine Br.mk (fun _=>?_) (fun _=>?_)<;>(try(exfalso;omega)))|refine stq ?_|refine Cll.pu (Df) ?_))
 refine aT.by aA T0 (fun k:Nat=>⟨tmp 19 [(1,.iptr (dbC d)),(6,strs bp),(7,i64 21),(8,i64 (k:Int))],⟨0,[]⟩⟩)
  (fun k=>k≤21∧∀ i,i<k→a i=0) (fun k=>21-k) 0 ⟨by omega,fun _ h=>by omega⟩ ?_ ?_
 ·exact Lf.of2 [] [0] (by repeat(first|exact aI.nil|refine aI.cons rfl (by first|exact Rd.frzp rfl rfl (Rds.eqs rfl (aa d))|exact Rd.int rfl|exact rdA|fail) ?_)) (by repeat(first|exact Bxs.nil|refine Bxs.cons rfl rfl rfl (by first|exact rbB|exact rbC|fail) ?_)) rfl rfl
 intro k ⟨h3,h4⟩;rcases(by omega:k=0∨k=1∨k=2∨k=3∨k=4∨k=5∨k=6∨k=7∨k=8∨k=9∨k=10∨k=11∨k=12∨k=13∨k=14∨k=15∨k=16∨k=17∨k=18∨k=19∨k=20∨k=21) with rfl|rfl|rfl|rfl|rfl|rfl|rfl|rfl|rfl|rfl|rfl|rfl|rfl|rfl|rfl|rfl|rfl|rfl|rfl|rfl|rfl|rfl
 ·
  have hf:=cU d 0 (by omega);have hk:=hc 0 (by omega);repeat' ((conv=>whnf)<;>(first|refine Idx.at (f:=D.str) (l:=bp) 0 rfl (kD rfl) ?_|refine aE.go aA T0 ?_|exact kQ|(refine Br.mk (fun _=>?_) (fun _=>?_)<;>(try(exfalso;omega)))|refine stq ?_|refine Cll.pu (hf) ?_|refine Cll.pu (hk) ?_|fail))
  all_goals(conv=>whnf)
  all_goals first
   | exact aN.int (bN (by omega) h4 (by assumption)).symm
   | (refine⟨0+1,⟨by omega,dM h4 (by omega)⟩,by omega,?_⟩
      exact Lf.of2 [] [] (by(repeat(first|exact aI.nil|refine aI.cons rfl (by first|exact Rd.same (aa d)|exact rdA|fail) ?_|fail));(first|done|fail)) (by(repeat(first|exact Bxs.nil|refine Bxs.cons rfl rfl rfl (by first|exact rbB|exact rbC|fail) ?_|fail));(first|done|fail)) rfl rfl)
 ·
  have hf:=cU d 1 (by omega);have hk:=hc 1 (by omega);repeat' ((conv=>whnf)<;>(first|refine Idx.at (f:=D.str) (l:=bp) 1 rfl (kD rfl) ?_|refine aE.go aA T0 ?_|exact kQ|(refine Br.mk (fun _=>?_) (fun _=>?_)<;>(try(exfalso;omega)))|refine stq ?_|refine Cll.pu (hf) ?_|refine Cll.pu (hk) ?_|fail))
  all_goals(conv=>whnf)
  all_goals first
   | exact aN.int (bN (by omega) h4 (by assumption)).symm
   | (refine⟨1+1,⟨by omega,dM h4 (by omega)⟩,by omega,?_⟩
      exact Lf.of2 [] [] (by(repeat(first|exact aI.nil|refine aI.cons rfl (by first|exact Rd.same (aa d)|exact rdA|fail) ?_|fail));(first|done|fail)) (by(repeat(first|exact Bxs.nil|refine Bxs.cons rfl rfl rfl (by first|exact rbB|exact rbC|fail) ?_|fail));(first|done|fail)) rfl rfl)
 ·
  have hf:=cU d 2 (by omega);have hk:=hc 2 (by omega);repeat' ((conv=>whnf)<;>(first|refine Idx.at (f:=D.str) (l:=bp) 2 rfl (kD rfl) ?_|refine aE.go aA T0 ?_|exact kQ|(refine Br.mk (fun _=>?_) (fun _=>?_)<;>(try(exfalso;omega)))|refine stq ?_|refine Cll.pu (hf) ?_|refine Cll.pu (hk) ?_|fail))
  all_goals(conv=>whnf)
  all_goals first
   | exact aN.int (bN (by omega) h4 (by assumption)).symm
   | (refine⟨2+1,⟨by omega,dM h4 (by omega)⟩,by omega,?_⟩
      exact Lf.of2 [] [] (by(repeat(first|exact aI.nil|refine aI.cons rfl (by first|exact Rd.same (aa d)|exact rdA|fail) ?_|fail));(first|done|fail)) (by(repeat(first|exact Bxs.nil|refine Bxs.cons rfl rfl rfl (by first|exact rbB|exact rbC|fail) ?_|fail));(first|done|fail)) rfl rfl)
 ·
  have hf:=cU d 3 (by omega);have hk:=hc 3 (by omega);repeat' ((conv=>whnf)<;>(first|refine Idx.at (f:=D.str) (l:=bp) 3 rfl (kD rfl) ?_|refine aE.go aA T0 ?_|exact kQ|(refine Br.mk (fun _=>?_) (fun _=>?_)<;>(try(exfalso;omega)))|refine stq ?_|refine Cll.pu (hf) ?_|refine Cll.pu (hk) ?_|fail))
  all_goals(conv=>whnf)
  all_goals first
   | exact aN.int (bN (by omega) h4 (by assumption)).symm
   | (refine⟨3+1,⟨by omega,dM h4 (by omega)⟩,by omega,?_⟩
      exact Lf.of2 [] [] (by(repeat(first|exact aI.nil|refine aI.cons rfl (by first|exact Rd.same (aa d)|exact rdA|fail) ?_|fail));(first|done|fail)) (by(repeat(first|exact Bxs.nil|refine Bxs.cons rfl rfl rfl (by first|exact rbB|exact rbC|fail) ?_|fail));(first|done|fail)) rfl rfl)
 ·
  have hf:=cU d 4 (by omega);have hk:=hc 4 (by omega);repeat' ((conv=>whnf)<;>(first|refine Idx.at (f:=D.str) (l:=bp) 4 rfl (kD rfl) ?_|refine aE.go aA T0 ?_|exact kQ|(refine Br.mk (fun _=>?_) (fun _=>?_)<;>(try(exfalso;omega)))|refine stq ?_|refine Cll.pu (hf) ?_|refine Cll.pu (hk) ?_|fail))
  all_goals(conv=>whnf)
  all_goals first
   | exact aN.int (bN (by omega) h4 (by assumption)).symm
   | (refine⟨4+1,⟨by omega,dM h4 (by omega)⟩,by omega,?_⟩
      exact Lf.of2 [] [] (by(repeat(first|exact aI.nil|refine aI.cons rfl (by first|exact Rd.same (aa d)|exact rdA|fail) ?_|fail));(first|done|fail)) (by(repeat(first|exact Bxs.nil|refine Bxs.cons rfl rfl rfl (by first|exact rbB|exact rbC|fail) ?_|fail));(first|done|fail)) rfl rfl)
 ·
  have hf:=cU d 5 (by omega);have hk:=hc 5 (by omega);repeat' ((conv=>whnf)<;>(first|refine Idx.at (f:=D.str) (l:=bp) 5 rfl (kD rfl) ?_|refine aE.go aA T0 ?_|exact kQ|(refine Br.mk (fun _=>?_) (fun _=>?_)<;>(try(exfalso;omega)))|refine stq ?_|refine Cll.pu (hf) ?_|refine Cll.pu (hk) ?_|fail))
  all_goals(conv=>whnf)
  all_goals first
   | exact aN.int (bN (by omega) h4 (by assumption)).symm
   | (refine⟨5+1,⟨by omega,dM h4 (by omega)⟩,by omega,?_⟩
      exact Lf.of2 [] [] (by(repeat(first|exact aI.nil|refine aI.cons rfl (by first|exact Rd.same (aa d)|exact rdA|fail) ?_|fail));(first|done|fail)) (by(repeat(first|exact Bxs.nil|refine Bxs.cons rfl rfl rfl (by first|exact rbB|exact rbC|fail) ?_|fail));(first|done|fail)) rfl rfl)
 ·
  have hf:=cU d 6 (by omega);have hk:=hc 6 (by omega);repeat' ((conv=>whnf)<;>(first|refine Idx.at (f:=D.str) (l:=bp) 6 rfl (kD rfl) ?_|refine aE.go aA T0 ?_|exact kQ|(refine Br.mk (fun _=>?_) (fun _=>?_)<;>(try(exfalso;omega)))|refine stq ?_|refine Cll.pu (hf) ?_|refine Cll.pu (hk) ?_|fail))
  all_goals(conv=>whnf)
  all_goals first
   | exact aN.int (bN (by omega) h4 (by assumption)).symm
   | (refine⟨6+1,⟨by omega,dM h4 (by omega)⟩,by omega,?_⟩
      exact Lf.of2 [] [] (by(repeat(first|exact aI.nil|refine aI.cons rfl (by first|exact Rd.same (aa d)|exact rdA|fail) ?_|fail));(first|done|fail)) (by(repeat(first|exact Bxs.nil|refine Bxs.cons rfl rfl rfl (by first|exact rbB|exact rbC|fail) ?_|fail));(first|done|fail)) rfl rfl)
 ·
  have hf:=cU d 7 (by omega);have hk:=hc 7 (by omega);repeat' ((conv=>whnf)<;>(first|refine Idx.at (f:=D.str) (l:=bp) 7 rfl (kD rfl) ?_|refine aE.go aA T0 ?_|exact kQ|(refine Br.mk (fun _=>?_) (fun _=>?_)<;>(try(exfalso;omega)))|refine stq ?_|refine Cll.pu (hf) ?_|refine Cll.pu (hk) ?_|fail))
  all_goals(conv=>whnf)
  all_goals first
   | exact aN.int (bN (by omega) h4 (by assumption)).symm
   | (refine⟨7+1,⟨by omega,dM h4 (by omega)⟩,by omega,?_⟩
      exact Lf.of2 [] [] (by(repeat(first|exact aI.nil|refine aI.cons rfl (by first|exact Rd.same (aa d)|exact rdA|fail) ?_|fail));(first|done|fail)) (by(repeat(first|exact Bxs.nil|refine Bxs.cons rfl rfl rfl (by first|exact rbB|exact rbC|fail) ?_|fail));(first|done|fail)) rfl rfl)
 ·
  have hf:=cU d 8 (by omega);have hk:=hc 8 (by omega);repeat' ((conv=>whnf)<;>(first|refine Idx.at (f:=D.str) (l:=bp) 8 rfl (kD rfl) ?_|refine aE.go aA T0 ?_|exact kQ|(refine Br.mk (fun _=>?_) (fun _=>?_)<;>(try(exfalso;omega)))|refine stq ?_|refine Cll.pu (hf) ?_|refine Cll.pu (hk) ?_|fail))
  all_goals(conv=>whnf)
  all_goals first
   | exact aN.int (bN (by omega) h4 (by assumption)).symm
   | (refine⟨8+1,⟨by omega,dM h4 (by omega)⟩,by omega,?_⟩
      exact Lf.of2 [] [] (by(repeat(first|exact aI.nil|refine aI.cons rfl (by first|exact Rd.same (aa d)|exact rdA|fail) ?_|fail));(first|done|fail)) (by(repeat(first|exact Bxs.nil|refine Bxs.cons rfl rfl rfl (by first|exact rbB|exact rbC|fail) ?_|fail));(first|done|fail)) rfl rfl)
 ·
  have hf:=cU d 9 (by omega);have hk:=hc 9 (by omega);repeat' ((conv=>whnf)<;>(first|refine Idx.at (f:=D.str) (l:=bp) 9 rfl (kD rfl) ?_|refine aE.go aA T0 ?_|exact kQ|(refine Br.mk (fun _=>?_) (fun _=>?_)<;>(try(exfalso;omega)))|refine stq ?_|refine Cll.pu (hf) ?_|refine Cll.pu (hk) ?_|fail))
  all_goals(conv=>whnf)
  all_goals first
   | exact aN.int (bN (by omega) h4 (by assumption)).symm
   | (refine⟨9+1,⟨by omega,dM h4 (by omega)⟩,by omega,?_⟩
      exact Lf.of2 [] [] (by(repeat(first|exact aI.nil|refine aI.cons rfl (by first|exact Rd.same (aa d)|exact rdA|fail) ?_|fail));(first|done|fail)) (by(repeat(first|exact Bxs.nil|refine Bxs.cons rfl rfl rfl (by first|exact rbB|exact rbC|fail) ?_|fail));(first|done|fail)) rfl rfl)
 ·
  have hf:=cU d 10 (by omega);have hk:=hc 10 (by omega);repeat' ((conv=>whnf)<;>(first|refine Idx.at (f:=D.str) (l:=bp) 10 rfl (kD rfl) ?_|refine aE.go aA T0 ?_|exact kQ|(refine Br.mk (fun _=>?_) (fun _=>?_)<;>(try(exfalso;omega)))|refine stq ?_|refine Cll.pu (hf) ?_|refine Cll.pu (hk) ?_|fail))
  all_goals(conv=>whnf)
  all_goals first
   | exact aN.int (bN (by omega) h4 (by assumption)).symm
   | (refine⟨10+1,⟨by omega,dM h4 (by omega)⟩,by omega,?_⟩
      exact Lf.of2 [] [] (by(repeat(first|exact aI.nil|refine aI.cons rfl (by first|exact Rd.same (aa d)|exact rdA|fail) ?_|fail));(first|done|fail)) (by(repeat(first|exact Bxs.nil|refine Bxs.cons rfl rfl rfl (by first|exact rbB|exact rbC|fail) ?_|fail));(first|done|fail)) rfl rfl)
 ·
  have hf:=cU d 11 (by omega);have hk:=hc 11 (by omega);repeat' ((conv=>whnf)<;>(first|refine Idx.at (f:=D.str) (l:=bp) 11 rfl (kD rfl) ?_|refine aE.go aA T0 ?_|exact kQ|(refine Br.mk (fun _=>?_) (fun _=>?_)<;>(try(exfalso;omega)))|refine stq ?_|refine Cll.pu (hf) ?_|refine Cll.pu (hk) ?_|fail))
  all_goals(conv=>whnf)
  all_goals first
   | exact aN.int (bN (by omega) h4 (by assumption)).symm
   | (refine⟨11+1,⟨by omega,dM h4 (by omega)⟩,by omega,?_⟩
      exact Lf.of2 [] [] (by(repeat(first|exact aI.nil|refine aI.cons rfl (by first|exact Rd.same (aa d)|exact rdA|fail) ?_|fail));(first|done|fail)) (by(repeat(first|exact Bxs.nil|refine Bxs.cons rfl rfl rfl (by first|exact rbB|exact rbC|fail) ?_|fail));(first|done|fail)) rfl rfl)
 ·
  have hf:=cU d 12 (by omega);have hk:=hc 12 (by omega);repeat' ((conv=>whnf)<;>(first|refine Idx.at (f:=D.str) (l:=bp) 12 rfl (kD rfl) ?_|refine aE.go aA T0 ?_|exact kQ|(refine Br.mk (fun _=>?_) (fun _=>?_)<;>(try(exfalso;omega)))|refine stq ?_|refine Cll.pu (hf) ?_|refine Cll.pu (hk) ?_|fail))
  all_goals(conv=>whnf)
  all_goals first
   | exact aN.int (bN (by omega) h4 (by assumption)).symm
   | (refine⟨12+1,⟨by omega,dM h4 (by omega)⟩,by omega,?_⟩
      exact Lf.of2 [] [] (by(repeat(first|exact aI.nil|refine aI.cons rfl (by first|exact Rd.same (aa d)|exact rdA|fail) ?_|fail));(first|done|fail)) (by(repeat(first|exact Bxs.nil|refine Bxs.cons rfl rfl rfl (by first|exact rbB|exact rbC|fail) ?_|fail));(first|done|fail)) rfl rfl)
 ·
  have hf:=cU d 13 (by omega);have hk:=hc 13 (by omega);repeat' ((conv=>whnf)<;>(first|refine Idx.at (f:=D.str) (l:=bp) 13 rfl (kD rfl) ?_|refine aE.go aA T0 ?_|exact kQ|(refine Br.mk (fun _=>?_) (fun _=>?_)<;>(try(exfalso;omega)))|refine stq ?_|refine Cll.pu (hf) ?_|refine Cll.pu (hk) ?_|fail))
  all_goals(conv=>whnf)
  all_goals first
   | exact aN.int (bN (by omega) h4 (by assumption)).symm
   | (refine⟨13+1,⟨by omega,dM h4 (by omega)⟩,by omega,?_⟩
      exact Lf.of2 [] [] (by(repeat(first|exact aI.nil|refine aI.cons rfl (by first|exact Rd.same (aa d)|exact rdA|fail) ?_|fail));(first|done|fail)) (by(repeat(first|exact Bxs.nil|refine Bxs.cons rfl rfl rfl (by first|exact rbB|exact rbC|fail) ?_|fail));(first|done|fail)) rfl rfl)
 ·
  have hf:=cU d 14 (by omega);have hk:=hc 14 (by omega);repeat' ((conv=>whnf)<;>(first|refine Idx.at (f:=D.str) (l:=bp) 14 rfl (kD rfl) ?_|refine aE.go aA T0 ?_|exact kQ|(refine Br.mk (fun _=>?_) (fun _=>?_)<;>(try(exfalso;omega)))|refine stq ?_|refine Cll.pu (hf) ?_|refine Cll.pu (hk) ?_|fail))
  all_goals(conv=>whnf)
  all_goals first
   | exact aN.int (bN (by omega) h4 (by assumption)).symm
   | (refine⟨14+1,⟨by omega,dM h4 (by omega)⟩,by omega,?_⟩
      exact Lf.of2 [] [] (by(repeat(first|exact aI.nil|refine aI.cons rfl (by first|exact Rd.same (aa d)|exact rdA|fail) ?_|fail));(first|done|fail)) (by(repeat(first|exact Bxs.nil|refine Bxs.cons rfl rfl rfl (by first|exact rbB|exact rbC|fail) ?_|fail));(first|done|fail)) rfl rfl)
 ·
  have hf:=cU d 15 (by omega);have hk:=hc 15 (by omega);repeat' ((conv=>whnf)<;>(first|refine Idx.at (f:=D.str) (l:=bp) 15 rfl (kD rfl) ?_|refine aE.go aA T0 ?_|exact kQ|(refine Br.mk (fun _=>?_) (fun _=>?_)<;>(try(exfalso;omega)))|refine stq ?_|refine Cll.pu (hf) ?_|refine Cll.pu (hk) ?_|fail))
  all_goals(conv=>whnf)
  all_goals first
   | exact aN.int (bN (by omega) h4 (by assumption)).symm
   | (refine⟨15+1,⟨by omega,dM h4 (by omega)⟩,by omega,?_⟩
      exact Lf.of2 [] [] (by(repeat(first|exact aI.nil|refine aI.cons rfl (by first|exact Rd.same (aa d)|exact rdA|fail) ?_|fail));(first|done|fail)) (by(repeat(first|exact Bxs.nil|refine Bxs.cons rfl rfl rfl (by first|exact rbB|exact rbC|fail) ?_|fail));(first|done|fail)) rfl rfl)
 ·
  have hf:=cU d 16 (by omega);have hk:=hc 16 (by omega);repeat' ((conv=>whnf)<;>(first|refine Idx.at (f:=D.str) (l:=bp) 16 rfl (kD rfl) ?_|refine aE.go aA T0 ?_|exact kQ|(refine Br.mk (fun _=>?_) (fun _=>?_)<;>(try(exfalso;omega)))|refine stq ?_|refine Cll.pu (hf) ?_|refine Cll.pu (hk) ?_|fail))
  all_goals(conv=>whnf)
  all_goals first
   | exact aN.int (bN (by omega) h4 (by assumption)).symm
   | (refine⟨16+1,⟨by omega,dM h4 (by omega)⟩,by omega,?_⟩
      exact Lf.of2 [] [] (by(repeat(first|exact aI.nil|refine aI.cons rfl (by first|exact Rd.same (aa d)|exact rdA|fail) ?_|fail));(first|done|fail)) (by(repeat(first|exact Bxs.nil|refine Bxs.cons rfl rfl rfl (by first|exact rbB|exact rbC|fail) ?_|fail));(first|done|fail)) rfl rfl)
 ·
  have hf:=cU d 17 (by omega);have hk:=hc 17 (by omega);repeat' ((conv=>whnf)<;>(first|refine Idx.at (f:=D.str) (l:=bp) 17 rfl (kD rfl) ?_|refine aE.go aA T0 ?_|exact kQ|(refine Br.mk (fun _=>?_) (fun _=>?_)<;>(try(exfalso;omega)))|refine stq ?_|refine Cll.pu (hf) ?_|refine Cll.pu (hk) ?_|fail))
  all_goals(conv=>whnf)
  all_goals first
   | exact aN.int (bN (by omega) h4 (by assumption)).symm
   | (refine⟨17+1,⟨by omega,dM h4 (by omega)⟩,by omega,?_⟩
      exact Lf.of2 [] [] (by(repeat(first|exact aI.nil|refine aI.cons rfl (by first|exact Rd.same (aa d)|exact rdA|fail) ?_|fail));(first|done|fail)) (by(repeat(first|exact Bxs.nil|refine Bxs.cons rfl rfl rfl (by first|exact rbB|exact rbC|fail) ?_|fail));(first|done|fail)) rfl rfl)
 ·
  have hf:=cU d 18 (by omega);have hk:=hc 18 (by omega);repeat' ((conv=>whnf)<;>(first|refine Idx.at (f:=D.str) (l:=bp) 18 rfl (kD rfl) ?_|refine aE.go aA T0 ?_|exact kQ|(refine Br.mk (fun _=>?_) (fun _=>?_)<;>(try(exfalso;omega)))|refine stq ?_|refine Cll.pu (hf) ?_|refine Cll.pu (hk) ?_|fail))
  all_goals(conv=>whnf)
  all_goals first
   | exact aN.int (bN (by omega) h4 (by assumption)).symm
   | (refine⟨18+1,⟨by omega,dM h4 (by omega)⟩,by omega,?_⟩
      exact Lf.of2 [] [] (by(repeat(first|exact aI.nil|refine aI.cons rfl (by first|exact Rd.same (aa d)|exact rdA|fail) ?_|fail));(first|done|fail)) (by(repeat(first|exact Bxs.nil|refine Bxs.cons rfl rfl rfl (by first|exact rbB|exact rbC|fail) ?_|fail));(first|done|fail)) rfl rfl)
 ·
  have hf:=cU d 19 (by omega);have hk:=hc 19 (by omega);repeat' ((conv=>whnf)<;>(first|refine Idx.at (f:=D.str) (l:=bp) 19 rfl (kD rfl) ?_|refine aE.go aA T0 ?_|exact kQ|(refine Br.mk (fun _=>?_) (fun _=>?_)<;>(try(exfalso;omega)))|refine stq ?_|refine Cll.pu (hf) ?_|refine Cll.pu (hk) ?_|fail))
  all_goals(conv=>whnf)
  all_goals first
   | exact aN.int (bN (by omega) h4 (by assumption)).symm
   | (refine⟨19+1,⟨by omega,dM h4 (by omega)⟩,by omega,?_⟩
      exact Lf.of2 [] [] (by(repeat(first|exact aI.nil|refine aI.cons rfl (by first|exact Rd.same (aa d)|exact rdA|fail) ?_|fail));(first|done|fail)) (by(repeat(first|exact Bxs.nil|refine Bxs.cons rfl rfl rfl (by first|exact rbB|exact rbC|fail) ?_|fail));(first|done|fail)) rfl rfl)
 ·
  have hf:=cU d 20 (by omega);have hk:=hc 20 (by omega);repeat' ((conv=>whnf)<;>(first|refine Idx.at (f:=D.str) (l:=bp) 20 rfl (kD rfl) ?_|refine aE.go aA T0 ?_|exact kQ|(refine Br.mk (fun _=>?_) (fun _=>?_)<;>(try(exfalso;omega)))|refine stq ?_|refine Cll.pu (hf) ?_|refine Cll.pu (hk) ?_|fail))
  all_goals(conv=>whnf)
  all_goals first
   | exact aN.int (bN (by omega) h4 (by assumption)).symm
   | (refine⟨20+1,⟨by omega,dM h4 (by omega)⟩,by omega,?_⟩
      exact Lf.of2 [] [] (by(repeat(first|exact aI.nil|refine aI.cons rfl (by first|exact Rd.same (aa d)|exact rdA|fail) ?_|fail));(first|done|fail)) (by(repeat(first|exact Bxs.nil|refine Bxs.cons rfl rfl rfl (by first|exact rbB|exact rbC|fail) ?_|fail));(first|done|fail)) rfl rfl)
 ·repeat' ((conv=>whnf)<;>(first|refine aE.go aA T0 ?_|exact kQ|(refine Br.mk (fun _=>?_) (fun _=>?_)<;>(try(exfalso;omega)))|refine stq ?_))
  all_goals(conv=>whnf)
  exact aN.int (rt.2 h4).symm
end
section
open Go Go.Am Classical
set_option maxRecDepth 100000
section
variable [GT]
noncomputable def errs (d:Db) (em:Nat→Int):Nat→Int
 | 0=>if yV d.major∧yV d.minor then 0 else 1
 | 1=>if PrV d.cat then 0 else 11
 | 2=>if PrV d.wid then 0 else 11
 | 3=>if PrV d.scr then 0 else 11
 | 4=>if PrV d.gra then 0 else 11
 | 5=>if PrV d.wor then 0 else 11
 | 6=>if PrV d.sen then 0 else 11
 | 7=>if PrV d.lin then 0 else 11
 | 8=>if ClV d.classes then 0 else 11
 | 9=>em 9
 | 10=>if gx d.excl then 0 else 11
 | 11=>em 11
 | 12=>em 12
 | 13=>em 13
 | 14=>em 14
 | 15=>if gx d.cased then 0 else 11
 | 16=>if gx d.ignor then 0 else 11
 | 17=>if gx d.start then 0 else 11
 | 18=>if gx d.cont then 0 else 11
 | 19=>if gx d.medial then 0 else 11
 | _=>em 20
theorem ite0 {p:Prop} [Decidable p] {n:Int}(hn:n≠0):(if p then 0 else n)=0↔p:=by
 by_cases h:p<;>simp[h,hn]
theorem BX {d:Db}{em:Nat→Int}(hem:∀ k,em k=0↔MOk (ic d k)):∀ k,k<21→(errs d em k=0↔EN d k):=by
 intro k hk;rcases(by omega:k=0∨k=1∨k=2∨k=3∨k=4∨k=5∨k=6∨k=7∨k=8∨k=9∨k=10∨k=11∨k=12∨k=13∨k=14∨k=15∨k=16∨k=17∨k=18∨k=19∨k=20) with rfl|rfl|rfl|rfl|rfl|rfl|rfl|rfl|rfl|rfl|rfl|rfl|rfl|rfl|rfl|rfl|rfl|rfl|rfl|rfl|rfl
 all_goals first
  | exact ite0 (by omega)
  | exact hem _
theorem SmD.maps {d:Db}(ho:d.ok) (hs:SmD d){k:Nat}(hk:k<21):MsOk (ic d k):=⟨by have:=(hs.2.2.2 k hk).2;omega,fun i h=>((ho.maps k).2 i h).1,fun i h=>((ho.maps k).2 i h).2⟩
theorem Av {d:Db}{k:Nat}(hk:¬k<21):ic d k=ic d 20:=by
 unfold ic;split<;>first|omega|rfl
theorem rz {d:Db}(ho:d.ok) (hs:SmD d):∃ e:Int,Pu Tryz.prog 49 [dbD d] (i64 e)∧(e=0↔DbV d):=by
 have hm:∀ k,∃ e:Int,Pu Tryz.prog 290 [dK (ic d k)] (i64 e)∧(e=0↔MOk (ic d k)):=fun k=>by
  by_cases hk:k<21
  ·exact ua (SmD.maps ho hs hk)
  ·rw[Av hk];exact ua (SmD.maps ho hs (by omega))
 let em:Nat→Int:=fun k=>Classical.choose (hm k)
 have h1:∀ k,Pu Tryz.prog 290 [dK (ic d k)] (i64 (em k)):=fun k=>(Classical.choose_spec (hm k)).1
 have h2:∀ k,em k=0↔MOk (ic d k):=fun k=>(Classical.choose_spec (hm k)).2
 have hr:∀ n,aC ((dbC d).drop n)=true:=fun n=>jX n (aa d)
 refine⟨gL ((List.range 21).map (errs d em)),Bi fun k hk=>?_,?_⟩
 ·rcases(by omega:k=0∨k=1∨k=2∨k=3∨k=4∨k=5∨k=6∨k=7∨k=8∨k=9∨k=10∨k=11∨k=12∨k=13∨k=14∨k=15∨k=16∨k=17∨k=18∨k=19∨k=20) with rfl|rfl|rfl|rfl|rfl|rfl|rfl|rfl|rfl|rfl|rfl|rfl|rfl|rfl|rfl|rfl|rfl|rfl|rfl|rfl|rfl
  ·exact zq (hr 2)
  ·exact fr (p:=d.cat) (ho.prop 0) (hr 4)
  ·exact fr (p:=d.wid) (ho.prop 1) (hr 6)
  ·exact fr (p:=d.scr) (ho.prop 2) (hr 8)
  ·exact fr (p:=d.gra) (ho.prop 3) (hr 10)
  ·exact fr (p:=d.wor) (ho.prop 4) (hr 12)
  ·exact fr (p:=d.sen) (ho.prop 5) (hr 14)
  ·exact fr (p:=d.lin) (ho.prop 6) (hr 16)
  ·exact Bv ho.classes (hr 17)
  ·exact iD (l:=d.decomp) (h1 9) (hr 18)
  ·exact g8 (l:=d.excl) (hs.2.2.1 0 (by omega)) (hr 19)
  ·exact iD (l:=d.lower) (h1 11) (hr 20)
  ·exact iD (l:=d.upper) (h1 12) (hr 21)
  ·exact iD (l:=d.title) (h1 13) (hr 22)
  ·exact iD (l:=d.fold) (h1 14) (hr 23)
  ·exact g8 (l:=d.cased) (hs.2.2.1 1 (by omega)) (hr 24)
  ·exact g8 (l:=d.ignor) (hs.2.2.1 2 (by omega)) (hr 25)
  ·exact g8 (l:=d.start) (hs.2.2.1 3 (by omega)) (hr 26)
  ·exact g8 (l:=d.cont) (hs.2.2.1 4 (by omega)) (hr 27)
  ·exact g8 (l:=d.medial) (hs.2.2.1 5 (by omega)) (hr 28)
  ·exact iD (l:=d.confu) (h1 20) (hr 29)
 ·rw[rt];exact forall_congr' fun k=>forall_congr' fun hk=>BX h2 k hk
end
end
section
open Go Go.Am Classical
set_option maxRecDepth 100000
variable [GT]
theorem l8 {α:Type}{f:α→D}(h:∀ x,one (f x)=true):∀ l:List α,eP (l.map f)=true
 | []=>rfl
 | x::l=>by simp[eP,h,l8 h l]
theorem uK:∀ a b:List D,eP (a++b)=(eP a&&eP b)
 | [],b=>by simp[eP]
 | d::a,b=>by simp[eP,uK a b,Bool.and_assoc]
theorem rO {α:Type}{c:α→List D}(h:∀ x,eP (c x)=true):∀ l:List α,eP (l.flatMap c)=true
 | []=>rfl
 | x::l=>by simp[uK,h,rO h l]
theorem ef.lstS {α:Type}{c:α→List D}{sz:Nat}(hc:∀ x,(c x).length=sz){h:aB}{l:List α}{K:Nat→List D→Prop}(go:K l.length (l.flatMap c)):ef h sz (.imm l.length (l.flatMap c)) K:=⟨_,_,by simp[bw,av hc],go⟩
theorem Rd.frzT {h:aB}{fz:Nat→Bool}{σ:Nat→Option Nat}{l:List Str}{id n cap es:Nat}{ex:Bool}{cs:List D}{bx:Bool}(hf:fz id=true) (hg:h.get id=some (.cells cs bx)) (hn:n=l.length) (he:es=1) (hc:cs=l.map D.str):Rd h fz σ (.sl id 0 n cap es ex) (strs l):=by
 rw[show strs l=lstS (fun s=>[D.str s]) l from(ub l).symm];exact Rd.frzL (c:=fun s:Str=>[D.str s]) (sz:=1) (fun _=>rfl) (fun _=>rfl) hf hg hn he (by rw[hc,af])
theorem Bw {l:List Str}(hl:l.length≤1000):Pu Tryz.prog 74 [strs l] (strs l):=by
 cases l with
 | nil=>
  refine Pu.empty ?_ ?_
  ·refine Pu.of_v aA T0 Tryz.func74 rfl rfl rfl ?_;repeat' ((conv=>whnf)<;>(first|refine aE.go aA T0 ?_|exact kQ|(refine Br.mk (fun _=>?_) (fun _=>?_)<;>(try(exfalso;omega)))|refine stq ?_))
   all_goals(conv=>whnf)
   exact⟨.nil⟩
  ·refine Pu.of_v aA T0 Tryz.func74 rfl rfl rfl ?_;repeat' ((conv=>whnf)<;>(first|refine aE.go aA T0 ?_|exact kQ|(refine Br.mk (fun _=>?_) (fun _=>?_)<;>(try(exfalso;omega)))|refine stq ?_))
   all_goals(conv=>whnf)
   exact⟨Rd.frz rfl rfl (kD rfl) (Rds.eqs rfl rfl)⟩
 | cons x xs=>
  have hx2:(x::xs).length=xs.length+1:=rfl;refine Pu.of_v aA T0 Tryz.func74 rfl rfl (by simp[aC,aG]) ?_;repeat' ((conv=>whnf)<;>(first|refine aE.go aA T0 ?_|exact kQ|(refine Br.mk (fun _=>?_) (fun _=>?_)<;>(try(exfalso;omega)))|refine stq ?_|refine ef.lst ?_|refine Chk.mk (l8 (fun _=>rfl) _) ?_|refine Chk.growX 16 1 rfl rfl (by omega) (by omega) (by simp) ?_))
  all_goals(conv=>whnf)
  exact⟨Rd.frzT rfl rfl (by simp) rfl (by simp)⟩
theorem AD (s:Spn):(AE s).length=3:=rfl
theorem Bx {l:List Spn}(hl:l.length≤1000):Pu Tryz.prog 75 [dN l] (dN l):=by
 cases l with
 | nil=>
  refine Pu.empty ?_ ?_
  ·refine Pu.of_v aA T0 Tryz.func75 rfl rfl rfl ?_;repeat' ((conv=>whnf)<;>(first|refine aE.go aA T0 ?_|exact kQ|(refine Br.mk (fun _=>?_) (fun _=>?_)<;>(try(exfalso;omega)))|refine stq ?_))
   all_goals(conv=>whnf)
   exact⟨.nil⟩
  ·refine Pu.of_v aA T0 Tryz.func75 rfl rfl rfl ?_;repeat' ((conv=>whnf)<;>(first|refine aE.go aA T0 ?_|exact kQ|(refine Br.mk (fun _=>?_) (fun _=>?_)<;>(try(exfalso;omega)))|refine stq ?_))
   all_goals(conv=>whnf)
   exact⟨Rd.frz rfl rfl (kD rfl) (Rds.eqs rfl rfl)⟩
 | cons x xs=>
  have hx2:(x::xs).length=xs.length+1:=rfl;refine Pu.of_v aA T0 Tryz.func75 rfl rfl (by simp[aC,aJ]) ?_;repeat' ((conv=>whnf)<;>(first|refine aE.go aA T0 ?_|exact kQ|(refine Br.mk (fun _=>?_) (fun _=>?_)<;>(try(exfalso;omega)))|refine stq ?_|refine ef.lstS (c:=AE) (sz:=3) (l:=x::xs) (fun _=>rfl) ?_|refine Chk.mk (rO (fun _=>rfl) _) ?_|refine Chk.growX 24 3 rfl rfl (by omega) (by omega) (by simp) ?_))
  all_goals(conv=>whnf)
  exact⟨Rd.frzL AD (fun _=>rfl) rfl rfl (by simp) rfl (by simp)⟩
set_option maxHeartbeats 8000000 in
theorem Dm {d:Db}(hs:∀ k,k<7→(prop d k).names.length≤30∧(prop d k).spans.length≤16):∀ k:Nat,k<7→Pu Tryz.prog 50 [dbD d,i64 (k:Int)] (fF (prop d k)):=by
 intro k hk;have hn:=rS (prop d k);have h1:=hs k hk;have c1:=Bw (l:=(prop d k).names) (by omega);have c2:=Bx (l:=(prop d k).spans) (by omega);rcases(by omega:k=0∨k=1∨k=2∨k=3∨k=4∨k=5∨k=6) with rfl|rfl|rfl|rfl|rfl|rfl|rfl
 all_goals
  refine Pu.of_v aA T0 Tryz.func50 rfl rfl (by simp[aH,aC,aG,aJ,aP,aO]) ?_;repeat' ((conv=>whnf)<;>(first|refine aE.go aA T0 ?_|exact kQ|(refine Br.mk (fun _=>?_) (fun _=>?_)<;>(try(exfalso;omega)))|refine stq ?_|refine Cll.pu (c1) ?_|refine aW.pu (c1) ?_|refine Cll.pu (c2) ?_|refine aW.pu (c2) ?_|(apply Cll.inl aA T0 Tryz.func73 rfl rfl ?_;rotate_left)|exact⟨Or.inr rfl,rfl,rfl⟩|refine bS.by (id:=4) aA T0 [0,1,3,7,15,0,32,96,224,511,1023,2047] (by kernel_rfl) ?_|refine Chk.mk ⟨_,rfl⟩ ?_|fail))
  all_goals(conv=>whnf)
  exact⟨Rd.eqd rfl hn⟩
end
end Go.Proofs.YtjpgpihbhicinaaGreatDoor
