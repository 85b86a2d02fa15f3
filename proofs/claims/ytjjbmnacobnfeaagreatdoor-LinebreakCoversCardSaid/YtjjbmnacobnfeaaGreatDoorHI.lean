/-
  Contracts of functions over data: databases checked by the program.
-/
import Derived.Test.YtjjbmnacobnfeaaGreatDoorH5
import Derived.Test.YtjjbmnacobnfeaaGreatDoorHE
import Derived.Test.YtjjbmnacobnfeaaGreatDoorG0
import Derived.Test.YtjjbmnacobnfeaaGreatDoorAmF
set_option linter.unusedSectionVars false
namespace Go.Proofs.YtjjbmnacobnfeaaGreatDoor
section
open Go Go.Am Classical
set_option maxRecDepth 100000
variable [GT]
theorem bS {a:Nat→Int}{n k:Nat}(hk:k<n) (h:∀ i,i<k→a i=0) (h0:a k≠0):gJ ((List.range n).map a)=a k:=by
 have:=sb (l:=(List.range n).map a) (k:=k) (by simpa using hk) (fun i hi hik=>by simpa using h i hik) (by simpa using h0)
 simpa using this
theorem kZ {a:Nat→Int}{n:Nat}:gJ ((List.range n).map a)=0↔∀ i,i<n→a i=0:=by
 rw[kY]
 constructor
 ·intro h i hi
  have:=h i (by simpa using hi)
  simpa using this
 ·intro h i hi
  have:i<n:=by simpa using hi
  simpa using h i this
theorem dU {a:Nat→Int}{k:Nat}(h:∀ i,i<k→a i=0) (h0:a k=0):∀ i,i<k+1→a i=0:=fun i hi=>by
 rcases(by omega:i<k∨i=k) with h1|rfl
 ·exact h i h1
 ·exact h0
set_option maxHeartbeats 8000000 in
theorem Ak {d:Db}{a:Nat→Int}(hc:∀ k,k<21→Pu Tryz.prog (fchk k) [.agg [.iptr ((dbC d).drop (foff k))]] (i64 (a k))):Pu Tryz.prog 29 [dbD d] (i64 (gJ ((List.range 21).map a))):=by
 refine Pu.of_v aA T0 Tryz.func29 rfl rfl (by simp[aM,aD,aF,aH,aK,aJ]) ?_
 repeat' ((conv=>whnf)<;>(first|refine aB.go aA T0 ?_|exact True.intro|(refine Br.mk (fun _=>?_) (fun _=>?_)<;>(try(exfalso;omega)))|refine stq ?_|refine Cll.pu (xB) ?_|refine aG.pu (xB) ?_))
 refine aT.by aA T0 (fun k:Nat=>⟨tmp 19 [(1,.iptr (dbC d)),(6,strs ax),(7,i64 21),(8,i64 (k:Int))],⟨0,[]⟩⟩)
  (fun k=>k≤21∧∀ i,i<k→a i=0) (fun k=>21-k) 0 ⟨by omega,fun _ h=>by omega⟩ ?_ ?_
 ·exact Lf.of2 [] [0] (by(repeat(first|exact aP.nil|refine aP.cons rfl (by first|exact Rd.frzp rfl rfl (Rds.eqs rfl (aS d))|exact Rd.int rfl|exact rdA|fail) ?_|fail));(first|done|fail)) (by(repeat(first|exact Bxs.nil|refine Bxs.cons rfl rfl rfl (by first|exact rbB|exact Rb.cells (by(repeat(first|exact Rds.nil|refine Rds.cons (by first|exact Rd.frzp rfl rfl (Rds.eqs rfl (aS d))|exact Rd.int rfl|exact rdA|fail) ?_|fail));(first|done|fail)) rfl|exact rbC|fail) ?_|fail));(first|done|fail)) rfl rfl
 intro k ⟨h3,h4⟩
 rcases(by omega:k=0∨k=1∨k=2∨k=3∨k=4∨k=5∨k=6∨k=7∨k=8∨k=9∨k=10∨k=11∨k=12∨k=13∨k=14∨k=15∨k=16∨k=17∨k=18∨k=19∨k=20∨k=21) with rfl|rfl|rfl|rfl|rfl|rfl|rfl|rfl|rfl|rfl|rfl|rfl|rfl|rfl|rfl|rfl|rfl|rfl|rfl|rfl|rfl|rfl
 ·
  have hf:=cZ d 0 (by omega)
  have hk:=hc 0 (by omega)
  repeat' ((conv=>whnf)<;>(first|refine Idx.at (f:=D.str) (l:=ax) 0 rfl (Nat.le_of_ble_eq_true rfl) ?_|refine aB.go aA T0 ?_|exact True.intro|(refine Br.mk (fun _=>?_) (fun _=>?_)<;>(try(exfalso;omega)))|refine stq ?_|refine Cll.pu (hf) ?_|refine aG.pu (hf) ?_|refine Cll.pu (hk) ?_|refine aG.pu (hk) ?_|fail))
  all_goals(conv=>whnf)
  all_goals first
   | exact aI.int (bS (by omega) h4 (by assumption)).symm
   | (refine⟨0+1,⟨by omega,dU h4 (by omega)⟩,by omega,?_⟩
      exact Lf.of2 [] [] (by(repeat(first|exact aP.nil|refine aP.cons rfl (by first|exact Rd.same (aS d)|exact rdA|fail) ?_|fail));(first|done|fail)) (by(repeat(first|exact Bxs.nil|refine Bxs.cons rfl rfl rfl (by first|exact rbB|exact Rb.cells (by(repeat(first|exact Rds.nil|refine Rds.cons (by first|exact Rd.same (aS d)|exact rdA|fail) ?_|fail));(first|done|fail)) rfl|exact rbC|fail) ?_|fail));(first|done|fail)) rfl rfl)
 ·
  have hf:=cZ d 1 (by omega)
  have hk:=hc 1 (by omega)
  repeat' ((conv=>whnf)<;>(first|refine Idx.at (f:=D.str) (l:=ax) 1 rfl (Nat.le_of_ble_eq_true rfl) ?_|refine aB.go aA T0 ?_|exact True.intro|(refine Br.mk (fun _=>?_) (fun _=>?_)<;>(try(exfalso;omega)))|refine stq ?_|refine Cll.pu (hf) ?_|refine aG.pu (hf) ?_|refine Cll.pu (hk) ?_|refine aG.pu (hk) ?_|fail))
  all_goals(conv=>whnf)
  all_goals first
   | exact aI.int (bS (by omega) h4 (by assumption)).symm
   | (refine⟨1+1,⟨by omega,dU h4 (by omega)⟩,by omega,?_⟩
      exact Lf.of2 [] [] (by(repeat(first|exact aP.nil|refine aP.cons rfl (by first|exact Rd.same (aS d)|exact rdA|fail) ?_|fail));(first|done|fail)) (by(repeat(first|exact Bxs.nil|refine Bxs.cons rfl rfl rfl (by first|exact rbB|exact Rb.cells (by(repeat(first|exact Rds.nil|refine Rds.cons (by first|exact Rd.same (aS d)|exact rdA|fail) ?_|fail));(first|done|fail)) rfl|exact rbC|fail) ?_|fail));(first|done|fail)) rfl rfl)
 ·
  have hf:=cZ d 2 (by omega)
  have hk:=hc 2 (by omega)
  repeat' ((conv=>whnf)<;>(first|refine Idx.at (f:=D.str) (l:=ax) 2 rfl (Nat.le_of_ble_eq_true rfl) ?_|refine aB.go aA T0 ?_|exact True.intro|(refine Br.mk (fun _=>?_) (fun _=>?_)<;>(try(exfalso;omega)))|refine stq ?_|refine Cll.pu (hf) ?_|refine aG.pu (hf) ?_|refine Cll.pu (hk) ?_|refine aG.pu (hk) ?_|fail))
  all_goals(conv=>whnf)
  all_goals first
   | exact aI.int (bS (by omega) h4 (by assumption)).symm
   | (refine⟨2+1,⟨by omega,dU h4 (by omega)⟩,by omega,?_⟩
      exact Lf.of2 [] [] (by(repeat(first|exact aP.nil|refine aP.cons rfl (by first|exact Rd.same (aS d)|exact rdA|fail) ?_|fail));(first|done|fail)) (by(repeat(first|exact Bxs.nil|refine Bxs.cons rfl rfl rfl (by first|exact rbB|exact Rb.cells (by(repeat(first|exact Rds.nil|refine Rds.cons (by first|exact Rd.same (aS d)|exact rdA|fail) ?_|fail));(first|done|fail)) rfl|exact rbC|fail) ?_|fail));(first|done|fail)) rfl rfl)
 ·
  have hf:=cZ d 3 (by omega)
  have hk:=hc 3 (by omega)
  repeat' ((conv=>whnf)<;>(first|refine Idx.at (f:=D.str) (l:=ax) 3 rfl (Nat.le_of_ble_eq_true rfl) ?_|refine aB.go aA T0 ?_|exact True.intro|(refine Br.mk (fun _=>?_) (fun _=>?_)<;>(try(exfalso;omega)))|refine stq ?_|refine Cll.pu (hf) ?_|refine aG.pu (hf) ?_|refine Cll.pu (hk) ?_|refine aG.pu (hk) ?_|fail))
  all_goals(conv=>whnf)
  all_goals first
   | exact aI.int (bS (by omega) h4 (by assumption)).symm
   | (refine⟨3+1,⟨by omega,dU h4 (by omega)⟩,by omega,?_⟩
      exact Lf.of2 [] [] (by(repeat(first|exact aP.nil|refine aP.cons rfl (by first|exact Rd.same (aS d)|exact rdA|fail) ?_|fail));(first|done|fail)) (by(repeat(first|exact Bxs.nil|refine Bxs.cons rfl rfl rfl (by first|exact rbB|exact Rb.cells (by(repeat(first|exact Rds.nil|refine Rds.cons (by first|exact Rd.same (aS d)|exact rdA|fail) ?_|fail));(first|done|fail)) rfl|exact rbC|fail) ?_|fail));(first|done|fail)) rfl rfl)
 ·
  have hf:=cZ d 4 (by omega)
  have hk:=hc 4 (by omega)
  repeat' ((conv=>whnf)<;>(first|refine Idx.at (f:=D.str) (l:=ax) 4 rfl (Nat.le_of_ble_eq_true rfl) ?_|refine aB.go aA T0 ?_|exact True.intro|(refine Br.mk (fun _=>?_) (fun _=>?_)<;>(try(exfalso;omega)))|refine stq ?_|refine Cll.pu (hf) ?_|refine aG.pu (hf) ?_|refine Cll.pu (hk) ?_|refine aG.pu (hk) ?_|fail))
  all_goals(conv=>whnf)
  all_goals first
   | exact aI.int (bS (by omega) h4 (by assumption)).symm
   | (refine⟨4+1,⟨by omega,dU h4 (by omega)⟩,by omega,?_⟩
      exact Lf.of2 [] [] (by(repeat(first|exact aP.nil|refine aP.cons rfl (by first|exact Rd.same (aS d)|exact rdA|fail) ?_|fail));(first|done|fail)) (by(repeat(first|exact Bxs.nil|refine Bxs.cons rfl rfl rfl (by first|exact rbB|exact Rb.cells (by(repeat(first|exact Rds.nil|refine Rds.cons (by first|exact Rd.same (aS d)|exact rdA|fail) ?_|fail));(first|done|fail)) rfl|exact rbC|fail) ?_|fail));(first|done|fail)) rfl rfl)
 ·
  have hf:=cZ d 5 (by omega)
  have hk:=hc 5 (by omega)
  repeat' ((conv=>whnf)<;>(first|refine Idx.at (f:=D.str) (l:=ax) 5 rfl (Nat.le_of_ble_eq_true rfl) ?_|refine aB.go aA T0 ?_|exact True.intro|(refine Br.mk (fun _=>?_) (fun _=>?_)<;>(try(exfalso;omega)))|refine stq ?_|refine Cll.pu (hf) ?_|refine aG.pu (hf) ?_|refine Cll.pu (hk) ?_|refine aG.pu (hk) ?_|fail))
  all_goals(conv=>whnf)
  all_goals first
   | exact aI.int (bS (by omega) h4 (by assumption)).symm
   | (refine⟨5+1,⟨by omega,dU h4 (by omega)⟩,by omega,?_⟩
      exact Lf.of2 [] [] (by(repeat(first|exact aP.nil|refine aP.cons rfl (by first|exact Rd.same (aS d)|exact rdA|fail) ?_|fail));(first|done|fail)) (by(repeat(first|exact Bxs.nil|refine Bxs.cons rfl rfl rfl (by first|exact rbB|exact Rb.cells (by(repeat(first|exact Rds.nil|refine Rds.cons (by first|exact Rd.same (aS d)|exact rdA|fail) ?_|fail));(first|done|fail)) rfl|exact rbC|fail) ?_|fail));(first|done|fail)) rfl rfl)
 ·
  have hf:=cZ d 6 (by omega)
  have hk:=hc 6 (by omega)
  repeat' ((conv=>whnf)<;>(first|refine Idx.at (f:=D.str) (l:=ax) 6 rfl (Nat.le_of_ble_eq_true rfl) ?_|refine aB.go aA T0 ?_|exact True.intro|(refine Br.mk (fun _=>?_) (fun _=>?_)<;>(try(exfalso;omega)))|refine stq ?_|refine Cll.pu (hf) ?_|refine aG.pu (hf) ?_|refine Cll.pu (hk) ?_|refine aG.pu (hk) ?_|fail))
  all_goals(conv=>whnf)
  all_goals first
   | exact aI.int (bS (by omega) h4 (by assumption)).symm
   | (refine⟨6+1,⟨by omega,dU h4 (by omega)⟩,by omega,?_⟩
      exact Lf.of2 [] [] (by(repeat(first|exact aP.nil|refine aP.cons rfl (by first|exact Rd.same (aS d)|exact rdA|fail) ?_|fail));(first|done|fail)) (by(repeat(first|exact Bxs.nil|refine Bxs.cons rfl rfl rfl (by first|exact rbB|exact Rb.cells (by(repeat(first|exact Rds.nil|refine Rds.cons (by first|exact Rd.same (aS d)|exact rdA|fail) ?_|fail));(first|done|fail)) rfl|exact rbC|fail) ?_|fail));(first|done|fail)) rfl rfl)
 ·
  have hf:=cZ d 7 (by omega)
  have hk:=hc 7 (by omega)
  repeat' ((conv=>whnf)<;>(first|refine Idx.at (f:=D.str) (l:=ax) 7 rfl (Nat.le_of_ble_eq_true rfl) ?_|refine aB.go aA T0 ?_|exact True.intro|(refine Br.mk (fun _=>?_) (fun _=>?_)<;>(try(exfalso;omega)))|refine stq ?_|refine Cll.pu (hf) ?_|refine aG.pu (hf) ?_|refine Cll.pu (hk) ?_|refine aG.pu (hk) ?_|fail))
  all_goals(conv=>whnf)
  all_goals first
   | exact aI.int (bS (by omega) h4 (by assumption)).symm
   | (refine⟨7+1,⟨by omega,dU h4 (by omega)⟩,by omega,?_⟩
      exact Lf.of2 [] [] (by(repeat(first|exact aP.nil|refine aP.cons rfl (by first|exact Rd.same (aS d)|exact rdA|fail) ?_|fail));(first|done|fail)) (by(repeat(first|exact Bxs.nil|refine Bxs.cons rfl rfl rfl (by first|exact rbB|exact Rb.cells (by(repeat(first|exact Rds.nil|refine Rds.cons (by first|exact Rd.same (aS d)|exact rdA|fail) ?_|fail));(first|done|fail)) rfl|exact rbC|fail) ?_|fail));(first|done|fail)) rfl rfl)
 ·
  have hf:=cZ d 8 (by omega)
  have hk:=hc 8 (by omega)
  repeat' ((conv=>whnf)<;>(first|refine Idx.at (f:=D.str) (l:=ax) 8 rfl (Nat.le_of_ble_eq_true rfl) ?_|refine aB.go aA T0 ?_|exact True.intro|(refine Br.mk (fun _=>?_) (fun _=>?_)<;>(try(exfalso;omega)))|refine stq ?_|refine Cll.pu (hf) ?_|refine aG.pu (hf) ?_|refine Cll.pu (hk) ?_|refine aG.pu (hk) ?_|fail))
  all_goals(conv=>whnf)
  all_goals first
   | exact aI.int (bS (by omega) h4 (by assumption)).symm
   | (refine⟨8+1,⟨by omega,dU h4 (by omega)⟩,by omega,?_⟩
      exact Lf.of2 [] [] (by(repeat(first|exact aP.nil|refine aP.cons rfl (by first|exact Rd.same (aS d)|exact rdA|fail) ?_|fail));(first|done|fail)) (by(repeat(first|exact Bxs.nil|refine Bxs.cons rfl rfl rfl (by first|exact rbB|exact Rb.cells (by(repeat(first|exact Rds.nil|refine Rds.cons (by first|exact Rd.same (aS d)|exact rdA|fail) ?_|fail));(first|done|fail)) rfl|exact rbC|fail) ?_|fail));(first|done|fail)) rfl rfl)
 ·
  have hf:=cZ d 9 (by omega)
  have hk:=hc 9 (by omega)
  repeat' ((conv=>whnf)<;>(first|refine Idx.at (f:=D.str) (l:=ax) 9 rfl (Nat.le_of_ble_eq_true rfl) ?_|refine aB.go aA T0 ?_|exact True.intro|(refine Br.mk (fun _=>?_) (fun _=>?_)<;>(try(exfalso;omega)))|refine stq ?_|refine Cll.pu (hf) ?_|refine aG.pu (hf) ?_|refine Cll.pu (hk) ?_|refine aG.pu (hk) ?_|fail))
  all_goals(conv=>whnf)
  all_goals first
   | exact aI.int (bS (by omega) h4 (by assumption)).symm
   | (refine⟨9+1,⟨by omega,dU h4 (by omega)⟩,by omega,?_⟩
      exact Lf.of2 [] [] (by(repeat(first|exact aP.nil|refine aP.cons rfl (by first|exact Rd.same (aS d)|exact rdA|fail) ?_|fail));(first|done|fail)) (by(repeat(first|exact Bxs.nil|refine Bxs.cons rfl rfl rfl (by first|exact rbB|exact Rb.cells (by(repeat(first|exact Rds.nil|refine Rds.cons (by first|exact Rd.same (aS d)|exact rdA|fail) ?_|fail));(first|done|fail)) rfl|exact rbC|fail) ?_|fail));(first|done|fail)) rfl rfl)
 ·
  have hf:=cZ d 10 (by omega)
  have hk:=hc 10 (by omega)
  repeat' ((conv=>whnf)<;>(first|refine Idx.at (f:=D.str) (l:=ax) 10 rfl (Nat.le_of_ble_eq_true rfl) ?_|refine aB.go aA T0 ?_|exact True.intro|(refine Br.mk (fun _=>?_) (fun _=>?_)<;>(try(exfalso;omega)))|refine stq ?_|refine Cll.pu (hf) ?_|refine aG.pu (hf) ?_|refine Cll.pu (hk) ?_|refine aG.pu (hk) ?_|fail))
  all_goals(conv=>whnf)
  all_goals first
   | exact aI.int (bS (by omega) h4 (by assumption)).symm
   | (refine⟨10+1,⟨by omega,dU h4 (by omega)⟩,by omega,?_⟩
      exact Lf.of2 [] [] (by(repeat(first|exact aP.nil|refine aP.cons rfl (by first|exact Rd.same (aS d)|exact rdA|fail) ?_|fail));(first|done|fail)) (by(repeat(first|exact Bxs.nil|refine Bxs.cons rfl rfl rfl (by first|exact rbB|exact Rb.cells (by(repeat(first|exact Rds.nil|refine Rds.cons (by first|exact Rd.same (aS d)|exact rdA|fail) ?_|fail));(first|done|fail)) rfl|exact rbC|fail) ?_|fail));(first|done|fail)) rfl rfl)
 ·
  have hf:=cZ d 11 (by omega)
  have hk:=hc 11 (by omega)
  repeat' ((conv=>whnf)<;>(first|refine Idx.at (f:=D.str) (l:=ax) 11 rfl (Nat.le_of_ble_eq_true rfl) ?_|refine aB.go aA T0 ?_|exact True.intro|(refine Br.mk (fun _=>?_) (fun _=>?_)<;>(try(exfalso;omega)))|refine stq ?_|refine Cll.pu (hf) ?_|refine aG.pu (hf) ?_|refine Cll.pu (hk) ?_|refine aG.pu (hk) ?_|fail))
  all_goals(conv=>whnf)
  all_goals first
   | exact aI.int (bS (by omega) h4 (by assumption)).symm
   | (refine⟨11+1,⟨by omega,dU h4 (by omega)⟩,by omega,?_⟩
      exact Lf.of2 [] [] (by(repeat(first|exact aP.nil|refine aP.cons rfl (by first|exact Rd.same (aS d)|exact rdA|fail) ?_|fail));(first|done|fail)) (by(repeat(first|exact Bxs.nil|refine Bxs.cons rfl rfl rfl (by first|exact rbB|exact Rb.cells (by(repeat(first|exact Rds.nil|refine Rds.cons (by first|exact Rd.same (aS d)|exact rdA|fail) ?_|fail));(first|done|fail)) rfl|exact rbC|fail) ?_|fail));(first|done|fail)) rfl rfl)
 ·
  have hf:=cZ d 12 (by omega)
  have hk:=hc 12 (by omega)
  repeat' ((conv=>whnf)<;>(first|refine Idx.at (f:=D.str) (l:=ax) 12 rfl (Nat.le_of_ble_eq_true rfl) ?_|refine aB.go aA T0 ?_|exact True.intro|(refine Br.mk (fun _=>?_) (fun _=>?_)<;>(try(exfalso;omega)))|refine stq ?_|refine Cll.pu (hf) ?_|refine aG.pu (hf) ?_|refine Cll.pu (hk) ?_|refine aG.pu (hk) ?_|fail))
  all_goals(conv=>whnf)
  all_goals first
   | exact aI.int (bS (by omega) h4 (by assumption)).symm
   | (refine⟨12+1,⟨by omega,dU h4 (by omega)⟩,by omega,?_⟩
      exact Lf.of2 [] [] (by(repeat(first|exact aP.nil|refine aP.cons rfl (by first|exact Rd.same (aS d)|exact rdA|fail) ?_|fail));(first|done|fail)) (by(repeat(first|exact Bxs.nil|refine Bxs.cons rfl rfl rfl (by first|exact rbB|exact Rb.cells (by(repeat(first|exact Rds.nil|refine Rds.cons (by first|exact Rd.same (aS d)|exact rdA|fail) ?_|fail));(first|done|fail)) rfl|exact rbC|fail) ?_|fail));(first|done|fail)) rfl rfl)
 ·
  have hf:=cZ d 13 (by omega)
  have hk:=hc 13 (by omega)
  repeat' ((conv=>whnf)<;>(first|refine Idx.at (f:=D.str) (l:=ax) 13 rfl (Nat.le_of_ble_eq_true rfl) ?_|refine aB.go aA T0 ?_|exact True.intro|(refine Br.mk (fun _=>?_) (fun _=>?_)<;>(try(exfalso;omega)))|refine stq ?_|refine Cll.pu (hf) ?_|refine aG.pu (hf) ?_|refine Cll.pu (hk) ?_|refine aG.pu (hk) ?_|fail))
  all_goals(conv=>whnf)
  all_goals first
   | exact aI.int (bS (by omega) h4 (by assumption)).symm
   | (refine⟨13+1,⟨by omega,dU h4 (by omega)⟩,by omega,?_⟩
      exact Lf.of2 [] [] (by(repeat(first|exact aP.nil|refine aP.cons rfl (by first|exact Rd.same (aS d)|exact rdA|fail) ?_|fail));(first|done|fail)) (by(repeat(first|exact Bxs.nil|refine Bxs.cons rfl rfl rfl (by first|exact rbB|exact Rb.cells (by(repeat(first|exact Rds.nil|refine Rds.cons (by first|exact Rd.same (aS d)|exact rdA|fail) ?_|fail));(first|done|fail)) rfl|exact rbC|fail) ?_|fail));(first|done|fail)) rfl rfl)
 ·
  have hf:=cZ d 14 (by omega)
  have hk:=hc 14 (by omega)
  repeat' ((conv=>whnf)<;>(first|refine Idx.at (f:=D.str) (l:=ax) 14 rfl (Nat.le_of_ble_eq_true rfl) ?_|refine aB.go aA T0 ?_|exact True.intro|(refine Br.mk (fun _=>?_) (fun _=>?_)<;>(try(exfalso;omega)))|refine stq ?_|refine Cll.pu (hf) ?_|refine aG.pu (hf) ?_|refine Cll.pu (hk) ?_|refine aG.pu (hk) ?_|fail))
  all_goals(conv=>whnf)
  all_goals first
   | exact aI.int (bS (by omega) h4 (by assumption)).symm
   | (refine⟨14+1,⟨by omega,dU h4 (by omega)⟩,by omega,?_⟩
      exact Lf.of2 [] [] (by(repeat(first|exact aP.nil|refine aP.cons rfl (by first|exact Rd.same (aS d)|exact rdA|fail) ?_|fail));(first|done|fail)) (by(repeat(first|exact Bxs.nil|refine Bxs.cons rfl rfl rfl (by first|exact rbB|exact Rb.cells (by(repeat(first|exact Rds.nil|refine Rds.cons (by first|exact Rd.same (aS d)|exact rdA|fail) ?_|fail));(first|done|fail)) rfl|exact rbC|fail) ?_|fail));(first|done|fail)) rfl rfl)
 ·
  have hf:=cZ d 15 (by omega)
  have hk:=hc 15 (by omega)
  repeat' ((conv=>whnf)<;>(first|refine Idx.at (f:=D.str) (l:=ax) 15 rfl (Nat.le_of_ble_eq_true rfl) ?_|refine aB.go aA T0 ?_|exact True.intro|(refine Br.mk (fun _=>?_) (fun _=>?_)<;>(try(exfalso;omega)))|refine stq ?_|refine Cll.pu (hf) ?_|refine aG.pu (hf) ?_|refine Cll.pu (hk) ?_|refine aG.pu (hk) ?_|fail))
  all_goals(conv=>whnf)
  all_goals first
   | exact aI.int (bS (by omega) h4 (by assumption)).symm
   | (refine⟨15+1,⟨by omega,dU h4 (by omega)⟩,by omega,?_⟩
      exact Lf.of2 [] [] (by(repeat(first|exact aP.nil|refine aP.cons rfl (by first|exact Rd.same (aS d)|exact rdA|fail) ?_|fail));(first|done|fail)) (by(repeat(first|exact Bxs.nil|refine Bxs.cons rfl rfl rfl (by first|exact rbB|exact Rb.cells (by(repeat(first|exact Rds.nil|refine Rds.cons (by first|exact Rd.same (aS d)|exact rdA|fail) ?_|fail));(first|done|fail)) rfl|exact rbC|fail) ?_|fail));(first|done|fail)) rfl rfl)
 ·
  have hf:=cZ d 16 (by omega)
  have hk:=hc 16 (by omega)
  repeat' ((conv=>whnf)<;>(first|refine Idx.at (f:=D.str) (l:=ax) 16 rfl (Nat.le_of_ble_eq_true rfl) ?_|refine aB.go aA T0 ?_|exact True.intro|(refine Br.mk (fun _=>?_) (fun _=>?_)<;>(try(exfalso;omega)))|refine stq ?_|refine Cll.pu (hf) ?_|refine aG.pu (hf) ?_|refine Cll.pu (hk) ?_|refine aG.pu (hk) ?_|fail))
  all_goals(conv=>whnf)
  all_goals first
   | exact aI.int (bS (by omega) h4 (by assumption)).symm
   | (refine⟨16+1,⟨by omega,dU h4 (by omega)⟩,by omega,?_⟩
      exact Lf.of2 [] [] (by(repeat(first|exact aP.nil|refine aP.cons rfl (by first|exact Rd.same (aS d)|exact rdA|fail) ?_|fail));(first|done|fail)) (by(repeat(first|exact Bxs.nil|refine Bxs.cons rfl rfl rfl (by first|exact rbB|exact Rb.cells (by(repeat(first|exact Rds.nil|refine Rds.cons (by first|exact Rd.same (aS d)|exact rdA|fail) ?_|fail));(first|done|fail)) rfl|exact rbC|fail) ?_|fail));(first|done|fail)) rfl rfl)
 ·
  have hf:=cZ d 17 (by omega)
  have hk:=hc 17 (by omega)
  repeat' ((conv=>whnf)<;>(first|refine Idx.at (f:=D.str) (l:=ax) 17 rfl (Nat.le_of_ble_eq_true rfl) ?_|refine aB.go aA T0 ?_|exact True.intro|(refine Br.mk (fun _=>?_) (fun _=>?_)<;>(try(exfalso;omega)))|refine stq ?_|refine Cll.pu (hf) ?_|refine aG.pu (hf) ?_|refine Cll.pu (hk) ?_|refine aG.pu (hk) ?_|fail))
  all_goals(conv=>whnf)
  all_goals first
   | exact aI.int (bS (by omega) h4 (by assumption)).symm
   | (refine⟨17+1,⟨by omega,dU h4 (by omega)⟩,by omega,?_⟩
      exact Lf.of2 [] [] (by(repeat(first|exact aP.nil|refine aP.cons rfl (by first|exact Rd.same (aS d)|exact rdA|fail) ?_|fail));(first|done|fail)) (by(repeat(first|exact Bxs.nil|refine Bxs.cons rfl rfl rfl (by first|exact rbB|exact Rb.cells (by(repeat(first|exact Rds.nil|refine Rds.cons (by first|exact Rd.same (aS d)|exact rdA|fail) ?_|fail));(first|done|fail)) rfl|exact rbC|fail) ?_|fail));(first|done|fail)) rfl rfl)
 ·
  have hf:=cZ d 18 (by omega)
  have hk:=hc 18 (by omega)
  repeat' ((conv=>whnf)<;>(first|refine Idx.at (f:=D.str) (l:=ax) 18 rfl (Nat.le_of_ble_eq_true rfl) ?_|refine aB.go aA T0 ?_|exact True.intro|(refine Br.mk (fun _=>?_) (fun _=>?_)<;>(try(exfalso;omega)))|refine stq ?_|refine Cll.pu (hf) ?_|refine aG.pu (hf) ?_|refine Cll.pu (hk) ?_|refine aG.pu (hk) ?_|fail))
  all_goals(conv=>whnf)
  all_goals first
   | exact aI.int (bS (by omega) h4 (by assumption)).symm
   | (refine⟨18+1,⟨by omega,dU h4 (by omega)⟩,by omega,?_⟩
      exact Lf.of2 [] [] (by(repeat(first|exact aP.nil|refine aP.cons rfl (by first|exact Rd.same (aS d)|exact rdA|fail) ?_|fail));(first|done|fail)) (by(repeat(first|exact Bxs.nil|refine Bxs.cons rfl rfl rfl (by first|exact rbB|exact Rb.cells (by(repeat(first|exact Rds.nil|refine Rds.cons (by first|exact Rd.same (aS d)|exact rdA|fail) ?_|fail));(first|done|fail)) rfl|exact rbC|fail) ?_|fail));(first|done|fail)) rfl rfl)
 ·
  have hf:=cZ d 19 (by omega)
  have hk:=hc 19 (by omega)
  repeat' ((conv=>whnf)<;>(first|refine Idx.at (f:=D.str) (l:=ax) 19 rfl (Nat.le_of_ble_eq_true rfl) ?_|refine aB.go aA T0 ?_|exact True.intro|(refine Br.mk (fun _=>?_) (fun _=>?_)<;>(try(exfalso;omega)))|refine stq ?_|refine Cll.pu (hf) ?_|refine aG.pu (hf) ?_|refine Cll.pu (hk) ?_|refine aG.pu (hk) ?_|fail))
  all_goals(conv=>whnf)
  all_goals first
   | exact aI.int (bS (by omega) h4 (by assumption)).symm
   | (refine⟨19+1,⟨by omega,dU h4 (by omega)⟩,by omega,?_⟩
      exact Lf.of2 [] [] (by(repeat(first|exact aP.nil|refine aP.cons rfl (by first|exact Rd.same (aS d)|exact rdA|fail) ?_|fail));(first|done|fail)) (by(repeat(first|exact Bxs.nil|refine Bxs.cons rfl rfl rfl (by first|exact rbB|exact Rb.cells (by(repeat(first|exact Rds.nil|refine Rds.cons (by first|exact Rd.same (aS d)|exact rdA|fail) ?_|fail));(first|done|fail)) rfl|exact rbC|fail) ?_|fail));(first|done|fail)) rfl rfl)
 ·
  have hf:=cZ d 20 (by omega)
  have hk:=hc 20 (by omega)
  repeat' ((conv=>whnf)<;>(first|refine Idx.at (f:=D.str) (l:=ax) 20 rfl (Nat.le_of_ble_eq_true rfl) ?_|refine aB.go aA T0 ?_|exact True.intro|(refine Br.mk (fun _=>?_) (fun _=>?_)<;>(try(exfalso;omega)))|refine stq ?_|refine Cll.pu (hf) ?_|refine aG.pu (hf) ?_|refine Cll.pu (hk) ?_|refine aG.pu (hk) ?_|fail))
  all_goals(conv=>whnf)
  all_goals first
   | exact aI.int (bS (by omega) h4 (by assumption)).symm
   | (refine⟨20+1,⟨by omega,dU h4 (by omega)⟩,by omega,?_⟩
      exact Lf.of2 [] [] (by(repeat(first|exact aP.nil|refine aP.cons rfl (by first|exact Rd.same (aS d)|exact rdA|fail) ?_|fail));(first|done|fail)) (by(repeat(first|exact Bxs.nil|refine Bxs.cons rfl rfl rfl (by first|exact rbB|exact Rb.cells (by(repeat(first|exact Rds.nil|refine Rds.cons (by first|exact Rd.same (aS d)|exact rdA|fail) ?_|fail));(first|done|fail)) rfl|exact rbC|fail) ?_|fail));(first|done|fail)) rfl rfl)
 ·repeat' ((conv=>whnf)<;>(first|refine aB.go aA T0 ?_|exact True.intro|(refine Br.mk (fun _=>?_) (fun _=>?_)<;>(try(exfalso;omega)))|refine stq ?_))
  all_goals(conv=>whnf)
  exact aI.int (kZ.2 h4).symm
end
section
open Go Go.Am Classical
set_option maxRecDepth 100000
section
variable [GT]
noncomputable def errs (d:Db) (em:Nat→Int):Nat→Int
 | 0=>if rn d.major∧rn d.minor then 0 else 1
 | 1=>if PrV d.cat then 0 else 11
 | 2=>if PrV d.wid then 0 else 11
 | 3=>if PrV d.scr then 0 else 11
 | 4=>if PrV d.gra then 0 else 11
 | 5=>if PrV d.wor then 0 else 11
 | 6=>if PrV d.sen then 0 else 11
 | 7=>if PrV d.lin then 0 else 11
 | 8=>if ClV d.classes then 0 else 11
 | 9=>em 9
 | 10=>if cx d.excl then 0 else 11
 | 11=>em 11
 | 12=>em 12
 | 13=>em 13
 | 14=>em 14
 | 15=>if cx d.cased then 0 else 11
 | 16=>if cx d.ignor then 0 else 11
 | 17=>if cx d.start then 0 else 11
 | 18=>if cx d.cont then 0 else 11
 | 19=>if cx d.medial then 0 else 11
 | _=>em 20
theorem ite0 {p:Prop} [Decidable p] {n:Int}(hn:n≠0):(if p then 0 else n)=0↔p:=by
 by_cases h:p<;>simp[h,hn]
theorem uR {d:Db}{em:Nat→Int}(hem:∀ k,em k=0↔MOk (fX d k)):∀ k,k<21→(errs d em k=0↔DZ d k):=by
 intro k hk
 rcases(by omega:k=0∨k=1∨k=2∨k=3∨k=4∨k=5∨k=6∨k=7∨k=8∨k=9∨k=10∨k=11∨k=12∨k=13∨k=14∨k=15∨k=16∨k=17∨k=18∨k=19∨k=20) with rfl|rfl|rfl|rfl|rfl|rfl|rfl|rfl|rfl|rfl|rfl|rfl|rfl|rfl|rfl|rfl|rfl|rfl|rfl|rfl|rfl
 all_goals first
  | exact ite0 (by omega)
  | exact hem _
theorem SmD.maps {d:Db}(ho:d.ok) (hs:SmD d){k:Nat}(hk:k<21):BO (fX d k):=⟨by have:=(hs.2.2.2 k hk).2;omega,fun i h=>((ho.maps k).2 i h).1,fun i h=>((ho.maps k).2 i h).2⟩
theorem tz {d:Db}{k:Nat}(hk:¬k<21):fX d k=fX d 20:=by
 unfold fX
 split<;>first|omega|rfl
theorem iU {d:Db}(ho:d.ok) (hs:SmD d):∃ e:Int,Pu Tryz.prog 29 [dbD d] (i64 e)∧(e=0↔DbV d):=by
 have hm:∀ k,∃ e:Int,Pu Tryz.prog 277 [cR (fX d k)] (i64 e)∧(e=0↔MOk (fX d k)):=fun k=>by
  by_cases hk:k<21
  ·exact t5 (SmD.maps ho hs hk)
  ·rw[tz hk];exact t5 (SmD.maps ho hs (by omega))
 let em:Nat→Int:=fun k=>Classical.choose (hm k)
 have h1:∀ k,Pu Tryz.prog 277 [cR (fX d k)] (i64 (em k)):=fun k=>(Classical.choose_spec (hm k)).1
 have h2:∀ k,em k=0↔MOk (fX d k):=fun k=>(Classical.choose_spec (hm k)).2
 have hr:∀ n,aD ((dbC d).drop n)=true:=fun n=>jl n (aS d)
 refine⟨gJ ((List.range 21).map (errs d em)),Ak fun k hk=>?_,?_⟩
 ·rcases(by omega:k=0∨k=1∨k=2∨k=3∨k=4∨k=5∨k=6∨k=7∨k=8∨k=9∨k=10∨k=11∨k=12∨k=13∨k=14∨k=15∨k=16∨k=17∨k=18∨k=19∨k=20) with rfl|rfl|rfl|rfl|rfl|rfl|rfl|rfl|rfl|rfl|rfl|rfl|rfl|rfl|rfl|rfl|rfl|rfl|rfl|rfl|rfl
  ·exact y5 (hr 2)
  ·exact fy (p:=d.cat) (ho.prop 0) (hr 4)
  ·exact fy (p:=d.wid) (ho.prop 1) (hr 6)
  ·exact fy (p:=d.scr) (ho.prop 2) (hr 8)
  ·exact fy (p:=d.gra) (ho.prop 3) (hr 10)
  ·exact fy (p:=d.wor) (ho.prop 4) (hr 12)
  ·exact fy (p:=d.sen) (ho.prop 5) (hr 14)
  ·exact fy (p:=d.lin) (ho.prop 6) (hr 16)
  ·exact Ax ho.classes (hr 17)
  ·exact iM (l:=d.decomp) (h1 9) (hr 18)
  ·exact iD (l:=d.excl) (hs.2.2.1 0 (by omega)) (hr 19)
  ·exact iM (l:=d.lower) (h1 11) (hr 20)
  ·exact iM (l:=d.upper) (h1 12) (hr 21)
  ·exact iM (l:=d.title) (h1 13) (hr 22)
  ·exact iM (l:=d.fold) (h1 14) (hr 23)
  ·exact iD (l:=d.cased) (hs.2.2.1 1 (by omega)) (hr 24)
  ·exact iD (l:=d.ignor) (hs.2.2.1 2 (by omega)) (hr 25)
  ·exact iD (l:=d.start) (hs.2.2.1 3 (by omega)) (hr 26)
  ·exact iD (l:=d.cont) (hs.2.2.1 4 (by omega)) (hr 27)
  ·exact iD (l:=d.medial) (hs.2.2.1 5 (by omega)) (hr 28)
  ·exact iM (l:=d.confu) (h1 20) (hr 29)
 ·rw[kZ]
  exact forall_congr' fun k=>forall_congr' fun hk=>uR h2 k hk
noncomputable def Bt (d:Db) (em:Nat→Int) (k:Nat):Int:=if k=0 then 0 else errs d em k
set_option maxHeartbeats 16000000 in
theorem yU {d:Db}(ho:d.ok) (hs:SmD d){em:Nat→Int}(hem:∀ k,Pu Tryz.prog 76 [cR (fX d k)] (i64 (em k))):∀ k:Nat,k<21→Pu Tryz.prog 48 [dbD d,i64 (k:Int)] (i64 (Bt d em k)):=by
 intro k hk
 rcases(by omega:k=0∨k=1∨k=2∨k=3∨k=4∨k=5∨k=6∨k=7∨k=8∨k=9∨k=10∨k=11∨k=12∨k=13∨k=14∨k=15∨k=16∨k=17∨k=18∨k=19∨k=20) with rfl|rfl|rfl|rfl|rfl|rfl|rfl|rfl|rfl|rfl|rfl|rfl|rfl|rfl|rfl|rfl|rfl|rfl|rfl|rfl|rfl
 ·
  refine Pu.of_v aA T0 Tryz.func48 rfl rfl (by simp[aM,aD,aF,aH,aK,aJ]) ?_
  repeat' ((conv=>whnf)<;>(first|refine Br.strF rfl ?_|refine Br.strT rfl ?_|refine Idx.at (f:=D.str) (l:=ax) 0 rfl (Nat.le_of_ble_eq_true rfl) ?_|refine aB.go aA T0 ?_|exact True.intro|(refine Br.mk (fun _=>?_) (fun _=>?_)<;>(try(exfalso;omega)))|refine stq ?_|refine Cll.pu (aX) ?_|refine aG.pu (aX) ?_|fail))
  all_goals(conv=>whnf)
  all_goals first
   | (refine aI.int (Eq.symm ?_);show(if True then(0:Int) else 11)=0;exact if_pos (by assumption))
   | (refine aI.int (Eq.symm ?_);show(if True then(0:Int) else 11)=11;exact if_neg (by assumption))
   | exact aI.int rfl
 ·
  have h1:Pu Tryz.prog 38 [dbD d,i64 ((1:Nat)-1:Int)] (fW (prop d 0)):=gW d 0 (by omega)
  have h2:=dP (ho.prop 0)
  refine Pu.of_v aA T0 Tryz.func48 rfl rfl (by simp[aM,aD,aF,aH,aK,aJ]) ?_
  repeat' ((conv=>whnf)<;>(first|refine Br.strF rfl ?_|refine Br.strT rfl ?_|refine Idx.at (f:=D.str) (l:=ax) 1 rfl (Nat.le_of_ble_eq_true rfl) ?_|refine aB.go aA T0 ?_|exact True.intro|(refine Br.mk (fun _=>?_) (fun _=>?_)<;>(try(exfalso;omega)))|refine stq ?_|refine Cll.pu (aX) ?_|refine aG.pu (aX) ?_|refine Cll.pu (h1) ?_|refine aG.pu (h1) ?_|refine Cll.dec (h2) (fun _=>?_) (fun _=>?_)|refine aG.dec (h2) (fun _=>?_) (fun _=>?_)|fail))
  all_goals(conv=>whnf)
  all_goals first
   | (refine aI.int (Eq.symm ?_);show(if PrV d.cat then(0:Int) else 11)=0;exact if_pos (by assumption))
   | (refine aI.int (Eq.symm ?_);show(if PrV d.cat then(0:Int) else 11)=11;exact if_neg (by assumption))
   | exact aI.int rfl
 ·
  have h1:Pu Tryz.prog 38 [dbD d,i64 ((2:Nat)-1:Int)] (fW (prop d 1)):=gW d 1 (by omega)
  have h2:=dP (ho.prop 1)
  refine Pu.of_v aA T0 Tryz.func48 rfl rfl (by simp[aM,aD,aF,aH,aK,aJ]) ?_
  repeat' ((conv=>whnf)<;>(first|refine Br.strF rfl ?_|refine Br.strT rfl ?_|refine Idx.at (f:=D.str) (l:=ax) 2 rfl (Nat.le_of_ble_eq_true rfl) ?_|refine aB.go aA T0 ?_|exact True.intro|(refine Br.mk (fun _=>?_) (fun _=>?_)<;>(try(exfalso;omega)))|refine stq ?_|refine Cll.pu (aX) ?_|refine aG.pu (aX) ?_|refine Cll.pu (h1) ?_|refine aG.pu (h1) ?_|refine Cll.dec (h2) (fun _=>?_) (fun _=>?_)|refine aG.dec (h2) (fun _=>?_) (fun _=>?_)|fail))
  all_goals(conv=>whnf)
  all_goals first
   | (refine aI.int (Eq.symm ?_);show(if PrV d.wid then(0:Int) else 11)=0;exact if_pos (by assumption))
   | (refine aI.int (Eq.symm ?_);show(if PrV d.wid then(0:Int) else 11)=11;exact if_neg (by assumption))
   | exact aI.int rfl
 ·
  have h1:Pu Tryz.prog 38 [dbD d,i64 ((3:Nat)-1:Int)] (fW (prop d 2)):=gW d 2 (by omega)
  have h2:=dP (ho.prop 2)
  refine Pu.of_v aA T0 Tryz.func48 rfl rfl (by simp[aM,aD,aF,aH,aK,aJ]) ?_
  repeat' ((conv=>whnf)<;>(first|refine Br.strF rfl ?_|refine Br.strT rfl ?_|refine Idx.at (f:=D.str) (l:=ax) 3 rfl (Nat.le_of_ble_eq_true rfl) ?_|refine aB.go aA T0 ?_|exact True.intro|(refine Br.mk (fun _=>?_) (fun _=>?_)<;>(try(exfalso;omega)))|refine stq ?_|refine Cll.pu (aX) ?_|refine aG.pu (aX) ?_|refine Cll.pu (h1) ?_|refine aG.pu (h1) ?_|refine Cll.dec (h2) (fun _=>?_) (fun _=>?_)|refine aG.dec (h2) (fun _=>?_) (fun _=>?_)|fail))
  all_goals(conv=>whnf)
  all_goals first
   | (refine aI.int (Eq.symm ?_);show(if PrV d.scr then(0:Int) else 11)=0;exact if_pos (by assumption))
   | (refine aI.int (Eq.symm ?_);show(if PrV d.scr then(0:Int) else 11)=11;exact if_neg (by assumption))
   | exact aI.int rfl
 ·
  have h1:Pu Tryz.prog 38 [dbD d,i64 ((4:Nat)-1:Int)] (fW (prop d 3)):=gW d 3 (by omega)
  have h2:=dP (ho.prop 3)
  refine Pu.of_v aA T0 Tryz.func48 rfl rfl (by simp[aM,aD,aF,aH,aK,aJ]) ?_
  repeat' ((conv=>whnf)<;>(first|refine Br.strF rfl ?_|refine Br.strT rfl ?_|refine Idx.at (f:=D.str) (l:=ax) 4 rfl (Nat.le_of_ble_eq_true rfl) ?_|refine aB.go aA T0 ?_|exact True.intro|(refine Br.mk (fun _=>?_) (fun _=>?_)<;>(try(exfalso;omega)))|refine stq ?_|refine Cll.pu (aX) ?_|refine aG.pu (aX) ?_|refine Cll.pu (h1) ?_|refine aG.pu (h1) ?_|refine Cll.dec (h2) (fun _=>?_) (fun _=>?_)|refine aG.dec (h2) (fun _=>?_) (fun _=>?_)|fail))
  all_goals(conv=>whnf)
  all_goals first
   | (refine aI.int (Eq.symm ?_);show(if PrV d.gra then(0:Int) else 11)=0;exact if_pos (by assumption))
   | (refine aI.int (Eq.symm ?_);show(if PrV d.gra then(0:Int) else 11)=11;exact if_neg (by assumption))
   | exact aI.int rfl
 ·
  have h1:Pu Tryz.prog 38 [dbD d,i64 ((5:Nat)-1:Int)] (fW (prop d 4)):=gW d 4 (by omega)
  have h2:=dP (ho.prop 4)
  refine Pu.of_v aA T0 Tryz.func48 rfl rfl (by simp[aM,aD,aF,aH,aK,aJ]) ?_
  repeat' ((conv=>whnf)<;>(first|refine Br.strF rfl ?_|refine Br.strT rfl ?_|refine Idx.at (f:=D.str) (l:=ax) 5 rfl (Nat.le_of_ble_eq_true rfl) ?_|refine aB.go aA T0 ?_|exact True.intro|(refine Br.mk (fun _=>?_) (fun _=>?_)<;>(try(exfalso;omega)))|refine stq ?_|refine Cll.pu (aX) ?_|refine aG.pu (aX) ?_|refine Cll.pu (h1) ?_|refine aG.pu (h1) ?_|refine Cll.dec (h2) (fun _=>?_) (fun _=>?_)|refine aG.dec (h2) (fun _=>?_) (fun _=>?_)|fail))
  all_goals(conv=>whnf)
  all_goals first
   | (refine aI.int (Eq.symm ?_);show(if PrV d.wor then(0:Int) else 11)=0;exact if_pos (by assumption))
   | (refine aI.int (Eq.symm ?_);show(if PrV d.wor then(0:Int) else 11)=11;exact if_neg (by assumption))
   | exact aI.int rfl
 ·
  have h1:Pu Tryz.prog 38 [dbD d,i64 ((6:Nat)-1:Int)] (fW (prop d 5)):=gW d 5 (by omega)
  have h2:=dP (ho.prop 5)
  refine Pu.of_v aA T0 Tryz.func48 rfl rfl (by simp[aM,aD,aF,aH,aK,aJ]) ?_
  repeat' ((conv=>whnf)<;>(first|refine Br.strF rfl ?_|refine Br.strT rfl ?_|refine Idx.at (f:=D.str) (l:=ax) 6 rfl (Nat.le_of_ble_eq_true rfl) ?_|refine aB.go aA T0 ?_|exact True.intro|(refine Br.mk (fun _=>?_) (fun _=>?_)<;>(try(exfalso;omega)))|refine stq ?_|refine Cll.pu (aX) ?_|refine aG.pu (aX) ?_|refine Cll.pu (h1) ?_|refine aG.pu (h1) ?_|refine Cll.dec (h2) (fun _=>?_) (fun _=>?_)|refine aG.dec (h2) (fun _=>?_) (fun _=>?_)|fail))
  all_goals(conv=>whnf)
  all_goals first
   | (refine aI.int (Eq.symm ?_);show(if PrV d.sen then(0:Int) else 11)=0;exact if_pos (by assumption))
   | (refine aI.int (Eq.symm ?_);show(if PrV d.sen then(0:Int) else 11)=11;exact if_neg (by assumption))
   | exact aI.int rfl
 ·
  have h1:Pu Tryz.prog 38 [dbD d,i64 ((7:Nat)-1:Int)] (fW (prop d 6)):=gW d 6 (by omega)
  have h2:=dP (ho.prop 6)
  refine Pu.of_v aA T0 Tryz.func48 rfl rfl (by simp[aM,aD,aF,aH,aK,aJ]) ?_
  repeat' ((conv=>whnf)<;>(first|refine Br.strF rfl ?_|refine Br.strT rfl ?_|refine Idx.at (f:=D.str) (l:=ax) 7 rfl (Nat.le_of_ble_eq_true rfl) ?_|refine aB.go aA T0 ?_|exact True.intro|(refine Br.mk (fun _=>?_) (fun _=>?_)<;>(try(exfalso;omega)))|refine stq ?_|refine Cll.pu (aX) ?_|refine aG.pu (aX) ?_|refine Cll.pu (h1) ?_|refine aG.pu (h1) ?_|refine Cll.dec (h2) (fun _=>?_) (fun _=>?_)|refine aG.dec (h2) (fun _=>?_) (fun _=>?_)|fail))
  all_goals(conv=>whnf)
  all_goals first
   | (refine aI.int (Eq.symm ?_);show(if PrV d.lin then(0:Int) else 11)=0;exact if_pos (by assumption))
   | (refine aI.int (Eq.symm ?_);show(if PrV d.lin then(0:Int) else 11)=11;exact if_neg (by assumption))
   | exact aI.int rfl
 ·
  have h2:=rcls_c (l:=d.classes) ho.classes
  refine Pu.of_v aA T0 Tryz.func48 rfl rfl (by simp[aM,aD,aF,aH,aK,aJ]) ?_
  repeat' ((conv=>whnf)<;>(first|refine Br.strF rfl ?_|refine Br.strT rfl ?_|refine Idx.at (f:=D.str) (l:=ax) 8 rfl (Nat.le_of_ble_eq_true rfl) ?_|refine aB.go aA T0 ?_|exact True.intro|(refine Br.mk (fun _=>?_) (fun _=>?_)<;>(try(exfalso;omega)))|refine stq ?_|refine Cll.pu (aX) ?_|refine aG.pu (aX) ?_|refine Cll.dec (h2) (fun _=>?_) (fun _=>?_)|refine aG.dec (h2) (fun _=>?_) (fun _=>?_)|fail))
  all_goals(conv=>whnf)
  all_goals first
   | (refine aI.int (Eq.symm ?_);show(if ClV d.classes then(0:Int) else 11)=0;exact if_pos (by assumption))
   | (refine aI.int (Eq.symm ?_);show(if ClV d.classes then(0:Int) else 11)=11;exact if_neg (by assumption))
   | exact aI.int rfl
 ·
  have h0:Pu Tryz.prog 74 [.str (gh 9)] (i64 (-1)):=dZ 9 (by omega)
  have h1:=lM d 9 (by omega)
  have h2:=hem 9
  refine Pu.of_v aA T0 Tryz.func48 rfl rfl (by simp[aM,aD,aF,aH,aK,aJ]) ?_
  repeat' ((conv=>whnf)<;>(first|refine Br.strF rfl ?_|refine Br.strT rfl ?_|refine Idx.at (f:=D.str) (l:=ax) 9 rfl (Nat.le_of_ble_eq_true rfl) ?_|refine aB.go aA T0 ?_|exact True.intro|(refine Br.mk (fun _=>?_) (fun _=>?_)<;>(try(exfalso;omega)))|refine stq ?_|refine Cll.pu (aX) ?_|refine aG.pu (aX) ?_|refine Cll.pu (h0) ?_|refine aG.pu (h0) ?_|refine Cll.pu (h1) ?_|refine aG.pu (h1) ?_|refine Cll.pu (h2) ?_|refine aG.pu (h2) ?_|fail))
  all_goals(conv=>whnf)
  all_goals first
   | (refine aI.int (Eq.symm ?_);show(if True then(0:Int) else 11)=0;exact if_pos (by assumption))
   | (refine aI.int (Eq.symm ?_);show(if True then(0:Int) else 11)=11;exact if_neg (by assumption))
   | exact aI.int rfl
 ·
  have h0:Pu Tryz.prog 74 [.str (gh 10)] (i64 (0)):=dZ 10 (by omega)
  have h1:=lL d 0 (by omega)
  have h2:=dv (rs:=d.excl) (hs.2.2.1 0 (by omega))
  refine Pu.of_v aA T0 Tryz.func48 rfl rfl (by simp[aM,aD,aF,aH,aK,aJ]) ?_
  repeat' ((conv=>whnf)<;>(first|refine Br.strF rfl ?_|refine Br.strT rfl ?_|refine Idx.at (f:=D.str) (l:=ax) 10 rfl (Nat.le_of_ble_eq_true rfl) ?_|refine aB.go aA T0 ?_|exact True.intro|(refine Br.mk (fun _=>?_) (fun _=>?_)<;>(try(exfalso;omega)))|refine stq ?_|refine Cll.pu (aX) ?_|refine aG.pu (aX) ?_|refine Cll.pu (h0) ?_|refine aG.pu (h0) ?_|refine Cll.pu (h1) ?_|refine aG.pu (h1) ?_|refine Cll.dec (h2) (fun _=>?_) (fun _=>?_)|refine aG.dec (h2) (fun _=>?_) (fun _=>?_)|fail))
  all_goals(conv=>whnf)
  all_goals first
   | (refine aI.int (Eq.symm ?_);show(if cx d.excl then(0:Int) else 11)=0;exact if_pos (by assumption))
   | (refine aI.int (Eq.symm ?_);show(if cx d.excl then(0:Int) else 11)=11;exact if_neg (by assumption))
   | exact aI.int rfl
 ·
  have h0:Pu Tryz.prog 74 [.str (gh 11)] (i64 (-1)):=dZ 11 (by omega)
  have h1:=lM d 11 (by omega)
  have h2:=hem 11
  refine Pu.of_v aA T0 Tryz.func48 rfl rfl (by simp[aM,aD,aF,aH,aK,aJ]) ?_
  repeat' ((conv=>whnf)<;>(first|refine Br.strF rfl ?_|refine Br.strT rfl ?_|refine Idx.at (f:=D.str) (l:=ax) 11 rfl (Nat.le_of_ble_eq_true rfl) ?_|refine aB.go aA T0 ?_|exact True.intro|(refine Br.mk (fun _=>?_) (fun _=>?_)<;>(try(exfalso;omega)))|refine stq ?_|refine Cll.pu (aX) ?_|refine aG.pu (aX) ?_|refine Cll.pu (h0) ?_|refine aG.pu (h0) ?_|refine Cll.pu (h1) ?_|refine aG.pu (h1) ?_|refine Cll.pu (h2) ?_|refine aG.pu (h2) ?_|fail))
  all_goals(conv=>whnf)
  all_goals first
   | (refine aI.int (Eq.symm ?_);show(if True then(0:Int) else 11)=0;exact if_pos (by assumption))
   | (refine aI.int (Eq.symm ?_);show(if True then(0:Int) else 11)=11;exact if_neg (by assumption))
   | exact aI.int rfl
 ·
  have h0:Pu Tryz.prog 74 [.str (gh 12)] (i64 (-1)):=dZ 12 (by omega)
  have h1:=lM d 12 (by omega)
  have h2:=hem 12
  refine Pu.of_v aA T0 Tryz.func48 rfl rfl (by simp[aM,aD,aF,aH,aK,aJ]) ?_
  repeat' ((conv=>whnf)<;>(first|refine Br.strF rfl ?_|refine Br.strT rfl ?_|refine Idx.at (f:=D.str) (l:=ax) 12 rfl (Nat.le_of_ble_eq_true rfl) ?_|refine aB.go aA T0 ?_|exact True.intro|(refine Br.mk (fun _=>?_) (fun _=>?_)<;>(try(exfalso;omega)))|refine stq ?_|refine Cll.pu (aX) ?_|refine aG.pu (aX) ?_|refine Cll.pu (h0) ?_|refine aG.pu (h0) ?_|refine Cll.pu (h1) ?_|refine aG.pu (h1) ?_|refine Cll.pu (h2) ?_|refine aG.pu (h2) ?_|fail))
  all_goals(conv=>whnf)
  all_goals first
   | (refine aI.int (Eq.symm ?_);show(if True then(0:Int) else 11)=0;exact if_pos (by assumption))
   | (refine aI.int (Eq.symm ?_);show(if True then(0:Int) else 11)=11;exact if_neg (by assumption))
   | exact aI.int rfl
 ·
  have h0:Pu Tryz.prog 74 [.str (gh 13)] (i64 (-1)):=dZ 13 (by omega)
  have h1:=lM d 13 (by omega)
  have h2:=hem 13
  refine Pu.of_v aA T0 Tryz.func48 rfl rfl (by simp[aM,aD,aF,aH,aK,aJ]) ?_
  repeat' ((conv=>whnf)<;>(first|refine Br.strF rfl ?_|refine Br.strT rfl ?_|refine Idx.at (f:=D.str) (l:=ax) 13 rfl (Nat.le_of_ble_eq_true rfl) ?_|refine aB.go aA T0 ?_|exact True.intro|(refine Br.mk (fun _=>?_) (fun _=>?_)<;>(try(exfalso;omega)))|refine stq ?_|refine Cll.pu (aX) ?_|refine aG.pu (aX) ?_|refine Cll.pu (h0) ?_|refine aG.pu (h0) ?_|refine Cll.pu (h1) ?_|refine aG.pu (h1) ?_|refine Cll.pu (h2) ?_|refine aG.pu (h2) ?_|fail))
  all_goals(conv=>whnf)
  all_goals first
   | (refine aI.int (Eq.symm ?_);show(if True then(0:Int) else 11)=0;exact if_pos (by assumption))
   | (refine aI.int (Eq.symm ?_);show(if True then(0:Int) else 11)=11;exact if_neg (by assumption))
   | exact aI.int rfl
 ·
  have h0:Pu Tryz.prog 74 [.str (gh 14)] (i64 (-1)):=dZ 14 (by omega)
  have h1:=lM d 14 (by omega)
  have h2:=hem 14
  refine Pu.of_v aA T0 Tryz.func48 rfl rfl (by simp[aM,aD,aF,aH,aK,aJ]) ?_
  repeat' ((conv=>whnf)<;>(first|refine Br.strF rfl ?_|refine Br.strT rfl ?_|refine Idx.at (f:=D.str) (l:=ax) 14 rfl (Nat.le_of_ble_eq_true rfl) ?_|refine aB.go aA T0 ?_|exact True.intro|(refine Br.mk (fun _=>?_) (fun _=>?_)<;>(try(exfalso;omega)))|refine stq ?_|refine Cll.pu (aX) ?_|refine aG.pu (aX) ?_|refine Cll.pu (h0) ?_|refine aG.pu (h0) ?_|refine Cll.pu (h1) ?_|refine aG.pu (h1) ?_|refine Cll.pu (h2) ?_|refine aG.pu (h2) ?_|fail))
  all_goals(conv=>whnf)
  all_goals first
   | (refine aI.int (Eq.symm ?_);show(if True then(0:Int) else 11)=0;exact if_pos (by assumption))
   | (refine aI.int (Eq.symm ?_);show(if True then(0:Int) else 11)=11;exact if_neg (by assumption))
   | exact aI.int rfl
 ·
  have h0:Pu Tryz.prog 74 [.str (gh 15)] (i64 (1)):=dZ 15 (by omega)
  have h1:=lL d 1 (by omega)
  have h2:=dv (rs:=d.cased) (hs.2.2.1 1 (by omega))
  refine Pu.of_v aA T0 Tryz.func48 rfl rfl (by simp[aM,aD,aF,aH,aK,aJ]) ?_
  repeat' ((conv=>whnf)<;>(first|refine Br.strF rfl ?_|refine Br.strT rfl ?_|refine Idx.at (f:=D.str) (l:=ax) 15 rfl (Nat.le_of_ble_eq_true rfl) ?_|refine aB.go aA T0 ?_|exact True.intro|(refine Br.mk (fun _=>?_) (fun _=>?_)<;>(try(exfalso;omega)))|refine stq ?_|refine Cll.pu (aX) ?_|refine aG.pu (aX) ?_|refine Cll.pu (h0) ?_|refine aG.pu (h0) ?_|refine Cll.pu (h1) ?_|refine aG.pu (h1) ?_|refine Cll.dec (h2) (fun _=>?_) (fun _=>?_)|refine aG.dec (h2) (fun _=>?_) (fun _=>?_)|fail))
  all_goals(conv=>whnf)
  all_goals first
   | (refine aI.int (Eq.symm ?_);show(if cx d.cased then(0:Int) else 11)=0;exact if_pos (by assumption))
   | (refine aI.int (Eq.symm ?_);show(if cx d.cased then(0:Int) else 11)=11;exact if_neg (by assumption))
   | exact aI.int rfl
 ·
  have h0:Pu Tryz.prog 74 [.str (gh 16)] (i64 (2)):=dZ 16 (by omega)
  have h1:=lL d 2 (by omega)
  have h2:=dv (rs:=d.ignor) (hs.2.2.1 2 (by omega))
  refine Pu.of_v aA T0 Tryz.func48 rfl rfl (by simp[aM,aD,aF,aH,aK,aJ]) ?_
  repeat' ((conv=>whnf)<;>(first|refine Br.strF rfl ?_|refine Br.strT rfl ?_|refine Idx.at (f:=D.str) (l:=ax) 16 rfl (Nat.le_of_ble_eq_true rfl) ?_|refine aB.go aA T0 ?_|exact True.intro|(refine Br.mk (fun _=>?_) (fun _=>?_)<;>(try(exfalso;omega)))|refine stq ?_|refine Cll.pu (aX) ?_|refine aG.pu (aX) ?_|refine Cll.pu (h0) ?_|refine aG.pu (h0) ?_|refine Cll.pu (h1) ?_|refine aG.pu (h1) ?_|refine Cll.dec (h2) (fun _=>?_) (fun _=>?_)|refine aG.dec (h2) (fun _=>?_) (fun _=>?_)|fail))
  all_goals(conv=>whnf)
  all_goals first
   | (refine aI.int (Eq.symm ?_);show(if cx d.ignor then(0:Int) else 11)=0;exact if_pos (by assumption))
   | (refine aI.int (Eq.symm ?_);show(if cx d.ignor then(0:Int) else 11)=11;exact if_neg (by assumption))
   | exact aI.int rfl
 ·
  have h0:Pu Tryz.prog 74 [.str (gh 17)] (i64 (3)):=dZ 17 (by omega)
  have h1:=lL d 3 (by omega)
  have h2:=dv (rs:=d.start) (hs.2.2.1 3 (by omega))
  refine Pu.of_v aA T0 Tryz.func48 rfl rfl (by simp[aM,aD,aF,aH,aK,aJ]) ?_
  repeat' ((conv=>whnf)<;>(first|refine Br.strF rfl ?_|refine Br.strT rfl ?_|refine Idx.at (f:=D.str) (l:=ax) 17 rfl (Nat.le_of_ble_eq_true rfl) ?_|refine aB.go aA T0 ?_|exact True.intro|(refine Br.mk (fun _=>?_) (fun _=>?_)<;>(try(exfalso;omega)))|refine stq ?_|refine Cll.pu (aX) ?_|refine aG.pu (aX) ?_|refine Cll.pu (h0) ?_|refine aG.pu (h0) ?_|refine Cll.pu (h1) ?_|refine aG.pu (h1) ?_|refine Cll.dec (h2) (fun _=>?_) (fun _=>?_)|refine aG.dec (h2) (fun _=>?_) (fun _=>?_)|fail))
  all_goals(conv=>whnf)
  all_goals first
   | (refine aI.int (Eq.symm ?_);show(if cx d.start then(0:Int) else 11)=0;exact if_pos (by assumption))
   | (refine aI.int (Eq.symm ?_);show(if cx d.start then(0:Int) else 11)=11;exact if_neg (by assumption))
   | exact aI.int rfl
 ·
  have h0:Pu Tryz.prog 74 [.str (gh 18)] (i64 (4)):=dZ 18 (by omega)
  have h1:=lL d 4 (by omega)
  have h2:=dv (rs:=d.cont) (hs.2.2.1 4 (by omega))
  refine Pu.of_v aA T0 Tryz.func48 rfl rfl (by simp[aM,aD,aF,aH,aK,aJ]) ?_
  repeat' ((conv=>whnf)<;>(first|refine Br.strF rfl ?_|refine Br.strT rfl ?_|refine Idx.at (f:=D.str) (l:=ax) 18 rfl (Nat.le_of_ble_eq_true rfl) ?_|refine aB.go aA T0 ?_|exact True.intro|(refine Br.mk (fun _=>?_) (fun _=>?_)<;>(try(exfalso;omega)))|refine stq ?_|refine Cll.pu (aX) ?_|refine aG.pu (aX) ?_|refine Cll.pu (h0) ?_|refine aG.pu (h0) ?_|refine Cll.pu (h1) ?_|refine aG.pu (h1) ?_|refine Cll.dec (h2) (fun _=>?_) (fun _=>?_)|refine aG.dec (h2) (fun _=>?_) (fun _=>?_)|fail))
  all_goals(conv=>whnf)
  all_goals first
   | (refine aI.int (Eq.symm ?_);show(if cx d.cont then(0:Int) else 11)=0;exact if_pos (by assumption))
   | (refine aI.int (Eq.symm ?_);show(if cx d.cont then(0:Int) else 11)=11;exact if_neg (by assumption))
   | exact aI.int rfl
 ·
  have h0:Pu Tryz.prog 74 [.str (gh 19)] (i64 (5)):=dZ 19 (by omega)
  have h1:=lL d 5 (by omega)
  have h2:=dv (rs:=d.medial) (hs.2.2.1 5 (by omega))
  refine Pu.of_v aA T0 Tryz.func48 rfl rfl (by simp[aM,aD,aF,aH,aK,aJ]) ?_
  repeat' ((conv=>whnf)<;>(first|refine Br.strF rfl ?_|refine Br.strT rfl ?_|refine Idx.at (f:=D.str) (l:=ax) 19 rfl (Nat.le_of_ble_eq_true rfl) ?_|refine aB.go aA T0 ?_|exact True.intro|(refine Br.mk (fun _=>?_) (fun _=>?_)<;>(try(exfalso;omega)))|refine stq ?_|refine Cll.pu (aX) ?_|refine aG.pu (aX) ?_|refine Cll.pu (h0) ?_|refine aG.pu (h0) ?_|refine Cll.pu (h1) ?_|refine aG.pu (h1) ?_|refine Cll.dec (h2) (fun _=>?_) (fun _=>?_)|refine aG.dec (h2) (fun _=>?_) (fun _=>?_)|fail))
  all_goals(conv=>whnf)
  all_goals first
   | (refine aI.int (Eq.symm ?_);show(if cx d.medial then(0:Int) else 11)=0;exact if_pos (by assumption))
   | (refine aI.int (Eq.symm ?_);show(if cx d.medial then(0:Int) else 11)=11;exact if_neg (by assumption))
   | exact aI.int rfl
 ·
  have h0:Pu Tryz.prog 74 [.str (gh 20)] (i64 (-1)):=dZ 20 (by omega)
  have h1:=lM d 20 (by omega)
  have h2:=hem 20
  refine Pu.of_v aA T0 Tryz.func48 rfl rfl (by simp[aM,aD,aF,aH,aK,aJ]) ?_
  repeat' ((conv=>whnf)<;>(first|refine Br.strF rfl ?_|refine Br.strT rfl ?_|refine Idx.at (f:=D.str) (l:=ax) 20 rfl (Nat.le_of_ble_eq_true rfl) ?_|refine aB.go aA T0 ?_|exact True.intro|(refine Br.mk (fun _=>?_) (fun _=>?_)<;>(try(exfalso;omega)))|refine stq ?_|refine Cll.pu (aX) ?_|refine aG.pu (aX) ?_|refine Cll.pu (h0) ?_|refine aG.pu (h0) ?_|refine Cll.pu (h1) ?_|refine aG.pu (h1) ?_|refine Cll.pu (h2) ?_|refine aG.pu (h2) ?_|fail))
  all_goals(conv=>whnf)
  all_goals first
   | (refine aI.int (Eq.symm ?_);show(if True then(0:Int) else 11)=0;exact if_pos (by assumption))
   | (refine aI.int (Eq.symm ?_);show(if True then(0:Int) else 11)=11;exact if_neg (by assumption))
   | exact aI.int rfl
theorem eX {d:Db}(ho:d.ok) (hs:SmD d):∃ e:Int,Pu Tryz.prog 21 [dbD d] (i64 e)∧(e=0↔DbV d):=by
 have hm:∀ k,∃ e:Int,Pu Tryz.prog 76 [cR (fX d k)] (i64 e)∧(e=0↔MOk (fX d k)):=fun k=>by
  by_cases hk:k<21
  ·exact ql (SmD.maps ho hs hk)
  ·rw[tz hk];exact ql (SmD.maps ho hs (by omega))
 let em:Nat→Int:=fun k=>Classical.choose (hm k)
 have h1:∀ k,Pu Tryz.prog 76 [cR (fX d k)] (i64 (em k)):=fun k=>(Classical.choose_spec (hm k)).1
 have h2:∀ k,em k=0↔MOk (fX d k):=fun k=>(Classical.choose_spec (hm k)).2
 by_cases hv:rn d.major∧rn d.minor
 ·refine⟨gJ ((List.range 21).map (Bt d em)),?_,?_⟩
  ·refine Pu.of_v aA T0 Tryz.func21 rfl rfl (by simp[aM,aD,aF,aH,aK,aJ]) ?_
   repeat' ((conv=>whnf)<;>(first|refine aB.go aA T0 ?_|exact True.intro|(refine Br.mk (fun _=>?_) (fun _=>?_)<;>(try(exfalso;omega)))|refine stq ?_|refine Cll.dec (oE) (fun _=>?_) (fun _=>?_)|refine aG.dec (oE) (fun _=>?_) (fun _=>?_)))
   all_goals(conv=>whnf)
   all_goals first
    | (exfalso;rename_i h;exact h hv.1)
    | (exfalso;rename_i h;exact h hv.2)
    | skip
   refine aT.by aA T0 (fun k:Nat=>⟨tmp 29 [(1,.ptr 0 0),(3,i64 (k:Int))],⟨1,[(0,.cells (dbC d) true)]⟩⟩)
    (fun k=>k≤21∧∀ i,i<k→Bt d em i=0) (fun k=>21-k) 0 ⟨by omega,fun _ h=>by omega⟩ ?_ ?_
   ·exact Lf.of2 [(0,_)] [] enA (by(repeat(first|exact Bxs.nil|refine Bxs.cons rfl rfl rfl (by first|exact Rb.cells (Rds.same (aS d)) rfl|exact rbB|exact Rb.cells cH rfl|exact rbC|fail) ?_|fail));(first|done|fail)) rfl rfl
   intro k ⟨h3,h4⟩
   have hfl:ax.length=21:=rfl
   by_cases hk:k<21
   ·have hf:=yU ho hs h1 k hk
    repeat' ((conv=>whnf)<;>(first|refine aB.go aA T0 ?_|exact True.intro|(refine Br.mk (fun _=>?_) (fun _=>?_)<;>(try(exfalso;omega)))|refine stq ?_|refine Cll.pu (aX) ?_|refine aG.pu (aX) ?_|refine Cll.pu (hf) ?_|refine aG.pu (hf) ?_))
    all_goals(conv=>whnf)
    all_goals first
     | exact aI.int (bS hk h4 (by assumption)).symm
     | (refine⟨k+1,⟨by omega,dU h4 (by omega)⟩,by omega,?_⟩
        exact Lf.of2 [(0,_)] [] enA (by(repeat(first|exact Bxs.nil|refine Bxs.cons rfl rfl rfl (by first|exact Rb.cells (Rds.same (aS d)) rfl|exact rbB|exact Rb.cells cH rfl|exact rbC|fail) ?_|fail));(first|done|fail)) rfl rfl)
   ·repeat' ((conv=>whnf)<;>(first|refine aB.go aA T0 ?_|exact True.intro|(refine Br.mk (fun _=>?_) (fun _=>?_)<;>(try(exfalso;omega)))|refine stq ?_|refine Cll.pu (aX) ?_|refine aG.pu (aX) ?_))
    all_goals(conv=>whnf)
    exact aI.int (kZ.2 fun i hi=>h4 i (by omega)).symm
  ·rw[kZ]
   refine forall_congr' fun k=>forall_congr' fun hk=>?_
   by_cases hk0:k=0
   ·subst hk0;exact⟨fun _=>hv,fun _=>rfl⟩
   ·rw[Bt,if_neg hk0];exact uR h2 k hk
 ·refine⟨1,?_,fun h=>by omega,fun h=>absurd (h 0 (by omega)) hv⟩
  refine Pu.of_v aA T0 Tryz.func21 rfl rfl (by simp[aM,aD,aF,aH,aK,aJ]) ?_
  repeat' ((conv=>whnf)<;>(first|refine aB.go aA T0 ?_|exact True.intro|(refine Br.mk (fun _=>?_) (fun _=>?_)<;>(try(exfalso;omega)))|refine stq ?_|refine Cll.dec (oE) (fun _=>?_) (fun _=>?_)|refine aG.dec (oE) (fun _=>?_) (fun _=>?_)))
  all_goals(conv=>whnf)
  all_goals first
   | exact aI.same rfl rfl
   | (exfalso;rename_i h1 h2;exact hv ⟨h1,h2⟩)
end
end
section
open Go Go.Am Classical
set_option maxRecDepth 100000
variable [GT]
theorem te {α:Type}{f:α→D}(h:∀ x,one (f x)=true):∀ l:List α,ef (l.map f)=true
 | []=>rfl
 | x::l=>by simp[ef,h,te h l]
theorem tf:∀ a b:List D,ef (a++b)=(ef a&&ef b)
 | [],b=>by simp[ef]
 | d::a,b=>by simp[ef,tf a b,Bool.and_assoc]
theorem qr {α:Type}{c:α→List D}(h:∀ x,ef (c x)=true):∀ l:List α,ef (l.flatMap c)=true
 | []=>rfl
 | x::l=>by simp[tf,h,qr h l]
theorem fb.lstS {α:Type}{c:α→List D}{sz:Nat}(hc:∀ x,(c x).length=sz){h:aC}{l:List α}{K:Nat→List D→Prop}(go:K l.length (l.flatMap c)):fb h sz (.imm l.length (l.flatMap c)) K:=⟨_,_,by simp[cN,am hc],go⟩
theorem Rd.frzT {h:aC}{fz:Nat→Bool}{σ:Nat→Option Nat}{l:List Str}{id n cap es:Nat}{ex:Bool}{cs:List D}{bx:Bool}(hf:fz id=true) (hg:h.get id=some (.cells cs bx)) (hn:n=l.length) (he:es=1) (hc:cs=l.map D.str):Rd h fz σ (.sl id 0 n cap es ex) (strs l):=by
 rw[show strs l=lstS (fun s=>[D.str s]) l from(pU l).symm]
 exact Rd.frzL (c:=fun s:Str=>[D.str s]) (sz:=1) (fun _=>rfl) (fun _=>rfl) hf hg hn he (by rw[hc,ad])
theorem Ay {l:List Str}(hl:l.length≤1000):Pu Tryz.prog 60 [strs l] (strs l):=by
 cases l with
 | nil=>
  refine Pu.empty ?_ ?_
  ·refine Pu.of_v aA T0 Tryz.func60 rfl rfl rfl ?_
   repeat' ((conv=>whnf)<;>(first|refine aB.go aA T0 ?_|exact True.intro|(refine Br.mk (fun _=>?_) (fun _=>?_)<;>(try(exfalso;omega)))|refine stq ?_))
   all_goals(conv=>whnf)
   exact⟨.nil⟩
  ·refine Pu.of_v aA T0 Tryz.func60 rfl rfl rfl ?_
   repeat' ((conv=>whnf)<;>(first|refine aB.go aA T0 ?_|exact True.intro|(refine Br.mk (fun _=>?_) (fun _=>?_)<;>(try(exfalso;omega)))|refine stq ?_))
   all_goals(conv=>whnf)
   exact⟨Rd.frz rfl rfl (Nat.le_of_ble_eq_true rfl) (Rds.eqs rfl rfl)⟩
 | cons x xs=>
  have hx2:(x::xs).length=xs.length+1:=rfl
  refine Pu.of_v aA T0 Tryz.func60 rfl rfl (by simp[aD,aF]) ?_
  repeat' ((conv=>whnf)<;>(first|refine aB.go aA T0 ?_|exact True.intro|(refine Br.mk (fun _=>?_) (fun _=>?_)<;>(try(exfalso;omega)))|refine stq ?_|refine fb.lst ?_|refine Chk.mk (te (fun _=>rfl) _) ?_|refine Chk.growX 16 1 rfl rfl (by omega) (by omega) (by simp) ?_))
  all_goals(conv=>whnf)
  exact⟨Rd.frzT rfl rfl (by simp) rfl (by simp)⟩
theorem zN (s:Spn):(zO s).length=3:=rfl
theorem Az {l:List Spn}(hl:l.length≤1000):Pu Tryz.prog 61 [c6 l] (c6 l):=by
 cases l with
 | nil=>
  refine Pu.empty ?_ ?_
  ·refine Pu.of_v aA T0 Tryz.func61 rfl rfl rfl ?_
   repeat' ((conv=>whnf)<;>(first|refine aB.go aA T0 ?_|exact True.intro|(refine Br.mk (fun _=>?_) (fun _=>?_)<;>(try(exfalso;omega)))|refine stq ?_))
   all_goals(conv=>whnf)
   exact⟨.nil⟩
  ·refine Pu.of_v aA T0 Tryz.func61 rfl rfl rfl ?_
   repeat' ((conv=>whnf)<;>(first|refine aB.go aA T0 ?_|exact True.intro|(refine Br.mk (fun _=>?_) (fun _=>?_)<;>(try(exfalso;omega)))|refine stq ?_))
   all_goals(conv=>whnf)
   exact⟨Rd.frz rfl rfl (Nat.le_of_ble_eq_true rfl) (Rds.eqs rfl rfl)⟩
 | cons x xs=>
  have hx2:(x::xs).length=xs.length+1:=rfl
  refine Pu.of_v aA T0 Tryz.func61 rfl rfl (by simp[aD,aH]) ?_
  repeat' ((conv=>whnf)<;>(first|refine aB.go aA T0 ?_|exact True.intro|(refine Br.mk (fun _=>?_) (fun _=>?_)<;>(try(exfalso;omega)))|refine stq ?_|refine fb.lstS (c:=zO) (sz:=3) (l:=x::xs) (fun _=>rfl) ?_|refine Chk.mk (qr (fun _=>rfl) _) ?_|refine Chk.growX 24 3 rfl rfl (by omega) (by omega) (by simp) ?_))
  all_goals(conv=>whnf)
  exact⟨Rd.frzL zN (fun _=>rfl) rfl rfl (by simp) rfl (by simp)⟩
set_option maxHeartbeats 8000000 in
theorem xH {d:Db}(hs:∀ k,k<7→(prop d k).names.length≤30∧(prop d k).spans.length≤16):∀ k:Nat,k<7→Pu Tryz.prog 30 [dbD d,i64 (k:Int)] (fW (prop d k)):=by
 intro k hk
 have hn:=kT (prop d k)
 have h1:=hs k hk
 have c1:=Ay (l:=(prop d k).names) (by omega)
 have c2:=Az (l:=(prop d k).spans) (by omega)
 rcases(by omega:k=0∨k=1∨k=2∨k=3∨k=4∨k=5∨k=6) with rfl|rfl|rfl|rfl|rfl|rfl|rfl
 all_goals
  refine Pu.of_v aA T0 Tryz.func30 rfl rfl (by simp[aM,aD,aF,aH,aK,aJ]) ?_
  repeat' ((conv=>whnf)<;>(first|refine aB.go aA T0 ?_|exact True.intro|(refine Br.mk (fun _=>?_) (fun _=>?_)<;>(try(exfalso;omega)))|refine stq ?_|refine Cll.pu (c1) ?_|refine aG.pu (c1) ?_|refine Cll.pu (c2) ?_|refine aG.pu (c2) ?_|(apply Cll.inl aA T0 Tryz.func57 rfl rfl ?_;rotate_left)|exact⟨Or.inr rfl,rfl,rfl⟩|refine bD.by (id:=4) aA T0 [0,1,3,7,15,0,32,96,224,511,1023,2047] (by kernel_rfl) ?_|refine Chk.mk ⟨_,rfl⟩ ?_|fail))
  all_goals(conv=>whnf)
  exact⟨Rd.eqd rfl hn⟩
end
end Go.Proofs.YtjjbmnacobnfeaaGreatDoor
