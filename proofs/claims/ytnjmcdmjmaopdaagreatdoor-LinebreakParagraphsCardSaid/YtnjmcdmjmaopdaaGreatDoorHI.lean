/-
  Contracts of functions over data: databases checked by the program.
-/
import Derived.Test.YtnjmcdmjmaopdaaGreatDoorH5
import Derived.Test.YtnjmcdmjmaopdaaGreatDoorHE
import Derived.Test.YtnjmcdmjmaopdaaGreatDoorG0
import Derived.Test.YtnjmcdmjmaopdaaGreatDoorAmF
set_option linter.unusedSectionVars false
namespace Go.Proofs.YtnjmcdmjmaopdaaGreatDoor
section
open Go Go.Am Classical
set_option maxRecDepth 100000
variable [GT]
theorem bc {a:Nat→Int}{n k:Nat}(hk:k<n) (h:∀ i,i<k→a i=0) (h0:a k≠0):ge ((List.range n).map a)=a k:=by
 have:=tX (l:=(List.range n).map a) (k:=k) (by simpa using hk) (fun i hi hik=>by simpa using h i hik) (by simpa using h0)
 simpa using this
theorem lH {a:Nat→Int}{n:Nat}:ge ((List.range n).map a)=0↔∀ i,i<n→a i=0:=by
 rw[lG];constructor
 ·intro h i hi;have:=h i (by simpa using hi)
  simpa using this
 ·intro h i hi
  have:i<n:=by simpa using hi
  simpa using h i this
theorem dv {a:Nat→Int}{k:Nat}(h:∀ i,i<k→a i=0) (h0:a k=0):∀ i,i<k+1→a i=0:=fun i hi=>by
 rcases(by omega:i<k∨i=k) with h1|rfl
 ·exact h i h1
 ·exact h0
set_option maxHeartbeats 8000000 in
theorem Cc {d:Db}{a:Nat→Int}(hc:∀ k,k<21→Pu Tryz.prog (fchk k) [.agg [.iptr ((dbC d).drop (foff k))]] (i64 (a k))):Pu Tryz.prog 24 [dbD d] (i64 (ge ((List.range 21).map a))):=by
 refine Pu.of_v aA T0 Tryz.func24 rfl rfl (by simp[aJ,aD,aG,aK,aP,aO]) ?_;repeat' ((conv=>whnf)<;>(first|refine aB.go aA T0 ?_|exact kQ|(refine Br.mk (fun _=>?_) (fun _=>?_)<;>(try(exfalso;omega)))|refine stq ?_|refine Cll.pu (Ed) ?_))
 refine aU.by aA T0 (fun k:Nat=>⟨tmp 19 [(1,.iptr (dbC d)),(6,strs bB),(7,i64 21),(8,i64 (k:Int))],⟨0,[]⟩⟩)
  (fun k=>k≤21∧∀ i,i<k→a i=0) (fun k=>21-k) 0 ⟨by omega,fun _ h=>by omega⟩ ?_ ?_
 ·exact Lf.of2 [] [0] (by repeat(first|exact aI.nil|refine aI.cons rfl (by first|exact Rd.frzp rfl rfl (Rds.eqs rfl (am d))|exact Rd.int rfl|exact rdA|fail) ?_)) (by repeat(first|exact Bxs.nil|refine Bxs.cons rfl rfl rfl (by first|exact rbB|exact rbC|fail) ?_)) rfl rfl
 intro k ⟨h3,h4⟩;rcases(by omega:k=0∨k=1∨k=2∨k=3∨k=4∨k=5∨k=6∨k=7∨k=8∨k=9∨k=10∨k=11∨k=12∨k=13∨k=14∨k=15∨k=16∨k=17∨k=18∨k=19∨k=20∨k=21) with rfl|rfl|rfl|rfl|rfl|rfl|rfl|rfl|rfl|rfl|rfl|rfl|rfl|rfl|rfl|rfl|rfl|rfl|rfl|rfl|rfl|rfl
 ·
  have hf:=cv d 0 (by omega);have hk:=hc 0 (by omega);repeat' ((conv=>whnf)<;>(first|refine Idx.at (f:=D.str) (l:=bB) 0 rfl (kD rfl) ?_|refine aB.go aA T0 ?_|exact kQ|(refine Br.mk (fun _=>?_) (fun _=>?_)<;>(try(exfalso;omega)))|refine stq ?_|refine Cll.pu (hf) ?_|refine Cll.pu (hk) ?_|fail))
  all_goals(conv=>whnf)
  all_goals first
   | exact aH.int (bc (by omega) h4 (by assumption)).symm
   | (refine⟨0+1,⟨by omega,dv h4 (by omega)⟩,by omega,?_⟩
      exact Lf.of2 [] [] (by(repeat(first|exact aI.nil|refine aI.cons rfl (by first|exact Rd.same (am d)|exact rdA|fail) ?_|fail));(first|done|fail)) (by(repeat(first|exact Bxs.nil|refine Bxs.cons rfl rfl rfl (by first|exact rbB|exact rbC|fail) ?_|fail));(first|done|fail)) rfl rfl)
 ·
  have hf:=cv d 1 (by omega);have hk:=hc 1 (by omega);repeat' ((conv=>whnf)<;>(first|refine Idx.at (f:=D.str) (l:=bB) 1 rfl (kD rfl) ?_|refine aB.go aA T0 ?_|exact kQ|(refine Br.mk (fun _=>?_) (fun _=>?_)<;>(try(exfalso;omega)))|refine stq ?_|refine Cll.pu (hf) ?_|refine Cll.pu (hk) ?_|fail))
  all_goals(conv=>whnf)
  all_goals first
   | exact aH.int (bc (by omega) h4 (by assumption)).symm
   | (refine⟨1+1,⟨by omega,dv h4 (by omega)⟩,by omega,?_⟩
      exact Lf.of2 [] [] (by(repeat(first|exact aI.nil|refine aI.cons rfl (by first|exact Rd.same (am d)|exact rdA|fail) ?_|fail));(first|done|fail)) (by(repeat(first|exact Bxs.nil|refine Bxs.cons rfl rfl rfl (by first|exact rbB|exact rbC|fail) ?_|fail));(first|done|fail)) rfl rfl)
 ·
  have hf:=cv d 2 (by omega);have hk:=hc 2 (by omega);repeat' ((conv=>whnf)<;>(first|refine Idx.at (f:=D.str) (l:=bB) 2 rfl (kD rfl) ?_|refine aB.go aA T0 ?_|exact kQ|(refine Br.mk (fun _=>?_) (fun _=>?_)<;>(try(exfalso;omega)))|refine stq ?_|refine Cll.pu (hf) ?_|refine Cll.pu (hk) ?_|fail))
  all_goals(conv=>whnf)
  all_goals first
   | exact aH.int (bc (by omega) h4 (by assumption)).symm
   | (refine⟨2+1,⟨by omega,dv h4 (by omega)⟩,by omega,?_⟩
      exact Lf.of2 [] [] (by(repeat(first|exact aI.nil|refine aI.cons rfl (by first|exact Rd.same (am d)|exact rdA|fail) ?_|fail));(first|done|fail)) (by(repeat(first|exact Bxs.nil|refine Bxs.cons rfl rfl rfl (by first|exact rbB|exact rbC|fail) ?_|fail));(first|done|fail)) rfl rfl)
 ·
  have hf:=cv d 3 (by omega);have hk:=hc 3 (by omega);repeat' ((conv=>whnf)<;>(first|refine Idx.at (f:=D.str) (l:=bB) 3 rfl (kD rfl) ?_|refine aB.go aA T0 ?_|exact kQ|(refine Br.mk (fun _=>?_) (fun _=>?_)<;>(try(exfalso;omega)))|refine stq ?_|refine Cll.pu (hf) ?_|refine Cll.pu (hk) ?_|fail))
  all_goals(conv=>whnf)
  all_goals first
   | exact aH.int (bc (by omega) h4 (by assumption)).symm
   | (refine⟨3+1,⟨by omega,dv h4 (by omega)⟩,by omega,?_⟩
      exact Lf.of2 [] [] (by(repeat(first|exact aI.nil|refine aI.cons rfl (by first|exact Rd.same (am d)|exact rdA|fail) ?_|fail));(first|done|fail)) (by(repeat(first|exact Bxs.nil|refine Bxs.cons rfl rfl rfl (by first|exact rbB|exact rbC|fail) ?_|fail));(first|done|fail)) rfl rfl)
 ·
  have hf:=cv d 4 (by omega);have hk:=hc 4 (by omega);repeat' ((conv=>whnf)<;>(first|refine Idx.at (f:=D.str) (l:=bB) 4 rfl (kD rfl) ?_|refine aB.go aA T0 ?_|exact kQ|(refine Br.mk (fun _=>?_) (fun _=>?_)<;>(try(exfalso;omega)))|refine stq ?_|refine Cll.pu (hf) ?_|refine Cll.pu (hk) ?_|fail))
  all_goals(conv=>whnf)
  all_goals first
   | exact aH.int (bc (by omega) h4 (by assumption)).symm
   | (refine⟨4+1,⟨by omega,dv h4 (by omega)⟩,by omega,?_⟩
      exact Lf.of2 [] [] (by(repeat(first|exact aI.nil|refine aI.cons rfl (by first|exact Rd.same (am d)|exact rdA|fail) ?_|fail));(first|done|fail)) (by(repeat(first|exact Bxs.nil|refine Bxs.cons rfl rfl rfl (by first|exact rbB|exact rbC|fail) ?_|fail));(first|done|fail)) rfl rfl)
 ·
  have hf:=cv d 5 (by omega);have hk:=hc 5 (by omega);repeat' ((conv=>whnf)<;>(first|refine Idx.at (f:=D.str) (l:=bB) 5 rfl (kD rfl) ?_|refine aB.go aA T0 ?_|exact kQ|(refine Br.mk (fun _=>?_) (fun _=>?_)<;>(try(exfalso;omega)))|refine stq ?_|refine Cll.pu (hf) ?_|refine Cll.pu (hk) ?_|fail))
  all_goals(conv=>whnf)
  all_goals first
   | exact aH.int (bc (by omega) h4 (by assumption)).symm
   | (refine⟨5+1,⟨by omega,dv h4 (by omega)⟩,by omega,?_⟩
      exact Lf.of2 [] [] (by(repeat(first|exact aI.nil|refine aI.cons rfl (by first|exact Rd.same (am d)|exact rdA|fail) ?_|fail));(first|done|fail)) (by(repeat(first|exact Bxs.nil|refine Bxs.cons rfl rfl rfl (by first|exact rbB|exact rbC|fail) ?_|fail));(first|done|fail)) rfl rfl)
 ·
  have hf:=cv d 6 (by omega);have hk:=hc 6 (by omega);repeat' ((conv=>whnf)<;>(first|refine Idx.at (f:=D.str) (l:=bB) 6 rfl (kD rfl) ?_|refine aB.go aA T0 ?_|exact kQ|(refine Br.mk (fun _=>?_) (fun _=>?_)<;>(try(exfalso;omega)))|refine stq ?_|refine Cll.pu (hf) ?_|refine Cll.pu (hk) ?_|fail))
  all_goals(conv=>whnf)
  all_goals first
   | exact aH.int (bc (by omega) h4 (by assumption)).symm
   | (refine⟨6+1,⟨by omega,dv h4 (by omega)⟩,by omega,?_⟩
      exact Lf.of2 [] [] (by(repeat(first|exact aI.nil|refine aI.cons rfl (by first|exact Rd.same (am d)|exact rdA|fail) ?_|fail));(first|done|fail)) (by(repeat(first|exact Bxs.nil|refine Bxs.cons rfl rfl rfl (by first|exact rbB|exact rbC|fail) ?_|fail));(first|done|fail)) rfl rfl)
 ·
  have hf:=cv d 7 (by omega);have hk:=hc 7 (by omega);repeat' ((conv=>whnf)<;>(first|refine Idx.at (f:=D.str) (l:=bB) 7 rfl (kD rfl) ?_|refine aB.go aA T0 ?_|exact kQ|(refine Br.mk (fun _=>?_) (fun _=>?_)<;>(try(exfalso;omega)))|refine stq ?_|refine Cll.pu (hf) ?_|refine Cll.pu (hk) ?_|fail))
  all_goals(conv=>whnf)
  all_goals first
   | exact aH.int (bc (by omega) h4 (by assumption)).symm
   | (refine⟨7+1,⟨by omega,dv h4 (by omega)⟩,by omega,?_⟩
      exact Lf.of2 [] [] (by(repeat(first|exact aI.nil|refine aI.cons rfl (by first|exact Rd.same (am d)|exact rdA|fail) ?_|fail));(first|done|fail)) (by(repeat(first|exact Bxs.nil|refine Bxs.cons rfl rfl rfl (by first|exact rbB|exact rbC|fail) ?_|fail));(first|done|fail)) rfl rfl)
 ·
  have hf:=cv d 8 (by omega);have hk:=hc 8 (by omega);repeat' ((conv=>whnf)<;>(first|refine Idx.at (f:=D.str) (l:=bB) 8 rfl (kD rfl) ?_|refine aB.go aA T0 ?_|exact kQ|(refine Br.mk (fun _=>?_) (fun _=>?_)<;>(try(exfalso;omega)))|refine stq ?_|refine Cll.pu (hf) ?_|refine Cll.pu (hk) ?_|fail))
  all_goals(conv=>whnf)
  all_goals first
   | exact aH.int (bc (by omega) h4 (by assumption)).symm
   | (refine⟨8+1,⟨by omega,dv h4 (by omega)⟩,by omega,?_⟩
      exact Lf.of2 [] [] (by(repeat(first|exact aI.nil|refine aI.cons rfl (by first|exact Rd.same (am d)|exact rdA|fail) ?_|fail));(first|done|fail)) (by(repeat(first|exact Bxs.nil|refine Bxs.cons rfl rfl rfl (by first|exact rbB|exact rbC|fail) ?_|fail));(first|done|fail)) rfl rfl)
 ·
  have hf:=cv d 9 (by omega);have hk:=hc 9 (by omega);repeat' ((conv=>whnf)<;>(first|refine Idx.at (f:=D.str) (l:=bB) 9 rfl (kD rfl) ?_|refine aB.go aA T0 ?_|exact kQ|(refine Br.mk (fun _=>?_) (fun _=>?_)<;>(try(exfalso;omega)))|refine stq ?_|refine Cll.pu (hf) ?_|refine Cll.pu (hk) ?_|fail))
  all_goals(conv=>whnf)
  all_goals first
   | exact aH.int (bc (by omega) h4 (by assumption)).symm
   | (refine⟨9+1,⟨by omega,dv h4 (by omega)⟩,by omega,?_⟩
      exact Lf.of2 [] [] (by(repeat(first|exact aI.nil|refine aI.cons rfl (by first|exact Rd.same (am d)|exact rdA|fail) ?_|fail));(first|done|fail)) (by(repeat(first|exact Bxs.nil|refine Bxs.cons rfl rfl rfl (by first|exact rbB|exact rbC|fail) ?_|fail));(first|done|fail)) rfl rfl)
 ·
  have hf:=cv d 10 (by omega);have hk:=hc 10 (by omega);repeat' ((conv=>whnf)<;>(first|refine Idx.at (f:=D.str) (l:=bB) 10 rfl (kD rfl) ?_|refine aB.go aA T0 ?_|exact kQ|(refine Br.mk (fun _=>?_) (fun _=>?_)<;>(try(exfalso;omega)))|refine stq ?_|refine Cll.pu (hf) ?_|refine Cll.pu (hk) ?_|fail))
  all_goals(conv=>whnf)
  all_goals first
   | exact aH.int (bc (by omega) h4 (by assumption)).symm
   | (refine⟨10+1,⟨by omega,dv h4 (by omega)⟩,by omega,?_⟩
      exact Lf.of2 [] [] (by(repeat(first|exact aI.nil|refine aI.cons rfl (by first|exact Rd.same (am d)|exact rdA|fail) ?_|fail));(first|done|fail)) (by(repeat(first|exact Bxs.nil|refine Bxs.cons rfl rfl rfl (by first|exact rbB|exact rbC|fail) ?_|fail));(first|done|fail)) rfl rfl)
 ·
  have hf:=cv d 11 (by omega);have hk:=hc 11 (by omega);repeat' ((conv=>whnf)<;>(first|refine Idx.at (f:=D.str) (l:=bB) 11 rfl (kD rfl) ?_|refine aB.go aA T0 ?_|exact kQ|(refine Br.mk (fun _=>?_) (fun _=>?_)<;>(try(exfalso;omega)))|refine stq ?_|refine Cll.pu (hf) ?_|refine Cll.pu (hk) ?_|fail))
  all_goals(conv=>whnf)
  all_goals first
   | exact aH.int (bc (by omega) h4 (by assumption)).symm
   | (refine⟨11+1,⟨by omega,dv h4 (by omega)⟩,by omega,?_⟩
      exact Lf.of2 [] [] (by(repeat(first|exact aI.nil|refine aI.cons rfl (by first|exact Rd.same (am d)|exact rdA|fail) ?_|fail));(first|done|fail)) (by(repeat(first|exact Bxs.nil|refine Bxs.cons rfl rfl rfl (by first|exact rbB|exact rbC|fail) ?_|fail));(first|done|fail)) rfl rfl)
 ·
  have hf:=cv d 12 (by omega);have hk:=hc 12 (by omega);repeat' ((conv=>whnf)<;>(first|refine Idx.at (f:=D.str) (l:=bB) 12 rfl (kD rfl) ?_|refine aB.go aA T0 ?_|exact kQ|(refine Br.mk (fun _=>?_) (fun _=>?_)<;>(try(exfalso;omega)))|refine stq ?_|refine Cll.pu (hf) ?_|refine Cll.pu (hk) ?_|fail))
  all_goals(conv=>whnf)
  all_goals first
   | exact aH.int (bc (by omega) h4 (by assumption)).symm
   | (refine⟨12+1,⟨by omega,dv h4 (by omega)⟩,by omega,?_⟩
      exact Lf.of2 [] [] (by(repeat(first|exact aI.nil|refine aI.cons rfl (by first|exact Rd.same (am d)|exact rdA|fail) ?_|fail));(first|done|fail)) (by(repeat(first|exact Bxs.nil|refine Bxs.cons rfl rfl rfl (by first|exact rbB|exact rbC|fail) ?_|fail));(first|done|fail)) rfl rfl)
 ·
  have hf:=cv d 13 (by omega);have hk:=hc 13 (by omega);repeat' ((conv=>whnf)<;>(first|refine Idx.at (f:=D.str) (l:=bB) 13 rfl (kD rfl) ?_|refine aB.go aA T0 ?_|exact kQ|(refine Br.mk (fun _=>?_) (fun _=>?_)<;>(try(exfalso;omega)))|refine stq ?_|refine Cll.pu (hf) ?_|refine Cll.pu (hk) ?_|fail))
  all_goals(conv=>whnf)
  all_goals first
   | exact aH.int (bc (by omega) h4 (by assumption)).symm
   | (refine⟨13+1,⟨by omega,dv h4 (by omega)⟩,by omega,?_⟩
      exact Lf.of2 [] [] (by(repeat(first|exact aI.nil|refine aI.cons rfl (by first|exact Rd.same (am d)|exact rdA|fail) ?_|fail));(first|done|fail)) (by(repeat(first|exact Bxs.nil|refine Bxs.cons rfl rfl rfl (by first|exact rbB|exact rbC|fail) ?_|fail));(first|done|fail)) rfl rfl)
 ·
  have hf:=cv d 14 (by omega);have hk:=hc 14 (by omega);repeat' ((conv=>whnf)<;>(first|refine Idx.at (f:=D.str) (l:=bB) 14 rfl (kD rfl) ?_|refine aB.go aA T0 ?_|exact kQ|(refine Br.mk (fun _=>?_) (fun _=>?_)<;>(try(exfalso;omega)))|refine stq ?_|refine Cll.pu (hf) ?_|refine Cll.pu (hk) ?_|fail))
  all_goals(conv=>whnf)
  all_goals first
   | exact aH.int (bc (by omega) h4 (by assumption)).symm
   | (refine⟨14+1,⟨by omega,dv h4 (by omega)⟩,by omega,?_⟩
      exact Lf.of2 [] [] (by(repeat(first|exact aI.nil|refine aI.cons rfl (by first|exact Rd.same (am d)|exact rdA|fail) ?_|fail));(first|done|fail)) (by(repeat(first|exact Bxs.nil|refine Bxs.cons rfl rfl rfl (by first|exact rbB|exact rbC|fail) ?_|fail));(first|done|fail)) rfl rfl)
 ·
  have hf:=cv d 15 (by omega);have hk:=hc 15 (by omega);repeat' ((conv=>whnf)<;>(first|refine Idx.at (f:=D.str) (l:=bB) 15 rfl (kD rfl) ?_|refine aB.go aA T0 ?_|exact kQ|(refine Br.mk (fun _=>?_) (fun _=>?_)<;>(try(exfalso;omega)))|refine stq ?_|refine Cll.pu (hf) ?_|refine Cll.pu (hk) ?_|fail))
  all_goals(conv=>whnf)
  all_goals first
   | exact aH.int (bc (by omega) h4 (by assumption)).symm
   | (refine⟨15+1,⟨by omega,dv h4 (by omega)⟩,by omega,?_⟩
      exact Lf.of2 [] [] (by(repeat(first|exact aI.nil|refine aI.cons rfl (by first|exact Rd.same (am d)|exact rdA|fail) ?_|fail));(first|done|fail)) (by(repeat(first|exact Bxs.nil|refine Bxs.cons rfl rfl rfl (by first|exact rbB|exact rbC|fail) ?_|fail));(first|done|fail)) rfl rfl)
 ·
  have hf:=cv d 16 (by omega);have hk:=hc 16 (by omega);repeat' ((conv=>whnf)<;>(first|refine Idx.at (f:=D.str) (l:=bB) 16 rfl (kD rfl) ?_|refine aB.go aA T0 ?_|exact kQ|(refine Br.mk (fun _=>?_) (fun _=>?_)<;>(try(exfalso;omega)))|refine stq ?_|refine Cll.pu (hf) ?_|refine Cll.pu (hk) ?_|fail))
  all_goals(conv=>whnf)
  all_goals first
   | exact aH.int (bc (by omega) h4 (by assumption)).symm
   | (refine⟨16+1,⟨by omega,dv h4 (by omega)⟩,by omega,?_⟩
      exact Lf.of2 [] [] (by(repeat(first|exact aI.nil|refine aI.cons rfl (by first|exact Rd.same (am d)|exact rdA|fail) ?_|fail));(first|done|fail)) (by(repeat(first|exact Bxs.nil|refine Bxs.cons rfl rfl rfl (by first|exact rbB|exact rbC|fail) ?_|fail));(first|done|fail)) rfl rfl)
 ·
  have hf:=cv d 17 (by omega);have hk:=hc 17 (by omega);repeat' ((conv=>whnf)<;>(first|refine Idx.at (f:=D.str) (l:=bB) 17 rfl (kD rfl) ?_|refine aB.go aA T0 ?_|exact kQ|(refine Br.mk (fun _=>?_) (fun _=>?_)<;>(try(exfalso;omega)))|refine stq ?_|refine Cll.pu (hf) ?_|refine Cll.pu (hk) ?_|fail))
  all_goals(conv=>whnf)
  all_goals first
   | exact aH.int (bc (by omega) h4 (by assumption)).symm
   | (refine⟨17+1,⟨by omega,dv h4 (by omega)⟩,by omega,?_⟩
      exact Lf.of2 [] [] (by(repeat(first|exact aI.nil|refine aI.cons rfl (by first|exact Rd.same (am d)|exact rdA|fail) ?_|fail));(first|done|fail)) (by(repeat(first|exact Bxs.nil|refine Bxs.cons rfl rfl rfl (by first|exact rbB|exact rbC|fail) ?_|fail));(first|done|fail)) rfl rfl)
 ·
  have hf:=cv d 18 (by omega);have hk:=hc 18 (by omega);repeat' ((conv=>whnf)<;>(first|refine Idx.at (f:=D.str) (l:=bB) 18 rfl (kD rfl) ?_|refine aB.go aA T0 ?_|exact kQ|(refine Br.mk (fun _=>?_) (fun _=>?_)<;>(try(exfalso;omega)))|refine stq ?_|refine Cll.pu (hf) ?_|refine Cll.pu (hk) ?_|fail))
  all_goals(conv=>whnf)
  all_goals first
   | exact aH.int (bc (by omega) h4 (by assumption)).symm
   | (refine⟨18+1,⟨by omega,dv h4 (by omega)⟩,by omega,?_⟩
      exact Lf.of2 [] [] (by(repeat(first|exact aI.nil|refine aI.cons rfl (by first|exact Rd.same (am d)|exact rdA|fail) ?_|fail));(first|done|fail)) (by(repeat(first|exact Bxs.nil|refine Bxs.cons rfl rfl rfl (by first|exact rbB|exact rbC|fail) ?_|fail));(first|done|fail)) rfl rfl)
 ·
  have hf:=cv d 19 (by omega);have hk:=hc 19 (by omega);repeat' ((conv=>whnf)<;>(first|refine Idx.at (f:=D.str) (l:=bB) 19 rfl (kD rfl) ?_|refine aB.go aA T0 ?_|exact kQ|(refine Br.mk (fun _=>?_) (fun _=>?_)<;>(try(exfalso;omega)))|refine stq ?_|refine Cll.pu (hf) ?_|refine Cll.pu (hk) ?_|fail))
  all_goals(conv=>whnf)
  all_goals first
   | exact aH.int (bc (by omega) h4 (by assumption)).symm
   | (refine⟨19+1,⟨by omega,dv h4 (by omega)⟩,by omega,?_⟩
      exact Lf.of2 [] [] (by(repeat(first|exact aI.nil|refine aI.cons rfl (by first|exact Rd.same (am d)|exact rdA|fail) ?_|fail));(first|done|fail)) (by(repeat(first|exact Bxs.nil|refine Bxs.cons rfl rfl rfl (by first|exact rbB|exact rbC|fail) ?_|fail));(first|done|fail)) rfl rfl)
 ·
  have hf:=cv d 20 (by omega);have hk:=hc 20 (by omega);repeat' ((conv=>whnf)<;>(first|refine Idx.at (f:=D.str) (l:=bB) 20 rfl (kD rfl) ?_|refine aB.go aA T0 ?_|exact kQ|(refine Br.mk (fun _=>?_) (fun _=>?_)<;>(try(exfalso;omega)))|refine stq ?_|refine Cll.pu (hf) ?_|refine Cll.pu (hk) ?_|fail))
  all_goals(conv=>whnf)
  all_goals first
   | exact aH.int (bc (by omega) h4 (by assumption)).symm
   | (refine⟨20+1,⟨by omega,dv h4 (by omega)⟩,by omega,?_⟩
      exact Lf.of2 [] [] (by(repeat(first|exact aI.nil|refine aI.cons rfl (by first|exact Rd.same (am d)|exact rdA|fail) ?_|fail));(first|done|fail)) (by(repeat(first|exact Bxs.nil|refine Bxs.cons rfl rfl rfl (by first|exact rbB|exact rbC|fail) ?_|fail));(first|done|fail)) rfl rfl)
 ·repeat' ((conv=>whnf)<;>(first|refine aB.go aA T0 ?_|exact kQ|(refine Br.mk (fun _=>?_) (fun _=>?_)<;>(try(exfalso;omega)))|refine stq ?_))
  all_goals(conv=>whnf)
  exact aH.int (lH.2 h4).symm
end
section
open Go Go.Am Classical
set_option maxRecDepth 100000
section
variable [GT]
noncomputable def errs (d:Db) (em:Nat→Int):Nat→Int
 | 0=>if sc d.major∧sc d.minor then 0 else 1
 | 1=>if PrV d.cat then 0 else 11
 | 2=>if PrV d.wid then 0 else 11
 | 3=>if PrV d.scr then 0 else 11
 | 4=>if PrV d.gra then 0 else 11
 | 5=>if PrV d.wor then 0 else 11
 | 6=>if PrV d.sen then 0 else 11
 | 7=>if PrV d.lin then 0 else 11
 | 8=>if ClV d.classes then 0 else 11
 | 9=>em 9
 | 10=>if dH d.excl then 0 else 11
 | 11=>em 11
 | 12=>em 12
 | 13=>em 13
 | 14=>em 14
 | 15=>if dH d.cased then 0 else 11
 | 16=>if dH d.ignor then 0 else 11
 | 17=>if dH d.start then 0 else 11
 | 18=>if dH d.cont then 0 else 11
 | 19=>if dH d.medial then 0 else 11
 | _=>em 20
theorem ite0 {p:Prop} [Decidable p] {n:Int}(hn:n≠0):(if p then 0 else n)=0↔p:=by
 by_cases h:p<;>simp[h,hn]
theorem vT {d:Db}{em:Nat→Int}(hem:∀ k,em k=0↔MOk (fp d k)):∀ k,k<21→(errs d em k=0↔FT d k):=by
 intro k hk;rcases(by omega:k=0∨k=1∨k=2∨k=3∨k=4∨k=5∨k=6∨k=7∨k=8∨k=9∨k=10∨k=11∨k=12∨k=13∨k=14∨k=15∨k=16∨k=17∨k=18∨k=19∨k=20) with rfl|rfl|rfl|rfl|rfl|rfl|rfl|rfl|rfl|rfl|rfl|rfl|rfl|rfl|rfl|rfl|rfl|rfl|rfl|rfl|rfl
 all_goals first
  | exact ite0 (by omega)
  | exact hem _
theorem SmD.maps {d:Db}(ho:d.ok) (hs:SmD d){k:Nat}(hk:k<21):DD (fp d k):=⟨by have:=(hs.2.2.2 k hk).2;omega,fun i h=>((ho.maps k).2 i h).1,fun i h=>((ho.maps k).2 i h).2⟩
theorem uz {d:Db}{k:Nat}(hk:¬k<21):fp d k=fp d 20:=by
 unfold fp;split<;>first|omega|rfl
theorem sG {d:Db}(ho:d.ok) (hs:SmD d):∃ e:Int,Pu Tryz.prog 24 [dbD d] (i64 e)∧(e=0↔DbV d):=by
 have hm:∀ k,∃ e:Int,Pu Tryz.prog 264 [cn (fp d k)] (i64 e)∧(e=0↔MOk (fp d k)):=fun k=>by
  by_cases hk:k<21
  ·exact u3 (SmD.maps ho hs hk)
  ·rw[uz hk];exact u3 (SmD.maps ho hs (by omega))
 let em:Nat→Int:=fun k=>Classical.choose (hm k)
 have h1:∀ k,Pu Tryz.prog 264 [cn (fp d k)] (i64 (em k)):=fun k=>(Classical.choose_spec (hm k)).1
 have h2:∀ k,em k=0↔MOk (fp d k):=fun k=>(Classical.choose_spec (hm k)).2
 have hr:∀ n,aD ((dbC d).drop n)=true:=fun n=>j4 n (am d)
 refine⟨ge ((List.range 21).map (errs d em)),Cc fun k hk=>?_,?_⟩
 ·rcases(by omega:k=0∨k=1∨k=2∨k=3∨k=4∨k=5∨k=6∨k=7∨k=8∨k=9∨k=10∨k=11∨k=12∨k=13∨k=14∨k=15∨k=16∨k=17∨k=18∨k=19∨k=20) with rfl|rfl|rfl|rfl|rfl|rfl|rfl|rfl|rfl|rfl|rfl|rfl|rfl|rfl|rfl|rfl|rfl|rfl|rfl|rfl|rfl
  ·exact Af (hr 2)
  ·exact gO (p:=d.cat) (ho.prop 0) (hr 4)
  ·exact gO (p:=d.wid) (ho.prop 1) (hr 6)
  ·exact gO (p:=d.scr) (ho.prop 2) (hr 8)
  ·exact gO (p:=d.gra) (ho.prop 3) (hr 10)
  ·exact gO (p:=d.wor) (ho.prop 4) (hr 12)
  ·exact gO (p:=d.sen) (ho.prop 5) (hr 14)
  ·exact gO (p:=d.lin) (ho.prop 6) (hr 16)
  ·exact Cn ho.classes (hr 17)
  ·exact ic (l:=d.decomp) (h1 9) (hr 18)
  ·exact iS (l:=d.excl) (hs.2.2.1 0 (by omega)) (hr 19)
  ·exact ic (l:=d.lower) (h1 11) (hr 20)
  ·exact ic (l:=d.upper) (h1 12) (hr 21)
  ·exact ic (l:=d.title) (h1 13) (hr 22)
  ·exact ic (l:=d.fold) (h1 14) (hr 23)
  ·exact iS (l:=d.cased) (hs.2.2.1 1 (by omega)) (hr 24)
  ·exact iS (l:=d.ignor) (hs.2.2.1 2 (by omega)) (hr 25)
  ·exact iS (l:=d.start) (hs.2.2.1 3 (by omega)) (hr 26)
  ·exact iS (l:=d.cont) (hs.2.2.1 4 (by omega)) (hr 27)
  ·exact iS (l:=d.medial) (hs.2.2.1 5 (by omega)) (hr 28)
  ·exact ic (l:=d.confu) (h1 20) (hr 29)
 ·rw[lH];exact forall_congr' fun k=>forall_congr' fun hk=>vT h2 k hk
noncomputable def Dr (d:Db) (em:Nat→Int) (k:Nat):Int:=if k=0 then 0 else errs d em k
set_option maxHeartbeats 16000000 in
theorem zz {d:Db}(ho:d.ok) (hs:SmD d){em:Nat→Int}(hem:∀ k,Pu Tryz.prog 73 [cn (fp d k)] (i64 (em k))):∀ k:Nat,k<21→Pu Tryz.prog 45 [dbD d,i64 (k:Int)] (i64 (Dr d em k)):=by
 intro k hk;rcases(by omega:k=0∨k=1∨k=2∨k=3∨k=4∨k=5∨k=6∨k=7∨k=8∨k=9∨k=10∨k=11∨k=12∨k=13∨k=14∨k=15∨k=16∨k=17∨k=18∨k=19∨k=20) with rfl|rfl|rfl|rfl|rfl|rfl|rfl|rfl|rfl|rfl|rfl|rfl|rfl|rfl|rfl|rfl|rfl|rfl|rfl|rfl|rfl
 ·
  refine Pu.of_v aA T0 Tryz.func45 rfl rfl (by simp[aJ,aD,aG,aK,aP,aO]) ?_;repeat' ((conv=>whnf)<;>(first|refine Br.strF rfl ?_|refine Br.strT rfl ?_|refine Idx.at (f:=D.str) (l:=bB) 0 rfl (kD rfl) ?_|refine aB.go aA T0 ?_|exact kQ|(refine Br.mk (fun _=>?_) (fun _=>?_)<;>(try(exfalso;omega)))|refine stq ?_|refine Cll.pu (ac) ?_|refine aN.pu (ac) ?_|fail))
  all_goals(conv=>whnf)
  all_goals first
   | (refine aH.int (Eq.symm ?_);show(if True then(0:Int) else 11)=0;exact if_pos (by assumption))
   | (refine aH.int (Eq.symm ?_);show(if True then(0:Int) else 11)=11;exact if_neg (by assumption))
   | exact aH.int rfl
 ·
  have h1:Pu Tryz.prog 17 [dbD d,i64 ((1:Nat)-1:Int)] (iE (prop d 0)):=gu d 0 (by omega);have h2:=du (ho.prop 0);refine Pu.of_v aA T0 Tryz.func45 rfl rfl (by simp[aJ,aD,aG,aK,aP,aO]) ?_;repeat' ((conv=>whnf)<;>(first|refine Br.strF rfl ?_|refine Br.strT rfl ?_|refine Idx.at (f:=D.str) (l:=bB) 1 rfl (kD rfl) ?_|refine aB.go aA T0 ?_|exact kQ|(refine Br.mk (fun _=>?_) (fun _=>?_)<;>(try(exfalso;omega)))|refine stq ?_|refine Cll.pu (ac) ?_|refine aN.pu (ac) ?_|refine Cll.pu (h1) ?_|refine aN.pu (h1) ?_|refine Cll.dec (h2) (fun _=>?_) (fun _=>?_)|refine aN.dec (h2) (fun _=>?_) (fun _=>?_)|fail))
  all_goals(conv=>whnf)
  all_goals first
   | (refine aH.int (Eq.symm ?_);show(if PrV d.cat then(0:Int) else 11)=0;exact if_pos (by assumption))
   | (refine aH.int (Eq.symm ?_);show(if PrV d.cat then(0:Int) else 11)=11;exact if_neg (by assumption))
   | exact aH.int rfl
 ·
  have h1:Pu Tryz.prog 17 [dbD d,i64 ((2:Nat)-1:Int)] (iE (prop d 1)):=gu d 1 (by omega);have h2:=du (ho.prop 1);refine Pu.of_v aA T0 Tryz.func45 rfl rfl (by simp[aJ,aD,aG,aK,aP,aO]) ?_;repeat' ((conv=>whnf)<;>(first|refine Br.strF rfl ?_|refine Br.strT rfl ?_|refine Idx.at (f:=D.str) (l:=bB) 2 rfl (kD rfl) ?_|refine aB.go aA T0 ?_|exact kQ|(refine Br.mk (fun _=>?_) (fun _=>?_)<;>(try(exfalso;omega)))|refine stq ?_|refine Cll.pu (ac) ?_|refine aN.pu (ac) ?_|refine Cll.pu (h1) ?_|refine aN.pu (h1) ?_|refine Cll.dec (h2) (fun _=>?_) (fun _=>?_)|refine aN.dec (h2) (fun _=>?_) (fun _=>?_)|fail))
  all_goals(conv=>whnf)
  all_goals first
   | (refine aH.int (Eq.symm ?_);show(if PrV d.wid then(0:Int) else 11)=0;exact if_pos (by assumption))
   | (refine aH.int (Eq.symm ?_);show(if PrV d.wid then(0:Int) else 11)=11;exact if_neg (by assumption))
   | exact aH.int rfl
 ·
  have h1:Pu Tryz.prog 17 [dbD d,i64 ((3:Nat)-1:Int)] (iE (prop d 2)):=gu d 2 (by omega);have h2:=du (ho.prop 2);refine Pu.of_v aA T0 Tryz.func45 rfl rfl (by simp[aJ,aD,aG,aK,aP,aO]) ?_;repeat' ((conv=>whnf)<;>(first|refine Br.strF rfl ?_|refine Br.strT rfl ?_|refine Idx.at (f:=D.str) (l:=bB) 3 rfl (kD rfl) ?_|refine aB.go aA T0 ?_|exact kQ|(refine Br.mk (fun _=>?_) (fun _=>?_)<;>(try(exfalso;omega)))|refine stq ?_|refine Cll.pu (ac) ?_|refine aN.pu (ac) ?_|refine Cll.pu (h1) ?_|refine aN.pu (h1) ?_|refine Cll.dec (h2) (fun _=>?_) (fun _=>?_)|refine aN.dec (h2) (fun _=>?_) (fun _=>?_)|fail))
  all_goals(conv=>whnf)
  all_goals first
   | (refine aH.int (Eq.symm ?_);show(if PrV d.scr then(0:Int) else 11)=0;exact if_pos (by assumption))
   | (refine aH.int (Eq.symm ?_);show(if PrV d.scr then(0:Int) else 11)=11;exact if_neg (by assumption))
   | exact aH.int rfl
 ·
  have h1:Pu Tryz.prog 17 [dbD d,i64 ((4:Nat)-1:Int)] (iE (prop d 3)):=gu d 3 (by omega);have h2:=du (ho.prop 3);refine Pu.of_v aA T0 Tryz.func45 rfl rfl (by simp[aJ,aD,aG,aK,aP,aO]) ?_;repeat' ((conv=>whnf)<;>(first|refine Br.strF rfl ?_|refine Br.strT rfl ?_|refine Idx.at (f:=D.str) (l:=bB) 4 rfl (kD rfl) ?_|refine aB.go aA T0 ?_|exact kQ|(refine Br.mk (fun _=>?_) (fun _=>?_)<;>(try(exfalso;omega)))|refine stq ?_|refine Cll.pu (ac) ?_|refine aN.pu (ac) ?_|refine Cll.pu (h1) ?_|refine aN.pu (h1) ?_|refine Cll.dec (h2) (fun _=>?_) (fun _=>?_)|refine aN.dec (h2) (fun _=>?_) (fun _=>?_)|fail))
  all_goals(conv=>whnf)
  all_goals first
   | (refine aH.int (Eq.symm ?_);show(if PrV d.gra then(0:Int) else 11)=0;exact if_pos (by assumption))
   | (refine aH.int (Eq.symm ?_);show(if PrV d.gra then(0:Int) else 11)=11;exact if_neg (by assumption))
   | exact aH.int rfl
 ·
  have h1:Pu Tryz.prog 17 [dbD d,i64 ((5:Nat)-1:Int)] (iE (prop d 4)):=gu d 4 (by omega);have h2:=du (ho.prop 4);refine Pu.of_v aA T0 Tryz.func45 rfl rfl (by simp[aJ,aD,aG,aK,aP,aO]) ?_;repeat' ((conv=>whnf)<;>(first|refine Br.strF rfl ?_|refine Br.strT rfl ?_|refine Idx.at (f:=D.str) (l:=bB) 5 rfl (kD rfl) ?_|refine aB.go aA T0 ?_|exact kQ|(refine Br.mk (fun _=>?_) (fun _=>?_)<;>(try(exfalso;omega)))|refine stq ?_|refine Cll.pu (ac) ?_|refine aN.pu (ac) ?_|refine Cll.pu (h1) ?_|refine aN.pu (h1) ?_|refine Cll.dec (h2) (fun _=>?_) (fun _=>?_)|refine aN.dec (h2) (fun _=>?_) (fun _=>?_)|fail))
  all_goals(conv=>whnf)
  all_goals first
   | (refine aH.int (Eq.symm ?_);show(if PrV d.wor then(0:Int) else 11)=0;exact if_pos (by assumption))
   | (refine aH.int (Eq.symm ?_);show(if PrV d.wor then(0:Int) else 11)=11;exact if_neg (by assumption))
   | exact aH.int rfl
 ·
  have h1:Pu Tryz.prog 17 [dbD d,i64 ((6:Nat)-1:Int)] (iE (prop d 5)):=gu d 5 (by omega);have h2:=du (ho.prop 5);refine Pu.of_v aA T0 Tryz.func45 rfl rfl (by simp[aJ,aD,aG,aK,aP,aO]) ?_;repeat' ((conv=>whnf)<;>(first|refine Br.strF rfl ?_|refine Br.strT rfl ?_|refine Idx.at (f:=D.str) (l:=bB) 6 rfl (kD rfl) ?_|refine aB.go aA T0 ?_|exact kQ|(refine Br.mk (fun _=>?_) (fun _=>?_)<;>(try(exfalso;omega)))|refine stq ?_|refine Cll.pu (ac) ?_|refine aN.pu (ac) ?_|refine Cll.pu (h1) ?_|refine aN.pu (h1) ?_|refine Cll.dec (h2) (fun _=>?_) (fun _=>?_)|refine aN.dec (h2) (fun _=>?_) (fun _=>?_)|fail))
  all_goals(conv=>whnf)
  all_goals first
   | (refine aH.int (Eq.symm ?_);show(if PrV d.sen then(0:Int) else 11)=0;exact if_pos (by assumption))
   | (refine aH.int (Eq.symm ?_);show(if PrV d.sen then(0:Int) else 11)=11;exact if_neg (by assumption))
   | exact aH.int rfl
 ·
  have h1:Pu Tryz.prog 17 [dbD d,i64 ((7:Nat)-1:Int)] (iE (prop d 6)):=gu d 6 (by omega);have h2:=du (ho.prop 6);refine Pu.of_v aA T0 Tryz.func45 rfl rfl (by simp[aJ,aD,aG,aK,aP,aO]) ?_;repeat' ((conv=>whnf)<;>(first|refine Br.strF rfl ?_|refine Br.strT rfl ?_|refine Idx.at (f:=D.str) (l:=bB) 7 rfl (kD rfl) ?_|refine aB.go aA T0 ?_|exact kQ|(refine Br.mk (fun _=>?_) (fun _=>?_)<;>(try(exfalso;omega)))|refine stq ?_|refine Cll.pu (ac) ?_|refine aN.pu (ac) ?_|refine Cll.pu (h1) ?_|refine aN.pu (h1) ?_|refine Cll.dec (h2) (fun _=>?_) (fun _=>?_)|refine aN.dec (h2) (fun _=>?_) (fun _=>?_)|fail))
  all_goals(conv=>whnf)
  all_goals first
   | (refine aH.int (Eq.symm ?_);show(if PrV d.lin then(0:Int) else 11)=0;exact if_pos (by assumption))
   | (refine aH.int (Eq.symm ?_);show(if PrV d.lin then(0:Int) else 11)=11;exact if_neg (by assumption))
   | exact aH.int rfl
 ·
  have h2:=rcls_c (l:=d.classes) ho.classes;refine Pu.of_v aA T0 Tryz.func45 rfl rfl (by simp[aJ,aD,aG,aK,aP,aO]) ?_;repeat' ((conv=>whnf)<;>(first|refine Br.strF rfl ?_|refine Br.strT rfl ?_|refine Idx.at (f:=D.str) (l:=bB) 8 rfl (kD rfl) ?_|refine aB.go aA T0 ?_|exact kQ|(refine Br.mk (fun _=>?_) (fun _=>?_)<;>(try(exfalso;omega)))|refine stq ?_|refine Cll.pu (ac) ?_|refine aN.pu (ac) ?_|refine Cll.dec (h2) (fun _=>?_) (fun _=>?_)|refine aN.dec (h2) (fun _=>?_) (fun _=>?_)|fail))
  all_goals(conv=>whnf)
  all_goals first
   | (refine aH.int (Eq.symm ?_);show(if ClV d.classes then(0:Int) else 11)=0;exact if_pos (by assumption))
   | (refine aH.int (Eq.symm ?_);show(if ClV d.classes then(0:Int) else 11)=11;exact if_neg (by assumption))
   | exact aH.int rfl
 ·
  have h0:Pu Tryz.prog 71 [.str (hG 9)] (i64 (-1)):=d8 9 (by omega);have h1:=lh d 9 (by omega);have h2:=hem 9;refine Pu.of_v aA T0 Tryz.func45 rfl rfl (by simp[aJ,aD,aG,aK,aP,aO]) ?_;repeat' ((conv=>whnf)<;>(first|refine Br.strF rfl ?_|refine Br.strT rfl ?_|refine Idx.at (f:=D.str) (l:=bB) 9 rfl (kD rfl) ?_|refine aB.go aA T0 ?_|exact kQ|(refine Br.mk (fun _=>?_) (fun _=>?_)<;>(try(exfalso;omega)))|refine stq ?_|refine Cll.pu (ac) ?_|refine aN.pu (ac) ?_|refine Cll.pu (h0) ?_|refine aN.pu (h0) ?_|refine Cll.pu (h1) ?_|refine aN.pu (h1) ?_|refine Cll.pu (h2) ?_|refine aN.pu (h2) ?_|fail))
  all_goals(conv=>whnf)
  all_goals first
   | (refine aH.int (Eq.symm ?_);show(if True then(0:Int) else 11)=0;exact if_pos (by assumption))
   | (refine aH.int (Eq.symm ?_);show(if True then(0:Int) else 11)=11;exact if_neg (by assumption))
   | exact aH.int rfl
 ·
  have h0:Pu Tryz.prog 71 [.str (hG 10)] (i64 (0)):=d8 10 (by omega);have h1:=lg d 0 (by omega);have h2:=eK (rs:=d.excl) (hs.2.2.1 0 (by omega));refine Pu.of_v aA T0 Tryz.func45 rfl rfl (by simp[aJ,aD,aG,aK,aP,aO]) ?_;repeat' ((conv=>whnf)<;>(first|refine Br.strF rfl ?_|refine Br.strT rfl ?_|refine Idx.at (f:=D.str) (l:=bB) 10 rfl (kD rfl) ?_|refine aB.go aA T0 ?_|exact kQ|(refine Br.mk (fun _=>?_) (fun _=>?_)<;>(try(exfalso;omega)))|refine stq ?_|refine Cll.pu (ac) ?_|refine aN.pu (ac) ?_|refine Cll.pu (h0) ?_|refine aN.pu (h0) ?_|refine Cll.pu (h1) ?_|refine aN.pu (h1) ?_|refine Cll.dec (h2) (fun _=>?_) (fun _=>?_)|refine aN.dec (h2) (fun _=>?_) (fun _=>?_)|fail))
  all_goals(conv=>whnf)
  all_goals first
   | (refine aH.int (Eq.symm ?_);show(if dH d.excl then(0:Int) else 11)=0;exact if_pos (by assumption))
   | (refine aH.int (Eq.symm ?_);show(if dH d.excl then(0:Int) else 11)=11;exact if_neg (by assumption))
   | exact aH.int rfl
 ·
  have h0:Pu Tryz.prog 71 [.str (hG 11)] (i64 (-1)):=d8 11 (by omega);have h1:=lh d 11 (by omega);have h2:=hem 11;refine Pu.of_v aA T0 Tryz.func45 rfl rfl (by simp[aJ,aD,aG,aK,aP,aO]) ?_;repeat' ((conv=>whnf)<;>(first|refine Br.strF rfl ?_|refine Br.strT rfl ?_|refine Idx.at (f:=D.str) (l:=bB) 11 rfl (kD rfl) ?_|refine aB.go aA T0 ?_|exact kQ|(refine Br.mk (fun _=>?_) (fun _=>?_)<;>(try(exfalso;omega)))|refine stq ?_|refine Cll.pu (ac) ?_|refine aN.pu (ac) ?_|refine Cll.pu (h0) ?_|refine aN.pu (h0) ?_|refine Cll.pu (h1) ?_|refine aN.pu (h1) ?_|refine Cll.pu (h2) ?_|refine aN.pu (h2) ?_|fail))
  all_goals(conv=>whnf)
  all_goals first
   | (refine aH.int (Eq.symm ?_);show(if True then(0:Int) else 11)=0;exact if_pos (by assumption))
   | (refine aH.int (Eq.symm ?_);show(if True then(0:Int) else 11)=11;exact if_neg (by assumption))
   | exact aH.int rfl
 ·
  have h0:Pu Tryz.prog 71 [.str (hG 12)] (i64 (-1)):=d8 12 (by omega);have h1:=lh d 12 (by omega);have h2:=hem 12;refine Pu.of_v aA T0 Tryz.func45 rfl rfl (by simp[aJ,aD,aG,aK,aP,aO]) ?_;repeat' ((conv=>whnf)<;>(first|refine Br.strF rfl ?_|refine Br.strT rfl ?_|refine Idx.at (f:=D.str) (l:=bB) 12 rfl (kD rfl) ?_|refine aB.go aA T0 ?_|exact kQ|(refine Br.mk (fun _=>?_) (fun _=>?_)<;>(try(exfalso;omega)))|refine stq ?_|refine Cll.pu (ac) ?_|refine aN.pu (ac) ?_|refine Cll.pu (h0) ?_|refine aN.pu (h0) ?_|refine Cll.pu (h1) ?_|refine aN.pu (h1) ?_|refine Cll.pu (h2) ?_|refine aN.pu (h2) ?_|fail))
  all_goals(conv=>whnf)
  all_goals first
   | (refine aH.int (Eq.symm ?_);show(if True then(0:Int) else 11)=0;exact if_pos (by assumption))
   | (refine aH.int (Eq.symm ?_);show(if True then(0:Int) else 11)=11;exact if_neg (by assumption))
   | exact aH.int rfl
 ·
  have h0:Pu Tryz.prog 71 [.str (hG 13)] (i64 (-1)):=d8 13 (by omega);have h1:=lh d 13 (by omega);have h2:=hem 13;refine Pu.of_v aA T0 Tryz.func45 rfl rfl (by simp[aJ,aD,aG,aK,aP,aO]) ?_;repeat' ((conv=>whnf)<;>(first|refine Br.strF rfl ?_|refine Br.strT rfl ?_|refine Idx.at (f:=D.str) (l:=bB) 13 rfl (kD rfl) ?_|refine aB.go aA T0 ?_|exact kQ|(refine Br.mk (fun _=>?_) (fun _=>?_)<;>(try(exfalso;omega)))|refine stq ?_|refine Cll.pu (ac) ?_|refine aN.pu (ac) ?_|refine Cll.pu (h0) ?_|refine aN.pu (h0) ?_|refine Cll.pu (h1) ?_|refine aN.pu (h1) ?_|refine Cll.pu (h2) ?_|refine aN.pu (h2) ?_|fail))
  all_goals(conv=>whnf)
  all_goals first
   | (refine aH.int (Eq.symm ?_);show(if True then(0:Int) else 11)=0;exact if_pos (by assumption))
   | (refine aH.int (Eq.symm ?_);show(if True then(0:Int) else 11)=11;exact if_neg (by assumption))
   | exact aH.int rfl
 ·
  have h0:Pu Tryz.prog 71 [.str (hG 14)] (i64 (-1)):=d8 14 (by omega);have h1:=lh d 14 (by omega);have h2:=hem 14;refine Pu.of_v aA T0 Tryz.func45 rfl rfl (by simp[aJ,aD,aG,aK,aP,aO]) ?_;repeat' ((conv=>whnf)<;>(first|refine Br.strF rfl ?_|refine Br.strT rfl ?_|refine Idx.at (f:=D.str) (l:=bB) 14 rfl (kD rfl) ?_|refine aB.go aA T0 ?_|exact kQ|(refine Br.mk (fun _=>?_) (fun _=>?_)<;>(try(exfalso;omega)))|refine stq ?_|refine Cll.pu (ac) ?_|refine aN.pu (ac) ?_|refine Cll.pu (h0) ?_|refine aN.pu (h0) ?_|refine Cll.pu (h1) ?_|refine aN.pu (h1) ?_|refine Cll.pu (h2) ?_|refine aN.pu (h2) ?_|fail))
  all_goals(conv=>whnf)
  all_goals first
   | (refine aH.int (Eq.symm ?_);show(if True then(0:Int) else 11)=0;exact if_pos (by assumption))
   | (refine aH.int (Eq.symm ?_);show(if True then(0:Int) else 11)=11;exact if_neg (by assumption))
   | exact aH.int rfl
 ·
  have h0:Pu Tryz.prog 71 [.str (hG 15)] (i64 (1)):=d8 15 (by omega);have h1:=lg d 1 (by omega);have h2:=eK (rs:=d.cased) (hs.2.2.1 1 (by omega));refine Pu.of_v aA T0 Tryz.func45 rfl rfl (by simp[aJ,aD,aG,aK,aP,aO]) ?_;repeat' ((conv=>whnf)<;>(first|refine Br.strF rfl ?_|refine Br.strT rfl ?_|refine Idx.at (f:=D.str) (l:=bB) 15 rfl (kD rfl) ?_|refine aB.go aA T0 ?_|exact kQ|(refine Br.mk (fun _=>?_) (fun _=>?_)<;>(try(exfalso;omega)))|refine stq ?_|refine Cll.pu (ac) ?_|refine aN.pu (ac) ?_|refine Cll.pu (h0) ?_|refine aN.pu (h0) ?_|refine Cll.pu (h1) ?_|refine aN.pu (h1) ?_|refine Cll.dec (h2) (fun _=>?_) (fun _=>?_)|refine aN.dec (h2) (fun _=>?_) (fun _=>?_)|fail))
  all_goals(conv=>whnf)
  all_goals first
   | (refine aH.int (Eq.symm ?_);show(if dH d.cased then(0:Int) else 11)=0;exact if_pos (by assumption))
   | (refine aH.int (Eq.symm ?_);show(if dH d.cased then(0:Int) else 11)=11;exact if_neg (by assumption))
   | exact aH.int rfl
 ·
  have h0:Pu Tryz.prog 71 [.str (hG 16)] (i64 (2)):=d8 16 (by omega);have h1:=lg d 2 (by omega);have h2:=eK (rs:=d.ignor) (hs.2.2.1 2 (by omega));refine Pu.of_v aA T0 Tryz.func45 rfl rfl (by simp[aJ,aD,aG,aK,aP,aO]) ?_;repeat' ((conv=>whnf)<;>(first|refine Br.strF rfl ?_|refine Br.strT rfl ?_|refine Idx.at (f:=D.str) (l:=bB) 16 rfl (kD rfl) ?_|refine aB.go aA T0 ?_|exact kQ|(refine Br.mk (fun _=>?_) (fun _=>?_)<;>(try(exfalso;omega)))|refine stq ?_|refine Cll.pu (ac) ?_|refine aN.pu (ac) ?_|refine Cll.pu (h0) ?_|refine aN.pu (h0) ?_|refine Cll.pu (h1) ?_|refine aN.pu (h1) ?_|refine Cll.dec (h2) (fun _=>?_) (fun _=>?_)|refine aN.dec (h2) (fun _=>?_) (fun _=>?_)|fail))
  all_goals(conv=>whnf)
  all_goals first
   | (refine aH.int (Eq.symm ?_);show(if dH d.ignor then(0:Int) else 11)=0;exact if_pos (by assumption))
   | (refine aH.int (Eq.symm ?_);show(if dH d.ignor then(0:Int) else 11)=11;exact if_neg (by assumption))
   | exact aH.int rfl
 ·
  have h0:Pu Tryz.prog 71 [.str (hG 17)] (i64 (3)):=d8 17 (by omega);have h1:=lg d 3 (by omega);have h2:=eK (rs:=d.start) (hs.2.2.1 3 (by omega));refine Pu.of_v aA T0 Tryz.func45 rfl rfl (by simp[aJ,aD,aG,aK,aP,aO]) ?_;repeat' ((conv=>whnf)<;>(first|refine Br.strF rfl ?_|refine Br.strT rfl ?_|refine Idx.at (f:=D.str) (l:=bB) 17 rfl (kD rfl) ?_|refine aB.go aA T0 ?_|exact kQ|(refine Br.mk (fun _=>?_) (fun _=>?_)<;>(try(exfalso;omega)))|refine stq ?_|refine Cll.pu (ac) ?_|refine aN.pu (ac) ?_|refine Cll.pu (h0) ?_|refine aN.pu (h0) ?_|refine Cll.pu (h1) ?_|refine aN.pu (h1) ?_|refine Cll.dec (h2) (fun _=>?_) (fun _=>?_)|refine aN.dec (h2) (fun _=>?_) (fun _=>?_)|fail))
  all_goals(conv=>whnf)
  all_goals first
   | (refine aH.int (Eq.symm ?_);show(if dH d.start then(0:Int) else 11)=0;exact if_pos (by assumption))
   | (refine aH.int (Eq.symm ?_);show(if dH d.start then(0:Int) else 11)=11;exact if_neg (by assumption))
   | exact aH.int rfl
 ·
  have h0:Pu Tryz.prog 71 [.str (hG 18)] (i64 (4)):=d8 18 (by omega);have h1:=lg d 4 (by omega);have h2:=eK (rs:=d.cont) (hs.2.2.1 4 (by omega));refine Pu.of_v aA T0 Tryz.func45 rfl rfl (by simp[aJ,aD,aG,aK,aP,aO]) ?_;repeat' ((conv=>whnf)<;>(first|refine Br.strF rfl ?_|refine Br.strT rfl ?_|refine Idx.at (f:=D.str) (l:=bB) 18 rfl (kD rfl) ?_|refine aB.go aA T0 ?_|exact kQ|(refine Br.mk (fun _=>?_) (fun _=>?_)<;>(try(exfalso;omega)))|refine stq ?_|refine Cll.pu (ac) ?_|refine aN.pu (ac) ?_|refine Cll.pu (h0) ?_|refine aN.pu (h0) ?_|refine Cll.pu (h1) ?_|refine aN.pu (h1) ?_|refine Cll.dec (h2) (fun _=>?_) (fun _=>?_)|refine aN.dec (h2) (fun _=>?_) (fun _=>?_)|fail))
  all_goals(conv=>whnf)
  all_goals first
   | (refine aH.int (Eq.symm ?_);show(if dH d.cont then(0:Int) else 11)=0;exact if_pos (by assumption))
   | (refine aH.int (Eq.symm ?_);show(if dH d.cont then(0:Int) else 11)=11;exact if_neg (by assumption))
   | exact aH.int rfl
 ·
  have h0:Pu Tryz.prog 71 [.str (hG 19)] (i64 (5)):=d8 19 (by omega);have h1:=lg d 5 (by omega);have h2:=eK (rs:=d.medial) (hs.2.2.1 5 (by omega));refine Pu.of_v aA T0 Tryz.func45 rfl rfl (by simp[aJ,aD,aG,aK,aP,aO]) ?_;repeat' ((conv=>whnf)<;>(first|refine Br.strF rfl ?_|refine Br.strT rfl ?_|refine Idx.at (f:=D.str) (l:=bB) 19 rfl (kD rfl) ?_|refine aB.go aA T0 ?_|exact kQ|(refine Br.mk (fun _=>?_) (fun _=>?_)<;>(try(exfalso;omega)))|refine stq ?_|refine Cll.pu (ac) ?_|refine aN.pu (ac) ?_|refine Cll.pu (h0) ?_|refine aN.pu (h0) ?_|refine Cll.pu (h1) ?_|refine aN.pu (h1) ?_|refine Cll.dec (h2) (fun _=>?_) (fun _=>?_)|refine aN.dec (h2) (fun _=>?_) (fun _=>?_)|fail))
  all_goals(conv=>whnf)
  all_goals first
   | (refine aH.int (Eq.symm ?_);show(if dH d.medial then(0:Int) else 11)=0;exact if_pos (by assumption))
   | (refine aH.int (Eq.symm ?_);show(if dH d.medial then(0:Int) else 11)=11;exact if_neg (by assumption))
   | exact aH.int rfl
 ·
  have h0:Pu Tryz.prog 71 [.str (hG 20)] (i64 (-1)):=d8 20 (by omega);have h1:=lh d 20 (by omega);have h2:=hem 20;refine Pu.of_v aA T0 Tryz.func45 rfl rfl (by simp[aJ,aD,aG,aK,aP,aO]) ?_;repeat' ((conv=>whnf)<;>(first|refine Br.strF rfl ?_|refine Br.strT rfl ?_|refine Idx.at (f:=D.str) (l:=bB) 20 rfl (kD rfl) ?_|refine aB.go aA T0 ?_|exact kQ|(refine Br.mk (fun _=>?_) (fun _=>?_)<;>(try(exfalso;omega)))|refine stq ?_|refine Cll.pu (ac) ?_|refine aN.pu (ac) ?_|refine Cll.pu (h0) ?_|refine aN.pu (h0) ?_|refine Cll.pu (h1) ?_|refine aN.pu (h1) ?_|refine Cll.pu (h2) ?_|refine aN.pu (h2) ?_|fail))
  all_goals(conv=>whnf)
  all_goals first
   | (refine aH.int (Eq.symm ?_);show(if True then(0:Int) else 11)=0;exact if_pos (by assumption))
   | (refine aH.int (Eq.symm ?_);show(if True then(0:Int) else 11)=11;exact if_neg (by assumption))
   | exact aH.int rfl
theorem pV {d:Db}(ho:d.ok) (hs:SmD d):∃ e:Int,Pu Tryz.prog 30 [dbD d] (i64 e)∧(e=0↔DbV d):=by
 have hm:∀ k,∃ e:Int,Pu Tryz.prog 73 [cn (fp d k)] (i64 e)∧(e=0↔MOk (fp d k)):=fun k=>by
  by_cases hk:k<21
  ·exact rU (SmD.maps ho hs hk)
  ·rw[uz hk];exact rU (SmD.maps ho hs (by omega))
 let em:Nat→Int:=fun k=>Classical.choose (hm k)
 have h1:∀ k,Pu Tryz.prog 73 [cn (fp d k)] (i64 (em k)):=fun k=>(Classical.choose_spec (hm k)).1
 have h2:∀ k,em k=0↔MOk (fp d k):=fun k=>(Classical.choose_spec (hm k)).2
 by_cases hv:sc d.major∧sc d.minor
 ·refine⟨ge ((List.range 21).map (Dr d em)),?_,?_⟩
  ·refine Pu.of_v aA T0 Tryz.func30 rfl rfl (by simp[aJ,aD,aG,aK,aP,aO]) ?_;repeat' ((conv=>whnf)<;>(first|refine aB.go aA T0 ?_|exact kQ|(refine Br.mk (fun _=>?_) (fun _=>?_)<;>(try(exfalso;omega)))|refine stq ?_|refine Cll.dec (oc) (fun _=>?_) (fun _=>?_)|refine aN.dec (oc) (fun _=>?_) (fun _=>?_)))
   all_goals(conv=>whnf)
   all_goals first
    | (exfalso;rename_i h;exact h hv.1)
    | (exfalso;rename_i h;exact h hv.2)
    | skip
   refine aU.by aA T0 (fun k:Nat=>⟨tmp 29 [(1,.ptr 0 0),(3,i64 (k:Int))],⟨1,[(0,.cells (dbC d) true)]⟩⟩)
    (fun k=>k≤21∧∀ i,i<k→Dr d em i=0) (fun k=>21-k) 0 ⟨by omega,fun _ h=>by omega⟩ ?_ ?_
   ·exact Lf.of2 [(0,_)] [] enA (by repeat(first|exact Bxs.nil|refine Bxs.cons rfl rfl rfl (by first|exact Rb.cells (Rds.same (am d)) rfl|exact rbB|exact Rb.cells bS rfl|exact rbC|fail) ?_)) rfl rfl
   intro k ⟨h3,h4⟩;have hfl:bB.length=21:=rfl;by_cases hk:k<21
   ·have hf:=zz ho hs h1 k hk;repeat' ((conv=>whnf)<;>(first|refine aB.go aA T0 ?_|exact kQ|(refine Br.mk (fun _=>?_) (fun _=>?_)<;>(try(exfalso;omega)))|refine stq ?_|refine Cll.pu (ac) ?_|refine Cll.pu (hf) ?_))
    all_goals(conv=>whnf)
    all_goals first
     | exact aH.int (bc hk h4 (by assumption)).symm
     | (refine⟨k+1,⟨by omega,dv h4 (by omega)⟩,by omega,?_⟩
        exact Lf.of2 [(0,_)] [] enA (by(repeat(first|exact Bxs.nil|refine Bxs.cons rfl rfl rfl (by first|exact Rb.cells (Rds.same (am d)) rfl|exact rbB|exact Rb.cells bS rfl|exact rbC|fail) ?_|fail));(first|done|fail)) rfl rfl)
   ·repeat' ((conv=>whnf)<;>(first|refine aB.go aA T0 ?_|exact kQ|(refine Br.mk (fun _=>?_) (fun _=>?_)<;>(try(exfalso;omega)))|refine stq ?_|refine Cll.pu (ac) ?_))
    all_goals(conv=>whnf)
    exact aH.int (lH.2 fun i hi=>h4 i (by omega)).symm
  ·rw[lH];refine forall_congr' fun k=>forall_congr' fun hk=>?_
   by_cases hk0:k=0
   ·subst hk0;exact⟨fun _=>hv,fun _=>rfl⟩
   ·rw[Dr,if_neg hk0];exact vT h2 k hk
 ·refine⟨1,?_,fun h=>by omega,fun h=>absurd (h 0 (by omega)) hv⟩;refine Pu.of_v aA T0 Tryz.func30 rfl rfl (by simp[aJ,aD,aG,aK,aP,aO]) ?_;repeat' ((conv=>whnf)<;>(first|refine aB.go aA T0 ?_|exact kQ|(refine Br.mk (fun _=>?_) (fun _=>?_)<;>(try(exfalso;omega)))|refine stq ?_|refine Cll.dec (oc) (fun _=>?_) (fun _=>?_)|refine aN.dec (oc) (fun _=>?_) (fun _=>?_)))
  all_goals(conv=>whnf)
  all_goals first
   | exact aH.same rfl rfl
   | (exfalso;rename_i h1 h2;exact hv ⟨h1,h2⟩)
end
end
section
open Go Go.Am Classical
set_option maxRecDepth 100000
variable [GT]
theorem uf {α:Type}{f:α→D}(h:∀ x,one (f x)=true):∀ l:List α,eV (l.map f)=true
 | []=>rfl
 | x::l=>by simp[eV,h,uf h l]
theorem ug:∀ a b:List D,eV (a++b)=(eV a&&eV b)
 | [],b=>by simp[eV]
 | d::a,b=>by simp[eV,ug a b,Bool.and_assoc]
theorem re {α:Type}{c:α→List D}(h:∀ x,eV (c x)=true):∀ l:List α,eV (l.flatMap c)=true
 | []=>rfl
 | x::l=>by simp[ug,h,re h l]
theorem eI.lstS {α:Type}{c:α→List D}{sz:Nat}(hc:∀ x,(c x).length=sz){h:aC}{l:List α}{K:Nat→List D→Prop}(go:K l.length (l.flatMap c)):eI h sz (.imm l.length (l.flatMap c)) K:=⟨_,_,by simp[cW,aq hc],go⟩
theorem Rd.frzT {h:aC}{fz:Nat→Bool}{σ:Nat→Option Nat}{l:List Str}{id n cap es:Nat}{ex:Bool}{cs:List D}{bx:Bool}(hf:fz id=true) (hg:h.get id=some (.cells cs bx)) (hn:n=l.length) (he:es=1) (hc:cs=l.map D.str):Rd h fz σ (.sl id 0 n cap es ex) (strs l):=by
 rw[show strs l=lstS (fun s=>[D.str s]) l from(qD l).symm];exact Rd.frzL (c:=fun s:Str=>[D.str s]) (sz:=1) (fun _=>rfl) (fun _=>rfl) hf hg hn he (by rw[hc,ad])
theorem Co {l:List Str}(hl:l.length≤1000):Pu Tryz.prog 41 [strs l] (strs l):=by
 cases l with
 | nil=>
  refine Pu.empty ?_ ?_
  ·refine Pu.of_v aA T0 Tryz.func41 rfl rfl rfl ?_;repeat' ((conv=>whnf)<;>(first|refine aB.go aA T0 ?_|exact kQ|(refine Br.mk (fun _=>?_) (fun _=>?_)<;>(try(exfalso;omega)))|refine stq ?_))
   all_goals(conv=>whnf)
   exact⟨.nil⟩
  ·refine Pu.of_v aA T0 Tryz.func41 rfl rfl rfl ?_;repeat' ((conv=>whnf)<;>(first|refine aB.go aA T0 ?_|exact kQ|(refine Br.mk (fun _=>?_) (fun _=>?_)<;>(try(exfalso;omega)))|refine stq ?_))
   all_goals(conv=>whnf)
   exact⟨Rd.frz rfl rfl (kD rfl) (Rds.eqs rfl rfl)⟩
 | cons x xs=>
  have hx2:(x::xs).length=xs.length+1:=rfl;refine Pu.of_v aA T0 Tryz.func41 rfl rfl (by simp[aD,aG]) ?_;repeat' ((conv=>whnf)<;>(first|refine aB.go aA T0 ?_|exact kQ|(refine Br.mk (fun _=>?_) (fun _=>?_)<;>(try(exfalso;omega)))|refine stq ?_|refine eI.lst ?_|refine Chk.mk (uf (fun _=>rfl) _) ?_|refine Chk.growX 16 1 rfl rfl (by omega) (by omega) (by simp) ?_))
  all_goals(conv=>whnf)
  exact⟨Rd.frzT rfl rfl (by simp) rfl (by simp)⟩
theorem Az (s:Spn):(A0 s).length=3:=rfl
theorem Cp {l:List Spn}(hl:l.length≤1000):Pu Tryz.prog 42 [dK l] (dK l):=by
 cases l with
 | nil=>
  refine Pu.empty ?_ ?_
  ·refine Pu.of_v aA T0 Tryz.func42 rfl rfl rfl ?_;repeat' ((conv=>whnf)<;>(first|refine aB.go aA T0 ?_|exact kQ|(refine Br.mk (fun _=>?_) (fun _=>?_)<;>(try(exfalso;omega)))|refine stq ?_))
   all_goals(conv=>whnf)
   exact⟨.nil⟩
  ·refine Pu.of_v aA T0 Tryz.func42 rfl rfl rfl ?_;repeat' ((conv=>whnf)<;>(first|refine aB.go aA T0 ?_|exact kQ|(refine Br.mk (fun _=>?_) (fun _=>?_)<;>(try(exfalso;omega)))|refine stq ?_))
   all_goals(conv=>whnf)
   exact⟨Rd.frz rfl rfl (kD rfl) (Rds.eqs rfl rfl)⟩
 | cons x xs=>
  have hx2:(x::xs).length=xs.length+1:=rfl;refine Pu.of_v aA T0 Tryz.func42 rfl rfl (by simp[aD,aK]) ?_;repeat' ((conv=>whnf)<;>(first|refine aB.go aA T0 ?_|exact kQ|(refine Br.mk (fun _=>?_) (fun _=>?_)<;>(try(exfalso;omega)))|refine stq ?_|refine eI.lstS (c:=A0) (sz:=3) (l:=x::xs) (fun _=>rfl) ?_|refine Chk.mk (re (fun _=>rfl) _) ?_|refine Chk.growX 24 3 rfl rfl (by omega) (by omega) (by simp) ?_))
  all_goals(conv=>whnf)
  exact⟨Rd.frzL Az (fun _=>rfl) rfl rfl (by simp) rfl (by simp)⟩
set_option maxHeartbeats 8000000 in
theorem Ei {d:Db}(hs:∀ k,k<7→(prop d k).names.length≤30∧(prop d k).spans.length≤16):∀ k:Nat,k<7→Pu Tryz.prog 27 [dbD d,i64 (k:Int)] (iE (prop d k)):=by
 intro k hk;have hn:=nM (prop d k);have h1:=hs k hk;have c1:=Co (l:=(prop d k).names) (by omega);have c2:=Cp (l:=(prop d k).spans) (by omega);rcases(by omega:k=0∨k=1∨k=2∨k=3∨k=4∨k=5∨k=6) with rfl|rfl|rfl|rfl|rfl|rfl|rfl
 all_goals
  refine Pu.of_v aA T0 Tryz.func27 rfl rfl (by simp[aJ,aD,aG,aK,aP,aO]) ?_;repeat' ((conv=>whnf)<;>(first|refine aB.go aA T0 ?_|exact kQ|(refine Br.mk (fun _=>?_) (fun _=>?_)<;>(try(exfalso;omega)))|refine stq ?_|refine Cll.pu (c1) ?_|refine aN.pu (c1) ?_|refine Cll.pu (c2) ?_|refine aN.pu (c2) ?_|(apply Cll.inl aA T0 Tryz.func23 rfl rfl ?_;rotate_left)|exact⟨Or.inr rfl,rfl,rfl⟩|refine bK.by (id:=4) aA T0 [0,1,3,7,15,0,32,96,224,511,1023,2047] (by kernel_rfl) ?_|refine Chk.mk ⟨_,rfl⟩ ?_|fail))
  all_goals(conv=>whnf)
  exact⟨Rd.eqd rfl hn⟩
end
end Go.Proofs.YtnjmcdmjmaopdaaGreatDoor
