/-
  Contracts of functions over data: databases checked by the program.
-/
import Derived.Test.YtjpgpihbhicinaaGreatDoorH5
import Derived.Test.YtjpgpihbhicinaaGreatDoorHE
import Derived.Test.YtjpgpihbhicinaaGreatDoorG0
import Derived.Test.YtjpgpihbhicinaaGreatDoorAmF
set_option linter.unusedSectionVars false
namespace Go.Proofs.YtjpgpihbhicinaaGreatDoor
section
open Go Go.Am Classical
set_option maxRecDepth 100000
variable [GT]
theorem bY {a:Nat->Int}{n k:Nat}(hk:k<n) (h:∀ i,i<k->a i=0) (h0:a k≠0):gY ((List.range n).map a)=a k:=by
 have:=t5 (l:=(List.range n).map a) (k:=k) (by simpa using hk) (fun i hi hik=>by simpa using h i hik) (by simpa using h0)
 simpa using this
theorem lJ {a:Nat->Int}{n:Nat}:gY ((List.range n).map a)=0↔∀ i,i<n->a i=0:=by
 rw[lI];constructor
 ·intro h i hi;have:=h i (by simpa using hi)
  simpa using this
 ·intro h i hi
  have:i<n:=by simpa using hi
  simpa using h i this
theorem dw {a:Nat->Int}{k:Nat}(h:∀ i,i<k->a i=0) (h0:a k=0):∀ i,i<k+1->a i=0:=fun i hi=>by
 rcases(by omega:i<k∨i=k) with h1|rfl
 ·exact h i h1
 ·exact h0
set_option maxHeartbeats 8000000 in
theorem Cw {d:Db}{a:Nat->Int}(hc:∀ k,k<21->Pu Tryz.prog (fchk k) [.agg [.iptr ((dbC d).drop (foff k))]] (i64 (a k))):Pu Tryz.prog 49 [dbD d] (i64 (gY ((List.range 21).map a))):=by
 refine Pu.of_v aA T0 Tryz.func49 rfl rfl (by simp[aJ,aB,aE,aG,aN,aK]) ?_;repeat' ((conv=>whnf)<;>(first|refine sg ?_|exact kQ|(refine Br.mk ?_ ?_<;>intro _<;>try(exfalso;omega))|refine stq ?_|refine Cll.pu (Es) ?_))
 refine aU.by aA T0 (fun k:Nat=>⟨tmp 19 [(1,.iptr (dbC d)),(6,strs bA),(7,i64 21),(8,i64 (k:Int))],⟨0,[]⟩⟩)
  (fun k=>k<=21∧∀ i,i<k->a i=0) (fun k=>21-k) 0 ⟨by omega,fun _ h=>by omega⟩ ?_ ?_
 ·exact Lf.of2 [] [0] (by repeat(first|exact aM.nil|refine aM.cons rfl (by first|exact Rd.frzp rfl rfl (Rds.eqs rfl (ae d))|exact Rd.int rfl|exact rdA|fail) ?_)) (by repeat(first|exact Bxs.nil|refine Bxs.cons rfl rfl rfl (by first|exact rbB|exact rbC|fail) ?_)) rfl rfl
 intro k ⟨h3,h4⟩;rcases(by omega:k=0∨k=1∨k=2∨k=3∨k=4∨k=5∨k=6∨k=7∨k=8∨k=9∨k=10∨k=11∨k=12∨k=13∨k=14∨k=15∨k=16∨k=17∨k=18∨k=19∨k=20∨k=21) with rfl|rfl|rfl|rfl|rfl|rfl|rfl|rfl|rfl|rfl|rfl|rfl|rfl|rfl|rfl|rfl|rfl|rfl|rfl|rfl|rfl|rfl
 ·
  have hf:=cq d 0 (by omega);have hk:=hc 0 (by omega);repeat' ((conv=>whnf)<;>(first|refine Idx.at (f:=D.str) (l:=bA) 0 rfl (kD rfl) ?_|refine sg ?_|exact kQ|(refine Br.mk ?_ ?_<;>intro _<;>try(exfalso;omega))|refine stq ?_|refine Cll.pu (hf) ?_|refine Cll.pu (hk) ?_|fail))
  all_goals(conv=>whnf)
  all_goals first
   | exact aI.int (bY (by omega) h4 (by assumption)).symm
   | (refine⟨0+1,⟨by omega,dw h4 (by omega)⟩,by omega,?_⟩
      exact Lf.of2 [] [] (by(repeat(first|exact aM.nil|refine aM.cons rfl (by first|exact Rd.same (ae d)|exact rdA|fail) ?_|fail));(first|done|fail)) (by(repeat(first|exact Bxs.nil|refine Bxs.cons rfl rfl rfl (by first|exact rbB|exact rbC|fail) ?_|fail));(first|done|fail)) rfl rfl)
 ·
  have hf:=cq d 1 (by omega);have hk:=hc 1 (by omega);repeat' ((conv=>whnf)<;>(first|refine Idx.at (f:=D.str) (l:=bA) 1 rfl (kD rfl) ?_|refine sg ?_|exact kQ|(refine Br.mk ?_ ?_<;>intro _<;>try(exfalso;omega))|refine stq ?_|refine Cll.pu (hf) ?_|refine Cll.pu (hk) ?_|fail))
  all_goals(conv=>whnf)
  all_goals first
   | exact aI.int (bY (by omega) h4 (by assumption)).symm
   | (refine⟨1+1,⟨by omega,dw h4 (by omega)⟩,by omega,?_⟩
      exact Lf.of2 [] [] (by(repeat(first|exact aM.nil|refine aM.cons rfl (by first|exact Rd.same (ae d)|exact rdA|fail) ?_|fail));(first|done|fail)) (by(repeat(first|exact Bxs.nil|refine Bxs.cons rfl rfl rfl (by first|exact rbB|exact rbC|fail) ?_|fail));(first|done|fail)) rfl rfl)
 ·
  have hf:=cq d 2 (by omega);have hk:=hc 2 (by omega);repeat' ((conv=>whnf)<;>(first|refine Idx.at (f:=D.str) (l:=bA) 2 rfl (kD rfl) ?_|refine sg ?_|exact kQ|(refine Br.mk ?_ ?_<;>intro _<;>try(exfalso;omega))|refine stq ?_|refine Cll.pu (hf) ?_|refine Cll.pu (hk) ?_|fail))
  all_goals(conv=>whnf)
  all_goals first
   | exact aI.int (bY (by omega) h4 (by assumption)).symm
   | (refine⟨2+1,⟨by omega,dw h4 (by omega)⟩,by omega,?_⟩
      exact Lf.of2 [] [] (by(repeat(first|exact aM.nil|refine aM.cons rfl (by first|exact Rd.same (ae d)|exact rdA|fail) ?_|fail));(first|done|fail)) (by(repeat(first|exact Bxs.nil|refine Bxs.cons rfl rfl rfl (by first|exact rbB|exact rbC|fail) ?_|fail));(first|done|fail)) rfl rfl)
 ·
  have hf:=cq d 3 (by omega);have hk:=hc 3 (by omega);repeat' ((conv=>whnf)<;>(first|refine Idx.at (f:=D.str) (l:=bA) 3 rfl (kD rfl) ?_|refine sg ?_|exact kQ|(refine Br.mk ?_ ?_<;>intro _<;>try(exfalso;omega))|refine stq ?_|refine Cll.pu (hf) ?_|refine Cll.pu (hk) ?_|fail))
  all_goals(conv=>whnf)
  all_goals first
   | exact aI.int (bY (by omega) h4 (by assumption)).symm
   | (refine⟨3+1,⟨by omega,dw h4 (by omega)⟩,by omega,?_⟩
      exact Lf.of2 [] [] (by(repeat(first|exact aM.nil|refine aM.cons rfl (by first|exact Rd.same (ae d)|exact rdA|fail) ?_|fail));(first|done|fail)) (by(repeat(first|exact Bxs.nil|refine Bxs.cons rfl rfl rfl (by first|exact rbB|exact rbC|fail) ?_|fail));(first|done|fail)) rfl rfl)
 ·
  have hf:=cq d 4 (by omega);have hk:=hc 4 (by omega);repeat' ((conv=>whnf)<;>(first|refine Idx.at (f:=D.str) (l:=bA) 4 rfl (kD rfl) ?_|refine sg ?_|exact kQ|(refine Br.mk ?_ ?_<;>intro _<;>try(exfalso;omega))|refine stq ?_|refine Cll.pu (hf) ?_|refine Cll.pu (hk) ?_|fail))
  all_goals(conv=>whnf)
  all_goals first
   | exact aI.int (bY (by omega) h4 (by assumption)).symm
   | (refine⟨4+1,⟨by omega,dw h4 (by omega)⟩,by omega,?_⟩
      exact Lf.of2 [] [] (by(repeat(first|exact aM.nil|refine aM.cons rfl (by first|exact Rd.same (ae d)|exact rdA|fail) ?_|fail));(first|done|fail)) (by(repeat(first|exact Bxs.nil|refine Bxs.cons rfl rfl rfl (by first|exact rbB|exact rbC|fail) ?_|fail));(first|done|fail)) rfl rfl)
 ·
  have hf:=cq d 5 (by omega);have hk:=hc 5 (by omega);repeat' ((conv=>whnf)<;>(first|refine Idx.at (f:=D.str) (l:=bA) 5 rfl (kD rfl) ?_|refine sg ?_|exact kQ|(refine Br.mk ?_ ?_<;>intro _<;>try(exfalso;omega))|refine stq ?_|refine Cll.pu (hf) ?_|refine Cll.pu (hk) ?_|fail))
  all_goals(conv=>whnf)
  all_goals first
   | exact aI.int (bY (by omega) h4 (by assumption)).symm
   | (refine⟨5+1,⟨by omega,dw h4 (by omega)⟩,by omega,?_⟩
      exact Lf.of2 [] [] (by(repeat(first|exact aM.nil|refine aM.cons rfl (by first|exact Rd.same (ae d)|exact rdA|fail) ?_|fail));(first|done|fail)) (by(repeat(first|exact Bxs.nil|refine Bxs.cons rfl rfl rfl (by first|exact rbB|exact rbC|fail) ?_|fail));(first|done|fail)) rfl rfl)
 ·
  have hf:=cq d 6 (by omega);have hk:=hc 6 (by omega);repeat' ((conv=>whnf)<;>(first|refine Idx.at (f:=D.str) (l:=bA) 6 rfl (kD rfl) ?_|refine sg ?_|exact kQ|(refine Br.mk ?_ ?_<;>intro _<;>try(exfalso;omega))|refine stq ?_|refine Cll.pu (hf) ?_|refine Cll.pu (hk) ?_|fail))
  all_goals(conv=>whnf)
  all_goals first
   | exact aI.int (bY (by omega) h4 (by assumption)).symm
   | (refine⟨6+1,⟨by omega,dw h4 (by omega)⟩,by omega,?_⟩
      exact Lf.of2 [] [] (by(repeat(first|exact aM.nil|refine aM.cons rfl (by first|exact Rd.same (ae d)|exact rdA|fail) ?_|fail));(first|done|fail)) (by(repeat(first|exact Bxs.nil|refine Bxs.cons rfl rfl rfl (by first|exact rbB|exact rbC|fail) ?_|fail));(first|done|fail)) rfl rfl)
 ·
  have hf:=cq d 7 (by omega);have hk:=hc 7 (by omega);repeat' ((conv=>whnf)<;>(first|refine Idx.at (f:=D.str) (l:=bA) 7 rfl (kD rfl) ?_|refine sg ?_|exact kQ|(refine Br.mk ?_ ?_<;>intro _<;>try(exfalso;omega))|refine stq ?_|refine Cll.pu (hf) ?_|refine Cll.pu (hk) ?_|fail))
  all_goals(conv=>whnf)
  all_goals first
   | exact aI.int (bY (by omega) h4 (by assumption)).symm
   | (refine⟨7+1,⟨by omega,dw h4 (by omega)⟩,by omega,?_⟩
      exact Lf.of2 [] [] (by(repeat(first|exact aM.nil|refine aM.cons rfl (by first|exact Rd.same (ae d)|exact rdA|fail) ?_|fail));(first|done|fail)) (by(repeat(first|exact Bxs.nil|refine Bxs.cons rfl rfl rfl (by first|exact rbB|exact rbC|fail) ?_|fail));(first|done|fail)) rfl rfl)
 ·
  have hf:=cq d 8 (by omega);have hk:=hc 8 (by omega);repeat' ((conv=>whnf)<;>(first|refine Idx.at (f:=D.str) (l:=bA) 8 rfl (kD rfl) ?_|refine sg ?_|exact kQ|(refine Br.mk ?_ ?_<;>intro _<;>try(exfalso;omega))|refine stq ?_|refine Cll.pu (hf) ?_|refine Cll.pu (hk) ?_|fail))
  all_goals(conv=>whnf)
  all_goals first
   | exact aI.int (bY (by omega) h4 (by assumption)).symm
   | (refine⟨8+1,⟨by omega,dw h4 (by omega)⟩,by omega,?_⟩
      exact Lf.of2 [] [] (by(repeat(first|exact aM.nil|refine aM.cons rfl (by first|exact Rd.same (ae d)|exact rdA|fail) ?_|fail));(first|done|fail)) (by(repeat(first|exact Bxs.nil|refine Bxs.cons rfl rfl rfl (by first|exact rbB|exact rbC|fail) ?_|fail));(first|done|fail)) rfl rfl)
 ·
  have hf:=cq d 9 (by omega);have hk:=hc 9 (by omega);repeat' ((conv=>whnf)<;>(first|refine Idx.at (f:=D.str) (l:=bA) 9 rfl (kD rfl) ?_|refine sg ?_|exact kQ|(refine Br.mk ?_ ?_<;>intro _<;>try(exfalso;omega))|refine stq ?_|refine Cll.pu (hf) ?_|refine Cll.pu (hk) ?_|fail))
  all_goals(conv=>whnf)
  all_goals first
   | exact aI.int (bY (by omega) h4 (by assumption)).symm
   | (refine⟨9+1,⟨by omega,dw h4 (by omega)⟩,by omega,?_⟩
      exact Lf.of2 [] [] (by(repeat(first|exact aM.nil|refine aM.cons rfl (by first|exact Rd.same (ae d)|exact rdA|fail) ?_|fail));(first|done|fail)) (by(repeat(first|exact Bxs.nil|refine Bxs.cons rfl rfl rfl (by first|exact rbB|exact rbC|fail) ?_|fail));(first|done|fail)) rfl rfl)
 ·
  have hf:=cq d 10 (by omega);have hk:=hc 10 (by omega);repeat' ((conv=>whnf)<;>(first|refine Idx.at (f:=D.str) (l:=bA) 10 rfl (kD rfl) ?_|refine sg ?_|exact kQ|(refine Br.mk ?_ ?_<;>intro _<;>try(exfalso;omega))|refine stq ?_|refine Cll.pu (hf) ?_|refine Cll.pu (hk) ?_|fail))
  all_goals(conv=>whnf)
  all_goals first
   | exact aI.int (bY (by omega) h4 (by assumption)).symm
   | (refine⟨10+1,⟨by omega,dw h4 (by omega)⟩,by omega,?_⟩
      exact Lf.of2 [] [] (by(repeat(first|exact aM.nil|refine aM.cons rfl (by first|exact Rd.same (ae d)|exact rdA|fail) ?_|fail));(first|done|fail)) (by(repeat(first|exact Bxs.nil|refine Bxs.cons rfl rfl rfl (by first|exact rbB|exact rbC|fail) ?_|fail));(first|done|fail)) rfl rfl)
 ·
  have hf:=cq d 11 (by omega);have hk:=hc 11 (by omega);repeat' ((conv=>whnf)<;>(first|refine Idx.at (f:=D.str) (l:=bA) 11 rfl (kD rfl) ?_|refine sg ?_|exact kQ|(refine Br.mk ?_ ?_<;>intro _<;>try(exfalso;omega))|refine stq ?_|refine Cll.pu (hf) ?_|refine Cll.pu (hk) ?_|fail))
  all_goals(conv=>whnf)
  all_goals first
   | exact aI.int (bY (by omega) h4 (by assumption)).symm
   | (refine⟨11+1,⟨by omega,dw h4 (by omega)⟩,by omega,?_⟩
      exact Lf.of2 [] [] (by(repeat(first|exact aM.nil|refine aM.cons rfl (by first|exact Rd.same (ae d)|exact rdA|fail) ?_|fail));(first|done|fail)) (by(repeat(first|exact Bxs.nil|refine Bxs.cons rfl rfl rfl (by first|exact rbB|exact rbC|fail) ?_|fail));(first|done|fail)) rfl rfl)
 ·
  have hf:=cq d 12 (by omega);have hk:=hc 12 (by omega);repeat' ((conv=>whnf)<;>(first|refine Idx.at (f:=D.str) (l:=bA) 12 rfl (kD rfl) ?_|refine sg ?_|exact kQ|(refine Br.mk ?_ ?_<;>intro _<;>try(exfalso;omega))|refine stq ?_|refine Cll.pu (hf) ?_|refine Cll.pu (hk) ?_|fail))
  all_goals(conv=>whnf)
  all_goals first
   | exact aI.int (bY (by omega) h4 (by assumption)).symm
   | (refine⟨12+1,⟨by omega,dw h4 (by omega)⟩,by omega,?_⟩
      exact Lf.of2 [] [] (by(repeat(first|exact aM.nil|refine aM.cons rfl (by first|exact Rd.same (ae d)|exact rdA|fail) ?_|fail));(first|done|fail)) (by(repeat(first|exact Bxs.nil|refine Bxs.cons rfl rfl rfl (by first|exact rbB|exact rbC|fail) ?_|fail));(first|done|fail)) rfl rfl)
 ·
  have hf:=cq d 13 (by omega);have hk:=hc 13 (by omega);repeat' ((conv=>whnf)<;>(first|refine Idx.at (f:=D.str) (l:=bA) 13 rfl (kD rfl) ?_|refine sg ?_|exact kQ|(refine Br.mk ?_ ?_<;>intro _<;>try(exfalso;omega))|refine stq ?_|refine Cll.pu (hf) ?_|refine Cll.pu (hk) ?_|fail))
  all_goals(conv=>whnf)
  all_goals first
   | exact aI.int (bY (by omega) h4 (by assumption)).symm
   | (refine⟨13+1,⟨by omega,dw h4 (by omega)⟩,by omega,?_⟩
      exact Lf.of2 [] [] (by(repeat(first|exact aM.nil|refine aM.cons rfl (by first|exact Rd.same (ae d)|exact rdA|fail) ?_|fail));(first|done|fail)) (by(repeat(first|exact Bxs.nil|refine Bxs.cons rfl rfl rfl (by first|exact rbB|exact rbC|fail) ?_|fail));(first|done|fail)) rfl rfl)
 ·
  have hf:=cq d 14 (by omega);have hk:=hc 14 (by omega);repeat' ((conv=>whnf)<;>(first|refine Idx.at (f:=D.str) (l:=bA) 14 rfl (kD rfl) ?_|refine sg ?_|exact kQ|(refine Br.mk ?_ ?_<;>intro _<;>try(exfalso;omega))|refine stq ?_|refine Cll.pu (hf) ?_|refine Cll.pu (hk) ?_|fail))
  all_goals(conv=>whnf)
  all_goals first
   | exact aI.int (bY (by omega) h4 (by assumption)).symm
   | (refine⟨14+1,⟨by omega,dw h4 (by omega)⟩,by omega,?_⟩
      exact Lf.of2 [] [] (by(repeat(first|exact aM.nil|refine aM.cons rfl (by first|exact Rd.same (ae d)|exact rdA|fail) ?_|fail));(first|done|fail)) (by(repeat(first|exact Bxs.nil|refine Bxs.cons rfl rfl rfl (by first|exact rbB|exact rbC|fail) ?_|fail));(first|done|fail)) rfl rfl)
 ·
  have hf:=cq d 15 (by omega);have hk:=hc 15 (by omega);repeat' ((conv=>whnf)<;>(first|refine Idx.at (f:=D.str) (l:=bA) 15 rfl (kD rfl) ?_|refine sg ?_|exact kQ|(refine Br.mk ?_ ?_<;>intro _<;>try(exfalso;omega))|refine stq ?_|refine Cll.pu (hf) ?_|refine Cll.pu (hk) ?_|fail))
  all_goals(conv=>whnf)
  all_goals first
   | exact aI.int (bY (by omega) h4 (by assumption)).symm
   | (refine⟨15+1,⟨by omega,dw h4 (by omega)⟩,by omega,?_⟩
      exact Lf.of2 [] [] (by(repeat(first|exact aM.nil|refine aM.cons rfl (by first|exact Rd.same (ae d)|exact rdA|fail) ?_|fail));(first|done|fail)) (by(repeat(first|exact Bxs.nil|refine Bxs.cons rfl rfl rfl (by first|exact rbB|exact rbC|fail) ?_|fail));(first|done|fail)) rfl rfl)
 ·
  have hf:=cq d 16 (by omega);have hk:=hc 16 (by omega);repeat' ((conv=>whnf)<;>(first|refine Idx.at (f:=D.str) (l:=bA) 16 rfl (kD rfl) ?_|refine sg ?_|exact kQ|(refine Br.mk ?_ ?_<;>intro _<;>try(exfalso;omega))|refine stq ?_|refine Cll.pu (hf) ?_|refine Cll.pu (hk) ?_|fail))
  all_goals(conv=>whnf)
  all_goals first
   | exact aI.int (bY (by omega) h4 (by assumption)).symm
   | (refine⟨16+1,⟨by omega,dw h4 (by omega)⟩,by omega,?_⟩
      exact Lf.of2 [] [] (by(repeat(first|exact aM.nil|refine aM.cons rfl (by first|exact Rd.same (ae d)|exact rdA|fail) ?_|fail));(first|done|fail)) (by(repeat(first|exact Bxs.nil|refine Bxs.cons rfl rfl rfl (by first|exact rbB|exact rbC|fail) ?_|fail));(first|done|fail)) rfl rfl)
 ·
  have hf:=cq d 17 (by omega);have hk:=hc 17 (by omega);repeat' ((conv=>whnf)<;>(first|refine Idx.at (f:=D.str) (l:=bA) 17 rfl (kD rfl) ?_|refine sg ?_|exact kQ|(refine Br.mk ?_ ?_<;>intro _<;>try(exfalso;omega))|refine stq ?_|refine Cll.pu (hf) ?_|refine Cll.pu (hk) ?_|fail))
  all_goals(conv=>whnf)
  all_goals first
   | exact aI.int (bY (by omega) h4 (by assumption)).symm
   | (refine⟨17+1,⟨by omega,dw h4 (by omega)⟩,by omega,?_⟩
      exact Lf.of2 [] [] (by(repeat(first|exact aM.nil|refine aM.cons rfl (by first|exact Rd.same (ae d)|exact rdA|fail) ?_|fail));(first|done|fail)) (by(repeat(first|exact Bxs.nil|refine Bxs.cons rfl rfl rfl (by first|exact rbB|exact rbC|fail) ?_|fail));(first|done|fail)) rfl rfl)
 ·
  have hf:=cq d 18 (by omega);have hk:=hc 18 (by omega);repeat' ((conv=>whnf)<;>(first|refine Idx.at (f:=D.str) (l:=bA) 18 rfl (kD rfl) ?_|refine sg ?_|exact kQ|(refine Br.mk ?_ ?_<;>intro _<;>try(exfalso;omega))|refine stq ?_|refine Cll.pu (hf) ?_|refine Cll.pu (hk) ?_|fail))
  all_goals(conv=>whnf)
  all_goals first
   | exact aI.int (bY (by omega) h4 (by assumption)).symm
   | (refine⟨18+1,⟨by omega,dw h4 (by omega)⟩,by omega,?_⟩
      exact Lf.of2 [] [] (by(repeat(first|exact aM.nil|refine aM.cons rfl (by first|exact Rd.same (ae d)|exact rdA|fail) ?_|fail));(first|done|fail)) (by(repeat(first|exact Bxs.nil|refine Bxs.cons rfl rfl rfl (by first|exact rbB|exact rbC|fail) ?_|fail));(first|done|fail)) rfl rfl)
 ·
  have hf:=cq d 19 (by omega);have hk:=hc 19 (by omega);repeat' ((conv=>whnf)<;>(first|refine Idx.at (f:=D.str) (l:=bA) 19 rfl (kD rfl) ?_|refine sg ?_|exact kQ|(refine Br.mk ?_ ?_<;>intro _<;>try(exfalso;omega))|refine stq ?_|refine Cll.pu (hf) ?_|refine Cll.pu (hk) ?_|fail))
  all_goals(conv=>whnf)
  all_goals first
   | exact aI.int (bY (by omega) h4 (by assumption)).symm
   | (refine⟨19+1,⟨by omega,dw h4 (by omega)⟩,by omega,?_⟩
      exact Lf.of2 [] [] (by(repeat(first|exact aM.nil|refine aM.cons rfl (by first|exact Rd.same (ae d)|exact rdA|fail) ?_|fail));(first|done|fail)) (by(repeat(first|exact Bxs.nil|refine Bxs.cons rfl rfl rfl (by first|exact rbB|exact rbC|fail) ?_|fail));(first|done|fail)) rfl rfl)
 ·
  have hf:=cq d 20 (by omega);have hk:=hc 20 (by omega);repeat' ((conv=>whnf)<;>(first|refine Idx.at (f:=D.str) (l:=bA) 20 rfl (kD rfl) ?_|refine sg ?_|exact kQ|(refine Br.mk ?_ ?_<;>intro _<;>try(exfalso;omega))|refine stq ?_|refine Cll.pu (hf) ?_|refine Cll.pu (hk) ?_|fail))
  all_goals(conv=>whnf)
  all_goals first
   | exact aI.int (bY (by omega) h4 (by assumption)).symm
   | (refine⟨20+1,⟨by omega,dw h4 (by omega)⟩,by omega,?_⟩
      exact Lf.of2 [] [] (by(repeat(first|exact aM.nil|refine aM.cons rfl (by first|exact Rd.same (ae d)|exact rdA|fail) ?_|fail));(first|done|fail)) (by(repeat(first|exact Bxs.nil|refine Bxs.cons rfl rfl rfl (by first|exact rbB|exact rbC|fail) ?_|fail));(first|done|fail)) rfl rfl)
 ·repeat' ((conv=>whnf)<;>(first|refine sg ?_|exact kQ|(refine Br.mk ?_ ?_<;>intro _<;>try(exfalso;omega))|refine stq ?_))
  all_goals(conv=>whnf)
  exact aI.int (lJ.2 h4).symm
end
section
open Go Go.Am Classical
set_option maxRecDepth 100000
section
variable [GT]
noncomputable def errs (d:Db) (em:Nat->Int):Nat->Int
 | 0=>if s9 d.major∧s9 d.minor then 0 else 1
 | 1=>if PrV d.cat then 0 else 11
 | 2=>if PrV d.wid then 0 else 11
 | 3=>if PrV d.scr then 0 else 11
 | 4=>if PrV d.gra then 0 else 11
 | 5=>if PrV d.wor then 0 else 11
 | 6=>if PrV d.sen then 0 else 11
 | 7=>if PrV d.lin then 0 else 11
 | 8=>if ClV d.classes then 0 else 11
 | 9=>em 9
 | 10=>if dF d.excl then 0 else 11
 | 11=>em 11
 | 12=>em 12
 | 13=>em 13
 | 14=>em 14
 | 15=>if dF d.cased then 0 else 11
 | 16=>if dF d.ignor then 0 else 11
 | 17=>if dF d.start then 0 else 11
 | 18=>if dF d.cont then 0 else 11
 | 19=>if dF d.medial then 0 else 11
 | _=>em 20
theorem ite0 {p:Prop} [Decidable p] {n:Int}(hn:n≠0):(if p then 0 else n)=0↔p:=by
 by_cases h:p<;>simp[h,hn]
theorem v6 {d:Db}{em:Nat->Int}(hem:∀ k,em k=0↔MOk (fg d k)):∀ k,k<21->(errs d em k=0↔Fl d k):=by
 intro k hk;rcases(by omega:k=0∨k=1∨k=2∨k=3∨k=4∨k=5∨k=6∨k=7∨k=8∨k=9∨k=10∨k=11∨k=12∨k=13∨k=14∨k=15∨k=16∨k=17∨k=18∨k=19∨k=20) with rfl|rfl|rfl|rfl|rfl|rfl|rfl|rfl|rfl|rfl|rfl|rfl|rfl|rfl|rfl|rfl|rfl|rfl|rfl|rfl|rfl
 all_goals first
  | exact ite0 (by omega)
  | exact hem _
theorem SmD.maps {d:Db}(ho:d.ok) (hs:SmD d){k:Nat}(hk:k<21):DZ (fg d k):=⟨by have:=(hs.2.2.2 k hk).2;omega,fun i h=>((ho.maps k).2 i h).1,fun i h=>((ho.maps k).2 i h).2⟩
theorem vT {d:Db}{k:Nat}(hk:¬k<21):fg d k=fg d 20:=by
 unfold fg;split<;>first|omega|rfl
theorem sW {d:Db}(ho:d.ok) (hs:SmD d):∃ e:Int,Pu Tryz.prog 49 [dbD d] (i64 e)∧(e=0↔DbV d):=by
 have hm:∀ k,∃ e:Int,Pu Tryz.prog 290 [ce (fg d k)] (i64 e)∧(e=0↔MOk (fg d k)):=fun k=>by
  by_cases hk:k<21
  ·exact vV (SmD.maps ho hs hk)
  ·rw[vT hk];exact vV (SmD.maps ho hs (by omega))
 let em:Nat->Int:=fun k=>Classical.choose (hm k)
 have h1:∀ k,Pu Tryz.prog 290 [ce (fg d k)] (i64 (em k)):=fun k=>(Classical.choose_spec (hm k)).1
 have h2:∀ k,em k=0↔MOk (fg d k):=fun k=>(Classical.choose_spec (hm k)).2
 have hr:∀ n,aB ((dbC d).drop n)=true:=fun n=>j9 n (ae d)
 refine⟨gY ((List.range 21).map (errs d em)),Cw fun k hk=>?_,?_⟩
 ·rcases(by omega:k=0∨k=1∨k=2∨k=3∨k=4∨k=5∨k=6∨k=7∨k=8∨k=9∨k=10∨k=11∨k=12∨k=13∨k=14∨k=15∨k=16∨k=17∨k=18∨k=19∨k=20) with rfl|rfl|rfl|rfl|rfl|rfl|rfl|rfl|rfl|rfl|rfl|rfl|rfl|rfl|rfl|rfl|rfl|rfl|rfl|rfl|rfl
  ·exact A4 (hr 2)
  ·exact gI (p:=d.cat) (ho.prop 0) (hr 4)
  ·exact gI (p:=d.wid) (ho.prop 1) (hr 6)
  ·exact gI (p:=d.scr) (ho.prop 2) (hr 8)
  ·exact gI (p:=d.gra) (ho.prop 3) (hr 10)
  ·exact gI (p:=d.wor) (ho.prop 4) (hr 12)
  ·exact gI (p:=d.sen) (ho.prop 5) (hr 14)
  ·exact gI (p:=d.lin) (ho.prop 6) (hr 16)
  ·exact C9 ho.classes (hr 17)
  ·exact ii (l:=d.decomp) (h1 9) (hr 18)
  ·exact iT (l:=d.excl) (hs.2.2.1 0 (by omega)) (hr 19)
  ·exact ii (l:=d.lower) (h1 11) (hr 20)
  ·exact ii (l:=d.upper) (h1 12) (hr 21)
  ·exact ii (l:=d.title) (h1 13) (hr 22)
  ·exact ii (l:=d.fold) (h1 14) (hr 23)
  ·exact iT (l:=d.cased) (hs.2.2.1 1 (by omega)) (hr 24)
  ·exact iT (l:=d.ignor) (hs.2.2.1 2 (by omega)) (hr 25)
  ·exact iT (l:=d.start) (hs.2.2.1 3 (by omega)) (hr 26)
  ·exact iT (l:=d.cont) (hs.2.2.1 4 (by omega)) (hr 27)
  ·exact iT (l:=d.medial) (hs.2.2.1 5 (by omega)) (hr 28)
  ·exact ii (l:=d.confu) (h1 20) (hr 29)
 ·rw[lJ];exact forall_congr' fun k=>forall_congr' fun hk=>v6 h2 k hk
noncomputable def EB (d:Db) (em:Nat->Int) (k:Nat):Int:=if k=0 then 0 else errs d em k
set_option maxHeartbeats 16000000 in
theorem AO {d:Db}(ho:d.ok) (hs:SmD d){em:Nat->Int}(hem:∀ k,Pu Tryz.prog 109 [ce (fg d k)] (i64 (em k))):∀ k:Nat,k<21->Pu Tryz.prog 80 [dbD d,i64 (k:Int)] (i64 (EB d em k)):=by
 intro k hk;rcases(by omega:k=0∨k=1∨k=2∨k=3∨k=4∨k=5∨k=6∨k=7∨k=8∨k=9∨k=10∨k=11∨k=12∨k=13∨k=14∨k=15∨k=16∨k=17∨k=18∨k=19∨k=20) with rfl|rfl|rfl|rfl|rfl|rfl|rfl|rfl|rfl|rfl|rfl|rfl|rfl|rfl|rfl|rfl|rfl|rfl|rfl|rfl|rfl
 ·
  refine Pu.of_v aA T0 Tryz.func80 rfl rfl (by simp[aJ,aB,aE,aG,aN,aK]) ?_;repeat' ((conv=>whnf)<;>(first|refine Br.strF rfl ?_|refine Br.strT rfl ?_|refine Idx.at (f:=D.str) (l:=bA) 0 rfl (kD rfl) ?_|refine sg ?_|exact kQ|(refine Br.mk ?_ ?_<;>intro _<;>try(exfalso;omega))|refine stq ?_|refine Cll.pu (ad) ?_|refine aO.pu (ad) ?_|fail))
  all_goals(conv=>whnf)
  all_goals first
   | (refine aI.int (Eq.symm ?_);show(if True then(0:Int) else 11)=0;exact if_pos (by assumption))
   | (refine aI.int (Eq.symm ?_);show(if True then(0:Int) else 11)=11;exact if_neg (by assumption))
   | exact aI.int rfl
 ·
  have h1:Pu Tryz.prog 43 [dbD d,i64 ((1:Nat)-1:Int)] (du (prop d 0)):=gt d 0 (by omega);have h2:=dq (ho.prop 0);refine Pu.of_v aA T0 Tryz.func80 rfl rfl (by simp[aJ,aB,aE,aG,aN,aK]) ?_;repeat' ((conv=>whnf)<;>(first|refine Br.strF rfl ?_|refine Br.strT rfl ?_|refine Idx.at (f:=D.str) (l:=bA) 1 rfl (kD rfl) ?_|refine sg ?_|exact kQ|(refine Br.mk ?_ ?_<;>intro _<;>try(exfalso;omega))|refine stq ?_|refine Cll.pu (ad) ?_|refine aO.pu (ad) ?_|refine Cll.pu (h1) ?_|refine aO.pu (h1) ?_|refine Cll.dec (h2) (fun _=>?_) (fun _=>?_)|refine aO.dec (h2) (fun _=>?_) (fun _=>?_)|fail))
  all_goals(conv=>whnf)
  all_goals first
   | (refine aI.int (Eq.symm ?_);show(if PrV d.cat then(0:Int) else 11)=0;exact if_pos (by assumption))
   | (refine aI.int (Eq.symm ?_);show(if PrV d.cat then(0:Int) else 11)=11;exact if_neg (by assumption))
   | exact aI.int rfl
 ·
  have h1:Pu Tryz.prog 43 [dbD d,i64 ((2:Nat)-1:Int)] (du (prop d 1)):=gt d 1 (by omega);have h2:=dq (ho.prop 1);refine Pu.of_v aA T0 Tryz.func80 rfl rfl (by simp[aJ,aB,aE,aG,aN,aK]) ?_;repeat' ((conv=>whnf)<;>(first|refine Br.strF rfl ?_|refine Br.strT rfl ?_|refine Idx.at (f:=D.str) (l:=bA) 2 rfl (kD rfl) ?_|refine sg ?_|exact kQ|(refine Br.mk ?_ ?_<;>intro _<;>try(exfalso;omega))|refine stq ?_|refine Cll.pu (ad) ?_|refine aO.pu (ad) ?_|refine Cll.pu (h1) ?_|refine aO.pu (h1) ?_|refine Cll.dec (h2) (fun _=>?_) (fun _=>?_)|refine aO.dec (h2) (fun _=>?_) (fun _=>?_)|fail))
  all_goals(conv=>whnf)
  all_goals first
   | (refine aI.int (Eq.symm ?_);show(if PrV d.wid then(0:Int) else 11)=0;exact if_pos (by assumption))
   | (refine aI.int (Eq.symm ?_);show(if PrV d.wid then(0:Int) else 11)=11;exact if_neg (by assumption))
   | exact aI.int rfl
 ·
  have h1:Pu Tryz.prog 43 [dbD d,i64 ((3:Nat)-1:Int)] (du (prop d 2)):=gt d 2 (by omega);have h2:=dq (ho.prop 2);refine Pu.of_v aA T0 Tryz.func80 rfl rfl (by simp[aJ,aB,aE,aG,aN,aK]) ?_;repeat' ((conv=>whnf)<;>(first|refine Br.strF rfl ?_|refine Br.strT rfl ?_|refine Idx.at (f:=D.str) (l:=bA) 3 rfl (kD rfl) ?_|refine sg ?_|exact kQ|(refine Br.mk ?_ ?_<;>intro _<;>try(exfalso;omega))|refine stq ?_|refine Cll.pu (ad) ?_|refine aO.pu (ad) ?_|refine Cll.pu (h1) ?_|refine aO.pu (h1) ?_|refine Cll.dec (h2) (fun _=>?_) (fun _=>?_)|refine aO.dec (h2) (fun _=>?_) (fun _=>?_)|fail))
  all_goals(conv=>whnf)
  all_goals first
   | (refine aI.int (Eq.symm ?_);show(if PrV d.scr then(0:Int) else 11)=0;exact if_pos (by assumption))
   | (refine aI.int (Eq.symm ?_);show(if PrV d.scr then(0:Int) else 11)=11;exact if_neg (by assumption))
   | exact aI.int rfl
 ·
  have h1:Pu Tryz.prog 43 [dbD d,i64 ((4:Nat)-1:Int)] (du (prop d 3)):=gt d 3 (by omega);have h2:=dq (ho.prop 3);refine Pu.of_v aA T0 Tryz.func80 rfl rfl (by simp[aJ,aB,aE,aG,aN,aK]) ?_;repeat' ((conv=>whnf)<;>(first|refine Br.strF rfl ?_|refine Br.strT rfl ?_|refine Idx.at (f:=D.str) (l:=bA) 4 rfl (kD rfl) ?_|refine sg ?_|exact kQ|(refine Br.mk ?_ ?_<;>intro _<;>try(exfalso;omega))|refine stq ?_|refine Cll.pu (ad) ?_|refine aO.pu (ad) ?_|refine Cll.pu (h1) ?_|refine aO.pu (h1) ?_|refine Cll.dec (h2) (fun _=>?_) (fun _=>?_)|refine aO.dec (h2) (fun _=>?_) (fun _=>?_)|fail))
  all_goals(conv=>whnf)
  all_goals first
   | (refine aI.int (Eq.symm ?_);show(if PrV d.gra then(0:Int) else 11)=0;exact if_pos (by assumption))
   | (refine aI.int (Eq.symm ?_);show(if PrV d.gra then(0:Int) else 11)=11;exact if_neg (by assumption))
   | exact aI.int rfl
 ·
  have h1:Pu Tryz.prog 43 [dbD d,i64 ((5:Nat)-1:Int)] (du (prop d 4)):=gt d 4 (by omega);have h2:=dq (ho.prop 4);refine Pu.of_v aA T0 Tryz.func80 rfl rfl (by simp[aJ,aB,aE,aG,aN,aK]) ?_;repeat' ((conv=>whnf)<;>(first|refine Br.strF rfl ?_|refine Br.strT rfl ?_|refine Idx.at (f:=D.str) (l:=bA) 5 rfl (kD rfl) ?_|refine sg ?_|exact kQ|(refine Br.mk ?_ ?_<;>intro _<;>try(exfalso;omega))|refine stq ?_|refine Cll.pu (ad) ?_|refine aO.pu (ad) ?_|refine Cll.pu (h1) ?_|refine aO.pu (h1) ?_|refine Cll.dec (h2) (fun _=>?_) (fun _=>?_)|refine aO.dec (h2) (fun _=>?_) (fun _=>?_)|fail))
  all_goals(conv=>whnf)
  all_goals first
   | (refine aI.int (Eq.symm ?_);show(if PrV d.wor then(0:Int) else 11)=0;exact if_pos (by assumption))
   | (refine aI.int (Eq.symm ?_);show(if PrV d.wor then(0:Int) else 11)=11;exact if_neg (by assumption))
   | exact aI.int rfl
 ·
  have h1:Pu Tryz.prog 43 [dbD d,i64 ((6:Nat)-1:Int)] (du (prop d 5)):=gt d 5 (by omega);have h2:=dq (ho.prop 5);refine Pu.of_v aA T0 Tryz.func80 rfl rfl (by simp[aJ,aB,aE,aG,aN,aK]) ?_;repeat' ((conv=>whnf)<;>(first|refine Br.strF rfl ?_|refine Br.strT rfl ?_|refine Idx.at (f:=D.str) (l:=bA) 6 rfl (kD rfl) ?_|refine sg ?_|exact kQ|(refine Br.mk ?_ ?_<;>intro _<;>try(exfalso;omega))|refine stq ?_|refine Cll.pu (ad) ?_|refine aO.pu (ad) ?_|refine Cll.pu (h1) ?_|refine aO.pu (h1) ?_|refine Cll.dec (h2) (fun _=>?_) (fun _=>?_)|refine aO.dec (h2) (fun _=>?_) (fun _=>?_)|fail))
  all_goals(conv=>whnf)
  all_goals first
   | (refine aI.int (Eq.symm ?_);show(if PrV d.sen then(0:Int) else 11)=0;exact if_pos (by assumption))
   | (refine aI.int (Eq.symm ?_);show(if PrV d.sen then(0:Int) else 11)=11;exact if_neg (by assumption))
   | exact aI.int rfl
 ·
  have h1:Pu Tryz.prog 43 [dbD d,i64 ((7:Nat)-1:Int)] (du (prop d 6)):=gt d 6 (by omega);have h2:=dq (ho.prop 6);refine Pu.of_v aA T0 Tryz.func80 rfl rfl (by simp[aJ,aB,aE,aG,aN,aK]) ?_;repeat' ((conv=>whnf)<;>(first|refine Br.strF rfl ?_|refine Br.strT rfl ?_|refine Idx.at (f:=D.str) (l:=bA) 7 rfl (kD rfl) ?_|refine sg ?_|exact kQ|(refine Br.mk ?_ ?_<;>intro _<;>try(exfalso;omega))|refine stq ?_|refine Cll.pu (ad) ?_|refine aO.pu (ad) ?_|refine Cll.pu (h1) ?_|refine aO.pu (h1) ?_|refine Cll.dec (h2) (fun _=>?_) (fun _=>?_)|refine aO.dec (h2) (fun _=>?_) (fun _=>?_)|fail))
  all_goals(conv=>whnf)
  all_goals first
   | (refine aI.int (Eq.symm ?_);show(if PrV d.lin then(0:Int) else 11)=0;exact if_pos (by assumption))
   | (refine aI.int (Eq.symm ?_);show(if PrV d.lin then(0:Int) else 11)=11;exact if_neg (by assumption))
   | exact aI.int rfl
 ·
  have h2:=rcls_c (l:=d.classes) ho.classes;refine Pu.of_v aA T0 Tryz.func80 rfl rfl (by simp[aJ,aB,aE,aG,aN,aK]) ?_;repeat' ((conv=>whnf)<;>(first|refine Br.strF rfl ?_|refine Br.strT rfl ?_|refine Idx.at (f:=D.str) (l:=bA) 8 rfl (kD rfl) ?_|refine sg ?_|exact kQ|(refine Br.mk ?_ ?_<;>intro _<;>try(exfalso;omega))|refine stq ?_|refine Cll.pu (ad) ?_|refine aO.pu (ad) ?_|refine Cll.dec (h2) (fun _=>?_) (fun _=>?_)|refine aO.dec (h2) (fun _=>?_) (fun _=>?_)|fail))
  all_goals(conv=>whnf)
  all_goals first
   | (refine aI.int (Eq.symm ?_);show(if ClV d.classes then(0:Int) else 11)=0;exact if_pos (by assumption))
   | (refine aI.int (Eq.symm ?_);show(if ClV d.classes then(0:Int) else 11)=11;exact if_neg (by assumption))
   | exact aI.int rfl
 ·
  have h0:Pu Tryz.prog 107 [.str (hG 9)] (i64 (-1)):=d9 9 (by omega);have h1:=ly d 9 (by omega);have h2:=hem 9;refine Pu.of_v aA T0 Tryz.func80 rfl rfl (by simp[aJ,aB,aE,aG,aN,aK]) ?_;repeat' ((conv=>whnf)<;>(first|refine Br.strF rfl ?_|refine Br.strT rfl ?_|refine Idx.at (f:=D.str) (l:=bA) 9 rfl (kD rfl) ?_|refine sg ?_|exact kQ|(refine Br.mk ?_ ?_<;>intro _<;>try(exfalso;omega))|refine stq ?_|refine Cll.pu (ad) ?_|refine aO.pu (ad) ?_|refine Cll.pu (h0) ?_|refine aO.pu (h0) ?_|refine Cll.pu (h1) ?_|refine aO.pu (h1) ?_|refine Cll.pu (h2) ?_|refine aO.pu (h2) ?_|fail))
  all_goals(conv=>whnf)
  all_goals first
   | (refine aI.int (Eq.symm ?_);show(if True then(0:Int) else 11)=0;exact if_pos (by assumption))
   | (refine aI.int (Eq.symm ?_);show(if True then(0:Int) else 11)=11;exact if_neg (by assumption))
   | exact aI.int rfl
 ·
  have h0:Pu Tryz.prog 107 [.str (hG 10)] (i64 (0)):=d9 10 (by omega);have h1:=lx d 0 (by omega);have h2:=eL (rs:=d.excl) (hs.2.2.1 0 (by omega));refine Pu.of_v aA T0 Tryz.func80 rfl rfl (by simp[aJ,aB,aE,aG,aN,aK]) ?_;repeat' ((conv=>whnf)<;>(first|refine Br.strF rfl ?_|refine Br.strT rfl ?_|refine Idx.at (f:=D.str) (l:=bA) 10 rfl (kD rfl) ?_|refine sg ?_|exact kQ|(refine Br.mk ?_ ?_<;>intro _<;>try(exfalso;omega))|refine stq ?_|refine Cll.pu (ad) ?_|refine aO.pu (ad) ?_|refine Cll.pu (h0) ?_|refine aO.pu (h0) ?_|refine Cll.pu (h1) ?_|refine aO.pu (h1) ?_|refine Cll.dec (h2) (fun _=>?_) (fun _=>?_)|refine aO.dec (h2) (fun _=>?_) (fun _=>?_)|fail))
  all_goals(conv=>whnf)
  all_goals first
   | (refine aI.int (Eq.symm ?_);show(if dF d.excl then(0:Int) else 11)=0;exact if_pos (by assumption))
   | (refine aI.int (Eq.symm ?_);show(if dF d.excl then(0:Int) else 11)=11;exact if_neg (by assumption))
   | exact aI.int rfl
 ·
  have h0:Pu Tryz.prog 107 [.str (hG 11)] (i64 (-1)):=d9 11 (by omega);have h1:=ly d 11 (by omega);have h2:=hem 11;refine Pu.of_v aA T0 Tryz.func80 rfl rfl (by simp[aJ,aB,aE,aG,aN,aK]) ?_;repeat' ((conv=>whnf)<;>(first|refine Br.strF rfl ?_|refine Br.strT rfl ?_|refine Idx.at (f:=D.str) (l:=bA) 11 rfl (kD rfl) ?_|refine sg ?_|exact kQ|(refine Br.mk ?_ ?_<;>intro _<;>try(exfalso;omega))|refine stq ?_|refine Cll.pu (ad) ?_|refine aO.pu (ad) ?_|refine Cll.pu (h0) ?_|refine aO.pu (h0) ?_|refine Cll.pu (h1) ?_|refine aO.pu (h1) ?_|refine Cll.pu (h2) ?_|refine aO.pu (h2) ?_|fail))
  all_goals(conv=>whnf)
  all_goals first
   | (refine aI.int (Eq.symm ?_);show(if True then(0:Int) else 11)=0;exact if_pos (by assumption))
   | (refine aI.int (Eq.symm ?_);show(if True then(0:Int) else 11)=11;exact if_neg (by assumption))
   | exact aI.int rfl
 ·
  have h0:Pu Tryz.prog 107 [.str (hG 12)] (i64 (-1)):=d9 12 (by omega);have h1:=ly d 12 (by omega);have h2:=hem 12;refine Pu.of_v aA T0 Tryz.func80 rfl rfl (by simp[aJ,aB,aE,aG,aN,aK]) ?_;repeat' ((conv=>whnf)<;>(first|refine Br.strF rfl ?_|refine Br.strT rfl ?_|refine Idx.at (f:=D.str) (l:=bA) 12 rfl (kD rfl) ?_|refine sg ?_|exact kQ|(refine Br.mk ?_ ?_<;>intro _<;>try(exfalso;omega))|refine stq ?_|refine Cll.pu (ad) ?_|refine aO.pu (ad) ?_|refine Cll.pu (h0) ?_|refine aO.pu (h0) ?_|refine Cll.pu (h1) ?_|refine aO.pu (h1) ?_|refine Cll.pu (h2) ?_|refine aO.pu (h2) ?_|fail))
  all_goals(conv=>whnf)
  all_goals first
   | (refine aI.int (Eq.symm ?_);show(if True then(0:Int) else 11)=0;exact if_pos (by assumption))
   | (refine aI.int (Eq.symm ?_);show(if True then(0:Int) else 11)=11;exact if_neg (by assumption))
   | exact aI.int rfl
 ·
  have h0:Pu Tryz.prog 107 [.str (hG 13)] (i64 (-1)):=d9 13 (by omega);have h1:=ly d 13 (by omega);have h2:=hem 13;refine Pu.of_v aA T0 Tryz.func80 rfl rfl (by simp[aJ,aB,aE,aG,aN,aK]) ?_;repeat' ((conv=>whnf)<;>(first|refine Br.strF rfl ?_|refine Br.strT rfl ?_|refine Idx.at (f:=D.str) (l:=bA) 13 rfl (kD rfl) ?_|refine sg ?_|exact kQ|(refine Br.mk ?_ ?_<;>intro _<;>try(exfalso;omega))|refine stq ?_|refine Cll.pu (ad) ?_|refine aO.pu (ad) ?_|refine Cll.pu (h0) ?_|refine aO.pu (h0) ?_|refine Cll.pu (h1) ?_|refine aO.pu (h1) ?_|refine Cll.pu (h2) ?_|refine aO.pu (h2) ?_|fail))
  all_goals(conv=>whnf)
  all_goals first
   | (refine aI.int (Eq.symm ?_);show(if True then(0:Int) else 11)=0;exact if_pos (by assumption))
   | (refine aI.int (Eq.symm ?_);show(if True then(0:Int) else 11)=11;exact if_neg (by assumption))
   | exact aI.int rfl
 ·
  have h0:Pu Tryz.prog 107 [.str (hG 14)] (i64 (-1)):=d9 14 (by omega);have h1:=ly d 14 (by omega);have h2:=hem 14;refine Pu.of_v aA T0 Tryz.func80 rfl rfl (by simp[aJ,aB,aE,aG,aN,aK]) ?_;repeat' ((conv=>whnf)<;>(first|refine Br.strF rfl ?_|refine Br.strT rfl ?_|refine Idx.at (f:=D.str) (l:=bA) 14 rfl (kD rfl) ?_|refine sg ?_|exact kQ|(refine Br.mk ?_ ?_<;>intro _<;>try(exfalso;omega))|refine stq ?_|refine Cll.pu (ad) ?_|refine aO.pu (ad) ?_|refine Cll.pu (h0) ?_|refine aO.pu (h0) ?_|refine Cll.pu (h1) ?_|refine aO.pu (h1) ?_|refine Cll.pu (h2) ?_|refine aO.pu (h2) ?_|fail))
  all_goals(conv=>whnf)
  all_goals first
   | (refine aI.int (Eq.symm ?_);show(if True then(0:Int) else 11)=0;exact if_pos (by assumption))
   | (refine aI.int (Eq.symm ?_);show(if True then(0:Int) else 11)=11;exact if_neg (by assumption))
   | exact aI.int rfl
 ·
  have h0:Pu Tryz.prog 107 [.str (hG 15)] (i64 (1)):=d9 15 (by omega);have h1:=lx d 1 (by omega);have h2:=eL (rs:=d.cased) (hs.2.2.1 1 (by omega));refine Pu.of_v aA T0 Tryz.func80 rfl rfl (by simp[aJ,aB,aE,aG,aN,aK]) ?_;repeat' ((conv=>whnf)<;>(first|refine Br.strF rfl ?_|refine Br.strT rfl ?_|refine Idx.at (f:=D.str) (l:=bA) 15 rfl (kD rfl) ?_|refine sg ?_|exact kQ|(refine Br.mk ?_ ?_<;>intro _<;>try(exfalso;omega))|refine stq ?_|refine Cll.pu (ad) ?_|refine aO.pu (ad) ?_|refine Cll.pu (h0) ?_|refine aO.pu (h0) ?_|refine Cll.pu (h1) ?_|refine aO.pu (h1) ?_|refine Cll.dec (h2) (fun _=>?_) (fun _=>?_)|refine aO.dec (h2) (fun _=>?_) (fun _=>?_)|fail))
  all_goals(conv=>whnf)
  all_goals first
   | (refine aI.int (Eq.symm ?_);show(if dF d.cased then(0:Int) else 11)=0;exact if_pos (by assumption))
   | (refine aI.int (Eq.symm ?_);show(if dF d.cased then(0:Int) else 11)=11;exact if_neg (by assumption))
   | exact aI.int rfl
 ·
  have h0:Pu Tryz.prog 107 [.str (hG 16)] (i64 (2)):=d9 16 (by omega);have h1:=lx d 2 (by omega);have h2:=eL (rs:=d.ignor) (hs.2.2.1 2 (by omega));refine Pu.of_v aA T0 Tryz.func80 rfl rfl (by simp[aJ,aB,aE,aG,aN,aK]) ?_;repeat' ((conv=>whnf)<;>(first|refine Br.strF rfl ?_|refine Br.strT rfl ?_|refine Idx.at (f:=D.str) (l:=bA) 16 rfl (kD rfl) ?_|refine sg ?_|exact kQ|(refine Br.mk ?_ ?_<;>intro _<;>try(exfalso;omega))|refine stq ?_|refine Cll.pu (ad) ?_|refine aO.pu (ad) ?_|refine Cll.pu (h0) ?_|refine aO.pu (h0) ?_|refine Cll.pu (h1) ?_|refine aO.pu (h1) ?_|refine Cll.dec (h2) (fun _=>?_) (fun _=>?_)|refine aO.dec (h2) (fun _=>?_) (fun _=>?_)|fail))
  all_goals(conv=>whnf)
  all_goals first
   | (refine aI.int (Eq.symm ?_);show(if dF d.ignor then(0:Int) else 11)=0;exact if_pos (by assumption))
   | (refine aI.int (Eq.symm ?_);show(if dF d.ignor then(0:Int) else 11)=11;exact if_neg (by assumption))
   | exact aI.int rfl
 ·
  have h0:Pu Tryz.prog 107 [.str (hG 17)] (i64 (3)):=d9 17 (by omega);have h1:=lx d 3 (by omega);have h2:=eL (rs:=d.start) (hs.2.2.1 3 (by omega));refine Pu.of_v aA T0 Tryz.func80 rfl rfl (by simp[aJ,aB,aE,aG,aN,aK]) ?_;repeat' ((conv=>whnf)<;>(first|refine Br.strF rfl ?_|refine Br.strT rfl ?_|refine Idx.at (f:=D.str) (l:=bA) 17 rfl (kD rfl) ?_|refine sg ?_|exact kQ|(refine Br.mk ?_ ?_<;>intro _<;>try(exfalso;omega))|refine stq ?_|refine Cll.pu (ad) ?_|refine aO.pu (ad) ?_|refine Cll.pu (h0) ?_|refine aO.pu (h0) ?_|refine Cll.pu (h1) ?_|refine aO.pu (h1) ?_|refine Cll.dec (h2) (fun _=>?_) (fun _=>?_)|refine aO.dec (h2) (fun _=>?_) (fun _=>?_)|fail))
  all_goals(conv=>whnf)
  all_goals first
   | (refine aI.int (Eq.symm ?_);show(if dF d.start then(0:Int) else 11)=0;exact if_pos (by assumption))
   | (refine aI.int (Eq.symm ?_);show(if dF d.start then(0:Int) else 11)=11;exact if_neg (by assumption))
   | exact aI.int rfl
 ·
  have h0:Pu Tryz.prog 107 [.str (hG 18)] (i64 (4)):=d9 18 (by omega);have h1:=lx d 4 (by omega);have h2:=eL (rs:=d.cont) (hs.2.2.1 4 (by omega));refine Pu.of_v aA T0 Tryz.func80 rfl rfl (by simp[aJ,aB,aE,aG,aN,aK]) ?_;repeat' ((conv=>whnf)<;>(first|refine Br.strF rfl ?_|refine Br.strT rfl ?_|refine Idx.at (f:=D.str) (l:=bA) 18 rfl (kD rfl) ?_|refine sg ?_|exact kQ|(refine Br.mk ?_ ?_<;>intro _<;>try(exfalso;omega))|refine stq ?_|refine Cll.pu (ad) ?_|refine aO.pu (ad) ?_|refine Cll.pu (h0) ?_|refine aO.pu (h0) ?_|refine Cll.pu (h1) ?_|refine aO.pu (h1) ?_|refine Cll.dec (h2) (fun _=>?_) (fun _=>?_)|refine aO.dec (h2) (fun _=>?_) (fun _=>?_)|fail))
  all_goals(conv=>whnf)
  all_goals first
   | (refine aI.int (Eq.symm ?_);show(if dF d.cont then(0:Int) else 11)=0;exact if_pos (by assumption))
   | (refine aI.int (Eq.symm ?_);show(if dF d.cont then(0:Int) else 11)=11;exact if_neg (by assumption))
   | exact aI.int rfl
 ·
  have h0:Pu Tryz.prog 107 [.str (hG 19)] (i64 (5)):=d9 19 (by omega);have h1:=lx d 5 (by omega);have h2:=eL (rs:=d.medial) (hs.2.2.1 5 (by omega));refine Pu.of_v aA T0 Tryz.func80 rfl rfl (by simp[aJ,aB,aE,aG,aN,aK]) ?_;repeat' ((conv=>whnf)<;>(first|refine Br.strF rfl ?_|refine Br.strT rfl ?_|refine Idx.at (f:=D.str) (l:=bA) 19 rfl (kD rfl) ?_|refine sg ?_|exact kQ|(refine Br.mk ?_ ?_<;>intro _<;>try(exfalso;omega))|refine stq ?_|refine Cll.pu (ad) ?_|refine aO.pu (ad) ?_|refine Cll.pu (h0) ?_|refine aO.pu (h0) ?_|refine Cll.pu (h1) ?_|refine aO.pu (h1) ?_|refine Cll.dec (h2) (fun _=>?_) (fun _=>?_)|refine aO.dec (h2) (fun _=>?_) (fun _=>?_)|fail))
  all_goals(conv=>whnf)
  all_goals first
   | (refine aI.int (Eq.symm ?_);show(if dF d.medial then(0:Int) else 11)=0;exact if_pos (by assumption))
   | (refine aI.int (Eq.symm ?_);show(if dF d.medial then(0:Int) else 11)=11;exact if_neg (by assumption))
   | exact aI.int rfl
 ·
  have h0:Pu Tryz.prog 107 [.str (hG 20)] (i64 (-1)):=d9 20 (by omega);have h1:=ly d 20 (by omega);have h2:=hem 20;refine Pu.of_v aA T0 Tryz.func80 rfl rfl (by simp[aJ,aB,aE,aG,aN,aK]) ?_;repeat' ((conv=>whnf)<;>(first|refine Br.strF rfl ?_|refine Br.strT rfl ?_|refine Idx.at (f:=D.str) (l:=bA) 20 rfl (kD rfl) ?_|refine sg ?_|exact kQ|(refine Br.mk ?_ ?_<;>intro _<;>try(exfalso;omega))|refine stq ?_|refine Cll.pu (ad) ?_|refine aO.pu (ad) ?_|refine Cll.pu (h0) ?_|refine aO.pu (h0) ?_|refine Cll.pu (h1) ?_|refine aO.pu (h1) ?_|refine Cll.pu (h2) ?_|refine aO.pu (h2) ?_|fail))
  all_goals(conv=>whnf)
  all_goals first
   | (refine aI.int (Eq.symm ?_);show(if True then(0:Int) else 11)=0;exact if_pos (by assumption))
   | (refine aI.int (Eq.symm ?_);show(if True then(0:Int) else 11)=11;exact if_neg (by assumption))
   | exact aI.int rfl
theorem px {d:Db}(ho:d.ok) (hs:SmD d):∃ e:Int,Pu Tryz.prog 53 [dbD d] (i64 e)∧(e=0↔DbV d):=by
 have hm:∀ k,∃ e:Int,Pu Tryz.prog 109 [ce (fg d k)] (i64 e)∧(e=0↔MOk (fg d k)):=fun k=>by
  by_cases hk:k<21
  ·exact rm (SmD.maps ho hs hk)
  ·rw[vT hk];exact rm (SmD.maps ho hs (by omega))
 let em:Nat->Int:=fun k=>Classical.choose (hm k)
 have h1:∀ k,Pu Tryz.prog 109 [ce (fg d k)] (i64 (em k)):=fun k=>(Classical.choose_spec (hm k)).1
 have h2:∀ k,em k=0↔MOk (fg d k):=fun k=>(Classical.choose_spec (hm k)).2
 by_cases hv:s9 d.major∧s9 d.minor
 ·refine⟨gY ((List.range 21).map (EB d em)),?_,?_⟩
  ·refine Pu.of_v aA T0 Tryz.func53 rfl rfl (by simp[aJ,aB,aE,aG,aN,aK]) ?_;repeat' ((conv=>whnf)<;>(first|refine sg ?_|exact kQ|(refine Br.mk ?_ ?_<;>intro _<;>try(exfalso;omega))|refine stq ?_|refine Cll.dec (o9) (fun _=>?_) (fun _=>?_)|refine aO.dec (o9) (fun _=>?_) (fun _=>?_)))
   all_goals(conv=>whnf)
   all_goals first
    | (exfalso;rename_i h;exact h hv.1)
    | (exfalso;rename_i h;exact h hv.2)
    | skip
   refine aU.by aA T0 (fun k:Nat=>⟨tmp 29 [(1,.ptr 0 0),(3,i64 (k:Int))],⟨1,[(0,.cells (dbC d) true)]⟩⟩)
    (fun k=>k<=21∧∀ i,i<k->EB d em i=0) (fun k=>21-k) 0 ⟨by omega,fun _ h=>by omega⟩ ?_ ?_
   ·exact Lf.of2 [(0,_)] [] enA (by repeat(first|exact Bxs.nil|refine Bxs.cons rfl rfl rfl (by first|exact Rb.cells (Rds.same (ae d)) rfl|exact rbB|exact Rb.cells bK rfl|exact rbC|fail) ?_)) rfl rfl
   intro k ⟨h3,h4⟩;have hfl:bA.length=21:=rfl;by_cases hk:k<21
   ·have hf:=AO ho hs h1 k hk;repeat' ((conv=>whnf)<;>(first|refine sg ?_|exact kQ|(refine Br.mk ?_ ?_<;>intro _<;>try(exfalso;omega))|refine stq ?_|refine Cll.pu (ad) ?_|refine Cll.pu (hf) ?_))
    all_goals(conv=>whnf)
    all_goals first
     | exact aI.int (bY hk h4 (by assumption)).symm
     | (refine⟨k+1,⟨by omega,dw h4 (by omega)⟩,by omega,?_⟩
        exact Lf.of2 [(0,_)] [] enA (by(repeat(first|exact Bxs.nil|refine Bxs.cons rfl rfl rfl (by first|exact Rb.cells (Rds.same (ae d)) rfl|exact rbB|exact Rb.cells bK rfl|exact rbC|fail) ?_|fail));(first|done|fail)) rfl rfl)
   ·repeat' ((conv=>whnf)<;>(first|refine sg ?_|exact kQ|(refine Br.mk ?_ ?_<;>intro _<;>try(exfalso;omega))|refine stq ?_|refine Cll.pu (ad) ?_))
    all_goals(conv=>whnf)
    exact aI.int (lJ.2 fun i hi=>h4 i (by omega)).symm
  ·rw[lJ];refine forall_congr' fun k=>forall_congr' fun hk=>?_
   by_cases hk0:k=0
   ·subst hk0;exact⟨fun _=>hv,fun _=>rfl⟩
   ·rw[EB,if_neg hk0];exact v6 h2 k hk
 ·refine⟨1,?_,fun h=>by omega,fun h=>absurd (h 0 (by omega)) hv⟩;refine Pu.of_v aA T0 Tryz.func53 rfl rfl (by simp[aJ,aB,aE,aG,aN,aK]) ?_;repeat' ((conv=>whnf)<;>(first|refine sg ?_|exact kQ|(refine Br.mk ?_ ?_<;>intro _<;>try(exfalso;omega))|refine stq ?_|refine Cll.dec (o9) (fun _=>?_) (fun _=>?_)|refine aO.dec (o9) (fun _=>?_) (fun _=>?_)))
  all_goals(conv=>whnf)
  all_goals first
   | exact aI.same rfl rfl
   | (exfalso;rename_i h1 h2;exact hv ⟨h1,h2⟩)
end
end
section
open Go Go.Am Classical
set_option maxRecDepth 100000
variable [GT]
theorem gO {α:Type}{f:α->D}(h:∀ x,one (f x)=true):∀ l:List α,eh (l.map f)=true
 | []=>rfl
 | x::l=>by simp[eh,h,gO h l]
theorem vD:∀ a b:List D,eh (a++b)=(eh a&&eh b)
 | [],b=>by simp[eh]
 | d::a,b=>by simp[eh,vD a b,Bool.and_assoc]
theorem r4 {α:Type}{c:α->List D}(h:∀ x,eh (c x)=true):∀ l:List α,eh (l.flatMap c)=true
 | []=>rfl
 | x::l=>by simp[vD,h,r4 h l]
theorem dP.lstS {α:Type}{c:α->List D}{sz:Nat}(hc:∀ x,(c x).length=sz){h:aC}{l:List α}{K:Nat->List D->Prop}(go:K l.length (l.flatMap c)):dP h sz (.imm l.length (l.flatMap c)) K:=⟨_,_,by simp[cG,aq hc],go⟩
theorem Rd.frzT {h:aC}{fz:Nat->Bool}{σ:Nat->Option Nat}{l:List Str}{id n cap es:Nat}{ex:Bool}{cs:List D}{bx:Bool}(hf:fz id=true) (hg:h.get id=some (.cells cs bx)) (hn:n=l.length) (he:es=1) (hc:cs=l.map D.str):Rd h fz σ (.sl id 0 n cap es ex) (strs l):=by
 rw[show strs l=lstS (fun s=>[D.str s]) l from(qQ l).symm];exact Rd.frzL (c:=fun s:Str=>[D.str s]) (sz:=1) (fun _=>rfl) (fun _=>rfl) hf hg hn he (by rw[hc,ac])
theorem DA {l:List Str}(hl:l.length<=1000):Pu Tryz.prog 74 [strs l] (strs l):=by
 cases l with
 | nil=>
  refine Pu.empty ?_ ?_
  ·refine Pu.of_v aA T0 Tryz.func74 rfl rfl rfl ?_;repeat' ((conv=>whnf)<;>(first|refine sg ?_|exact kQ|(refine Br.mk ?_ ?_<;>intro _<;>try(exfalso;omega))|refine stq ?_))
   all_goals(conv=>whnf)
   exact⟨.nil⟩
  ·refine Pu.of_v aA T0 Tryz.func74 rfl rfl rfl ?_;repeat' ((conv=>whnf)<;>(first|refine sg ?_|exact kQ|(refine Br.mk ?_ ?_<;>intro _<;>try(exfalso;omega))|refine stq ?_))
   all_goals(conv=>whnf)
   exact⟨Rd.frz rfl rfl (kD rfl) (Rds.eqs rfl rfl)⟩
 | cons x xs=>
  have hx2:(x::xs).length=xs.length+1:=rfl;refine Pu.of_v aA T0 Tryz.func74 rfl rfl (by simp[aB,aE]) ?_;repeat' ((conv=>whnf)<;>(first|refine sg ?_|exact kQ|(refine Br.mk ?_ ?_<;>intro _<;>try(exfalso;omega))|refine stq ?_|refine dP.lst ?_|refine Chk.mk (gO (fun _=>rfl) _) ?_|refine Chk.growX 16 1 rfl rfl (by omega) (by omega) (by simp) ?_))
  all_goals(conv=>whnf)
  exact⟨Rd.frzT rfl rfl (by simp) rfl (by simp)⟩
theorem BL (s:Spn):(BM s).length=3:=rfl
theorem DB {l:List Spn}(hl:l.length<=1000):Pu Tryz.prog 75 [dO l] (dO l):=by
 cases l with
 | nil=>
  refine Pu.empty ?_ ?_
  ·refine Pu.of_v aA T0 Tryz.func75 rfl rfl rfl ?_;repeat' ((conv=>whnf)<;>(first|refine sg ?_|exact kQ|(refine Br.mk ?_ ?_<;>intro _<;>try(exfalso;omega))|refine stq ?_))
   all_goals(conv=>whnf)
   exact⟨.nil⟩
  ·refine Pu.of_v aA T0 Tryz.func75 rfl rfl rfl ?_;repeat' ((conv=>whnf)<;>(first|refine sg ?_|exact kQ|(refine Br.mk ?_ ?_<;>intro _<;>try(exfalso;omega))|refine stq ?_))
   all_goals(conv=>whnf)
   exact⟨Rd.frz rfl rfl (kD rfl) (Rds.eqs rfl rfl)⟩
 | cons x xs=>
  have hx2:(x::xs).length=xs.length+1:=rfl;refine Pu.of_v aA T0 Tryz.func75 rfl rfl (by simp[aB,aG]) ?_;repeat' ((conv=>whnf)<;>(first|refine sg ?_|exact kQ|(refine Br.mk ?_ ?_<;>intro _<;>try(exfalso;omega))|refine stq ?_|refine dP.lstS (c:=BM) (sz:=3) (l:=x::xs) (fun _=>rfl) ?_|refine Chk.mk (r4 (fun _=>rfl) _) ?_|refine Chk.growX 24 3 rfl rfl (by omega) (by omega) (by simp) ?_))
  all_goals(conv=>whnf)
  exact⟨Rd.frzL BL (fun _=>rfl) rfl rfl (by simp) rfl (by simp)⟩
set_option maxHeartbeats 8000000 in
theorem Ew {d:Db}(hs:∀ k,k<7->(prop d k).names.length<=30∧(prop d k).spans.length<=16):∀ k:Nat,k<7->Pu Tryz.prog 50 [dbD d,i64 (k:Int)] (du (prop d k)):=by
 intro k hk;have hn:=lB (prop d k);have h1:=hs k hk;have c1:=DA (l:=(prop d k).names) (by omega);have c2:=DB (l:=(prop d k).spans) (by omega);rcases(by omega:k=0∨k=1∨k=2∨k=3∨k=4∨k=5∨k=6) with rfl|rfl|rfl|rfl|rfl|rfl|rfl
 all_goals
  refine Pu.of_v aA T0 Tryz.func50 rfl rfl (by simp[aJ,aB,aE,aG,aN,aK]) ?_;repeat' ((conv=>whnf)<;>(first|refine sg ?_|exact kQ|(refine Br.mk ?_ ?_<;>intro _<;>try(exfalso;omega))|refine stq ?_|refine Cll.pu (c1) ?_|refine aO.pu (c1) ?_|refine Cll.pu (c2) ?_|refine aO.pu (c2) ?_|(apply Cll.inl aA T0 Tryz.func73 rfl rfl ?_;rotate_left)|exact⟨Or.inr rfl,rfl,rfl⟩|refine bJ.by (id:=4) aA T0 [0,1,3,7,15,0,32,96,224,511,1023,2047] (by kernel_rfl) ?_|refine Chk.mk ⟨_,rfl⟩ ?_|fail))
  all_goals(conv=>whnf)
  exact⟨Rd.eqd rfl hn⟩
end
end Go.Proofs.YtjpgpihbhicinaaGreatDoor
