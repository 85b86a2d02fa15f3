/-
  Opportunities and paragraphs of the program, over data; the statement LinebreakCovers.
-/
import Derived.Test.YtjjbmnacobnfeaaGreatDoorJ5
set_option linter.unusedSectionVars false
namespace Go.Proofs.YtjjbmnacobnfeaaGreatDoor
section
open Go Go.Am Classical
set_option maxRecDepth 100000
def E6 (p:Int→Bool) (A:List Int) (k:Nat):List Int:=
 ((List.range k).filter fun i=>decide (0<i∧i+1<A.length)&&p (A.getD i 0)).map fun i:Nat=>(i:Int)
theorem Fe {p:Int→Bool}{A:List Int}:E6 p A 0=[]:=rfl
theorem FO {p:Int→Bool}{A:List Int}{k:Nat}(h0:0<k) (h1:k+1<A.length) (h:p (A.getD k 0)=true):E6 p A (k+1)=E6 p A k++[(k:Int)]:=by
 unfold E6;have e:(decide (0<k∧k+1<A.length)&&p (A.getD k 0))=true:=by rw[h,decide_eq_true ⟨h0,h1⟩];rfl
 rw[List.range_succ,List.filter_append,List.map_append];simp only[List.filter_cons,e,if_true,List.filter_nil,List.map_cons,List.map_nil]
theorem FP {p:Int→Bool}{A:List Int}{k:Nat}(h:p (A.getD k 0)=false):E6 p A (k+1)=E6 p A k:=by
 unfold E6;rw[List.range_succ,List.filter_append,List.map_append];simp only[h,Bool.and_false,List.filter_cons,List.filter_nil,Bool.false_eq_true,if_false,List.map_nil,List.append_nil]
theorem FJ {p:Int→Bool}{A:List Int}{k:Nat}(h:¬(0<k∧k+1<A.length)):E6 p A (k+1)=E6 p A k:=by
 unfold E6;rw[List.range_succ,List.filter_append,List.map_append];simp only[h,decide_false,Bool.false_and,List.filter_cons,List.filter_nil,Bool.false_eq_true,if_false,List.map_nil,List.append_nil]
theorem FC {p:Int→Bool}{A:List Int}{k:Nat}:(E6 p A k).length≤k:=by
 unfold E6;rw[List.length_map];exact Nat.le_trans (List.length_filter_le _ _) (by simp)
theorem Fl {p:Int→Bool}{A:List Int}{n k:Nat}(hA:A.length=n+1) (_:1≤k) (h2:n≤k) (h3:k≤n∨k=1):E6 p A k=E6 p A A.length:=by
 rw[hA];by_cases h:k=n+1
 ·rw[h]
 ·obtain rfl:k=n:=by omega
  rw[FJ (by omega)]
def F3 (n:Int):Bool:=decide (n=2∨n=3)
section
variable [GT]
theorem F7 (n:Int):Pu Tryz.prog 56 [i64 n] (boo (F3 n)):=by
 unfold F3;refine Pu.of_v aA T0 Tryz.func56 rfl rfl rfl ?_;repeat' ((conv=>whnf)<;>(first|refine aB.go aA T0 ?_|exact kQ|(refine Br.mk (fun _=>?_) (fun _=>?_)<;>(try(exfalso;omega)))|refine stq ?_))
 all_goals(conv=>whnf)
 all_goals first
  | exact aG.yes (by omega)
  | exact aG.no (by omega)
theorem GE {l:List Int}{g:FuncId}{p:Int→Bool}(hf:∀ n,Pu Tryz.prog g [i64 n] (boo (p n))) (hl:l.length≤1001):Pk Tryz.prog 35 [aa l,.fn (.func g) [] []] 1 (fun n=>ai n 1 (E6 p l l.length)) (fun n=>cv n (fun x=>[i64 x]) (E6 p l l.length)):=by
 refine Pk.of_v aA T0 Tryz.func35 rfl rfl (by simp[aJ,aD,aN]) ?_;repeat' ((conv=>whnf)<;>(first|refine aB.go aA T0 ?_|exact kQ|(refine Br.mk (fun _=>?_) (fun _=>?_)<;>(try(exfalso;omega)))|refine stq ?_))
 refine aU.by2 aA T0 (fun(k:Nat) (o:List Int)=>⟨tmp 35 [(0,aa l),(1,.fn (.func g) [] []),(5,ai 0 1 o),(8,aa l),(9,i64 (l.length:Int)),(10,i64 (k:Int))],⟨1,cv 0 (fun x=>[i64 x]) o⟩⟩)
  (fun k o=>k≤l.length∧o=E6 p l k) (fun k _=>l.length-k) 0 [] ⟨by omega,rfl⟩ ?_ ?_
 ·exact Lf.of2 [] [] enA bxA rfl rfl
 intro k o ⟨h3,h4⟩;have hol:o.length≤k:=by rw[h4];exact FC
 by_cases hk:k<l.length
 ·have e0:l.getD k 0=l[k]:=aX hk;by_cases hin:0<k∧k+1<l.length
  ·have hc:=hf l[k];by_cases hp:p l[k]=true
   ·rw[hp] at hc;have hs:=FO (p:=p) (A:=l) hin.1 hin.2 (by rw[e0];exact hp);rw[←h4] at hs;cases o with
    | nil=>
     repeat' ((conv=>whnf)<;>(first|refine aB.go aA T0 ?_|exact kQ|(refine Br.mk (fun _=>?_) (fun _=>?_)<;>(try(exfalso;omega)))|refine stq ?_|refine Cll.pu (hc) ?_|refine aM.pu (hc) ?_))
     all_goals(conv=>whnf)
     refine⟨k+1,[]++[(k:Int)],⟨by omega,hs.symm⟩,by omega,?_⟩;exact Lf.of2 [(0,_)] [] enA bxA rfl rfl
    | cons x xs=>
     have hlen:(x::xs).length≤1001:=by omega
     repeat' ((conv=>whnf)<;>(first|refine aB.go aA T0 ?_|exact kQ|(refine Br.mk (fun _=>?_) (fun _=>?_)<;>(try(exfalso;omega)))|refine stq ?_|refine Cll.pu (hc) ?_|refine aM.pu (hc) ?_))
     all_goals(conv=>whnf)
     refine⟨k+1,_,⟨by omega,hs.symm⟩,by omega,?_⟩;exact Lf.of2 [(0,_)] [] (by repeat(first|exact aI.nil|refine aI.cons rfl (by first|exact Rd.sl' rfl (by simp) (by simp)|exact rdA|fail) ?_)) (by repeat(first|exact Bxs.nil|refine Bxs.cons rfl rfl rfl (by first|exact Rb.cells (Rds.eqs (ax (by intro _;rfl) (x::xs) _) (aE (by intro _;rfl) _)) rfl|exact rbB|exact Rb.cells (by(repeat(first|exact Rds.nil|refine Rds.cons (by first|exact Rd.sl' rfl (by simp) (by simp)|exact rdA|fail) ?_|fail));(first|done|fail)) rfl|exact rbC|fail) ?_)) rfl rfl
   ·have hp':p l[k]=false:=by simpa using hp
    rw[hp'] at hc;have hs:=FP (p:=p) (A:=l) (k:=k) (by rw[e0];exact hp');cases o with
    | nil=>
     repeat' ((conv=>whnf)<;>(first|refine aB.go aA T0 ?_|exact kQ|(refine Br.mk (fun _=>?_) (fun _=>?_)<;>(try(exfalso;omega)))|refine stq ?_|refine Cll.pu (hc) ?_|refine aM.pu (hc) ?_))
     all_goals(conv=>whnf)
     refine⟨k+1,[],⟨by omega,by rw[hs];exact h4⟩,by omega,?_⟩;exact Lf.of2 [] [] enA bxA rfl rfl
    | cons x xs=>
     repeat' ((conv=>whnf)<;>(first|refine aB.go aA T0 ?_|exact kQ|(refine Br.mk (fun _=>?_) (fun _=>?_)<;>(try(exfalso;omega)))|refine stq ?_|refine Cll.pu (hc) ?_|refine aM.pu (hc) ?_))
     all_goals(conv=>whnf)
     refine⟨k+1,x::xs,⟨by omega,by rw[hs];exact h4⟩,by omega,?_⟩;exact Lf.of2 [(0,_)] [] enA bxA rfl rfl
  ·have hs:=FJ (p:=p) (A:=l) hin;cases o with
   | nil=>
    repeat' ((conv=>whnf)<;>(first|refine aB.go aA T0 ?_|exact kQ|(refine Br.mk (fun _=>?_) (fun _=>?_)<;>(try(exfalso;omega)))|refine stq ?_))
    all_goals(conv=>whnf)
    all_goals
     refine⟨k+1,[],⟨by omega,by rw[hs];exact h4⟩,by omega,?_⟩;exact Lf.of2 [] [] enA bxA rfl rfl
   | cons x xs=>
    repeat' ((conv=>whnf)<;>(first|refine aB.go aA T0 ?_|exact kQ|(refine Br.mk (fun _=>?_) (fun _=>?_)<;>(try(exfalso;omega)))|refine stq ?_))
    all_goals(conv=>whnf)
    all_goals
     refine⟨k+1,x::xs,⟨by omega,by rw[hs];exact h4⟩,by omega,?_⟩;exact Lf.of2 [(0,_)] [] enA bxA rfl rfl
 obtain rfl:k=l.length:=by omega
 rw[←h4];cases o with
 | nil=>
  repeat' ((conv=>whnf)<;>(first|refine aB.go aA T0 ?_|exact kQ|(refine Br.mk (fun _=>?_) (fun _=>?_)<;>(try(exfalso;omega)))|refine stq ?_))
  all_goals(conv=>whnf)
  exact⟨[0],rfl,⟨by simp,fun n=>.same rfl,fun n=>.nil⟩⟩
 | cons x xs=>
  repeat' ((conv=>whnf)<;>(first|refine aB.go aA T0 ?_|exact kQ|(refine Br.mk (fun _=>?_) (fun _=>?_)<;>(try(exfalso;omega)))|refine stq ?_))
  all_goals(conv=>whnf)
  exact⟨[0],rfl,⟨by simp,fun n=>Rd.own (by simp) (by simp[sgn]) rfl rfl,fun n=>.cons (id:=0) (by simp[sgn]) rfl rfl (Rb.cells (Rds.same (aE (fun _=>rfl) _)) rfl) .nil⟩⟩
end
end
section
open Go Go.Am Classical
set_option maxRecDepth 100000
noncomputable abbrev F4 (d:Db) (text:List Int):List Int:=E6 F3 (oQ d.lin t4 text) (oQ d.lin t4 text).length
theorem GC {d:Db}{text:List Int}(ho:d.ok) (hs:SmD d) (hv:DbV d) (hx:text.length≤1000):@Pu gtR Tryz.prog 26 [dbD d,aa text] (.tup [aa (F4 d text),i64 0]):=by
 letI:=gtR;have hA:=BV (text:=text) ho hs hv hx;have hl:=vV (p:=d.lin) (text:=text);unfold F4;generalize oQ d.lin t4 text=A at *;refine Pu.of_v aA T0 Tryz.func26 rfl rfl (by simp[aJ,aD,aH,aK,aQ,aP,aN]) ?_;have hI:=GE (l:=A) F7 (by omega);cases he:E6 F3 A A.length with
 | nil=>
  rw[he] at hI;repeat' ((conv=>whnf)<;>(first|refine aB.go aA T0 ?_|exact kQ|(refine Br.mk (fun _=>?_) (fun _=>?_)<;>(try(exfalso;omega)))|refine stq ?_|refine Cll.pu (hA) ?_|refine aM.pu (hA) ?_|refine Cll.pk hI ?_))
  all_goals(conv=>whnf)
  exact⟨.tup (.cons .nil (.cons (.same rfl) .nil))⟩
 | cons x xs=>
  rw[he] at hI;repeat' ((conv=>whnf)<;>(first|refine aB.go aA T0 ?_|exact kQ|(refine Br.mk (fun _=>?_) (fun _=>?_)<;>(try(exfalso;omega)))|refine stq ?_|refine Cll.pu (hA) ?_|refine aM.pu (hA) ?_|refine Cll.pk hI ?_))
  all_goals(conv=>whnf)
  exact⟨.tup (.cons (FQ (b:=x::xs) rfl rfl (ae _) rfl) (.cons (.same rfl) .nil))⟩
theorem opp_no {d:Db}{text:List Int}(ho:d.ok) (hs:SmD d) (hv:¬DbV d):@Pu gtR Tryz.prog 26 [dbD d,aa text] (.tup [aY,i64 11]):=by
 letI:=gtR;have hA:=Do (text:=text) ho hs hv;refine Pu.of_v aA T0 Tryz.func26 rfl rfl (by simp[aJ,aD,aH,aK,aQ,aP,aN]) ?_;repeat' ((conv=>whnf)<;>(first|refine aB.go aA T0 ?_|exact kQ|(refine Br.mk (fun _=>?_) (fun _=>?_)<;>(try(exfalso;omega)))|refine stq ?_|refine Cll.pu (hA) ?_|refine aM.pu (hA) ?_))
 all_goals(conv=>whnf)
 exact⟨Rd.eqd rfl rfl⟩
end
end Go.Proofs.YtjjbmnacobnfeaaGreatDoor
