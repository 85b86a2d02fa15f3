/-
  Opportunities and paragraphs of the program, over data; the statement LinebreakCovers.
-/
import Derived.Test.YtjjbmnacobnfeaaGreatDoorJ5
set_option linter.unusedSectionVars false
namespace Go.Proofs.YtjjbmnacobnfeaaGreatDoor
section
open Go Go.Am Classical
set_option maxRecDepth 100000
def fL (p:Int→Bool) (A:List Int) (k:Nat):List Int:=
 ((List.range k).filter fun i=>decide (0<i∧i+1<A.length)&&p (A.getD i 0)).map fun i:Nat=>(i:Int)
theorem uH {p:Int→Bool}{A:List Int}{k:Nat}(h0:0<k) (h1:k+1<A.length) (h:p (A.getD k 0)=true):fL p A (k+1)=fL p A k++[(k:Int)]:=by
 unfold fL
 have e:(decide (0<k∧k+1<A.length)&&p (A.getD k 0))=true:=by rw[h,decide_eq_true ⟨h0,h1⟩];rfl
 rw[List.range_succ,List.filter_append,List.map_append]
 simp only[List.filter_cons,e,if_true,List.filter_nil,List.map_cons,List.map_nil]
theorem uJ {p:Int→Bool}{A:List Int}{k:Nat}(h:p (A.getD k 0)=false):fL p A (k+1)=fL p A k:=by
 unfold fL
 rw[List.range_succ,List.filter_append,List.map_append]
 simp only[h,Bool.and_false,List.filter_cons,List.filter_nil,Bool.false_eq_true,if_false,List.map_nil,List.append_nil]
theorem uI {p:Int→Bool}{A:List Int}{k:Nat}(h:¬(0<k∧k+1<A.length)):fL p A (k+1)=fL p A k:=by
 unfold fL
 rw[List.range_succ,List.filter_append,List.map_append]
 simp only[h,decide_false,Bool.false_and,List.filter_cons,List.filter_nil,Bool.false_eq_true,if_false,List.map_nil,List.append_nil]
theorem j4 {p:Int→Bool}{A:List Int}{k:Nat}:(fL p A k).length≤k:=by
 unfold fL
 rw[List.length_map]
 exact Nat.le_trans (List.length_filter_le _ _) (by simp)
theorem mK {p:Int→Bool}{A:List Int}{k:Nat}{x:Int}:x∈fL p A k↔∃ i:Nat,x=(i:Int)∧i<k∧0<i∧i+1<A.length∧p (A.getD i 0)=true:=by
 unfold fL
 simp only[List.mem_map,List.mem_filter,List.mem_range,Bool.and_eq_true,decide_eq_true_eq]
 constructor
 ·rintro⟨i,⟨h1,⟨h2,h3⟩,h4⟩,rfl⟩;exact⟨i,rfl,h1,h2,h3,h4⟩
 ·rintro⟨i,rfl,h1,h2,h3,h4⟩;exact⟨i,⟨h1,⟨h2,h3⟩,h4⟩,rfl⟩
theorem pc {p:Int→Bool}{A:List Int}{k:Nat}:(fL p A k).Pairwise (· < ·):=by
 unfold fL
 rw[List.pairwise_map]
 exact(List.Pairwise.filter _ List.pairwise_lt_range).imp fun h=>by omega
theorem xQ [GT]:∀ {l:List Int}{s:Int},(s::l).Pairwise (· < ·)→btw s l=List.zipWith Rng.mk (s::l) l
 | [],s,_=>rfl
 | e::l,s,h=>by
  rw[xP ((List.pairwise_cons.1 h).1 e (by simp)),xQ (List.pairwise_cons.1 h).2]
  rfl
structure CovQ (P:List Rng) (O:List Int) (n:Nat):Prop where
 lo0:∀ h:0<P.length,P[0].lo=0
 lo:∀ i (h:i+1<P.length),P[i+1].lo=P[i].hi
 lt:∀ i (h:i<P.length),P[i].lo<P[i].hi
 le:∀ i (h:i<P.length),P[i].hi≤(n:Int)
 mem:∀ i (h:i<P.length),P[i].hi<(n:Int)→P[i].hi∈O
 asc:O.Pairwise (· < ·)
 last:if h:0<P.length then(P[P.length-1]'(by omega)).hi=(n:Int) else n=0
theorem yd [GT] {A S O:List Int}{n:Nat}(hA:A.length=n+1){p q:Int→Bool}(hpq:∀ x,p x=true→q x=true) (eS:S=fL p A A.length) (eO:O=fL q A A.length) :
  CovQ (btw 0 (S++[(n:Int)])) O n:=by
 have hO:O.Pairwise (· < ·):=eO▸pc
 have hS:S.Pairwise (· < ·):=eS▸pc
 have hm:∀ x∈S,0<x∧x<(n:Int)∧x∈O:=fun x hx=>by
  rw[eS] at hx
  obtain⟨i,rfl,h1,h2,h3,h4⟩:=mK.1 hx
  refine⟨by omega,by omega,?_⟩
  rw[eO]
  exact mK.2 ⟨i,rfl,h1,h2,h3,hpq _ h4⟩
 by_cases hn:n=0
 ·subst hn
  have e0:S=[]:=List.eq_nil_iff_forall_not_mem.2 fun x hx=>by have:=hm x hx;omega
  subst e0
  have e:btw 0 (([]:List Int)++[((0:Nat):Int)])=[]:=rfl
  rw[e]
  exact⟨fun h=>by simp at h,fun i h=>by simp at h,fun i h=>by simp at h,fun i h=>by simp at h,fun i h=>by simp at h,hO,by simp⟩
 ·have hE:(0::(S++[(n:Int)])).Pairwise (· < ·):=by
   rw[List.pairwise_cons,List.pairwise_append]
   refine⟨fun a ha=>?_,hS,by simp,fun a ha b hb=>?_⟩
   ·rcases List.mem_append.1 ha with h|h
    ·exact(hm a h).1
    ·simp at h;omega
   ·simp at hb;have:=(hm a ha).2.1;omega
  rw[xQ hE]
  have hl:(List.zipWith Rng.mk (0::(S++[(n:Int)])) (S++[(n:Int)])).length=S.length+1:=by simp
  have hp:=List.pairwise_iff_getElem.1 hE
  refine⟨fun h=>by simp,fun i h=>by simp,fun i h=>?_,fun i h=>?_,fun i h h2=>?_,hO,?_⟩
  ·have hi:i<S.length+1:=by rw[hl] at h;exact h
   have:=hp i (i+1) (by simp;omega) (by simp;omega) (by omega)
   simpa using this
  ·have hi:i<S.length+1:=by rw[hl] at h;exact h
   simp only[List.getElem_zipWith]
   by_cases hi2:i<S.length
   ·rw[List.getElem_append_left hi2]
    have:=(hm _ (List.getElem_mem hi2)).2.1
    omega
   ·rw[List.getElem_append_right (by omega)]
    simp
  ·have hi:i<S.length+1:=by rw[hl] at h;exact h
   simp only[List.getElem_zipWith] at h2 ⊢
   by_cases hi2:i<S.length
   ·rw[List.getElem_append_left hi2]
    exact(hm _ (List.getElem_mem hi2)).2.2
   ·rw[List.getElem_append_right (by omega)] at h2
    simp at h2
  ·rw[dif_pos (by rw[hl];omega)]
   simp
theorem CF {O:List Int}{k:Nat}{at':Int}(ha:O.Pairwise (· < ·)) (hm:at' ∈ O) (hb:∀ j (h:j<O.length),j<k→O[j]<at') (hk:∀ h:k<O.length,¬O[k]<at'):∃ h:k<O.length,O[k]=at':=by
 obtain⟨m,hml,e⟩:=List.getElem_of_mem hm
 have hkm:k≤m:=by
  by_cases h:k≤m
  ·exact h
  ·have:=hb m hml (by omega);omega
 have h1:k<O.length:=by omega
 refine⟨h1,?_⟩
 have h2:=hk h1
 by_cases h3:k=m
 ·subst h3;exact e
 ·have:=List.pairwise_iff_getElem.1 ha k m h1 hml (by omega)
  omega
def pcs:Int→List Int→List Rng
 | _,[]=>[]
 | s,e::l=>if s=e then pcs e l else⟨s,e⟩::pcs e l
theorem sA {s e:Int}{l:List Int}(h:s=e):pcs s (e::l)=pcs e l:=by rw[pcs,if_pos h]
theorem vP {s e:Int}{l:List Int}(h:¬s=e):pcs s (e::l)=⟨s,e⟩::pcs e l:=by rw[pcs,if_neg h]
theorem we [GT]:∀ {l:List Int}{s:Int},(s::l).Pairwise (·≤·)→pcs s l=btw s l
 | [],_,_=>rfl
 | e::l,s,h=>by
  have h1:=(List.pairwise_cons.1 h).1 e (by simp)
  have ih:=we (List.pairwise_cons.1 h).2
  by_cases he:s=e
  ·subst he;rw[sA rfl,btw_no (by omega),ih]
  ·rw[vP he,xP (by omega),ih]
theorem CT {p:Int→Bool}{A:List Int}{n:Nat}(hA:A.length=n+1):(0::(fL p A A.length++[(n:Int)])).Pairwise (·≤·):=by
 rw[List.pairwise_cons,List.pairwise_append]
 refine⟨fun a ha=>?_,pc.imp fun h=>by omega,by simp,fun a ha b hb=>?_⟩
 ·rcases List.mem_append.1 ha with h|h
  ·obtain⟨i,rfl,h1,h2,h3,h4⟩:=mK.1 h;omega
  ·simp at h;omega
 ·simp at hb
  obtain⟨i,rfl,h1,h2,h3,h4⟩:=mK.1 ha;omega
theorem su:∀ (l:List Int) (s:Int),(btw s l).length≤l.length
 | [],_=>Nat.le_refl _
 | e::l,s=>by
  have h1:=su l e
  have h2:=su l s
  unfold btw
  split<;>simp only[List.length_cons]<;>omega
def yB (n:Int):Bool:=decide (n=2∨n=3)
def x8 (n:Int):Bool:=decide (n=3)
theorem B2 (n:Int) (h:x8 n=true):yB n=true:=by
 simp only[x8,yB,decide_eq_true_eq] at *
 exact .inr h
section
variable [GT]
theorem zm (n:Int):Pu Tryz.prog 56 [i64 n] (boo (yB n)):=by
 unfold yB
 refine Pu.of_v aA T0 Tryz.func56 rfl rfl rfl ?_
 repeat' ((conv=>whnf)<;>(first|refine aB.go aA T0 ?_|exact True.intro|(refine Br.mk (fun _=>?_) (fun _=>?_)<;>(try(exfalso;omega)))|refine stq ?_))
 all_goals(conv=>whnf)
 all_goals first
  | exact aI.yes (by omega)
  | exact aI.no (by omega)
theorem zj (n:Int):Pu Tryz.prog 36 [i64 n] (boo (x8 n)):=by
 unfold x8
 refine Pu.of_v aA T0 Tryz.func36 rfl rfl rfl ?_
 repeat' ((conv=>whnf)<;>(first|refine aB.go aA T0 ?_|exact True.intro|(refine Br.mk (fun _=>?_) (fun _=>?_)<;>(try(exfalso;omega)))|refine stq ?_))
 all_goals(conv=>whnf)
 all_goals first
  | exact aI.yes (by omega)
  | exact aI.no (by omega)
theorem pb {l:List Int}{g:FuncId}{p:Int→Bool}(hf:∀ n,Pu Tryz.prog g [i64 n] (boo (p n))) (hl:l.length≤1001) (he:fL p l l.length=[]):Pu Tryz.prog 35 [aa l,.fn (.func g) [] []] ac:=by
 refine Pu.of_v aA T0 Tryz.func35 rfl rfl (by simp[aM,aD,aN]) ?_
 repeat' ((conv=>whnf)<;>(first|refine aB.go aA T0 ?_|exact True.intro|(refine Br.mk (fun _=>?_) (fun _=>?_)<;>(try(exfalso;omega)))|refine stq ?_))
 refine aT.by2 aA T0 (fun(k:Nat) (o:List Int)=>⟨tmp 35 [(0,aa l),(1,.fn (.func g) [] []),(5,ah 0 1 o),(8,aa l),(9,i64 (l.length:Int)),(10,i64 (k:Int))],⟨1,cj 0 (fun x=>[i64 x]) o⟩⟩)
  (fun k o=>k≤l.length∧o=fL p l k) (fun k _=>l.length-k) 0 [] ⟨by omega,rfl⟩ ?_ ?_
 ·exact Lf.of2 [] [] enA bxA rfl rfl
 intro k o ⟨h3,h4⟩
 have hol:o.length≤k:=by rw[h4];exact j4
 by_cases hk:k<l.length
 ·have e0:l.getD k 0=l[k]:=aW hk
  by_cases hin:0<k∧k+1<l.length
  ·have hc:=hf l[k]
   by_cases hp:p l[k]=true
   ·rw[hp] at hc
    have hs:=uH (p:=p) (A:=l) hin.1 hin.2 (by rw[e0];exact hp)
    rw[←h4] at hs
    cases o with
    | nil=>
     repeat' ((conv=>whnf)<;>(first|refine aB.go aA T0 ?_|exact True.intro|(refine Br.mk (fun _=>?_) (fun _=>?_)<;>(try(exfalso;omega)))|refine stq ?_|refine Cll.pu (hc) ?_|refine aG.pu (hc) ?_))
     all_goals(conv=>whnf)
     refine⟨k+1,[]++[(k:Int)],⟨by omega,hs.symm⟩,by omega,?_⟩
     exact Lf.of2 [(0,_)] [] enA bxA rfl rfl
    | cons x xs=>
     have hlen:(x::xs).length≤1001:=by omega
     repeat' ((conv=>whnf)<;>(first|refine aB.go aA T0 ?_|exact True.intro|(refine Br.mk (fun _=>?_) (fun _=>?_)<;>(try(exfalso;omega)))|refine stq ?_|refine Cll.pu (hc) ?_|refine aG.pu (hc) ?_))
     all_goals(conv=>whnf)
     refine⟨k+1,_,⟨by omega,hs.symm⟩,by omega,?_⟩
     exact Lf.of2 [(0,_)] [] (by(repeat(first|exact aP.nil|refine aP.cons rfl (by first|exact Rd.sl' rfl (by simp) (by simp)|exact rdA|fail) ?_|fail));(first|done|fail)) (by(repeat(first|exact Bxs.nil|refine Bxs.cons rfl rfl rfl (by first|exact Rb.cells (Rds.eqs (ak (by intro _;rfl) (x::xs) _) (aO (by intro _;rfl) _)) rfl|exact rbB|exact Rb.cells (by(repeat(first|exact Rds.nil|refine Rds.cons (by first|exact Rd.sl' rfl (by simp) (by simp)|exact rdA|fail) ?_|fail));(first|done|fail)) rfl|exact rbC|fail) ?_|fail));(first|done|fail)) rfl rfl
   ·have hp':p l[k]=false:=by simpa using hp
    rw[hp'] at hc
    have hs:=uJ (p:=p) (A:=l) (k:=k) (by rw[e0];exact hp')
    cases o with
    | nil=>
     repeat' ((conv=>whnf)<;>(first|refine aB.go aA T0 ?_|exact True.intro|(refine Br.mk (fun _=>?_) (fun _=>?_)<;>(try(exfalso;omega)))|refine stq ?_|refine Cll.pu (hc) ?_|refine aG.pu (hc) ?_))
     all_goals(conv=>whnf)
     refine⟨k+1,[],⟨by omega,by rw[hs];exact h4⟩,by omega,?_⟩
     exact Lf.of2 [] [] enA bxA rfl rfl
    | cons x xs=>
     repeat' ((conv=>whnf)<;>(first|refine aB.go aA T0 ?_|exact True.intro|(refine Br.mk (fun _=>?_) (fun _=>?_)<;>(try(exfalso;omega)))|refine stq ?_|refine Cll.pu (hc) ?_|refine aG.pu (hc) ?_))
     all_goals(conv=>whnf)
     refine⟨k+1,x::xs,⟨by omega,by rw[hs];exact h4⟩,by omega,?_⟩
     exact Lf.of2 [(0,_)] [] enA bxA rfl rfl
  ·have hs:=uI (p:=p) (A:=l) hin
   cases o with
   | nil=>
    repeat' ((conv=>whnf)<;>(first|refine aB.go aA T0 ?_|exact True.intro|(refine Br.mk (fun _=>?_) (fun _=>?_)<;>(try(exfalso;omega)))|refine stq ?_))
    all_goals(conv=>whnf)
    all_goals
     refine⟨k+1,[],⟨by omega,by rw[hs];exact h4⟩,by omega,?_⟩
     exact Lf.of2 [] [] enA bxA rfl rfl
   | cons x xs=>
    repeat' ((conv=>whnf)<;>(first|refine aB.go aA T0 ?_|exact True.intro|(refine Br.mk (fun _=>?_) (fun _=>?_)<;>(try(exfalso;omega)))|refine stq ?_))
    all_goals(conv=>whnf)
    all_goals
     refine⟨k+1,x::xs,⟨by omega,by rw[hs];exact h4⟩,by omega,?_⟩
     exact Lf.of2 [(0,_)] [] enA bxA rfl rfl
 obtain rfl:k=l.length:=by omega
 ·obtain rfl:o=[]:=by rw[h4,he]
  repeat' ((conv=>whnf)<;>(first|refine aB.go aA T0 ?_|exact True.intro|(refine Br.mk (fun _=>?_) (fun _=>?_)<;>(try(exfalso;omega)))|refine stq ?_))
  all_goals(conv=>whnf)
  exact aI.same rfl rfl
theorem pa {l:List Int}{g:FuncId}{p:Int→Bool}(hf:∀ n,Pu Tryz.prog g [i64 n] (boo (p n))) (hl:l.length≤1001){x:Int}{xs:List Int}(he:fL p l l.length=x::xs):Pk Tryz.prog 35 [aa l,.fn (.func g) [] []] 1 (fun n=>ah n 1 (x::xs)) (fun n=>cj n (fun x=>[i64 x]) (x::xs)):=by
 refine Pk.of_v aA T0 Tryz.func35 rfl rfl (by simp[aM,aD,aN]) ?_
 repeat' ((conv=>whnf)<;>(first|refine aB.go aA T0 ?_|exact True.intro|(refine Br.mk (fun _=>?_) (fun _=>?_)<;>(try(exfalso;omega)))|refine stq ?_))
 refine aT.by2 aA T0 (fun(k:Nat) (o:List Int)=>⟨tmp 35 [(0,aa l),(1,.fn (.func g) [] []),(5,ah 0 1 o),(8,aa l),(9,i64 (l.length:Int)),(10,i64 (k:Int))],⟨1,cj 0 (fun x=>[i64 x]) o⟩⟩)
  (fun k o=>k≤l.length∧o=fL p l k) (fun k _=>l.length-k) 0 [] ⟨by omega,rfl⟩ ?_ ?_
 ·exact Lf.of2 [] [] enA bxA rfl rfl
 intro k o ⟨h3,h4⟩
 have hol:o.length≤k:=by rw[h4];exact j4
 by_cases hk:k<l.length
 ·have e0:l.getD k 0=l[k]:=aW hk
  by_cases hin:0<k∧k+1<l.length
  ·have hc:=hf l[k]
   by_cases hp:p l[k]=true
   ·rw[hp] at hc
    have hs:=uH (p:=p) (A:=l) hin.1 hin.2 (by rw[e0];exact hp)
    rw[←h4] at hs
    cases o with
    | nil=>
     repeat' ((conv=>whnf)<;>(first|refine aB.go aA T0 ?_|exact True.intro|(refine Br.mk (fun _=>?_) (fun _=>?_)<;>(try(exfalso;omega)))|refine stq ?_|refine Cll.pu (hc) ?_|refine aG.pu (hc) ?_))
     all_goals(conv=>whnf)
     refine⟨k+1,[]++[(k:Int)],⟨by omega,hs.symm⟩,by omega,?_⟩
     exact Lf.of2 [(0,_)] [] enA bxA rfl rfl
    | cons x xs=>
     have hlen:(x::xs).length≤1001:=by omega
     repeat' ((conv=>whnf)<;>(first|refine aB.go aA T0 ?_|exact True.intro|(refine Br.mk (fun _=>?_) (fun _=>?_)<;>(try(exfalso;omega)))|refine stq ?_|refine Cll.pu (hc) ?_|refine aG.pu (hc) ?_))
     all_goals(conv=>whnf)
     refine⟨k+1,_,⟨by omega,hs.symm⟩,by omega,?_⟩
     exact Lf.of2 [(0,_)] [] (by(repeat(first|exact aP.nil|refine aP.cons rfl (by first|exact Rd.sl' rfl (by simp) (by simp)|exact rdA|fail) ?_|fail));(first|done|fail)) (by(repeat(first|exact Bxs.nil|refine Bxs.cons rfl rfl rfl (by first|exact Rb.cells (Rds.eqs (ak (by intro _;rfl) (x::xs) _) (aO (by intro _;rfl) _)) rfl|exact rbB|exact Rb.cells (by(repeat(first|exact Rds.nil|refine Rds.cons (by first|exact Rd.sl' rfl (by simp) (by simp)|exact rdA|fail) ?_|fail));(first|done|fail)) rfl|exact rbC|fail) ?_|fail));(first|done|fail)) rfl rfl
   ·have hp':p l[k]=false:=by simpa using hp
    rw[hp'] at hc
    have hs:=uJ (p:=p) (A:=l) (k:=k) (by rw[e0];exact hp')
    cases o with
    | nil=>
     repeat' ((conv=>whnf)<;>(first|refine aB.go aA T0 ?_|exact True.intro|(refine Br.mk (fun _=>?_) (fun _=>?_)<;>(try(exfalso;omega)))|refine stq ?_|refine Cll.pu (hc) ?_|refine aG.pu (hc) ?_))
     all_goals(conv=>whnf)
     refine⟨k+1,[],⟨by omega,by rw[hs];exact h4⟩,by omega,?_⟩
     exact Lf.of2 [] [] enA bxA rfl rfl
    | cons x xs=>
     repeat' ((conv=>whnf)<;>(first|refine aB.go aA T0 ?_|exact True.intro|(refine Br.mk (fun _=>?_) (fun _=>?_)<;>(try(exfalso;omega)))|refine stq ?_|refine Cll.pu (hc) ?_|refine aG.pu (hc) ?_))
     all_goals(conv=>whnf)
     refine⟨k+1,x::xs,⟨by omega,by rw[hs];exact h4⟩,by omega,?_⟩
     exact Lf.of2 [(0,_)] [] enA bxA rfl rfl
  ·have hs:=uI (p:=p) (A:=l) hin
   cases o with
   | nil=>
    repeat' ((conv=>whnf)<;>(first|refine aB.go aA T0 ?_|exact True.intro|(refine Br.mk (fun _=>?_) (fun _=>?_)<;>(try(exfalso;omega)))|refine stq ?_))
    all_goals(conv=>whnf)
    all_goals
     refine⟨k+1,[],⟨by omega,by rw[hs];exact h4⟩,by omega,?_⟩
     exact Lf.of2 [] [] enA bxA rfl rfl
   | cons x xs=>
    repeat' ((conv=>whnf)<;>(first|refine aB.go aA T0 ?_|exact True.intro|(refine Br.mk (fun _=>?_) (fun _=>?_)<;>(try(exfalso;omega)))|refine stq ?_))
    all_goals(conv=>whnf)
    all_goals
     refine⟨k+1,x::xs,⟨by omega,by rw[hs];exact h4⟩,by omega,?_⟩
     exact Lf.of2 [(0,_)] [] enA bxA rfl rfl
 obtain rfl:k=l.length:=by omega
 ·obtain rfl:o=x::xs:=by rw[h4,he]
  repeat' ((conv=>whnf)<;>(first|refine aB.go aA T0 ?_|exact True.intro|(refine Br.mk (fun _=>?_) (fun _=>?_)<;>(try(exfalso;omega)))|refine stq ?_))
  all_goals(conv=>whnf)
  exact⟨[0],rfl,⟨by simp,fun n=>Rd.own (by simp) (by simp[sgn]) rfl rfl,fun n=>.cons (id:=0) (by simp[sgn]) rfl rfl (Rb.cells (Rds.same (aO (fun _=>rfl) _)) rfl) .nil⟩⟩
end
end
section
open Go Go.Am Classical
set_option maxRecDepth 100000
theorem DX [GT] {h:aC}{fz:Nat→Bool}{σ:Nat→Option Nat}{id n cap:Nat}{b:List Rng}{cs:List D}{ex bx:Bool}(hf:fz id=true) (hg:h.get id=some (.cells cs bx)) (ec:cs=b.flatMap cY) (e:n=b.length):Rd h fz σ (.sl id 0 n cap 2 ex) (dQ b):=by
 subst e;subst ec
 refine .frz hf hg (by rw[am (sz:=2) (fun _=>rfl)];omega) (.eqs ?_ (aO (fun _=>rfl) _))
 rw[List.drop_zero,List.take_of_length_le (by rw[am (sz:=2) (fun _=>rfl)];exact Nat.le_refl _)]
theorem xX (l:List Int) (x:Int):((l.flatMap fun x=>[i64 x]).drop 0).take (l.length*1)++[i64 x]=(l++[x]).map i64:=by
 rw[ak (c:=fun x=>[i64 x]) (sz:=1) (fun _=>rfl) l x,ad]
noncomputable abbrev zl (d:Db) (text:List Int):List Int:=fL yB (iY d.lin t4 text) (iY d.lin t4 text).length
noncomputable abbrev x7 (d:Db) (text:List Int):List Int:=fL x8 (iY d.lin t4 text) (iY d.lin t4 text).length
noncomputable abbrev vR (d:Db) (text:List Int):List Rng:=btw 0 (x7 d text++[(text.length:Int)])
theorem B7 {d:Db}{text:List Int}(ho:d.ok) (hs:SmD d) (hv:DbV d) (hx:text.length≤1000):@Pu gtR Tryz.prog 26 [dbD d,aa text] (.tup [aa (zl d text),i64 0]):=by
 letI:=gtR
 have hA:=mH (text:=text) ho hs hv hx
 have hl:=gP (p:=d.lin) (text:=text)
 unfold zl
 generalize iY d.lin t4 text=A at *
 refine Pu.of_v aA T0 Tryz.func26 rfl rfl (by simp[aM,aD,aF,aH,aK,aJ,aN]) ?_
 cases he:fL yB A A.length with
 | nil=>
  have hI:=pb zm (by omega) he
  repeat' ((conv=>whnf)<;>(first|refine aB.go aA T0 ?_|exact True.intro|(refine Br.mk (fun _=>?_) (fun _=>?_)<;>(try(exfalso;omega)))|refine stq ?_|refine Cll.pu (hA) ?_|refine aG.pu (hA) ?_|refine Cll.pu (hI) ?_|refine aG.pu (hI) ?_))
  all_goals(conv=>whnf)
  exact⟨.tup (.cons .nil (.cons (.same rfl) .nil))⟩
 | cons x xs=>
  have hI:=pa zm (by omega) he
  repeat' ((conv=>whnf)<;>(first|refine aB.go aA T0 ?_|exact True.intro|(refine Br.mk (fun _=>?_) (fun _=>?_)<;>(try(exfalso;omega)))|refine stq ?_|refine Cll.pu (hA) ?_|refine aG.pu (hA) ?_|refine Cll.pk hI ?_))
  all_goals(conv=>whnf)
  exact⟨.tup (.cons (mP (b:=x::xs) rfl rfl (ad _) rfl) (.cons (.same rfl) .nil))⟩
theorem opp_no {d:Db}{text:List Int}(ho:d.ok) (hs:SmD d) (hv:¬DbV d):@Pu gtR Tryz.prog 26 [dbD d,aa text] (.tup [ac,i64 11]):=by
 letI:=gtR
 have hA:=ww (text:=text) ho hs hv
 refine Pu.of_v aA T0 Tryz.func26 rfl rfl (by simp[aM,aD,aF,aH,aK,aJ,aN]) ?_
 repeat' ((conv=>whnf)<;>(first|refine aB.go aA T0 ?_|exact True.intro|(refine Br.mk (fun _=>?_) (fun _=>?_)<;>(try(exfalso;omega)))|refine stq ?_|refine Cll.pu (hA) ?_|refine aG.pu (hA) ?_))
 all_goals(conv=>whnf)
 exact⟨Rd.eqd rfl rfl⟩
theorem par_no {d:Db}{text:List Int}(ho:d.ok) (hs:SmD d) (hv:¬DbV d):@Pu gtR Tryz.prog 15 [dbD d,aa text] (.tup [ac,i64 11]):=by
 letI:=gtR
 have hA:=ww (text:=text) ho hs hv
 refine Pu.of_v aA T0 Tryz.func15 rfl rfl (by simp[aM,aD,aF,aH,aK,aJ,aN]) ?_
 repeat' ((conv=>whnf)<;>(first|refine aB.go aA T0 ?_|exact True.intro|(refine Br.mk (fun _=>?_) (fun _=>?_)<;>(try(exfalso;omega)))|refine stq ?_|refine Cll.pu (hA) ?_|refine aG.pu (hA) ?_))
 all_goals(conv=>whnf)
 exact⟨Rd.eqd rfl rfl⟩
theorem jo [GT] {a b c:Int}{ox oy:Operand}(h:b=c):cK Tryz.prog .neq 51 ox oy (.agg [i64 a,i64 b]) (.agg [i64 a,i64 c])=some (.v (.bool false)):=by
 subst h;exact iy
set_option maxHeartbeats 8000000 in
theorem B0 {d:Db}{text:List Int}(ho:d.ok) (hs:SmD d) (hv:DbV d) (hx:text.length≤999):@Pu gtR Tryz.prog 15 [dbD d,aa text] (.tup [dQ (vR d text),i64 0]):=by
 letI:=gtR
 have hA:=mH (text:=text) ho hs hv (by omega)
 have hl:=gP (p:=d.lin) (text:=text)
 have hR:pcs 0 (x7 d text++[(text.length:Int)])=vR d text:=we (CT hl)
 have hSl:(x7 d text).length≤1000:=Nat.le_trans j4 (by omega)
 unfold x7 at hR hSl
 generalize vR d text=R at *
 generalize iY d.lin t4 text=A at *
 refine Pu.of_v aA T0 Tryz.func15 rfl rfl (by simp[aM,aD,aF,aH,aK,aJ,aN]) ?_
 cases he:fL x8 A A.length with
 | nil=>
  have hI:=pb zj (by omega) he
  rw[he] at hR
  obtain⟨E,hE⟩:∃ E,E=([]:List Int)++[(text.length:Int)]:=⟨_,rfl⟩
  rw[←hE] at hR
  have hEl:E.length=1:=by rw[hE];rfl
  repeat' ((conv=>whnf)<;>(first|refine aB.go aA T0 ?_|exact True.intro|(refine Br.mk (fun _=>?_) (fun _=>?_)<;>(try(exfalso;omega)))|refine stq ?_|refine Cll.pu (hA) ?_|refine aG.pu (hA) ?_|refine Cll.pu (hI) ?_|refine aG.pu (hI) ?_|fail))
  refine aT.by3 aA T0 (fun(k:Nat) (s:Int) (o:List Rng)=>⟨tmp 52 [(9,ah 0 2 o),(10,i64 s),(30,aa E),(31,i64 (E.length:Int)),(32,i64 (k:Int))],⟨1,cj 0 cY o⟩⟩)
   (fun k s o=>(k≤E.length∧o.length≤k)∧pcs 0 E=o++pcs s (E.drop k)) (fun k _ _=>E.length-k) 0 0 [] ⟨⟨by omega,by simp⟩,rfl⟩ ?_ ?_
  ·exact Lf.of2 [] [18,19,20,21,22,23,24,25,26,27] (by(repeat(first|exact aP.nil|refine aP.cons rfl (by first|exact mP rfl rfl (by rw[hE];rfl) (by omega)|exact rdA|fail) ?_|fail));(first|done|fail)) (by(repeat(first|exact Bxs.nil|refine Bxs.cons rfl rfl rfl (by first|exact rbB|exact Rb.cells (by(repeat(first|exact Rds.nil|refine Rds.cons (by first|exact mP rfl rfl (by rw[hE];rfl) (by omega)|exact rdA|fail) ?_|fail));(first|done|fail)) rfl|exact rbC|fail) ?_|fail));(first|done|fail)) rfl rfl
  intro k s o ⟨⟨h3,h5⟩,h4⟩
  by_cases hk:k<E.length
  ·have ed:E.drop k=E[k]::E.drop (k+1):=List.drop_eq_getElem_cons hk
   by_cases hse:s=E[k]
   ·rw[ed,sA hse] at h4
    cases o with
    | nil=>
     repeat' ((conv=>whnf)<;>(first|refine aB.go aA T0 ?_|exact True.intro|(refine Br.mk (fun _=>?_) (fun _=>?_)<;>(try(exfalso;omega)))|refine stq ?_|(split<;>rename_i heq<;>first|(obtain rfl:=Option.some.inj ((jo hse.symm).symm.trans heq))|exact absurd ((jo hse.symm).symm.trans heq) (by simp))))
     all_goals(conv=>whnf)
     refine⟨k+1,E[k],[],⟨⟨by omega,by simp⟩,h4⟩,by omega,?_⟩
     exact Lf.of2 [] [] enA bxA rfl rfl
    | cons x xs=>
     repeat' ((conv=>whnf)<;>(first|refine aB.go aA T0 ?_|exact True.intro|(refine Br.mk (fun _=>?_) (fun _=>?_)<;>(try(exfalso;omega)))|refine stq ?_|(split<;>rename_i heq<;>first|(obtain rfl:=Option.some.inj ((jo hse.symm).symm.trans heq))|exact absurd ((jo hse.symm).symm.trans heq) (by simp))))
     all_goals(conv=>whnf)
     refine⟨k+1,E[k],x::xs,⟨⟨by omega,by omega⟩,h4⟩,by omega,?_⟩
     exact Lf.of2 [(0,_)] [] enA bxA rfl rfl
   ·have hne:¬(s=s∧E[k]=s):=fun h=>hse h.2.symm
    rw[ed,vP hse] at h4
    cases o with
    | nil=>
     repeat' ((conv=>whnf)<;>(first|refine aB.go aA T0 ?_|exact True.intro|(refine Br.mk (fun _=>?_) (fun _=>?_)<;>(try(exfalso;omega)))|refine stq ?_|(split<;>rename_i heq<;>first|(obtain rfl:=Option.some.inj ((jn hne).symm.trans heq))|exact absurd ((jn hne).symm.trans heq) (by simp))))
     all_goals(conv=>whnf)
     refine⟨k+1,E[k],[⟨s,E[k]⟩],⟨⟨by omega,by simp⟩,h4⟩,by omega,?_⟩
     exact Lf.of2 [(0,_)] [] enA bxA rfl rfl
    | cons x xs=>
     have hlen:(x::xs).length≤1001:=by omega
     repeat' ((conv=>whnf)<;>(first|refine aB.go aA T0 ?_|exact True.intro|(refine Br.mk (fun _=>?_) (fun _=>?_)<;>(try(exfalso;omega)))|refine stq ?_|(split<;>rename_i heq<;>first|(obtain rfl:=Option.some.inj ((jn hne).symm.trans heq))|exact absurd ((jn hne).symm.trans heq) (by simp))))
     all_goals(conv=>whnf)
     refine⟨k+1,E[k],(x::xs)++[⟨s,E[k]⟩],⟨⟨by omega,by rw[List.length_append];simp only[List.length_singleton];omega⟩,by rw[h4,List.append_assoc];rfl⟩,by omega,?_⟩
     exact Lf.of2 [(0,_)] [] (by(repeat(first|exact aP.nil|refine aP.cons rfl (by first|exact Rd.sl' rfl (by simp) (by simp)|exact rdA|fail) ?_|fail));(first|done|fail)) (by(repeat(first|exact Bxs.nil|refine Bxs.cons rfl rfl rfl (by first|exact Rb.cells (Rds.eqs (ak (c:=cY) (sz:=2) (by intro _;rfl) (x::xs) (⟨s,E[k]⟩:Rng)) (aO (by intro _;rfl) _)) rfl|exact rbB|exact Rb.cells (by(repeat(first|exact Rds.nil|refine Rds.cons (by first|exact Rd.sl' rfl (by simp) (by simp)|exact rdA|fail) ?_|fail));(first|done|fail)) rfl|exact rbC|fail) ?_|fail));(first|done|fail)) rfl rfl
  ·rw[List.drop_of_length_le (by omega),pcs,List.append_nil] at h4
   rw[←hR,h4]
   cases o with
   | nil=>
    repeat' ((conv=>whnf)<;>(first|refine aB.go aA T0 ?_|exact True.intro|(refine Br.mk (fun _=>?_) (fun _=>?_)<;>(try(exfalso;omega)))|refine stq ?_))
    all_goals(conv=>whnf)
    exact⟨.tup (.cons .nil (.cons (.same rfl) .nil))⟩
   | cons x xs=>
    repeat' ((conv=>whnf)<;>(first|refine aB.go aA T0 ?_|exact True.intro|(refine Br.mk (fun _=>?_) (fun _=>?_)<;>(try(exfalso;omega)))|refine stq ?_))
    all_goals(conv=>whnf)
    exact⟨.tup (.cons (DX (b:=x::xs) rfl rfl rfl rfl) (.cons (.same rfl) .nil))⟩
 | cons x xs=>
  have hI:=pa zj (by omega) he
  rw[he] at hR hSl
  obtain⟨E,hE⟩:∃ E,E=(x::xs)++[(text.length:Int)]:=⟨_,rfl⟩
  rw[←hE] at hR
  have hEl:E.length=(x::xs).length+1:=by rw[hE];simp
  have hxl:(x::xs).length=xs.length+1:=rfl
  repeat' ((conv=>whnf)<;>(first|refine aB.go aA T0 ?_|exact True.intro|(refine Br.mk (fun _=>?_) (fun _=>?_)<;>(try(exfalso;omega)))|refine stq ?_|refine Cll.pu (hA) ?_|refine aG.pu (hA) ?_|refine Cll.pk hI ?_|fail))
  refine aT.by3 aA T0 (fun(k:Nat) (s:Int) (o:List Rng)=>⟨tmp 52 [(9,ah 0 2 o),(10,i64 s),(30,aa E),(31,i64 (E.length:Int)),(32,i64 (k:Int))],⟨1,cj 0 cY o⟩⟩)
   (fun k s o=>(k≤E.length∧o.length≤k)∧pcs 0 E=o++pcs s (E.drop k)) (fun k _ _=>E.length-k) 0 0 [] ⟨⟨by omega,by simp⟩,rfl⟩ ?_ ?_
  ·exact Lf.of2 [] [18,19,20,21,22,23,24,25,26,27] (by(repeat(first|exact aP.nil|refine aP.cons rfl (by first|exact mP rfl rfl (by rw[hE];exact xX (x::xs) _) (by simp[hE])|exact rdA|fail) ?_|fail));(first|done|fail)) (by(repeat(first|exact Bxs.nil|refine Bxs.cons rfl rfl rfl (by first|exact rbB|exact Rb.cells (by(repeat(first|exact Rds.nil|refine Rds.cons (by first|exact mP rfl rfl (by rw[hE];exact xX (x::xs) _) (by simp[hE])|exact rdA|fail) ?_|fail));(first|done|fail)) rfl|exact rbC|fail) ?_|fail));(first|done|fail)) rfl rfl
  intro k s o ⟨⟨h3,h5⟩,h4⟩
  by_cases hk:k<E.length
  ·have ed:E.drop k=E[k]::E.drop (k+1):=List.drop_eq_getElem_cons hk
   by_cases hse:s=E[k]
   ·rw[ed,sA hse] at h4
    cases o with
    | nil=>
     repeat' ((conv=>whnf)<;>(first|refine aB.go aA T0 ?_|exact True.intro|(refine Br.mk (fun _=>?_) (fun _=>?_)<;>(try(exfalso;omega)))|refine stq ?_|(split<;>rename_i heq<;>first|(obtain rfl:=Option.some.inj ((jo hse.symm).symm.trans heq))|exact absurd ((jo hse.symm).symm.trans heq) (by simp))))
     all_goals(conv=>whnf)
     refine⟨k+1,E[k],[],⟨⟨by omega,by simp⟩,h4⟩,by omega,?_⟩
     exact Lf.of2 [] [] enA bxA rfl rfl
    | cons x xs=>
     repeat' ((conv=>whnf)<;>(first|refine aB.go aA T0 ?_|exact True.intro|(refine Br.mk (fun _=>?_) (fun _=>?_)<;>(try(exfalso;omega)))|refine stq ?_|(split<;>rename_i heq<;>first|(obtain rfl:=Option.some.inj ((jo hse.symm).symm.trans heq))|exact absurd ((jo hse.symm).symm.trans heq) (by simp))))
     all_goals(conv=>whnf)
     refine⟨k+1,E[k],x::xs,⟨⟨by omega,by omega⟩,h4⟩,by omega,?_⟩
     exact Lf.of2 [(0,_)] [] enA bxA rfl rfl
   ·have hne:¬(s=s∧E[k]=s):=fun h=>hse h.2.symm
    rw[ed,vP hse] at h4
    cases o with
    | nil=>
     repeat' ((conv=>whnf)<;>(first|refine aB.go aA T0 ?_|exact True.intro|(refine Br.mk (fun _=>?_) (fun _=>?_)<;>(try(exfalso;omega)))|refine stq ?_|(split<;>rename_i heq<;>first|(obtain rfl:=Option.some.inj ((jn hne).symm.trans heq))|exact absurd ((jn hne).symm.trans heq) (by simp))))
     all_goals(conv=>whnf)
     refine⟨k+1,E[k],[⟨s,E[k]⟩],⟨⟨by omega,by simp⟩,h4⟩,by omega,?_⟩
     exact Lf.of2 [(0,_)] [] enA bxA rfl rfl
    | cons x xs=>
     have hlen:(x::xs).length≤1001:=by omega
     repeat' ((conv=>whnf)<;>(first|refine aB.go aA T0 ?_|exact True.intro|(refine Br.mk (fun _=>?_) (fun _=>?_)<;>(try(exfalso;omega)))|refine stq ?_|(split<;>rename_i heq<;>first|(obtain rfl:=Option.some.inj ((jn hne).symm.trans heq))|exact absurd ((jn hne).symm.trans heq) (by simp))))
     all_goals(conv=>whnf)
     refine⟨k+1,E[k],(x::xs)++[⟨s,E[k]⟩],⟨⟨by omega,by rw[List.length_append];simp only[List.length_singleton];omega⟩,by rw[h4,List.append_assoc];rfl⟩,by omega,?_⟩
     exact Lf.of2 [(0,_)] [] (by(repeat(first|exact aP.nil|refine aP.cons rfl (by first|exact Rd.sl' rfl (by simp) (by simp)|exact rdA|fail) ?_|fail));(first|done|fail)) (by(repeat(first|exact Bxs.nil|refine Bxs.cons rfl rfl rfl (by first|exact Rb.cells (Rds.eqs (ak (c:=cY) (sz:=2) (by intro _;rfl) (x::xs) (⟨s,E[k]⟩:Rng)) (aO (by intro _;rfl) _)) rfl|exact rbB|exact Rb.cells (by(repeat(first|exact Rds.nil|refine Rds.cons (by first|exact Rd.sl' rfl (by simp) (by simp)|exact rdA|fail) ?_|fail));(first|done|fail)) rfl|exact rbC|fail) ?_|fail));(first|done|fail)) rfl rfl
  ·rw[List.drop_of_length_le (by omega),pcs,List.append_nil] at h4
   rw[←hR,h4]
   cases o with
   | nil=>
    repeat' ((conv=>whnf)<;>(first|refine aB.go aA T0 ?_|exact True.intro|(refine Br.mk (fun _=>?_) (fun _=>?_)<;>(try(exfalso;omega)))|refine stq ?_))
    all_goals(conv=>whnf)
    exact⟨.tup (.cons .nil (.cons (.same rfl) .nil))⟩
   | cons x xs=>
    repeat' ((conv=>whnf)<;>(first|refine aB.go aA T0 ?_|exact True.intro|(refine Br.mk (fun _=>?_) (fun _=>?_)<;>(try(exfalso;omega)))|refine stq ?_))
    all_goals(conv=>whnf)
    exact⟨.tup (.cons (DX (b:=x::xs) rfl rfl rfl rfl) (.cons (.same rfl) .nil))⟩
set_option maxHeartbeats 8000000 in
theorem cov_c {d:Db}{text:List Int}(ho:d.ok) (hx:text.length≤9223372036854775807):@Pu gtR Tryz.prog 9 [dbD d,aa text] (boo true):=by
 letI:=gtR
 have hal:=oT
 by_cases hs:SmD d
 ·have hS:=kJ ho hs
  obtain⟨e,he,hi⟩:=eX ho hs
  by_cases h40:text.length≤40
  ·by_cases hv:DbV d
   ·obtain rfl:=hi.2 hv
    have h1:=B0 (text:=text) ho hs hv (by omega)
    have h2:=B7 (text:=text) ho hs hv (by omega)
    have hOl:(zl d text).length≤1000:=Nat.le_trans j4 (by rw[gP];omega)
    have hPl:(vR d text).length≤1000:=by
     have h8:(x7 d text).length≤(iY d.lin t4 text).length:=j4
     have h9:(vR d text).length≤(x7 d text++[(text.length:Int)]).length:=su _ _
     rw[gP] at h8
     rw[List.length_append] at h9
     simp only[List.length_singleton] at h9
     omega
    have hC:CovQ (vR d text) (zl d text) text.length:=yd gP B2 rfl rfl
    generalize vR d text=P at *
    generalize zl d text=O at *
    refine Pu.of_v aA T0 Tryz.func9 rfl rfl (by simp[aM,aD,aF,aH,aK,aJ,aN]) ?_
    repeat' ((conv=>whnf)<;>(first|refine aB.go aA T0 ?_|exact True.intro|(refine Br.mk (fun _=>?_) (fun _=>?_)<;>(try(exfalso;omega)))|refine stq ?_|refine Cll.pu (hS) ?_|refine aG.pu (hS) ?_|refine Cll.pu (he) ?_|refine aG.pu (he) ?_|refine Cll.pu (h1) ?_|refine aG.pu (h1) ?_|refine Cll.pu (h2) ?_|refine aG.pu (h2) ?_|fail))
    refine aT.by3 aA T0 (fun(i k:Nat) (a:Int)=>⟨tmp 137 [(1,aa text),(5,dQ P),(7,aa O),(9,i64 a),(10,i64 (k:Int)),(11,i64 (i:Int))],⟨0,[]⟩⟩)
     (fun i k a=>(i≤P.length∧k≤O.length)∧(i=0→a=0)∧(∀ j (h:j<P.length),i=j+1→a=P[j].hi)∧∀ j (h:j<O.length),j<k→O[j]<a) (fun i _ _=>P.length-i) 0 0 0 ⟨by omega,fun _=>rfl,fun j _ h=>by omega,fun j _ h=>by omega⟩ ?_ ?_
    ·exact Lf.of2 [] [] enA bxA rfl rfl
    intro i k a ⟨⟨h3,h4⟩,h5,h6,h7⟩
    by_cases hk:i<P.length
    ·have hlo:P[i].lo=a:=by
      by_cases hi0:i=0
      ·subst hi0;rw[h5 rfl];exact hC.lo0 hk
      ·obtain⟨j,rfl⟩:∃ j,i=j+1:=⟨i-1,by omega⟩
       rw[h6 j (by omega) rfl];exact hC.lo j hk
     have hlt:=hC.lt i hk
     have hle:=hC.le i hk
     have hme:=hC.mem i hk
     repeat' ((conv=>whnf)<;>(first|refine Idx.atS (sz:=2) (c:=cY) (fun _=>rfl) i (by omega) (by omega) ?_|refine aB.go aA T0 ?_|exact True.intro|(refine Br.mk (fun _=>?_) (fun _=>?_)<;>(try(exfalso;omega)))|refine stq ?_|fail))
     refine aT.by aA T0 (fun k:Nat=>⟨tmp 137 [(1,aa text),(5,dQ P),(7,aa O),(9,i64 P[i].hi),(10,i64 (k:Int)),(11,i64 (i:Int))],⟨0,[]⟩⟩)
      (fun k=>k≤O.length∧∀ j (h:j<O.length),j<k→O[j]<P[i].hi) (fun k=>O.length-k) k ⟨h4,fun j h hj=>by have:=h7 j h hj;omega⟩ ?_ ?_
     ·exact Lf.of2 [] [] enA bxA rfl rfl
     intro k ⟨h8,h9⟩
     by_cases hko:k<O.length∧∀ h:k<O.length,O[k]<P[i].hi
     ·have hkl:=hko.1
      have hkv:=hko.2 hkl
      repeat' ((conv=>whnf)<;>(first|refine Idx.at (f:=i64) (l:=O) k (by omega) (by omega) ?_|refine aB.go aA T0 ?_|exact True.intro|(refine Br.mk (fun _=>?_) (fun _=>?_)<;>(try(exfalso;omega)))|refine stq ?_))
      all_goals(conv=>whnf)
      refine⟨k+1,⟨by omega,fun j h hj=>by
       by_cases hjk:j=k
       ·subst hjk;exact hkv
       ·exact h9 j h (by omega)⟩,by omega,?_⟩
      exact Lf.of2 [] [] enA bxA rfl rfl
     ·have hnx:P[i].hi<(text.length:Int)→∃ h:k<O.length,O[k]=P[i].hi:=fun h=>CF hC.asc (hme h) h9 (fun hkl hlt'=>hko ⟨hkl,fun _=>hlt'⟩)
      by_cases hend:P[i].hi<(text.length:Int)
      ·obtain⟨hkl,hkv⟩:=hnx hend
       repeat' ((conv=>whnf)<;>(first|refine Idx.at (f:=i64) (l:=O) k (by omega) (by omega) ?_|refine aB.go aA T0 ?_|exact True.intro|(refine Br.mk (fun _=>?_) (fun _=>?_)<;>(try(exfalso;omega)))|refine stq ?_))
       all_goals(conv=>whnf)
       refine⟨i+1,k,P[i].hi,⟨⟨by omega,by omega⟩,fun h=>by omega,fun j h hj=>by(cases(show j=i from by omega));rfl,h9⟩,by omega,?_⟩
       exact Lf.of2 [] [] enA bxA rfl rfl
      ·by_cases hkl:k<O.length
       ·have hkv:¬O[k]<P[i].hi:=fun h=>hko ⟨hkl,fun _=>h⟩
        repeat' ((conv=>whnf)<;>(first|refine Idx.at (f:=i64) (l:=O) k (by omega) (by omega) ?_|refine aB.go aA T0 ?_|exact True.intro|(refine Br.mk (fun _=>?_) (fun _=>?_)<;>(try(exfalso;omega)))|refine stq ?_))
        all_goals(conv=>whnf)
        refine⟨i+1,k,P[i].hi,⟨⟨by omega,by omega⟩,fun h=>by omega,fun j h hj=>by(cases(show j=i from by omega));rfl,h9⟩,by omega,?_⟩
        exact Lf.of2 [] [] enA bxA rfl rfl
       ·repeat' ((conv=>whnf)<;>(first|refine aB.go aA T0 ?_|exact True.intro|(refine Br.mk (fun _=>?_) (fun _=>?_)<;>(try(exfalso;omega)))|refine stq ?_))
        all_goals(conv=>whnf)
        refine⟨i+1,k,P[i].hi,⟨⟨by omega,by omega⟩,fun h=>by omega,fun j h hj=>by(cases(show j=i from by omega));rfl,h9⟩,by omega,?_⟩
        exact Lf.of2 [] [] enA bxA rfl rfl
    ·have hla:=hC.last
     have ha:a=(text.length:Int):=by
      split at hla
      ·rename_i hp0
       rw[←hla]
       exact h6 (P.length-1) (by omega) (by omega)
      ·rw[h5 (by omega),hla];rfl
     repeat' ((conv=>whnf)<;>(first|refine aB.go aA T0 ?_|exact True.intro|(refine Br.mk (fun _=>?_) (fun _=>?_)<;>(try(exfalso;omega)))|refine stq ?_|refine Cll.pu (hal) ?_|refine aG.pu (hal) ?_))
     all_goals(conv=>whnf)
     exact aI.same rfl rfl
   ·have h0:e≠0:=fun h=>hv (hi.1 h)
    have h1:=par_no (text:=text) ho hs hv
    have h2:=opp_no (text:=text) ho hs hv
    refine Pu.of_v aA T0 Tryz.func9 rfl rfl (by simp[aM,aD,aF,aH,aK,aJ,aN]) ?_
    repeat' ((conv=>whnf)<;>(first|refine aB.go aA T0 ?_|exact True.intro|(refine Br.mk (fun _=>?_) (fun _=>?_)<;>(try(exfalso;omega)))|refine stq ?_|refine Cll.pu (hS) ?_|refine aG.pu (hS) ?_|refine Cll.pu (he) ?_|refine aG.pu (he) ?_|refine Cll.pu (h1) ?_|refine aG.pu (h1) ?_|refine Cll.pu (h2) ?_|refine aG.pu (h2) ?_|refine Cll.pu (hal) ?_|refine aG.pu (hal) ?_))
    all_goals(conv=>whnf)
    exact aI.same rfl rfl
  ·refine Pu.of_v aA T0 Tryz.func9 rfl rfl (by simp[aM,aD,aF,aH,aK,aJ,aN]) ?_
   repeat' ((conv=>whnf)<;>(first|refine aB.go aA T0 ?_|exact True.intro|(refine Br.mk (fun _=>?_) (fun _=>?_)<;>(try(exfalso;omega)))|refine stq ?_|refine Cll.pu (hS) ?_|refine aG.pu (hS) ?_|refine Cll.pu (hal) ?_|refine aG.pu (hal) ?_))
   all_goals(conv=>whnf)
   exact aI.same rfl rfl
 ·have hS:=ly ho hs
  refine Pu.of_v aA T0 Tryz.func9 rfl rfl (by simp[aM,aD,aF,aH,aK,aJ,aN]) ?_
  repeat' ((conv=>whnf)<;>(first|refine aB.go aA T0 ?_|exact True.intro|(refine Br.mk (fun _=>?_) (fun _=>?_)<;>(try(exfalso;omega)))|refine stq ?_|refine Cll.pu (hS) ?_|refine aG.pu (hS) ?_|refine Cll.pu (hal) ?_|refine aG.pu (hal) ?_))
  all_goals(conv=>whnf)
  exact aI.same rfl rfl
end
end Go.Proofs.YtjjbmnacobnfeaaGreatDoor
