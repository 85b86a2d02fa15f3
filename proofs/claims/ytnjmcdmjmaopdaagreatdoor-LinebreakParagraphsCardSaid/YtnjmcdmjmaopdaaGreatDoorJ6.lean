/-
  Opportunities and paragraphs of the program, over data; the statement LinebreakCovers.
-/
import Derived.Test.YtnjmcdmjmaopdaaGreatDoorJ5
set_option linter.unusedSectionVars false
namespace Go.Proofs.YtnjmcdmjmaopdaaGreatDoor
section
open Go Go.Am Classical
set_option maxRecDepth 100000
def fW (p:Int→Bool) (A:List Int) (k:Nat):List Int:=
 ((List.range k).filter fun i=>decide (0<i∧i+1<A.length)&&p (A.getD i 0)).map fun i:Nat=>(i:Int)
theorem zq {p:Int→Bool}{A:List Int}:fW p A 0=[]:=rfl
theorem vF {p:Int→Bool}{A:List Int}{k:Nat}(h0:0<k) (h1:k+1<A.length) (h:p (A.getD k 0)=true):fW p A (k+1)=fW p A k++[(k:Int)]:=by
 unfold fW;have e:(decide (0<k∧k+1<A.length)&&p (A.getD k 0))=true:=by rw[h,decide_eq_true ⟨h0,h1⟩];rfl
 rw[List.range_succ,List.filter_append,List.map_append];simp only[List.filter_cons,e,if_true,List.filter_nil,List.map_cons,List.map_nil]
theorem vG {p:Int→Bool}{A:List Int}{k:Nat}(h:p (A.getD k 0)=false):fW p A (k+1)=fW p A k:=by
 unfold fW;rw[List.range_succ,List.filter_append,List.map_append];simp only[h,Bool.and_false,List.filter_cons,List.filter_nil,Bool.false_eq_true,if_false,List.map_nil,List.append_nil]
theorem qK {p:Int→Bool}{A:List Int}{k:Nat}(h:¬(0<k∧k+1<A.length)):fW p A (k+1)=fW p A k:=by
 unfold fW;rw[List.range_succ,List.filter_append,List.map_append];simp only[h,decide_false,Bool.false_and,List.filter_cons,List.filter_nil,Bool.false_eq_true,if_false,List.map_nil,List.append_nil]
theorem kV {p:Int→Bool}{A:List Int}{k:Nat}:(fW p A k).length≤k:=by
 unfold fW;rw[List.length_map];exact Nat.le_trans (List.length_filter_le _ _) (by simp)
theorem vH {p:Int→Bool}{A:List Int}{k:Nat}{x:Int}:x∈fW p A k↔∃ i:Nat,x=(i:Int)∧i<k∧0<i∧i+1<A.length∧p (A.getD i 0)=true:=by
 unfold fW;simp only[List.mem_map,List.mem_filter,List.mem_range,kC,decide_eq_true_eq];constructor
 ·rintro⟨i,⟨h1,⟨h2,h3⟩,h4⟩,rfl⟩;exact⟨i,rfl,h1,h2,h3,h4⟩
 ·rintro⟨i,rfl,h1,h2,h3,h4⟩;exact⟨i,⟨h1,⟨h2,h3⟩,h4⟩,rfl⟩
theorem B8 {p:Int→Bool}{A:List Int}{k:Nat}:(fW p A k).Pairwise (· < ·):=by
 unfold fW;rw[List.pairwise_map];exact(List.Pairwise.filter _ List.pairwise_lt_range).imp fun h=>by omega
theorem B9 {p:Int→Bool}{A:List Int}{n k:Nat}(hA:A.length=n+1) (_:1≤k) (h2:n≤k) (h3:k≤n∨k=1):fW p A k=fW p A A.length:=by
 rw[hA];by_cases h:k=n+1
 ·rw[h]
 ·obtain rfl:k=n:=by omega
  rw[qK (by omega)]
def pcs:Int→List Int→List Rng
 | _,[]=>[]
 | s,e::l=>if s=e then pcs e l else⟨s,e⟩::pcs e l
theorem s8 {s e:Int}{l:List Int}(h:s=e):pcs s (e::l)=pcs e l:=by rw[pcs,if_pos h]
theorem wi {s e:Int}{l:List Int}(h:¬s=e):pcs s (e::l)=⟨s,e⟩::pcs e l:=by rw[pcs,if_neg h]
theorem yD [GT]:∀ {l:List Int}{s:Int},(s::l).Pairwise (·≤·)→pcs s l=btw s l
 | [],_,_=>rfl
 | e::l,s,h=>by
  have h1:=(List.pairwise_cons.1 h).1 e (by simp);have ih:=yD (List.pairwise_cons.1 h).2;by_cases he:s=e
  ·subst he;rw[s8 rfl,qd (by omega),ih]
  ·rw[wi he,mt (by omega),ih]
theorem ET {p:Int→Bool}{A:List Int}{n:Nat}(hA:A.length=n+1):(0::(fW p A A.length++[(n:Int)])).Pairwise (·≤·):=by
 rw[List.pairwise_cons,List.pairwise_append];refine⟨fun a ha=>?_,B8.imp fun h=>by omega,by simp,fun a ha b hb=>?_⟩
 ·rcases List.mem_append.1 ha with h|h
  ·obtain⟨i,rfl,h1,h2,h3,h4⟩:=vH.1 h;omega
  ·simp at h;omega
 ·simp at hb;obtain⟨i,rfl,h1,h2,h3,h4⟩:=vH.1 ha;omega
theorem tk:∀ (l:List Int) (s:Int),(btw s l).length≤l.length
 | [],_=>kP _
 | e::l,s=>by
  have h1:=tk l e;have h2:=tk l s;unfold btw;split<;>simp only[kO]<;>omega
def qw (n:Int):Bool:=decide (n=3)
section
variable [GT]
theorem par1_c (n:Int):Pu Tryz.prog 14 [i64 n] (boo (qw n)):=by
 unfold qw;refine Pu.of_v aA T0 Tryz.func14 rfl rfl rfl ?_;repeat' ((conv=>whnf)<;>(first|refine aB.go aA T0 ?_|exact kQ|(refine Br.mk (fun _=>?_) (fun _=>?_)<;>(try(exfalso;omega)))|refine stq ?_))
 all_goals(conv=>whnf)
 all_goals first
  | exact aH.yes (by omega)
  | exact aH.no (by omega)
theorem zp {l:List Int}{g:FuncId}{p:Int→Bool}(hf:∀ n,Pu Tryz.prog g [i64 n] (boo (p n))) (hl:l.length≤1001):Pk Tryz.prog 13 [aZ l,.fn (.func g) [] []] 1 (fun n=>ai n 1 (fW p l l.length)) (fun n=>cY n (fun x=>[i64 x]) (fW p l l.length)):=by
 refine Pk.of_v aA T0 Tryz.func13 rfl rfl (by simp[aJ,aD,aM]) ?_;repeat' ((conv=>whnf)<;>(first|refine aB.go aA T0 ?_|exact kQ|(refine Br.mk (fun _=>?_) (fun _=>?_)<;>(try(exfalso;omega)))|refine stq ?_))
 refine aU.by2 aA T0 (fun(k:Nat) (o:List Int)=>⟨tmp 35 [(0,aZ l),(1,.fn (.func g) [] []),(5,ai 0 1 o),(8,aZ l),(9,i64 (l.length:Int)),(10,i64 (k:Int))],⟨1,cY 0 (fun x=>[i64 x]) o⟩⟩)
  (fun k o=>k≤l.length∧o=fW p l k) (fun k _=>l.length-k) 0 [] ⟨by omega,rfl⟩ ?_ ?_
 ·exact Lf.of2 [] [] enA bxA rfl rfl
 intro k o ⟨h3,h4⟩;have hol:o.length≤k:=by rw[h4];exact kV
 by_cases hk:k<l.length
 ·have e0:l.getD k 0=l[k]:=aW hk;by_cases hin:0<k∧k+1<l.length
  ·have hc:=hf l[k];by_cases hp:p l[k]=true
   ·rw[hp] at hc;have hs:=vF (p:=p) (A:=l) hin.1 hin.2 (by rw[e0];exact hp);rw[←h4] at hs;cases o with
    | nil=>
     repeat' ((conv=>whnf)<;>(first|refine aB.go aA T0 ?_|exact kQ|(refine Br.mk (fun _=>?_) (fun _=>?_)<;>(try(exfalso;omega)))|refine stq ?_|refine Cll.pu (hc) ?_|refine aN.pu (hc) ?_))
     all_goals(conv=>whnf)
     refine⟨k+1,[]++[(k:Int)],⟨by omega,hs.symm⟩,by omega,?_⟩;exact Lf.of2 [(0,_)] [] enA bxA rfl rfl
    | cons x xs=>
     have hlen:(x::xs).length≤1001:=by omega
     repeat' ((conv=>whnf)<;>(first|refine aB.go aA T0 ?_|exact kQ|(refine Br.mk (fun _=>?_) (fun _=>?_)<;>(try(exfalso;omega)))|refine stq ?_|refine Cll.pu (hc) ?_|refine aN.pu (hc) ?_))
     all_goals(conv=>whnf)
     refine⟨k+1,_,⟨by omega,hs.symm⟩,by omega,?_⟩;exact Lf.of2 [(0,_)] [] (by repeat(first|exact aI.nil|refine aI.cons rfl (by first|exact Rd.sl' rfl (by simp) (by simp)|exact rdA|fail) ?_)) (by repeat(first|exact Bxs.nil|refine Bxs.cons rfl rfl rfl (by first|exact Rb.cells (Rds.eqs (ag (by intro _;rfl) (x::xs) _) (aE (by intro _;rfl) _)) rfl|exact rbB|exact Rb.cells (by(repeat(first|exact Rds.nil|refine Rds.cons (by first|exact Rd.sl' rfl (by simp) (by simp)|exact rdA|fail) ?_|fail));(first|done|fail)) rfl|exact rbC|fail) ?_)) rfl rfl
   ·have hp':p l[k]=false:=by simpa using hp
    rw[hp'] at hc;have hs:=vG (p:=p) (A:=l) (k:=k) (by rw[e0];exact hp');cases o with
    | nil=>
     repeat' ((conv=>whnf)<;>(first|refine aB.go aA T0 ?_|exact kQ|(refine Br.mk (fun _=>?_) (fun _=>?_)<;>(try(exfalso;omega)))|refine stq ?_|refine Cll.pu (hc) ?_|refine aN.pu (hc) ?_))
     all_goals(conv=>whnf)
     refine⟨k+1,[],⟨by omega,by rw[hs];exact h4⟩,by omega,?_⟩;exact Lf.of2 [] [] enA bxA rfl rfl
    | cons x xs=>
     repeat' ((conv=>whnf)<;>(first|refine aB.go aA T0 ?_|exact kQ|(refine Br.mk (fun _=>?_) (fun _=>?_)<;>(try(exfalso;omega)))|refine stq ?_|refine Cll.pu (hc) ?_|refine aN.pu (hc) ?_))
     all_goals(conv=>whnf)
     refine⟨k+1,x::xs,⟨by omega,by rw[hs];exact h4⟩,by omega,?_⟩;exact Lf.of2 [(0,_)] [] enA bxA rfl rfl
  ·have hs:=qK (p:=p) (A:=l) hin;cases o with
   | nil=>
    repeat' ((conv=>whnf)<;>(first|refine aB.go aA T0 ?_|exact kQ|(refine Br.mk (fun _=>?_) (fun _=>?_)<;>(try(exfalso;omega)))|refine stq ?_))
    all_goals(conv=>whnf)
    all_goals
     refine⟨k+1,[],⟨by omega,by rw[hs];exact h4⟩,by omega,?_⟩;exact Lf.of2 [] [] enA bxA rfl rfl
   | cons x xs=>
    repeat' ((conv=>whnf)<;>(first|refine aB.go aA T0 ?_|exact kQ|(refine Br.mk (fun _=>?_) (fun _=>?_)<;>(try(exfalso;omega)))|refine stq ?_))
    all_goals(conv=>whnf)
    all_goals
     refine⟨k+1,x::xs,⟨by omega,by rw[hs];exact h4⟩,by omega,?_⟩;exact Lf.of2 [(0,_)] [] enA bxA rfl rfl
 obtain rfl:k=l.length:=by omega
 rw[←h4];cases o with
 | nil=>
  repeat' ((conv=>whnf)<;>(first|refine aB.go aA T0 ?_|exact kQ|(refine Br.mk (fun _=>?_) (fun _=>?_)<;>(try(exfalso;omega)))|refine stq ?_))
  all_goals(conv=>whnf)
  exact⟨[0],rfl,⟨by simp,fun n=>.same rfl,fun n=>.nil⟩⟩
 | cons x xs=>
  repeat' ((conv=>whnf)<;>(first|refine aB.go aA T0 ?_|exact kQ|(refine Br.mk (fun _=>?_) (fun _=>?_)<;>(try(exfalso;omega)))|refine stq ?_))
  all_goals(conv=>whnf)
  exact⟨[0],rfl,⟨by simp,fun n=>Rd.own (by simp) (by simp[sgn]) rfl rfl,fun n=>.cons (id:=0) (by simp[sgn]) rfl rfl (Rb.cells (Rds.same (aE (fun _=>rfl) _)) rfl) .nil⟩⟩
end
end
section
open Go Go.Am Classical
set_option maxRecDepth 100000
theorem FR [GT] {h:aC}{fz:Nat→Bool}{σ:Nat→Option Nat}{id n cap:Nat}{b:List Rng}{cs:List D}{ex bx:Bool}(hf:fz id=true) (hg:h.get id=some (.cells cs bx)) (ec:cs=b.flatMap cX) (e:n=b.length):Rd h fz σ (.sl id 0 n cap 2 ex) (cx b):=by
 subst e;subst ec;refine .frz hf hg (by rw[aq (sz:=2) (fun _=>rfl)];omega) (.eqs ?_ (aE (fun _=>rfl) _));rw[List.drop_zero,kE (by rw[aq (sz:=2) (fun _=>rfl)];exact kP _)]
theorem y5 (l:List Int) (x:Int):((l.flatMap fun x=>[i64 x]).drop 0).take (l.length*1)++[i64 x]=(l++[x]).map i64:=by
 rw[ag (c:=fun x=>[i64 x]) (sz:=1) (fun _=>rfl) l x,ad]
noncomputable abbrev ud (d:Db) (text:List Int):List Int:=fW qw (mB d.lin t4 text) (mB d.lin t4 text).length
noncomputable abbrev pf (d:Db) (text:List Int):List Rng:=btw 0 (ud d text++[(text.length:Int)])
theorem par_no {d:Db}{text:List Int}(ho:d.ok) (hs:SmD d) (hv:¬DbV d):@Pu gtR Tryz.prog 6 [dbD d,aZ text] (.tup [aY,i64 11]):=by
 letI:=gtR;have hA:=EK (text:=text) ho hs hv;refine Pu.of_v aA T0 Tryz.func6 rfl rfl (by simp[aJ,aD,aG,aK,aP,aO,aM]) ?_;repeat' ((conv=>whnf)<;>(first|refine aB.go aA T0 ?_|exact kQ|(refine Br.mk (fun _=>?_) (fun _=>?_)<;>(try(exfalso;omega)))|refine stq ?_|refine Cll.pu (hA) ?_|refine aN.pu (hA) ?_))
 all_goals(conv=>whnf)
 exact⟨Rd.eqd rfl rfl⟩
theorem j7 [GT] {a b c:Int}{ox oy:Operand}(h:b=c):ci Tryz.prog .neq 52 ox oy (.agg [i64 a,i64 b]) (.agg [i64 a,i64 c])=some (.v (.bool false)):=by
 subst h;exact EB
set_option maxHeartbeats 8000000 in
theorem D1 {d:Db}{text:List Int}(ho:d.ok) (hs:SmD d) (hv:DbV d) (hx:text.length≤999):@Pu gtR Tryz.prog 6 [dbD d,aZ text] (.tup [cx (pf d text),i64 0]):=by
 letI:=gtR;have hA:=Bw (text:=text) ho hs hv (by omega);have hl:=mw (p:=d.lin) (text:=text);have hR:pcs 0 (ud d text++[(text.length:Int)])=pf d text:=yD (ET hl);have hSl:(ud d text).length≤1000:=Nat.le_trans kV (by omega);unfold ud at hR hSl;generalize pf d text=R at *;generalize mB d.lin t4 text=A at *;refine Pu.of_v aA T0 Tryz.func6 rfl rfl (by simp[aJ,aD,aG,aK,aP,aO,aM]) ?_;have hI:=zp (l:=A) par1_c (by omega);cases he:fW qw A A.length with
 | nil=>
  rw[he] at hR hI;obtain⟨E,hE⟩:∃ E,E=([]:List Int)++[(text.length:Int)]:=⟨_,rfl⟩;rw[←hE] at hR;have hEl:E.length=1:=by rw[hE];rfl
  repeat' ((conv=>whnf)<;>(first|refine aB.go aA T0 ?_|exact kQ|(refine Br.mk (fun _=>?_) (fun _=>?_)<;>(try(exfalso;omega)))|refine stq ?_|refine Cll.pu (hA) ?_|refine aN.pu (hA) ?_|refine Cll.pk hI ?_|fail))
  refine aU.by3 aA T0 (fun(k:Nat) (s:Int) (o:List Rng)=>⟨tmp 52 [(9,ai 0 2 o),(10,i64 s),(30,aZ E),(31,i64 (E.length:Int)),(32,i64 (k:Int))],⟨1,cY 0 cX o⟩⟩)
   (fun k s o=>(k≤E.length∧o.length≤k)∧pcs 0 E=o++pcs s (E.drop k)) (fun k _ _=>E.length-k) 0 0 [] ⟨⟨by omega,by simp⟩,rfl⟩ ?_ ?_
  ·exact Lf.of2 [] [18,19,20,21,22,23,24,25,26,27] (by repeat(first|exact aI.nil|refine aI.cons rfl (by first|exact qN rfl rfl (by rw[hE];rfl) (by omega)|exact rdA|fail) ?_)) (by repeat(first|exact Bxs.nil|refine Bxs.cons rfl rfl rfl (by first|exact rbB|exact Rb.cells (by(repeat(first|exact Rds.nil|refine Rds.cons (by first|exact qN rfl rfl (by rw[hE];rfl) (by omega)|exact rdA|fail) ?_|fail));(first|done|fail)) rfl|exact rbC|fail) ?_)) rfl rfl
  intro k s o ⟨⟨h3,h5⟩,h4⟩;by_cases hk:k<E.length
  ·have ed:E.drop k=E[k]::E.drop (k+1):=kK hk;by_cases hse:s=E[k]
   ·rw[ed,s8 hse] at h4;cases o with
    | nil=>
     repeat' ((conv=>whnf)<;>(first|refine aB.go aA T0 ?_|exact kQ|(refine Br.mk (fun _=>?_) (fun _=>?_)<;>(try(exfalso;omega)))|refine stq ?_|(split<;>rename_i heq<;>first|(obtain rfl:=Option.some.inj ((j7 hse.symm).symm.trans heq))|exact absurd ((j7 hse.symm).symm.trans heq) (by simp))))
     all_goals(conv=>whnf)
     refine⟨k+1,E[k],[],⟨⟨by omega,by simp⟩,h4⟩,by omega,?_⟩;exact Lf.of2 [] [] enA bxA rfl rfl
    | cons x xs=>
     repeat' ((conv=>whnf)<;>(first|refine aB.go aA T0 ?_|exact kQ|(refine Br.mk (fun _=>?_) (fun _=>?_)<;>(try(exfalso;omega)))|refine stq ?_|(split<;>rename_i heq<;>first|(obtain rfl:=Option.some.inj ((j7 hse.symm).symm.trans heq))|exact absurd ((j7 hse.symm).symm.trans heq) (by simp))))
     all_goals(conv=>whnf)
     refine⟨k+1,E[k],x::xs,⟨⟨by omega,by omega⟩,h4⟩,by omega,?_⟩;exact Lf.of2 [(0,_)] [] enA bxA rfl rfl
   ·have hne:¬(s=s∧E[k]=s):=fun h=>hse h.2.symm
    rw[ed,wi hse] at h4;cases o with
    | nil=>
     repeat' ((conv=>whnf)<;>(first|refine aB.go aA T0 ?_|exact kQ|(refine Br.mk (fun _=>?_) (fun _=>?_)<;>(try(exfalso;omega)))|refine stq ?_|(split<;>rename_i heq<;>first|(obtain rfl:=Option.some.inj ((j6 hne).symm.trans heq))|exact absurd ((j6 hne).symm.trans heq) (by simp))))
     all_goals(conv=>whnf)
     refine⟨k+1,E[k],[⟨s,E[k]⟩],⟨⟨by omega,by simp⟩,h4⟩,by omega,?_⟩;exact Lf.of2 [(0,_)] [] enA bxA rfl rfl
    | cons x xs=>
     have hlen:(x::xs).length≤1001:=by omega
     repeat' ((conv=>whnf)<;>(first|refine aB.go aA T0 ?_|exact kQ|(refine Br.mk (fun _=>?_) (fun _=>?_)<;>(try(exfalso;omega)))|refine stq ?_|(split<;>rename_i heq<;>first|(obtain rfl:=Option.some.inj ((j6 hne).symm.trans heq))|exact absurd ((j6 hne).symm.trans heq) (by simp))))
     all_goals(conv=>whnf)
     refine⟨k+1,E[k],(x::xs)++[⟨s,E[k]⟩],⟨⟨by omega,by rw[kG];simp only[List.length_singleton];omega⟩,by rw[h4,List.append_assoc];rfl⟩,by omega,?_⟩;exact Lf.of2 [(0,_)] [] (by repeat(first|exact aI.nil|refine aI.cons rfl (by first|exact Rd.sl' rfl (by simp) (by simp)|exact rdA|fail) ?_)) (by repeat(first|exact Bxs.nil|refine Bxs.cons rfl rfl rfl (by first|exact Rb.cells (Rds.eqs (ag (c:=cX) (sz:=2) (by intro _;rfl) (x::xs) (⟨s,E[k]⟩:Rng)) (aE (by intro _;rfl) _)) rfl|exact rbB|exact Rb.cells (by(repeat(first|exact Rds.nil|refine Rds.cons (by first|exact Rd.sl' rfl (by simp) (by simp)|exact rdA|fail) ?_|fail));(first|done|fail)) rfl|exact rbC|fail) ?_)) rfl rfl
  ·rw[List.drop_of_length_le (by omega),pcs,List.append_nil] at h4;rw[←hR,h4];cases o with
   | nil=>
    repeat' ((conv=>whnf)<;>(first|refine aB.go aA T0 ?_|exact kQ|(refine Br.mk (fun _=>?_) (fun _=>?_)<;>(try(exfalso;omega)))|refine stq ?_))
    all_goals(conv=>whnf)
    exact⟨.tup (.cons .nil (.cons (.same rfl) .nil))⟩
   | cons x xs=>
    repeat' ((conv=>whnf)<;>(first|refine aB.go aA T0 ?_|exact kQ|(refine Br.mk (fun _=>?_) (fun _=>?_)<;>(try(exfalso;omega)))|refine stq ?_))
    all_goals(conv=>whnf)
    exact⟨.tup (.cons (FR (b:=x::xs) rfl rfl rfl rfl) (.cons (.same rfl) .nil))⟩
 | cons x xs=>
  rw[he] at hR hSl hI;obtain⟨E,hE⟩:∃ E,E=(x::xs)++[(text.length:Int)]:=⟨_,rfl⟩;rw[←hE] at hR;have hEl:E.length=(x::xs).length+1:=by rw[hE];simp
  have hxl:(x::xs).length=xs.length+1:=rfl;repeat' ((conv=>whnf)<;>(first|refine aB.go aA T0 ?_|exact kQ|(refine Br.mk (fun _=>?_) (fun _=>?_)<;>(try(exfalso;omega)))|refine stq ?_|refine Cll.pu (hA) ?_|refine aN.pu (hA) ?_|refine Cll.pk hI ?_|fail))
  refine aU.by3 aA T0 (fun(k:Nat) (s:Int) (o:List Rng)=>⟨tmp 52 [(9,ai 0 2 o),(10,i64 s),(30,aZ E),(31,i64 (E.length:Int)),(32,i64 (k:Int))],⟨1,cY 0 cX o⟩⟩)
   (fun k s o=>(k≤E.length∧o.length≤k)∧pcs 0 E=o++pcs s (E.drop k)) (fun k _ _=>E.length-k) 0 0 [] ⟨⟨by omega,by simp⟩,rfl⟩ ?_ ?_
  ·exact Lf.of2 [] [18,19,20,21,22,23,24,25,26,27] (by repeat(first|exact aI.nil|refine aI.cons rfl (by first|exact qN rfl rfl (by rw[hE];exact y5 (x::xs) _) (by simp[hE])|exact rdA|fail) ?_)) (by repeat(first|exact Bxs.nil|refine Bxs.cons rfl rfl rfl (by first|exact rbB|exact Rb.cells (by(repeat(first|exact Rds.nil|refine Rds.cons (by first|exact qN rfl rfl (by rw[hE];exact y5 (x::xs) _) (by simp[hE])|exact rdA|fail) ?_|fail));(first|done|fail)) rfl|exact rbC|fail) ?_)) rfl rfl
  intro k s o ⟨⟨h3,h5⟩,h4⟩;by_cases hk:k<E.length
  ·have ed:E.drop k=E[k]::E.drop (k+1):=kK hk;by_cases hse:s=E[k]
   ·rw[ed,s8 hse] at h4;cases o with
    | nil=>
     repeat' ((conv=>whnf)<;>(first|refine aB.go aA T0 ?_|exact kQ|(refine Br.mk (fun _=>?_) (fun _=>?_)<;>(try(exfalso;omega)))|refine stq ?_|(split<;>rename_i heq<;>first|(obtain rfl:=Option.some.inj ((j7 hse.symm).symm.trans heq))|exact absurd ((j7 hse.symm).symm.trans heq) (by simp))))
     all_goals(conv=>whnf)
     refine⟨k+1,E[k],[],⟨⟨by omega,by simp⟩,h4⟩,by omega,?_⟩;exact Lf.of2 [] [] enA bxA rfl rfl
    | cons x xs=>
     repeat' ((conv=>whnf)<;>(first|refine aB.go aA T0 ?_|exact kQ|(refine Br.mk (fun _=>?_) (fun _=>?_)<;>(try(exfalso;omega)))|refine stq ?_|(split<;>rename_i heq<;>first|(obtain rfl:=Option.some.inj ((j7 hse.symm).symm.trans heq))|exact absurd ((j7 hse.symm).symm.trans heq) (by simp))))
     all_goals(conv=>whnf)
     refine⟨k+1,E[k],x::xs,⟨⟨by omega,by omega⟩,h4⟩,by omega,?_⟩;exact Lf.of2 [(0,_)] [] enA bxA rfl rfl
   ·have hne:¬(s=s∧E[k]=s):=fun h=>hse h.2.symm
    rw[ed,wi hse] at h4;cases o with
    | nil=>
     repeat' ((conv=>whnf)<;>(first|refine aB.go aA T0 ?_|exact kQ|(refine Br.mk (fun _=>?_) (fun _=>?_)<;>(try(exfalso;omega)))|refine stq ?_|(split<;>rename_i heq<;>first|(obtain rfl:=Option.some.inj ((j6 hne).symm.trans heq))|exact absurd ((j6 hne).symm.trans heq) (by simp))))
     all_goals(conv=>whnf)
     refine⟨k+1,E[k],[⟨s,E[k]⟩],⟨⟨by omega,by simp⟩,h4⟩,by omega,?_⟩;exact Lf.of2 [(0,_)] [] enA bxA rfl rfl
    | cons x xs=>
     have hlen:(x::xs).length≤1001:=by omega
     repeat' ((conv=>whnf)<;>(first|refine aB.go aA T0 ?_|exact kQ|(refine Br.mk (fun _=>?_) (fun _=>?_)<;>(try(exfalso;omega)))|refine stq ?_|(split<;>rename_i heq<;>first|(obtain rfl:=Option.some.inj ((j6 hne).symm.trans heq))|exact absurd ((j6 hne).symm.trans heq) (by simp))))
     all_goals(conv=>whnf)
     refine⟨k+1,E[k],(x::xs)++[⟨s,E[k]⟩],⟨⟨by omega,by rw[kG];simp only[List.length_singleton];omega⟩,by rw[h4,List.append_assoc];rfl⟩,by omega,?_⟩;exact Lf.of2 [(0,_)] [] (by repeat(first|exact aI.nil|refine aI.cons rfl (by first|exact Rd.sl' rfl (by simp) (by simp)|exact rdA|fail) ?_)) (by repeat(first|exact Bxs.nil|refine Bxs.cons rfl rfl rfl (by first|exact Rb.cells (Rds.eqs (ag (c:=cX) (sz:=2) (by intro _;rfl) (x::xs) (⟨s,E[k]⟩:Rng)) (aE (by intro _;rfl) _)) rfl|exact rbB|exact Rb.cells (by(repeat(first|exact Rds.nil|refine Rds.cons (by first|exact Rd.sl' rfl (by simp) (by simp)|exact rdA|fail) ?_|fail));(first|done|fail)) rfl|exact rbC|fail) ?_)) rfl rfl
  ·rw[List.drop_of_length_le (by omega),pcs,List.append_nil] at h4;rw[←hR,h4];cases o with
   | nil=>
    repeat' ((conv=>whnf)<;>(first|refine aB.go aA T0 ?_|exact kQ|(refine Br.mk (fun _=>?_) (fun _=>?_)<;>(try(exfalso;omega)))|refine stq ?_))
    all_goals(conv=>whnf)
    exact⟨.tup (.cons .nil (.cons (.same rfl) .nil))⟩
   | cons x xs=>
    repeat' ((conv=>whnf)<;>(first|refine aB.go aA T0 ?_|exact kQ|(refine Br.mk (fun _=>?_) (fun _=>?_)<;>(try(exfalso;omega)))|refine stq ?_))
    all_goals(conv=>whnf)
    exact⟨.tup (.cons (FR (b:=x::xs) rfl rfl rfl rfl) (.cons (.same rfl) .nil))⟩
end
end Go.Proofs.YtnjmcdmjmaopdaaGreatDoor
