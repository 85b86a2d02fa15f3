/-
  The rules of lines in the reference: each position is decided as the table decides it.
-/
import Derived.Test.YtnjmcdmjmaopdaaGreatDoorY4
import Derived.Test.YtnjmcdmjmaopdaaGreatDoorM4
import Derived.Test.YtnjmcdmjmaopdaaGreatDoorJ1
import Derived.Test.YtnjmcdmjmaopdaaGreatDoorJ6
set_option linter.unusedSectionVars false
namespace Go.Proofs.YtnjmcdmjmaopdaaGreatDoor
section
open Go Go.Am Classical
set_option maxRecDepth 100000
theorem oB (cl:List Str) (rs:List Rul):aJ (.agg [strs cl,lstS ch rs])=true:=by
 letI:=gtR;simp[aJ,aD,aG,bH]
theorem FI {g:FuncId}{ds:List D}{d:D}(hn:aD ds=true) (h:iq gtR Tryz.prog (jm Tryz.prog) spC 1000 (.fn g) ds .emp 0 (fun d1 h1 _=>fU h1 100000 d1 d)=true):@Pu gtR Tryz.prog g ds d:=by
 letI:=gtR;exact Pu.of_t aA T0 jn hn h
theorem rrul4:@Pu gtR Tryz.prog 49 [i64 4] (.str Ak):=FI rfl (by kernel_rfl)
theorem rpa4:@Pu gtR Tryz.prog 31 [i64 4] (.agg [strs cl4,lstS ch rs4]):=by
 letI:=gtR;have h1:=FL;have h2:=rrul4;have h3:=Dp;refine Pu.of_v aA T0 Tryz.func31 rfl rfl rfl ?_;repeat' ((conv=>whnf)<;>(first|refine aB.go aA T0 ?_|exact kQ|(refine Br.mk (fun _=>?_) (fun _=>?_)<;>(try(exfalso;omega)))|refine stq ?_|(refine Cll.dec (EL (k:=4)) (fun _=>?_) (fun _=>?_)<;>(try(exfalso;omega)))|refine Cll.pu h1 ?_|refine Cll.pu h2 ?_|refine Cll.pu h3 ?_|fail))
 all_goals(conv=>whnf)
 exact aH.same (oB _ _) rfl
theorem chk4:@Pu gtR Tryz.prog 51 [.agg [strs cl4,lstS ch rs4]] (i64 0):=FI (by letI:=gtR;simp[aD,oB]) (by kernel_rfl)
theorem ok4:rs4.all (fun r=>okP r.left&&okP r.right)=true:=by kernel_rfl
theorem C4 {l:List Int}(hc:CL l cl4.length){k:Nat}(hk:k≤l.length):∃ q,sV cl4.length rs4 l k q∧(acts t4 l).getD k 0=E2 rs4 q:=by
 obtain⟨q,q1,q2,q3⟩:=Ek law4 hc hk;refine⟨q,q1,?_⟩;rw[aW (by rw[mv];omega)];simp only[acts,List.getElem_map,List.getElem_range];exact q2
theorem rdec4 {l:List Int}(hc:CL l cl4.length) (hl:l.length≤1000){k:Nat}(hk:k≤l.length):∃ i:Int,@Pu gtR Tryz.prog 33 [.agg [strs cl4,lstS ch rs4],aZ l,i64 (k:Int)] (.tup [i64 ((acts t4 l).getD k 0),i64 i]):=by
 letI:=gtR;obtain⟨q,q1,e⟩:=C4 hc hk;rw[e]
 exact⟨_,zV chk4 (fun r hr=>by
  have:=List.all_eq_true.1 ok4 r hr
  simp only[kC] at this
  exact⟨xI _ this.1,xI _ this.2⟩) (by decide) (by decide) hl hc hk q1⟩
end
section
open Go Go.Am Classical
set_option maxRecDepth 100000
theorem Dt {d:Db}{text:List Int}(ho:d.ok) (hx:text.length≤1000):@Pu gtR Tryz.prog 32 [dbD d,aZ text] (aZ (nvL d text)):=by
 letI:=gtR;have hC:=FL;have hN:Pu Tryz.prog 50 [iE d.lin,strs cl4,aZ text] (aZ (nvL d text)):=E6 (ho.prop 6) (by decide) hx;refine Pu.of_v aA T0 Tryz.func32 rfl rfl (by simp[aJ,aD,aG,aK,aP,aO,aM]) ?_;repeat' ((conv=>whnf)<;>(first|refine aB.go aA T0 ?_|exact kQ|(refine Br.mk (fun _=>?_) (fun _=>?_)<;>(try(exfalso;omega)))|refine stq ?_|refine bK.by aA T0 [0,1,0,0,15,31] (by kernel_rfl) ?_|refine aN.pu hC ?_|refine aN.pu hN ?_))
 all_goals(conv=>whnf)
 exact aH.same (aM _) rfl
theorem Dw {d:Db}{text:List Int}(ho:d.ok) (hs:SmD d) (hv:¬DbV d):@Pu gtR Tryz.prog 15 [dbD d,aZ text] (.tup [aY,i64 11]):=by
 letI:=gtR;obtain⟨e,he,hi⟩:=pV ho hs;have h0:e≠0:=fun h=>hv (hi.1 h)
 refine Pu.of_v aA T0 Tryz.func15 rfl rfl (by simp[aJ,aD,aG,aK,aP,aO,aM]) ?_;repeat' ((conv=>whnf)<;>(first|refine aB.go aA T0 ?_|exact kQ|(refine Br.mk (fun _=>?_) (fun _=>?_)<;>(try(exfalso;omega)))|refine stq ?_|refine Cll.pu (he) ?_))
 all_goals(conv=>whnf)
 exact⟨Rd.eqd rfl rfl⟩
set_option maxHeartbeats 8000000 in
theorem BG {d:Db}{text:List Int}(ho:d.ok) (hs:SmD d) (hv:DbV d) (hx:text.length≤999):@Pu gtR Tryz.prog 15 [dbD d,aZ text] (.tup [aZ (mB d.lin t4 text),i64 0]):=by
 letI:=gtR;obtain⟨e,he,hi⟩:=pV ho hs;obtain rfl:=hi.2 hv;have hR:=rpa4;have hC:=Dt (text:=text) ho (by omega);have hnl:=D9 d text;have hl:=mw (p:=d.lin) (text:=text)
 have hD:∀ k:Nat,k≤text.length→∃ i:Int,Pu Tryz.prog 33 [.agg [strs cl4,lstS ch rs4],aZ (nvL d text),i64 (k:Int)] (.tup [i64 ((mB d.lin t4 text).getD k 0),i64 i]):=fun k hk=>by
  have h:=rdec4 (l:=nvL d text) (ur (p:=d.lin) (text:=text) (t:=t4) tv4.1) (by omega) (k:=k) (by omega);rw[mB,if_pos tv4.1];exact h
 generalize mB d.lin t4 text=A at *;generalize nvL d text=nv at *;generalize cl4=cl at *;generalize rs4=rs at *;refine Pu.of_v aA T0 Tryz.func15 rfl rfl (by simp[aJ,aD,aG,aK,aP,aO,aM]) ?_;repeat' ((conv=>whnf)<;>(first|refine aB.go aA T0 ?_|exact kQ|(refine Br.mk (fun _=>?_) (fun _=>?_)<;>(try(exfalso;omega)))|refine stq ?_|refine Cll.pu (he) ?_|refine aN.pu (he) ?_|refine Cll.pu (hR) ?_|refine aN.pu (hR) ?_|refine Cll.pu (hC) ?_|refine aN.pu (hC) ?_|fail))
 refine aU.by2 aA T0 (fun(k:Nat) (o:List Int)=>⟨tmp 37 [(6,.ptr 0 0),(7,aZ nv),(8,ai 1 1 o),(9,i64 (k:Int))],⟨2,cY 1 (fun x=>[i64 x]) o++[(0,.cells [strs cl,lstS ch rs] true)]⟩⟩)
  (fun k o=>k≤A.length∧o=A.take k) (fun k _=>A.length-k) 0 [] ⟨by omega,rfl⟩ ?_ ?_
 ·exact Lf.of2 [(0,_)] [] enA (by repeat(first|exact Bxs.nil|refine Bxs.cons rfl rfl rfl (by first|exact Rb.cells (Rds.same (fy _ _)) rfl|exact rbB|exact Rb.cells bS rfl|exact rbC|fail) ?_)) rfl rfl
 intro k o ⟨h3,h4⟩;have hol:o.length≤k:=by rw[h4,List.length_take];omega
 by_cases hk:k<A.length
 ·obtain⟨i,hq⟩:=hD k (by omega);rw[aW hk] at hq;have hs2:o++[A[k]]=A.take (k+1):=by rw[h4,List.take_add_one,List.getElem?_eq_getElem hk];rfl
  cases o with
  | nil=>
   repeat' ((conv=>whnf)<;>(first|refine aB.go aA T0 ?_|exact kQ|(refine Br.mk (fun _=>?_) (fun _=>?_)<;>(try(exfalso;omega)))|refine stq ?_|refine Cll.pu hq ?_|fail))
   all_goals(conv=>whnf)
   refine⟨k+1,_,⟨by omega,hs2⟩,by omega,?_⟩;exact Lf.of2 [(0,_),(1,_)] [] enA (by repeat(first|exact Bxs.nil|refine Bxs.cons rfl rfl rfl (by first|exact Rb.cells (Rds.same (fy _ _)) rfl|exact rbB|exact Rb.cells bS rfl|exact rbC|fail) ?_)) rfl rfl
  | cons x xs=>
   have hlen:(x::xs).length≤1001:=by omega
   repeat' ((conv=>whnf)<;>(first|refine aB.go aA T0 ?_|exact kQ|(refine Br.mk (fun _=>?_) (fun _=>?_)<;>(try(exfalso;omega)))|refine stq ?_|refine Cll.pu hq ?_|fail))
   all_goals(conv=>whnf)
   refine⟨k+1,_,⟨by omega,hs2⟩,by omega,?_⟩;exact Lf.of2 [(0,_),(1,_)] [] (by repeat(first|exact aI.nil|refine aI.cons rfl (by first|exact Rd.sl' rfl (by simp) (by simp)|exact rdA|fail) ?_)) (by repeat(first|exact Bxs.nil|refine Bxs.cons rfl rfl rfl (by first|exact Rb.cells (Rds.eqs (ag (by intro _;rfl) (x::xs) _) (aE (by intro _;rfl) _)) rfl|exact Rb.cells (Rds.same (fy _ _)) rfl|exact rbB|exact Rb.cells (by(repeat(first|exact Rds.nil|refine Rds.cons (by first|exact Rd.sl' rfl (by simp) (by simp)|exact rdA|fail) ?_|fail));(first|done|fail)) rfl|exact rbC|fail) ?_)) rfl rfl
 ·rw[kE (by omega)] at h4;subst h4;cases o with
  | nil=>exact absurd hl (by simp)
  | cons x xs=>
   repeat' ((conv=>whnf)<;>(first|refine aB.go aA T0 ?_|exact kQ|(refine Br.mk (fun _=>?_) (fun _=>?_)<;>(try(exfalso;omega)))|refine stq ?_))
   all_goals(conv=>whnf)
   exact⟨.tup (.cons (qN (b:=x::xs) rfl rfl (ad _) rfl) (.cons (.same rfl) .nil))⟩
theorem B7 {p:Int→Bool}{A:List Int}:fW p A 1=[]:=(qK (k:=0) (by omega)).trans zq
theorem Dv {d:Db}{text:List Int}(ho:d.ok) (hs:SmD d) (hv:¬DbV d):@Pu gtR Tryz.prog 7 [dbD d,aZ text] (.tup [aY,i64 11]):=by
 letI:=gtR;have hA:=Dw (text:=text) ho hs hv;refine Pu.of_v aA T0 Tryz.func7 rfl rfl (by simp[aJ,aD,aG,aK,aP,aO,aM]) ?_;repeat' ((conv=>whnf)<;>(first|refine aB.go aA T0 ?_|exact kQ|(refine Br.mk (fun _=>?_) (fun _=>?_)<;>(try(exfalso;omega)))|refine stq ?_|refine Cll.pu (hA) ?_|refine aN.pu (hA) ?_))
 all_goals(conv=>whnf)
 exact⟨Rd.eqd rfl rfl⟩
set_option maxHeartbeats 8000000 in
theorem BF {d:Db}{text:List Int}(ho:d.ok) (hs:SmD d) (hv:DbV d) (hx:text.length≤999):@Pu gtR Tryz.prog 7 [dbD d,aZ text] (.tup [cx (pf d text),i64 0]):=by
 letI:=gtR;have hA:=BG ho hs hv hx;have hl:=mw (p:=d.lin) (text:=text);have hB:Pu Tryz.prog 16 [aZ (ud d text),i64 (text.length:Int)] (cx (pf d text)):=AV (Nat.le_trans kV (by omega));have hnb:=aO (pf d text);unfold ud at hB;generalize pf d text=R at *;generalize mB d.lin t4 text=A at *;have hcond:∀ k (h:k<A.length),qw A[k]=decide (A[k]=3):=fun k h=>rfl
 refine Pu.of_v aA T0 Tryz.func7 rfl rfl (by simp[aJ,aD,aG,aK,aP,aO,aM]) ?_;repeat' ((conv=>whnf)<;>(first|refine aB.go aA T0 ?_|exact kQ|(refine Br.mk (fun _=>?_) (fun _=>?_)<;>(try(exfalso;omega)))|refine stq ?_|refine Cll.pu (hA) ?_|refine aN.pu (hA) ?_|fail))
 refine aU.by2 aA T0 (fun(k:Nat) (o:List Int)=>⟨tmp 38 [(1,aZ text),(6,aZ A),(8,ai 0 1 o),(9,i64 (k:Int))],⟨1,cY 0 (fun x=>[i64 x]) o⟩⟩)
  (fun k o=>(1≤k∧(k≤text.length∨k=1)∧k≤A.length)∧o=fW qw A k) (fun k _=>text.length-k) 1 [] ⟨by omega,B7.symm⟩ ?_ ?_
 ·exact Lf.of2 [] [] enA bxA rfl rfl
 intro k o ⟨⟨h3,h3',h3''⟩,h4⟩;have hol:o.length≤k:=by rw[h4];exact kV
 by_cases hk:k<text.length
 ·have hkA:k<A.length:=by omega
  have hcc:=hcond k hkA;have e0:A.getD k 0=A[k]:=aW hkA;by_cases hp:qw A[k]=true
  ·have hs2:=vF (p:=qw) (A:=A) (k:=k) (by omega) (by omega) (by rw[e0];exact hp);rw[←h4] at hs2;rw[hp] at hcc;have hcd:=of_decide_eq_true hcc.symm;cases o with
   | nil=>
    repeat' ((conv=>whnf)<;>(first|refine Idx.at (f:=i64) (l:=A) k (by omega) (by omega) ?_|refine aB.go aA T0 ?_|exact kQ|(refine Br.mk (fun _=>?_) (fun _=>?_)<;>(try(exfalso;omega)))|refine stq ?_))
    all_goals(conv=>whnf)
    refine⟨k+1,[]++[(k:Int)],⟨⟨by omega,by omega,by omega⟩,hs2.symm⟩,by omega,?_⟩;exact Lf.of2 [(0,_)] [] enA bxA rfl rfl
   | cons x xs=>
    have hlen:(x::xs).length≤1001:=by omega
    repeat' ((conv=>whnf)<;>(first|refine Idx.at (f:=i64) (l:=A) k (by omega) (by omega) ?_|refine aB.go aA T0 ?_|exact kQ|(refine Br.mk (fun _=>?_) (fun _=>?_)<;>(try(exfalso;omega)))|refine stq ?_))
    all_goals(conv=>whnf)
    refine⟨k+1,_,⟨⟨by omega,by omega,by omega⟩,hs2.symm⟩,by omega,?_⟩;exact Lf.of2 [(0,_)] [] (by repeat(first|exact aI.nil|refine aI.cons rfl (by first|exact Rd.sl' rfl (by simp) (by simp)|exact rdA|fail) ?_)) (by repeat(first|exact Bxs.nil|refine Bxs.cons rfl rfl rfl (by first|exact Rb.cells (Rds.eqs (ag (by intro _;rfl) (x::xs) _) (aE (by intro _;rfl) _)) rfl|exact rbB|exact Rb.cells (by(repeat(first|exact Rds.nil|refine Rds.cons (by first|exact Rd.sl' rfl (by simp) (by simp)|exact rdA|fail) ?_|fail));(first|done|fail)) rfl|exact rbC|fail) ?_)) rfl rfl
  ·have hp':qw A[k]=false:=by simpa using hp
   have hs2:=vG (p:=qw) (A:=A) (k:=k) (by rw[e0];exact hp');rw[hp'] at hcc;have hcd:=of_decide_eq_false hcc.symm;cases o with
   | nil=>
    repeat' ((conv=>whnf)<;>(first|refine Idx.at (f:=i64) (l:=A) k (by omega) (by omega) ?_|refine aB.go aA T0 ?_|exact kQ|(refine Br.mk (fun _=>?_) (fun _=>?_)<;>(try(exfalso;omega)))|refine stq ?_))
    all_goals(conv=>whnf)
    refine⟨k+1,[],⟨⟨by omega,by omega,by omega⟩,by rw[hs2];exact h4⟩,by omega,?_⟩;exact Lf.of2 [] [] enA bxA rfl rfl
   | cons x xs=>
    repeat' ((conv=>whnf)<;>(first|refine Idx.at (f:=i64) (l:=A) k (by omega) (by omega) ?_|refine aB.go aA T0 ?_|exact kQ|(refine Br.mk (fun _=>?_) (fun _=>?_)<;>(try(exfalso;omega)))|refine stq ?_))
    all_goals(conv=>whnf)
    refine⟨k+1,x::xs,⟨⟨by omega,by omega,by omega⟩,by rw[hs2];exact h4⟩,by omega,?_⟩;exact Lf.of2 [(0,_)] [] enA bxA rfl rfl
 ·rw[B9 hl h3 (by omega) h3'] at h4;rw[←h4] at hB;cases o with
  | nil=>
   repeat' ((conv=>whnf)<;>(first|exact kQ|(refine Br.mk (fun _=>?_) (fun _=>?_)<;>(try(exfalso;omega)))|refine stq ?_))
   conv=>whnf
   refine aB.go aA T0 ?_;repeat' ((conv=>whnf)<;>(first|exact kQ|(refine Br.mk (fun _=>?_) (fun _=>?_)<;>(try(exfalso;omega)))|refine stq ?_))
   conv=>whnf
   refine aB.weak aA T0 (s0:=⟨tmp 38 [(1,aZ text),(8,aZ [])],⟨0,[]⟩⟩) ?_ ?_
   ·exact Lf.of2 [] [] (by repeat(first|exact aI.nil|refine aI.cons rfl (by first|exact Rd.nil|exact rdA|fail) ?_)) (by repeat(first|exact Bxs.nil|refine Bxs.cons rfl rfl rfl (by first|exact rbB|exact Rb.cells (by(repeat(first|exact Rds.nil|refine Rds.cons (by first|exact Rd.nil|exact rdA|fail) ?_|fail));(first|done|fail)) rfl|exact rbC|fail) ?_)) rfl rfl
   repeat' ((conv=>whnf)<;>(first|refine aB.go aA T0 ?_|exact kQ|(refine Br.mk (fun _=>?_) (fun _=>?_)<;>(try(exfalso;omega)))|refine stq ?_|refine Cll.pu (hB) ?_|refine aN.pu (hB) ?_))
   all_goals(conv=>whnf)
   exact⟨Rd.eqd rfl (by simp[aJ,aD,hnb])⟩
  | cons x xs=>
   repeat' ((conv=>whnf)<;>(first|exact kQ|(refine Br.mk (fun _=>?_) (fun _=>?_)<;>(try(exfalso;omega)))|refine stq ?_))
   conv=>whnf
   refine aB.go aA T0 ?_;repeat' ((conv=>whnf)<;>(first|exact kQ|(refine Br.mk (fun _=>?_) (fun _=>?_)<;>(try(exfalso;omega)))|refine stq ?_))
   conv=>whnf
   refine aB.weak aA T0 (s0:=⟨tmp 38 [(1,aZ text),(8,aZ (x::xs))],⟨0,[]⟩⟩) ?_ ?_
   ·exact Lf.of2 [] [0] (by repeat(first|exact aI.nil|refine aI.cons rfl (by first|exact qN rfl rfl (ad _) rfl|exact rdA|fail) ?_)) (by repeat(first|exact Bxs.nil|refine Bxs.cons rfl rfl rfl (by first|exact rbB|exact Rb.cells (by(repeat(first|exact Rds.nil|refine Rds.cons (by first|exact qN rfl rfl (ad _) rfl|exact rdA|fail) ?_|fail));(first|done|fail)) rfl|exact rbC|fail) ?_)) rfl rfl
   repeat' ((conv=>whnf)<;>(first|refine aB.go aA T0 ?_|exact kQ|(refine Br.mk (fun _=>?_) (fun _=>?_)<;>(try(exfalso;omega)))|refine stq ?_|refine Cll.pu (hB) ?_|refine aN.pu (hB) ?_))
   all_goals(conv=>whnf)
   exact⟨Rd.eqd rfl (by simp[aJ,aD,hnb])⟩
theorem BP {d:Db}{text:List Int}(hx:text.length≤40):(pf d text).length≤9223372036854775807:=by
 have h8:(ud d text).length≤(mB d.lin t4 text).length:=kV;have h9:(pf d text).length≤(ud d text++[(text.length:Int)]).length:=tk _ _;rw[mw] at h8;rw[kG] at h9;simp only[List.length_singleton] at h9;omega
theorem few_c {d:Db}{text:List Int}(ho:d.ok):@Pu gtR Tryz.prog 4 [dbD d,aZ text] (boo (decide (SmD d∧text.length≤12))):=by
 letI:=gtR;refine Pu.of_v aA T0 Tryz.func4 rfl rfl (by simp[aJ,aD,aG,aK,aP,aO,aM]) ?_;by_cases hs:SmD d
 ·have hS:=zK ho hs;repeat' ((conv=>whnf)<;>(first|refine aB.go aA T0 ?_|exact kQ|(refine Br.mk (fun _=>?_) (fun _=>?_)<;>(try(exfalso;omega)))|refine stq ?_|refine Cll.pu (hS) ?_|refine aN.pu (hS) ?_))
  all_goals(conv=>whnf)
  all_goals first
   | exact aH.yes ⟨hs,by omega⟩
   | exact aH.no (fun h=>by have:=h.2;omega)
 ·have hS:=A3 ho hs;repeat' ((conv=>whnf)<;>(first|refine aB.go aA T0 ?_|exact kQ|(refine Br.mk (fun _=>?_) (fun _=>?_)<;>(try(exfalso;omega)))|refine stq ?_|refine Cll.pu (hS) ?_|refine aN.pu (hS) ?_))
  all_goals(conv=>whnf)
  exact aH.no (fun h=>hs h.1)
theorem Dg [GT] {a:List Rng}(h:a.length≤9223372036854775807):Pu Tryz.prog 8 [cx a,cx a] (boo true):=by
 have h:=t9 (a:=a) (b:=a) h h
 rwa [decide_eq_true rfl] at h
theorem sr_nil [GT]:Pu Tryz.prog 8 [aY,aY] (boo true):=Pu.of_t aA T0 (sp:=fun _ _=>none) (fun _ _ _ h=>by cases h) rfl (by kernel_rfl:iq _ Tryz.prog (jm Tryz.prog) (fun _ _=>none) 100 (.fn 8) [aY,aY] .emp 0 (fun d1 h1 _=>fU h1 100000 d1 (boo true))=true)
theorem D2 {d:Db}{text:List Int}(ho:d.ok) (_:text.length≤9223372036854775807):@Pu gtR Tryz.prog 3 [dbD d,aZ text] (boo true):=by
 letI:=gtR;have hal:=E1;have hF:=few_c (text:=text) ho;by_cases hs:SmD d∧text.length≤12
 ·rw[decide_eq_true hs] at hF;obtain⟨hs,hx⟩:=hs;by_cases hv:DbV d
  ·have h1:=D1 (text:=text) ho hs hv (by omega);have h2:=BF (text:=text) ho hs hv (by omega);have hE:=Dg (a:=(pf d text)) (by exact BP (by omega));generalize(pf d text)=R at *;refine Pu.of_v aA T0 Tryz.func3 rfl rfl (by simp[aJ,aD,aG,aK,aP,aO,aM]) ?_;repeat' ((conv=>whnf)<;>(first|refine aB.go aA T0 ?_|exact kQ|(refine Br.mk (fun _=>?_) (fun _=>?_)<;>(try(exfalso;omega)))|refine stq ?_|refine Cll.pu (hF) ?_|refine aN.pu (hF) ?_|refine Cll.pu (h1) ?_|refine aN.pu (h1) ?_|refine Cll.pu (h2) ?_|refine aN.pu (h2) ?_|refine Cll.pu (hE) ?_|refine aN.pu (hE) ?_|refine Cll.pu (hal) ?_|refine aN.pu (hal) ?_))
   all_goals(conv=>whnf)
   exact aH.same rfl rfl
  ·have h1:=par_no (text:=text) ho hs hv;have h2:=Dv (text:=text) ho hs hv;have hE:=sr_nil;refine Pu.of_v aA T0 Tryz.func3 rfl rfl (by simp[aJ,aD,aG,aK,aP,aO,aM]) ?_;repeat' ((conv=>whnf)<;>(first|refine aB.go aA T0 ?_|exact kQ|(refine Br.mk (fun _=>?_) (fun _=>?_)<;>(try(exfalso;omega)))|refine stq ?_|refine Cll.pu (hF) ?_|refine aN.pu (hF) ?_|refine Cll.pu (h1) ?_|refine aN.pu (h1) ?_|refine Cll.pu (h2) ?_|refine aN.pu (h2) ?_|refine Cll.pu (hE) ?_|refine aN.pu (hE) ?_|refine Cll.pu (hal) ?_|refine aN.pu (hal) ?_))
   all_goals(conv=>whnf)
   exact aH.same rfl rfl
 ·rw[decide_eq_false hs] at hF;refine Pu.of_v aA T0 Tryz.func3 rfl rfl (by simp[aJ,aD,aG,aK,aP,aO,aM]) ?_;repeat' ((conv=>whnf)<;>(first|refine aB.go aA T0 ?_|exact kQ|(refine Br.mk (fun _=>?_) (fun _=>?_)<;>(try(exfalso;omega)))|refine stq ?_|refine Cll.pu (hF) ?_|refine aN.pu (hF) ?_|refine Cll.pu (hal) ?_|refine aN.pu (hal) ?_))
  all_goals(conv=>whnf)
  exact aH.same rfl rfl
end
end Go.Proofs.YtnjmcdmjmaopdaaGreatDoor
