/-
  The rules of lines in the reference: each position is decided as the table decides it.
-/
import Derived.Test.YtjjbmnacobnfeaaGreatDoorY4
import Derived.Test.YtjjbmnacobnfeaaGreatDoorM4
import Derived.Test.YtjjbmnacobnfeaaGreatDoorJ1
import Derived.Test.YtjjbmnacobnfeaaGreatDoorJ6
set_option linter.unusedSectionVars false
namespace Go.Proofs.YtjjbmnacobnfeaaGreatDoor
section
open Go Go.Am Classical
set_option maxRecDepth 100000
theorem n3 (cl:List Str) (rs:List Rul):aJ (.agg [strs cl,lstS ce rs])=true:=by
 letI:=gtR;simp[aJ,aD,aH,bH]
theorem El {g:FuncId}{ds:List D}{d:D}(hn:aD ds=true) (h:ik gtR Tryz.prog (jh Tryz.prog) spC 1000 (.fn g) ds .emp 0 (fun d1 h1 _=>fU h1 100000 d1 d)=true):@Pu gtR Tryz.prog g ds d:=by
 letI:=gtR;exact Pu.of_t aA T0 ji hn h
theorem rrul4:@Pu gtR Tryz.prog 65 [i64 4] (.str AK):=El rfl (by kernel_rfl)
theorem rpa4:@Pu gtR Tryz.prog 31 [i64 4] (.agg [strs cl4,lstS ce rs4]):=by
 letI:=gtR;have h1:=Eo;have h2:=rrul4;have h3:=DG;refine Pu.of_v aA T0 Tryz.func31 rfl rfl rfl ?_;repeat' ((conv=>whnf)<;>(first|refine aB.go aA T0 ?_|exact kQ|(refine Br.mk (fun _=>?_) (fun _=>?_)<;>(try(exfalso;omega)))|refine stq ?_|(refine Cll.dec (Dp (k:=4)) (fun _=>?_) (fun _=>?_)<;>(try(exfalso;omega)))|refine Cll.pu h1 ?_|refine Cll.pu h2 ?_|refine Cll.pu h3 ?_|fail))
 all_goals(conv=>whnf)
 exact aG.same (n3 _ _) rfl
theorem chk4:@Pu gtR Tryz.prog 66 [.agg [strs cl4,lstS ce rs4]] (i64 0):=El (by letI:=gtR;simp[aD,n3]) (by kernel_rfl)
theorem ok4:rs4.all (fun r=>okP r.left&&okP r.right)=true:=by kernel_rfl
theorem act4:rs4.all (fun r=>ibe r.act 1 || (ibe r.act 2 || ibe r.act 3))=true:=by kernel_rfl
theorem F9 (q:Option Nat):EU rs4 q=1∨EU rs4 q=2∨EU rs4 q=3:=by
 cases q with
 | none=>exact .inr (.inl rfl)
 | some i=>
  unfold EU;dsimp only;split
  ·rename_i r hr;have:=List.all_eq_true.1 act4 r (List.mem_of_getElem? hr)
   simp only[kN,kq] at this;exact this
  ·exact .inr (.inl rfl)
theorem CX {l:List Int}(hc:CL l cl4.length){k:Nat}(hk:k≤l.length):∃ q,sG cl4.length rs4 l k q∧(acts t4 l).getD k 0=EU rs4 q:=by
 obtain⟨q,q1,q2,q3⟩:=EC law4 hc hk;refine⟨q,q1,?_⟩;rw[aX (by rw[mi];omega)];simp only[acts,List.getElem_map,List.getElem_range];exact q2
theorem F5 {l:List Int}(hc:CL l cl4.length){k:Nat}(hk:k≤l.length):(acts t4 l).getD k 0=1∨(acts t4 l).getD k 0=2∨(acts t4 l).getD k 0=3:=by
 obtain⟨q,_,e⟩:=CX hc hk;rw[e];exact F9 q
theorem rdec4 {l:List Int}(hc:CL l cl4.length) (hl:l.length≤1000){k:Nat}(hk:k≤l.length):∃ i:Int,@Pu gtR Tryz.prog 33 [.agg [strs cl4,lstS ce rs4],aa l,i64 (k:Int)] (.tup [i64 ((acts t4 l).getD k 0),i64 i]):=by
 letI:=gtR;obtain⟨q,q1,e⟩:=CX hc hk;rw[e]
 exact⟨_,y7 chk4 (fun r hr=>by
  have:=List.all_eq_true.1 ok4 r hr
  simp only[kC] at this
  exact⟨wo _ this.1,wo _ this.2⟩) (by decide) (by decide) hl hc hk q1⟩
end
section
open Go Go.Am Classical
set_option maxRecDepth 100000
theorem DN {d:Db}{text:List Int}(ho:d.ok) (hx:text.length≤1000):@Pu gtR Tryz.prog 32 [dbD d,aa text] (aa (nvL d text)):=by
 letI:=gtR;have hC:=Eo;have hN:Pu Tryz.prog 25 [iA d.lin,strs cl4,aa text] (aa (nvL d text)):=EY (ho.prop 6) (by decide) hx;refine Pu.of_v aA T0 Tryz.func32 rfl rfl (by simp[aJ,aD,aH,aK,aQ,aP,aN]) ?_;repeat' ((conv=>whnf)<;>(first|refine aB.go aA T0 ?_|exact kQ|(refine Br.mk (fun _=>?_) (fun _=>?_)<;>(try(exfalso;omega)))|refine stq ?_|refine bL.by aA T0 [0,1,0,0,15,31] (by kernel_rfl) ?_|refine aM.pu hC ?_|refine aM.pu hN ?_))
 all_goals(conv=>whnf)
 exact aG.same (aN _) rfl
theorem DP {d:Db}{text:List Int}(ho:d.ok) (hs:SmD d) (hv:¬DbV d):@Pu gtR Tryz.prog 13 [dbD d,aa text] (.tup [aY,i64 11]):=by
 letI:=gtR;obtain⟨e,he,hi⟩:=pM ho hs;have h0:e≠0:=fun h=>hv (hi.1 h)
 refine Pu.of_v aA T0 Tryz.func13 rfl rfl (by simp[aJ,aD,aH,aK,aQ,aP,aN]) ?_;repeat' ((conv=>whnf)<;>(first|refine aB.go aA T0 ?_|exact kQ|(refine Br.mk (fun _=>?_) (fun _=>?_)<;>(try(exfalso;omega)))|refine stq ?_|refine Cll.pu (he) ?_))
 all_goals(conv=>whnf)
 exact⟨Rd.eqd rfl rfl⟩
set_option maxHeartbeats 8000000 in
theorem Aq {d:Db}{text:List Int}(ho:d.ok) (hs:SmD d) (hv:DbV d) (hx:text.length≤999):@Pu gtR Tryz.prog 13 [dbD d,aa text] (.tup [aa (oQ d.lin t4 text),i64 0]):=by
 letI:=gtR;obtain⟨e,he,hi⟩:=pM ho hs;obtain rfl:=hi.2 hv;have hR:=rpa4;have hC:=DN (text:=text) ho (by omega);have hnl:=Dd d text;have hl:=vV (p:=d.lin) (text:=text)
 have hD:∀ k:Nat,k≤text.length→∃ i:Int,Pu Tryz.prog 33 [.agg [strs cl4,lstS ce rs4],aa (nvL d text),i64 (k:Int)] (.tup [i64 ((oQ d.lin t4 text).getD k 0),i64 i]):=fun k hk=>by
  have h:=rdec4 (l:=nvL d text) (ub (p:=d.lin) (text:=text) (t:=t4) tv4.1) (by omega) (k:=k) (by omega);rw[oQ,if_pos tv4.1];exact h
 generalize oQ d.lin t4 text=A at *;generalize nvL d text=nv at *;generalize cl4=cl at *;generalize rs4=rs at *;refine Pu.of_v aA T0 Tryz.func13 rfl rfl (by simp[aJ,aD,aH,aK,aQ,aP,aN]) ?_;repeat' ((conv=>whnf)<;>(first|refine aB.go aA T0 ?_|exact kQ|(refine Br.mk (fun _=>?_) (fun _=>?_)<;>(try(exfalso;omega)))|refine stq ?_|refine Cll.pu (he) ?_|refine aM.pu (he) ?_|refine Cll.pu (hR) ?_|refine aM.pu (hR) ?_|refine Cll.pu (hC) ?_|refine aM.pu (hC) ?_|fail))
 refine aU.by2 aA T0 (fun(k:Nat) (o:List Int)=>⟨tmp 37 [(6,.ptr 0 0),(7,aa nv),(8,ai 1 1 o),(9,i64 (k:Int))],⟨2,cv 1 (fun x=>[i64 x]) o++[(0,.cells [strs cl,lstS ce rs] true)]⟩⟩)
  (fun k o=>k≤A.length∧o=A.take k) (fun k _=>A.length-k) 0 [] ⟨by omega,rfl⟩ ?_ ?_
 ·exact Lf.of2 [(0,_)] [] enA (by repeat(first|exact Bxs.nil|refine Bxs.cons rfl rfl rfl (by first|exact Rb.cells (Rds.same (fw _ _)) rfl|exact rbB|exact Rb.cells bS rfl|exact rbC|fail) ?_)) rfl rfl
 intro k o ⟨h3,h4⟩;have hol:o.length≤k:=by rw[h4,List.length_take];omega
 by_cases hk:k<A.length
 ·obtain⟨i,hq⟩:=hD k (by omega);rw[aX hk] at hq;have hs2:o++[A[k]]=A.take (k+1):=by rw[h4,List.take_add_one,List.getElem?_eq_getElem hk];rfl
  cases o with
  | nil=>
   repeat' ((conv=>whnf)<;>(first|refine aB.go aA T0 ?_|exact kQ|(refine Br.mk (fun _=>?_) (fun _=>?_)<;>(try(exfalso;omega)))|refine stq ?_|refine Cll.pu hq ?_|fail))
   all_goals(conv=>whnf)
   refine⟨k+1,_,⟨by omega,hs2⟩,by omega,?_⟩;exact Lf.of2 [(0,_),(1,_)] [] enA (by repeat(first|exact Bxs.nil|refine Bxs.cons rfl rfl rfl (by first|exact Rb.cells (Rds.same (fw _ _)) rfl|exact rbB|exact Rb.cells bS rfl|exact rbC|fail) ?_)) rfl rfl
  | cons x xs=>
   have hlen:(x::xs).length≤1001:=by omega
   repeat' ((conv=>whnf)<;>(first|refine aB.go aA T0 ?_|exact kQ|(refine Br.mk (fun _=>?_) (fun _=>?_)<;>(try(exfalso;omega)))|refine stq ?_|refine Cll.pu hq ?_|fail))
   all_goals(conv=>whnf)
   refine⟨k+1,_,⟨by omega,hs2⟩,by omega,?_⟩;exact Lf.of2 [(0,_),(1,_)] [] (by repeat(first|exact aI.nil|refine aI.cons rfl (by first|exact Rd.sl' rfl (by simp) (by simp)|exact rdA|fail) ?_)) (by repeat(first|exact Bxs.nil|refine Bxs.cons rfl rfl rfl (by first|exact Rb.cells (Rds.eqs (ax (by intro _;rfl) (x::xs) _) (aE (by intro _;rfl) _)) rfl|exact Rb.cells (Rds.same (fw _ _)) rfl|exact rbB|exact Rb.cells (by(repeat(first|exact Rds.nil|refine Rds.cons (by first|exact Rd.sl' rfl (by simp) (by simp)|exact rdA|fail) ?_|fail));(first|done|fail)) rfl|exact rbC|fail) ?_)) rfl rfl
 ·rw[kE (by omega)] at h4;subst h4;cases o with
  | nil=>exact absurd hl (by simp)
  | cons x xs=>
   repeat' ((conv=>whnf)<;>(first|refine aB.go aA T0 ?_|exact kQ|(refine Br.mk (fun _=>?_) (fun _=>?_)<;>(try(exfalso;omega)))|refine stq ?_))
   all_goals(conv=>whnf)
   exact⟨.tup (.cons (FQ (b:=x::xs) rfl rfl (ae _) rfl) (.cons (.same rfl) .nil))⟩
theorem Fj {p:Int→Bool}{A:List Int}:E6 p A 1=[]:=(FJ (k:=0) (by omega)).trans Fe
theorem F8 {d:Db}{text:List Int}{k:Nat}(h:k<(oQ d.lin t4 text).length):F3 (oQ d.lin t4 text)[k]=decide (¬(oQ d.lin t4 text)[k]=1):=by
 have hl:=vV (p:=d.lin) (text:=text);have e0:oQ d.lin t4 text=acts t4 (cZ d.lin cl4 text):=by rw[oQ,if_pos tv4.1];rfl
 have hc:CL (cZ d.lin cl4 text) cl4.length:=@ub gtR d.lin t4 text tv4.1;have hn:(cZ d.lin cl4 text).length=text.length:=by simp[cZ]
 have hr:=F5 hc (k:=k) (by omega);rw[←e0,aX h] at hr;unfold F3;rcases hr with h|h|h<;>rw[h]<;>decide
set_option maxHeartbeats 8000000 in
theorem F6 {d:Db}{text:List Int}(ho:d.ok) (hs:SmD d) (hv:DbV d) (hx:text.length≤999):@Pu gtR Tryz.prog 27 [dbD d,aa text] (.tup [aa (F4 d text),i64 0]):=by
 letI:=gtR;have hA:=Aq ho hs hv hx;have hl:=vV (p:=d.lin) (text:=text);have hcond:∀ k (h:k<(oQ d.lin t4 text).length),F3 (oQ d.lin t4 text)[k]=decide (¬(oQ d.lin t4 text)[k]=1):=fun k h=>F8 h
 unfold F4;generalize oQ d.lin t4 text=A at *;refine Pu.of_v aA T0 Tryz.func27 rfl rfl (by simp[aJ,aD,aH,aK,aQ,aP,aN]) ?_;repeat' ((conv=>whnf)<;>(first|refine aB.go aA T0 ?_|exact kQ|(refine Br.mk (fun _=>?_) (fun _=>?_)<;>(try(exfalso;omega)))|refine stq ?_|refine Cll.pu (hA) ?_|refine aM.pu (hA) ?_|fail))
 refine aU.by2 aA T0 (fun(k:Nat) (o:List Int)=>⟨tmp 37 [(1,aa text),(6,aa A),(7,i64 0),(8,ai 0 1 o),(9,i64 (k:Int))],⟨1,cv 0 (fun x=>[i64 x]) o⟩⟩)
  (fun k o=>(1≤k∧(k≤text.length∨k=1)∧k≤A.length)∧o=E6 F3 A k) (fun k _=>text.length-k) 1 [] ⟨by omega,Fj.symm⟩ ?_ ?_
 ·exact Lf.of2 [] [] enA bxA rfl rfl
 intro k o ⟨⟨h3,h3',h3''⟩,h4⟩;have hol:o.length≤k:=by rw[h4];exact FC
 by_cases hk:k<text.length
 ·have hkA:k<A.length:=by omega
  have hcc:=hcond k hkA;have e0:A.getD k 0=A[k]:=aX hkA;by_cases hp:F3 A[k]=true
  ·have hs2:=FO (p:=F3) (A:=A) (k:=k) (by omega) (by omega) (by rw[e0];exact hp);rw[←h4] at hs2;rw[hp] at hcc;have hcd:=of_decide_eq_true hcc.symm;cases o with
   | nil=>
    repeat' ((conv=>whnf)<;>(first|refine Idx.at (f:=i64) (l:=A) k (by omega) (by omega) ?_|refine aB.go aA T0 ?_|exact kQ|(refine Br.mk (fun _=>?_) (fun _=>?_)<;>(try(exfalso;omega)))|refine stq ?_))
    all_goals(conv=>whnf)
    refine⟨k+1,[]++[(k:Int)],⟨⟨by omega,by omega,by omega⟩,hs2.symm⟩,by omega,?_⟩;exact Lf.of2 [(0,_)] [] enA bxA rfl rfl
   | cons x xs=>
    have hlen:(x::xs).length≤1001:=by omega
    repeat' ((conv=>whnf)<;>(first|refine Idx.at (f:=i64) (l:=A) k (by omega) (by omega) ?_|refine aB.go aA T0 ?_|exact kQ|(refine Br.mk (fun _=>?_) (fun _=>?_)<;>(try(exfalso;omega)))|refine stq ?_))
    all_goals(conv=>whnf)
    refine⟨k+1,_,⟨⟨by omega,by omega,by omega⟩,hs2.symm⟩,by omega,?_⟩;exact Lf.of2 [(0,_)] [] (by repeat(first|exact aI.nil|refine aI.cons rfl (by first|exact Rd.sl' rfl (by simp) (by simp)|exact rdA|fail) ?_)) (by repeat(first|exact Bxs.nil|refine Bxs.cons rfl rfl rfl (by first|exact Rb.cells (Rds.eqs (ax (by intro _;rfl) (x::xs) _) (aE (by intro _;rfl) _)) rfl|exact rbB|exact Rb.cells (by(repeat(first|exact Rds.nil|refine Rds.cons (by first|exact Rd.sl' rfl (by simp) (by simp)|exact rdA|fail) ?_|fail));(first|done|fail)) rfl|exact rbC|fail) ?_)) rfl rfl
  ·have hp':F3 A[k]=false:=by simpa using hp
   have hs2:=FP (p:=F3) (A:=A) (k:=k) (by rw[e0];exact hp');rw[hp'] at hcc;have hcd:=of_decide_eq_false hcc.symm;cases o with
   | nil=>
    repeat' ((conv=>whnf)<;>(first|refine Idx.at (f:=i64) (l:=A) k (by omega) (by omega) ?_|refine aB.go aA T0 ?_|exact kQ|(refine Br.mk (fun _=>?_) (fun _=>?_)<;>(try(exfalso;omega)))|refine stq ?_))
    all_goals(conv=>whnf)
    refine⟨k+1,[],⟨⟨by omega,by omega,by omega⟩,by rw[hs2];exact h4⟩,by omega,?_⟩;exact Lf.of2 [] [] enA bxA rfl rfl
   | cons x xs=>
    repeat' ((conv=>whnf)<;>(first|refine Idx.at (f:=i64) (l:=A) k (by omega) (by omega) ?_|refine aB.go aA T0 ?_|exact kQ|(refine Br.mk (fun _=>?_) (fun _=>?_)<;>(try(exfalso;omega)))|refine stq ?_))
    all_goals(conv=>whnf)
    refine⟨k+1,x::xs,⟨⟨by omega,by omega,by omega⟩,by rw[hs2];exact h4⟩,by omega,?_⟩;exact Lf.of2 [(0,_)] [] enA bxA rfl rfl
 ·rw[Fl hl h3 (by omega) h3'] at h4;rw[←h4];cases o with
  | nil=>
   repeat' ((conv=>whnf)<;>(first|refine aB.go aA T0 ?_|exact kQ|(refine Br.mk (fun _=>?_) (fun _=>?_)<;>(try(exfalso;omega)))|refine stq ?_))
   all_goals(conv=>whnf)
   exact⟨.tup (.cons .nil (.cons (.same rfl) .nil))⟩
  | cons x xs=>
   repeat' ((conv=>whnf)<;>(first|refine aB.go aA T0 ?_|exact kQ|(refine Br.mk (fun _=>?_) (fun _=>?_)<;>(try(exfalso;omega)))|refine stq ?_))
   all_goals(conv=>whnf)
   exact⟨.tup (.cons (FQ (b:=x::xs) rfl rfl (ae _) rfl) (.cons (.same rfl) .nil))⟩
theorem GA {d:Db}{text:List Int}(ho:d.ok) (hs:SmD d) (hv:¬DbV d):@Pu gtR Tryz.prog 27 [dbD d,aa text] (.tup [aY,i64 11]):=by
 letI:=gtR;have hA:=DP (text:=text) ho hs hv;refine Pu.of_v aA T0 Tryz.func27 rfl rfl (by simp[aJ,aD,aH,aK,aQ,aP,aN]) ?_;repeat' ((conv=>whnf)<;>(first|refine aB.go aA T0 ?_|exact kQ|(refine Br.mk (fun _=>?_) (fun _=>?_)<;>(try(exfalso;omega)))|refine stq ?_|refine Cll.pu (hA) ?_|refine aM.pu (hA) ?_|fail))
 refine aU.by aA T0 (fun _:Nat=>⟨tmp 37 [(1,aa text),(6,aY),(7,i64 11),(8,aY),(9,i64 1)],⟨0,[]⟩⟩)
  (fun _=>True) (fun k=>k) 0 trivial ?_ ?_
 ·exact Lf.of2 [] [] enA bxA rfl rfl
 intro k _;repeat' ((conv=>whnf)<;>(first|refine aB.go aA T0 ?_|exact kQ|(refine Br.mk (fun _=>?_) (fun _=>?_)<;>(try(exfalso;omega)))|refine stq ?_))
 all_goals(conv=>whnf)
 all_goals exact⟨Rd.eqd rfl rfl⟩
theorem few_c {d:Db}{text:List Int}(ho:d.ok):@Pu gtR Tryz.prog 10 [dbD d,aa text] (boo (decide (SmD d∧text.length≤12))):=by
 letI:=gtR;refine Pu.of_v aA T0 Tryz.func10 rfl rfl (by simp[aJ,aD,aH,aK,aQ,aP,aN]) ?_;by_cases hs:SmD d
 ·have hS:=yr ho hs;repeat' ((conv=>whnf)<;>(first|refine aB.go aA T0 ?_|exact kQ|(refine Br.mk (fun _=>?_) (fun _=>?_)<;>(try(exfalso;omega)))|refine stq ?_|refine Cll.pu (hS) ?_|refine aM.pu (hS) ?_))
  all_goals(conv=>whnf)
  all_goals first
   | exact aG.yes ⟨hs,by omega⟩
   | exact aG.no (fun h=>by have:=h.2;omega)
 ·have hS:=Ad ho hs;repeat' ((conv=>whnf)<;>(first|refine aB.go aA T0 ?_|exact kQ|(refine Br.mk (fun _=>?_) (fun _=>?_)<;>(try(exfalso;omega)))|refine stq ?_|refine Cll.pu (hS) ?_|refine aM.pu (hS) ?_))
  all_goals(conv=>whnf)
  exact aG.no (fun h=>hs h.1)
theorem zf [GT] {a:List Int}(h:a.length≤9223372036854775807):Pu Tryz.prog 14 [aa a,aa a] (boo true):=by
 have h:=EZ (a:=a) (b:=a) h
 rwa [decide_eq_true rfl] at h
theorem eq_nil [GT]:Pu Tryz.prog 14 [aY,aY] (boo true):=Pu.of_t aA T0 (sp:=fun _ _=>none) (fun _ _ _ h=>by cases h) rfl (by kernel_rfl:ik _ Tryz.prog (jh Tryz.prog) (fun _ _=>none) 100 (.fn 14) [aY,aY] .emp 0 (fun d1 h1 _=>fU h1 100000 d1 (boo true))=true)
theorem GD {d:Db}{text:List Int}(ho:d.ok) (_:text.length≤9223372036854775807):@Pu gtR Tryz.prog 8 [dbD d,aa text] (boo true):=by
 letI:=gtR;have hal:=ER;have hF:=few_c (text:=text) ho;by_cases hs:SmD d∧text.length≤12
 ·rw[decide_eq_true hs] at hF;obtain⟨hs,hx⟩:=hs;by_cases hv:DbV d
  ·have h1:=GC (text:=text) ho hs hv (by omega);have h2:=F6 (text:=text) ho hs hv (by omega);have hE:=zf (a:=(F4 d text)) (by exact Nat.le_trans FC (by rw[vV];omega));generalize(F4 d text)=R at *;refine Pu.of_v aA T0 Tryz.func8 rfl rfl (by simp[aJ,aD,aH,aK,aQ,aP,aN]) ?_;repeat' ((conv=>whnf)<;>(first|refine aB.go aA T0 ?_|exact kQ|(refine Br.mk (fun _=>?_) (fun _=>?_)<;>(try(exfalso;omega)))|refine stq ?_|refine Cll.pu (hF) ?_|refine aM.pu (hF) ?_|refine Cll.pu (h1) ?_|refine aM.pu (h1) ?_|refine Cll.pu (h2) ?_|refine aM.pu (h2) ?_|refine Cll.pu (hE) ?_|refine aM.pu (hE) ?_|refine Cll.pu (hal) ?_|refine aM.pu (hal) ?_))
   all_goals(conv=>whnf)
   exact aG.same rfl rfl
  ·have h1:=opp_no (text:=text) ho hs hv;have h2:=GA (text:=text) ho hs hv;have hE:=eq_nil;refine Pu.of_v aA T0 Tryz.func8 rfl rfl (by simp[aJ,aD,aH,aK,aQ,aP,aN]) ?_;repeat' ((conv=>whnf)<;>(first|refine aB.go aA T0 ?_|exact kQ|(refine Br.mk (fun _=>?_) (fun _=>?_)<;>(try(exfalso;omega)))|refine stq ?_|refine Cll.pu (hF) ?_|refine aM.pu (hF) ?_|refine Cll.pu (h1) ?_|refine aM.pu (h1) ?_|refine Cll.pu (h2) ?_|refine aM.pu (h2) ?_|refine Cll.pu (hE) ?_|refine aM.pu (hE) ?_|refine Cll.pu (hal) ?_|refine aM.pu (hal) ?_))
   all_goals(conv=>whnf)
   exact aG.same rfl rfl
 ·rw[decide_eq_false hs] at hF;refine Pu.of_v aA T0 Tryz.func8 rfl rfl (by simp[aJ,aD,aH,aK,aQ,aP,aN]) ?_;repeat' ((conv=>whnf)<;>(first|refine aB.go aA T0 ?_|exact kQ|(refine Br.mk (fun _=>?_) (fun _=>?_)<;>(try(exfalso;omega)))|refine stq ?_|refine Cll.pu (hF) ?_|refine aM.pu (hF) ?_|refine Cll.pu (hal) ?_|refine aM.pu (hal) ?_))
  all_goals(conv=>whnf)
  exact aG.same rfl rfl
end
end Go.Proofs.YtjjbmnacobnfeaaGreatDoor
