/-
  Contracts of functions over data: boundaries and ranges of a text by a table (the program).
-/
import Derived.Test.YtjpgpihbhicinaaGreatDoorG0
import Derived.Test.YtjpgpihbhicinaaGreatDoorAmD
set_option linter.unusedSectionVars false
namespace Go.Proofs.YtjpgpihbhicinaaGreatDoor
section
open Go Go.Am Classical
set_option maxRecDepth 100000
variable [GT]
def dL (l:List Int) (k:Nat):List Int:=((List.range k).filter fun i=>decide (l.getD i 0≠1)).map fun(i:Nat)=>(i:Int)
theorem uz {l:List Int}{k:Nat}(h:k<l.length) (e:¬l[k]=1):dL l (k+1)=dL l k++[(k:Int)]:=by
 have this:l.getD k 0≠1:=by rw[ac h];exact e
 unfold dL;rw[List.range_succ,List.filter_append,List.map_append,List.filter_cons_of_pos (p:=fun i=>decide (l.getD i 0≠1)) (a:=k) (decide_eq_true this)];rfl
theorem xm {l:List Int}{k:Nat}(h:k<l.length) (e:l[k]=1):dL l (k+1)=dL l k:=by
 have this:l.getD k 0=1:=by rw[ac h];exact e
 unfold dL;rw[List.range_succ,List.filter_append,List.map_append,List.filter_cons_of_neg (p:=fun i=>decide (l.getD i 0≠1)) (a:=k) (fun h=>absurd this (of_decide_eq_true h)),List.filter_nil,List.map_nil,List.append_nil]
theorem u3 {l:List Int}{k:Nat}:(dL l k).length≤k:=by
 simp only[dL,List.length_map];refine Nat.le_trans (List.length_filter_le _ _) (by simp)
theorem CD {p:Prp}{t:Tbl}{text:List Int}(h:text.length≤1000):(i4 p t text).length≤1001:=by
 unfold i4;split
 ·rw[dR];simp[bD];omega
 ·simp
noncomputable def nQ (p:Prp) (t:Tbl) (text:List Int):List Int:=dL (i4 p t text) (i4 p t text).length
theorem ql {p:Prp}{t:Tbl}{text:List Int}(hp:p.ok) (ht:t.ok) (h1:p.names.length≤1000) (h2:p.spans.length≤1000) (hx:text.length≤1000):Pu Tryz.prog 31 [fF p,d7 t,aQ text] (aQ (nQ p t text)):=by
 have ha:=pI (text:=text) hp ht h1 h2 hx;have hl:=CD (p:=p) (t:=t) hx;unfold nQ;refine Pu.of_v aA T0 Tryz.func31 rfl rfl (by simp[aH,aC,aG,aJ,aD,ah]) ?_;generalize i4 p t text=l at ha hl ⊢;repeat' ((conv=>whnf)<;>(first|refine aE.go aA T0 ?_|exact kQ|(refine Br.mk (fun _=>?_) (fun _=>?_)<;>(try(exfalso;omega)))|refine stq ?_|refine Cll.pu ha ?_))
 all_goals(conv=>whnf)
 refine aT.by2 aA T0 (fun(k:Nat) (o:List Int)=>⟨tmp 28 [(7,aj 0 1 o),(13,aQ l),(14,i64 l.length),(15,i64 (k:Int))],⟨1,cx 0 (fun x=>[i64 x]) o⟩⟩)
  (fun k o=>k≤l.length∧o=dL l k) (fun k _=>l.length-k) 0 [] ⟨by omega,rfl⟩ ?_ ?_
 ·exact Lf.of2 [] [] enA bxA rfl rfl
 intro k o ⟨h3,h4⟩;cases o with
 | nil=>
  repeat' ((conv=>whnf)<;>(first|refine aE.go aA T0 ?_|exact kQ|(refine Br.mk (fun _=>?_) (fun _=>?_)<;>(try(exfalso;omega)))|refine stq ?_))
  all_goals(conv=>whnf)
  all_goals first
   | (refine⟨k+1,[],⟨by omega,by rw[xm (by omega) (by omega)];exact h4⟩,by omega,?_⟩
      exact Lf.of2 [] [] enA bxA rfl rfl)
   | (refine⟨k+1,_,⟨by omega,by rw[uz (by omega) (by omega),←h4]⟩,by omega,?_⟩
      exact Lf.of2 [(0,_)] [] enA bxA rfl rfl)
   | (rw[show l.length=k by omega,←h4]
      exact⟨.nil⟩)
 | cons x xs=>
  have hlen:(x::xs).length≤1001:=by have:=u3 (l:=l) (k:=k);rw[h4];omega
  repeat' ((conv=>whnf)<;>(first|refine aE.go aA T0 ?_|exact kQ|(refine Br.mk (fun _=>?_) (fun _=>?_)<;>(try(exfalso;omega)))|refine stq ?_))
  all_goals(conv=>whnf)
  all_goals first
   | (refine⟨k+1,x::xs,⟨by omega,by rw[xm (by omega) (by omega)];exact h4⟩,by omega,?_⟩
      exact Lf.of2 [(0,_)] [] enA bxA rfl rfl)
   | (refine⟨k+1,_,⟨by omega,by rw[uz (by omega) (by omega),←h4]⟩,by omega,?_⟩
      exact Lf.of2 [(0,_)] [] (by(repeat(first|exact aI.nil|refine aI.cons rfl (by first|exact Rd.sl' rfl (by simp) (by simp)|exact rdA|fail) ?_|fail));(first|done|fail)) (by(repeat(first|exact Bxs.nil|refine Bxs.cons rfl rfl rfl (by first|exact Rb.cells (Rds.eqs (bA (by intro _;rfl) (x::xs) _) (aM (by intro _;rfl) _)) rfl|exact rbB|exact Rb.cells (by(repeat(first|exact Rds.nil|refine Rds.cons (by first|exact Rd.sl' rfl (by simp) (by simp)|exact rdA|fail) ?_|fail));(first|done|fail)) rfl|exact rbC|fail) ?_|fail));(first|done|fail)) rfl rfl)
   | (rw[show l.length=k by omega,←h4]
      exact aN.own1 (id:=0) (l:=x::xs) (rest:=[]) (fun _=>rfl))
noncomputable def fC (p:Prp) (t:Tbl) (text:List Int):List Rng:=if TV t then btw 0 (nQ p t text++[(text.length:Int)]) else []
end
section
open Go Go.Am Classical
variable [GT]
def ptF (n:Int):Int→Int→List Int→List Rng
 | _,_,[]=>[]
 | i,s,a::l=>if i=s∨(a=1∧i<n-1) then ptF n (i+1) s l else⟨s,i⟩::ptF n (i+1) i l
def oP:Int→List Int→List Int
 | _,[]=>[]
 | i,a::l=>if a≠1 then i::oP (i+1) l else oP (i+1) l
theorem sc {n:Int}:∀ (l:List Int) (i s:Int),s≤i→i+l.length=n→l≠[]→ptF n i s l=btw s (oP i l++[n-1])
 | [],_,_,_,_,h=>absurd rfl h
 | [a],i,s,h1,h2,_=>by
  simp only[List.length_singleton] at h2;have e:n-1=i:=by omega
  rw[e];simp only[ptF,oP,e,Int.lt_irrefl,and_false,or_false];by_cases h:i=s
  ·subst h;by_cases ha:a=1<;>simp[ha,btw]
  ·have:s<i:=by omega
   by_cases ha:a=1<;>simp[h,ha,btw,this]
 | a::b::l,i,s,h1,h2,_=>by
  have hlen:i+1+((b::l).length:Int)=n:=by simp only[kO] at h2 ⊢;omega
  have hi:i<n-1:=by simp only[kO] at h2;omega
  have e1:ptF n i s (a::b::l)=if i=s∨(a=1∧i<n-1) then ptF n (i+1) s (b::l) else⟨s,i⟩::ptF n (i+1) i (b::l):=rfl
  have e2:oP i (a::b::l)=if a≠1 then i::oP (i+1) (b::l) else oP (i+1) (b::l):=rfl
  rw[e1,e2];have q1:=sc (b::l) (i+1) s (by omega) hlen (by simp);have q2:=sc (b::l) (i+1) i (by omega) hlen (by simp);by_cases h:i=s
  ·rw[if_pos (.inl h),q1];by_cases ha:a=1
   ·rw[if_neg (by simpa using ha)]
   ·rw[if_pos ha,List.cons_append,btw,if_neg (by omega)]
  ·by_cases ha:a=1
   ·rw[if_pos (.inr ⟨ha,hi⟩),if_neg (by simpa using ha),q1]
   ·rw[if_neg (by intro hc;rcases hc with hc|hc;exact h hc;exact ha hc.1),if_pos ha,List.cons_append,btw,if_pos (by omega),q2]
theorem xo:∀ (l:List Int) (i:Int),oP i l=((List.range l.length).filter fun j=>decide (l.getD j 0≠1)).map fun(j:Nat)=>i+(j:Int)
 | [],_=>rfl
 | a::l,i=>by
  have ih:=xo l (i+1);have e1:oP i (a::l)=if a≠1 then i::oP (i+1) l else oP (i+1) l:=rfl
  have e3:∀ (f:Nat→Int),(((List.range l.length).map Nat.succ).filter fun j=>decide ((a::l).getD j 0≠1)).map f=((List.range l.length).filter fun j=>decide (l.getD j 0≠1)).map fun j=>f (j+1):=by
   intro f;rw[List.filter_map,List.map_map];rfl
  rw[e1,kO,List.range_succ_eq_map,ih];have e4:(fun j:Nat=>i+1+(j:Int))=fun j:Nat=>i+((j+1:Nat):Int):=by funext j;omega
  by_cases ha:a=1
  ·rw[if_neg (by simpa using ha),List.filter_cons_of_neg (p:=fun j=>decide ((a::l).getD j 0≠1)) (a:=0) (by simp[ha]),e3,e4]
  ·rw[if_pos ha,List.filter_cons_of_pos (p:=fun j=>decide ((a::l).getD j 0≠1)) (a:=0) (by simp[ha]),List.map_cons,e3,e4];simp
theorem zJ (l:List Int):dL l l.length=oP 0 l:=by
 rw[xo,dL];congr 1;funext j;omega
def ptV (l:List Int):List Rng:=ptF l.length 0 0 l
theorem Cy {p:Prp}{t:Tbl}{text:List Int}:ptV (i4 p t text)=fC p t text:=by
 unfold ptV fC nQ;by_cases hv:TV t
 ·have hl:(i4 p t text).length=text.length+1:=by rw[i4,if_pos hv,dR];simp[bD]
  rw[if_pos hv,zJ,sc _ _ _ (by omega) (by omega) (by intro h;rw[h] at hl;simp at hl),hl];congr 3;omega
 ·rw[if_neg hv,i4,if_neg hv];rfl
end
section
open Go Go.Am Classical
set_option maxRecDepth 100000
variable [GT]
theorem AF {l:List Int}:Pk Tryz.prog 65 [aQ l] 1 (fun n=>.fn (.func 90) [] [.ptr n 0]) (fun n=>[(n,.cells [aQ l] true)]):=by
 refine Pk.of_v aA T0 Tryz.func65 rfl rfl (by simp[aC,aD]) ?_;repeat' ((conv=>whnf)<;>(first|refine aE.go aA T0 ?_|exact kQ|(refine Br.mk (fun _=>?_) (fun _=>?_)<;>(try(exfalso;omega)))|refine stq ?_))
 all_goals(conv=>whnf)
 exact⟨[0],rfl,⟨by simp,fun n=>.fn .nil (.cons (.ptr (by simp[sgn])) .nil),fun n=>.cons (id:=0) (by simp[sgn]) rfl rfl (.cells (.cons (.same (aD l)) .nil) rfl) .nil⟩⟩
noncomputable abbrev px (l:List Int):Box:=.loop .ready none [aU,.fn (.func 90) [] [.iptr [aQ l]],.ptr 0 0,aX,aU,aX,.fn (.func 90) [] [.iptr [aQ l]],aX,aX,aX,aX,aX,aX] [7] (fnA Tryz.f89) (fnB Tryz.f89)
theorem Aa {n i s a:Int}{l:List Int}(h:i=s∨(a=1∧i<n-1)):ptF n i s (a::l)=ptF n (i+1) s l:=by rw[ptF,if_pos h]
theorem oZ {n i s a:Int}{l:List Int}(h:¬(i=s∨(a=1∧i<n-1))):ptF n i s (a::l)=⟨s,i⟩::ptF n (i+1) i l:=by rw[ptF,if_neg h]
theorem v4 {h:aB}{fz:Nat→Bool}{σl:List (Nat×Nat)}{l:List Int}:Rb h fz (sgm 5 σl) (px l) (px l):=
 .loop (by repeat(first|exact Rds.nil|refine Rds.cons (by first|exact Rd.same rfl|exact Rd.ptr rfl|exact Rd.same (by simp[aH,aC,aD])) ?_))
theorem v7 {l:List Int}(hx:l.length≤1001):AC1 Tryz.prog 90 [.yf 4,.iptr [aQ l]] ⟨5,[(4,px l),(3,.dfr),(0,.cells [aU] true)]⟩ (.tup []) ⟨7,cx 5 cO (ptV l)++[(4,px l),(3,.dfr),(0,.cells [aj 5 2 (ptV l)] true)]⟩:=by
 refine AC1.of_vl aA T0 Tryz.func90 rfl rfl ?_;repeat' ((conv=>whnf)<;>(first|refine aE.go aA T0 ?_|exact kQ|(refine Br.mk (fun _=>?_) (fun _=>?_)<;>(try(exfalso;omega)))|refine stq ?_))
 all_goals(conv=>whnf)
 refine aT.by3 aA T0 (fun(k:Nat) (s:Int) (o:List Rng)=>⟨tmp 35 [(0,.yf 4),(1,.iptr [aQ l]),(3,i64 s),(6,aQ l),(7,i64 l.length),(8,i64 (k:Int))],⟨6,cx 5 cO o++[(4,px l),(3,.dfr),(0,.cells [aj 5 2 o] true)]⟩⟩)
  (fun k s o=>(k≤l.length∧o.length≤k)∧ptV l=o++ptF l.length k s (l.drop k)) (fun k _ _=>l.length-k) 0 0 [] ⟨⟨by omega,by simp⟩,rfl⟩ ?_ ?_
 ·exact Lf.of2 [] [] (by repeat(first|exact aI.nil|refine aI.cons rfl (by first|exact Rd.yf rfl|exact Rd.same (by simp[aH,aC,aD])|exact rdA|fail) ?_)) (by repeat(first|exact Bxs.nil|refine Bxs.cons rfl rfl rfl (by first|exact Rb.dfr|exact v4|exact rbB|exact Rb.cells (by(repeat(first|exact Rds.nil|refine Rds.cons (by first|exact Rd.yf rfl|exact Rd.same (by simp[aH,aC,aD])|exact rdA|fail) ?_|fail));(first|done|fail)) rfl|exact rbC|fail) ?_)) rfl rfl
 intro k s o ⟨⟨h3,h5⟩,h4⟩;cases o with
 | nil=>
  repeat' ((conv=>whnf)<;>(first|refine aE.go aA T0 ?_|exact kQ|(refine Br.mk (fun _=>?_) (fun _=>?_)<;>(try(exfalso;omega)))|refine stq ?_|(apply Yll.sv rfl rfl (SvR.region T0 ?_);rotate_left)|exact And.intro rfl rfl|refine And.intro rfl (SvR.block (SvR.region T0 ?_))|fail))
  all_goals(conv=>whnf)
  all_goals first
   | (refine⟨k+1,s,[],⟨⟨by omega,by simp⟩,by rw[h4,kK (by omega),Aa (by first|(left;omega)|(right;omega))];rfl⟩,by omega,?_⟩
      exact Lf.of2 [] [] (by(repeat(first|exact aI.nil|refine aI.cons rfl (by first|exact Rd.yf rfl|exact Rd.same (by simp[aH,aC,aD])|exact rdA|fail) ?_|fail));(first|done|fail)) (by(repeat(first|exact Bxs.nil|refine Bxs.cons rfl rfl rfl (by first|exact Rb.dfr|exact v4|exact rbB|exact Rb.cells (by(repeat(first|exact Rds.nil|refine Rds.cons (by first|exact Rd.yf rfl|exact Rd.same (by simp[aH,aC,aD])|exact rdA|fail) ?_|fail));(first|done|fail)) rfl|exact rbC|fail) ?_|fail));(first|done|fail)) rfl rfl)
   | (have h9:l[k]'(by omega)=1:=by assumption
      refine⟨k+1,k,[⟨s,k⟩],⟨⟨by omega,by simp⟩,by rw[h4,kK (by omega),oZ (by omega)];rfl⟩,by omega,?_⟩
      exact Lf.of2 [(5,36)] [] (by(repeat(first|exact aI.nil|refine aI.cons rfl (by first|exact Rd.yf rfl|exact Rd.same (by simp[aH,aC,aD])|exact rdA|fail) ?_|fail));(first|done|fail)) (by(repeat(first|exact Bxs.nil|refine Bxs.cons rfl rfl rfl (by first|exact Rb.dfr|exact v4|exact rbB|exact Rb.cells (by(repeat(first|exact Rds.nil|refine Rds.cons (by first|exact Rd.yf rfl|exact Rd.same (by simp[aH,aC,aD])|exact rdA|fail) ?_|fail));(first|done|fail)) rfl|exact rbC|fail) ?_|fail));(first|done|fail)) rfl rfl)
   | (refine⟨k+1,k,[⟨s,k⟩],⟨⟨by omega,by simp⟩,by rw[h4,kK (by omega),oZ (by omega)];rfl⟩,by omega,?_⟩
      exact Lf.of2 [(5,31)] [] (by(repeat(first|exact aI.nil|refine aI.cons rfl (by first|exact Rd.yf rfl|exact Rd.same (by simp[aH,aC,aD])|exact rdA|fail) ?_|fail));(first|done|fail)) (by(repeat(first|exact Bxs.nil|refine Bxs.cons rfl rfl rfl (by first|exact Rb.dfr|exact v4|exact rbB|exact Rb.cells (by(repeat(first|exact Rds.nil|refine Rds.cons (by first|exact Rd.yf rfl|exact Rd.same (by simp[aH,aC,aD])|exact rdA|fail) ?_|fail));(first|done|fail)) rfl|exact rbC|fail) ?_|fail));(first|done|fail)) rfl rfl)
   | (refine⟨Or.inl rfl,rfl,?_⟩
      rw[h4,List.drop_of_length_le (by omega)]
      rfl)
 | cons x xs=>
  have hlen:(x::xs).length≤1001:=by omega
  repeat' ((conv=>whnf)<;>(first|refine aE.go aA T0 ?_|exact kQ|(refine Br.mk (fun _=>?_) (fun _=>?_)<;>(try(exfalso;omega)))|refine stq ?_|(apply Yll.sv rfl rfl (SvR.region T0 ?_);rotate_left)|exact And.intro rfl rfl|refine And.intro rfl (SvR.block (SvR.region T0 ?_))|fail))
  all_goals(conv=>whnf)
  all_goals first
   | (refine⟨k+1,s,x::xs,⟨⟨by omega,by omega⟩,by rw[h4,kK (by omega),Aa (by first|(left;omega)|(right;omega))];rfl⟩,by omega,?_⟩
      exact Lf.of2 [(5,5)] [] (by(repeat(first|exact aI.nil|refine aI.cons rfl (by first|exact Rd.yf rfl|exact Rd.same (by simp[aH,aC,aD])|exact rdA|fail) ?_|fail));(first|done|fail)) (by(repeat(first|exact Bxs.nil|refine Bxs.cons rfl rfl rfl (by first|exact Rb.dfr|exact v4|exact rbB|exact Rb.cells (by(repeat(first|exact Rds.nil|refine Rds.cons (by first|exact Rd.yf rfl|exact Rd.same (by simp[aH,aC,aD])|exact rdA|fail) ?_|fail));(first|done|fail)) rfl|exact rbC|fail) ?_|fail));(first|done|fail)) rfl rfl)
   | (have h9:l[k]'(by omega)=1:=by assumption
      refine⟨k+1,k,(x::xs)++[⟨s,k⟩],⟨⟨by omega,by simp only[kG,List.length_singleton];omega⟩,by rw[h4,kK (by omega),oZ (by omega),List.append_assoc];rfl⟩,by omega,?_⟩
      exact Lf.of2 [(5,36)] [] (by(repeat(first|exact aI.nil|refine aI.cons rfl (by first|exact Rd.yf rfl|exact Rd.sl' rfl (by simp) (by simp)|exact Rd.same (by simp[aH,aC,aD])|exact rdA|fail) ?_|fail));(first|done|fail)) (by(repeat(first|exact Bxs.nil|refine Bxs.cons rfl rfl rfl (by first|exact Rb.dfr|exact v4|exact Rb.cells (Rds.eqs (bA (c:=cO) (sz:=2) (by intro _;rfl) (x::xs) (⟨s,k⟩:Rng)) (aM (by intro _;rfl) _)) rfl|exact rbB|exact Rb.cells (by(repeat(first|exact Rds.nil|refine Rds.cons (by first|exact Rd.yf rfl|exact Rd.sl' rfl (by simp) (by simp)|exact Rd.same (by simp[aH,aC,aD])|exact rdA|fail) ?_|fail));(first|done|fail)) rfl|exact rbC|fail) ?_|fail));(first|done|fail)) rfl rfl)
   | (refine⟨k+1,k,(x::xs)++[⟨s,k⟩],⟨⟨by omega,by simp only[kG,List.length_singleton];omega⟩,by rw[h4,kK (by omega),oZ (by omega),List.append_assoc];rfl⟩,by omega,?_⟩
      exact Lf.of2 [(5,31)] [] (by(repeat(first|exact aI.nil|refine aI.cons rfl (by first|exact Rd.yf rfl|exact Rd.sl' rfl (by simp) (by simp)|exact Rd.same (by simp[aH,aC,aD])|exact rdA|fail) ?_|fail));(first|done|fail)) (by(repeat(first|exact Bxs.nil|refine Bxs.cons rfl rfl rfl (by first|exact Rb.dfr|exact v4|exact Rb.cells (Rds.eqs (bA (c:=cO) (sz:=2) (by intro _;rfl) (x::xs) (⟨s,k⟩:Rng)) (aM (by intro _;rfl) _)) rfl|exact rbB|exact Rb.cells (by(repeat(first|exact Rds.nil|refine Rds.cons (by first|exact Rd.yf rfl|exact Rd.sl' rfl (by simp) (by simp)|exact Rd.same (by simp[aH,aC,aD])|exact rdA|fail) ?_|fail));(first|done|fail)) rfl|exact rbC|fail) ?_|fail));(first|done|fail)) rfl rfl)
   | (refine⟨Or.inl rfl,rfl,?_⟩
      rw[h4,List.drop_of_length_le (by omega),ptF,List.append_nil]
      rfl)
theorem oI {l:List Int}(hx:l.length≤1001):Pu Tryz.prog 89 [aU,.fn (.func 90) [] [.iptr [aQ l]]] (bQ (ptV l)):=by
 have h1:=v7 hx;refine Pu.of_fw (ti:=iS Tryz.prog) Tryz.func89 rfl rfl (by simp[aH,aC,aD]) ?_;generalize ptV l=o at h1 ⊢;cases o with
 | nil=>
  repeat' ((conv=>whnf)<;>(first|refine aE.go aA T0 ?_|exact kQ|(refine Br.mk (fun _=>?_) (fun _=>?_)<;>(try(exfalso;omega)))|refine stq ?_|refine Fw.range aA T0 rfl h1 rfl (by simp) ?_|refine Fw.split ?_|refine Fw.one aA T0 ?_|fail))
  all_goals(conv=>whnf)
  exact⟨rfl,_,rfl,⟨.nil⟩⟩
 | cons x xs=>
  repeat' ((conv=>whnf)<;>(first|refine aE.go aA T0 ?_|exact kQ|(refine Br.mk (fun _=>?_) (fun _=>?_)<;>(try(exfalso;omega)))|refine stq ?_|refine Fw.range aA T0 rfl h1 rfl (by simp) ?_|refine Fw.split ?_|refine Fw.one aA T0 ?_|fail))
  all_goals(conv=>whnf)
  exact⟨rfl,_,rfl,aN.own (id:=5) (es:=2) (c:=cO) (l:=x::xs) (fun _=>rfl) (fun _=>rfl)⟩
theorem zg {l:List Int}(hx:l.length≤1001):Pu Tryz.prog 64 [.fn (.func 90) [] [.iptr [aQ l]]] (bQ (ptV l)):=by
 refine Pu.of_v aA T0 Tryz.func64 rfl rfl (by simp[aH,aC,aD]) ?_;repeat' ((conv=>whnf)<;>(first|refine aE.go aA T0 ?_|exact kQ|(refine Br.mk (fun _=>?_) (fun _=>?_)<;>(try(exfalso;omega)))|refine stq ?_|refine Cll.pu (oI sd) ?_|refine aW.pu (oI sd) ?_))
 all_goals(conv=>whnf)
 exact aN.same (aO _) rfl
theorem yI {p:Prp}{t:Tbl}{text l:List Int}(ha:Pu Tryz.prog 52 [fF p,d7 t,aQ text] (aQ l)) (hl:l.length≤1001):Pu Tryz.prog 37 [fF p,d7 t,aQ text] (bQ (ptV l)):=by
 refine Pu.of_v aA T0 Tryz.func37 rfl rfl (by simp[aH,aC,aG,aJ,aD,ah]) ?_;repeat' ((conv=>whnf)<;>(first|refine aE.go aA T0 ?_|exact kQ|(refine Br.mk (fun _=>?_) (fun _=>?_)<;>(try(exfalso;omega)))|refine stq ?_|refine Cll.pu ha ?_|refine Cll.pk AF ?_|refine Cll.give (.cons (.fn .nil (.cons (.frzp rfl rfl (.cons (.same (aD l)) .nil)) .nil)) .nil) (zg hl) ?_|fail))
 all_goals(conv=>whnf)
 exact aN.same (aO _) rfl
theorem yH {p:Prp}{t:Tbl}{text:List Int}(hp:p.ok) (ht:t.ok) (h1:p.names.length≤1000) (h2:p.spans.length≤1000) (hx:text.length≤1000):Pu Tryz.prog 37 [fF p,d7 t,aQ text] (bQ (fC p t text)):=by
 rw[←Cy];exact yI (pI hp ht h1 h2 hx) (CD hx)
end
section
open Go Go.Am Classical
set_option maxRecDepth 100000
def Chn:Int→List Rng→Int→Prop
 | s,[],e=>s=e
 | s,r::P,e=>r.lo=s∧s<r.hi∧Chn r.hi P e
theorem tU [GT]:∀ {b:List Int}{s n:Int},(s::(b++[n])).Pairwise (·≤·)→Chn s (btw s (b++[n])) n
 | [],s,n,h=>by
  have h1:s≤n:=(List.pairwise_cons.1 h).1 n (by simp);show Chn s (btw s [n]) n;by_cases h2:s<n
  ·rw[ez h2];exact⟨rfl,h2,rfl⟩
  ·rw[gH h2];exact show s=n by omega
 | e::b,s,n,h=>by
  have hp:=List.pairwise_cons.1 h;have h1:s≤e:=hp.1 e (by simp);rw[List.cons_append];by_cases h2:s<e
  ·rw[ez h2];exact⟨rfl,h2,tU hp.2⟩
  ·rw[gH h2];refine tU (List.pairwise_cons.2 ⟨fun a ha=>hp.1 a (by simp at ha ⊢;exact .inr ha),(List.pairwise_cons.1 hp.2).2⟩)
theorem xn {A:List Int}{n:Nat}(hA:A.length=n+1):(0::(dL A A.length++[(n:Int)])).Pairwise (·≤·):=by
 have hm:∀ a∈dL A A.length,0≤a∧a≤(n:Int):=fun a ha=>by
  simp only[dL,List.mem_map,List.mem_filter,List.mem_range] at ha;obtain⟨i,⟨h1,_⟩,rfl⟩:=ha;omega
 rw[List.pairwise_cons,List.pairwise_append];refine⟨fun a ha=>?_,?_,by simp,fun a ha b hb=>?_⟩
 ·rcases List.mem_append.1 ha with h|h
  ·exact(hm a h).1
  ·simp at h;omega
 ·unfold dL;rw[List.pairwise_map];exact(List.Pairwise.filter _ List.pairwise_lt_range).imp fun h=>by omega
 ·simp at hb;have:=(hm a ha).2;omega
theorem qR:∀ {P:List Rng}{s e:Int},Chn s P e→s≤e
 | [],_,_,h=>by rw[show _=_ from h];exact Int.le_refl _
 | r::P,s,e,h=>by have:=qR h.2.2;have:=h.2.1;omega
def bK (s:Int):List Rng→Nat→Int
 | _,0=>s
 | [],_+1=>s
 | r::P,k+1=>bK r.hi P k
theorem cQ:∀ {P:List Rng}{s e:Int}(k:Nat),Chn s P e→s≤bK s P k∧bK s P k≤e
 | [],s,e,k,h=>by cases k<;>exact⟨Int.le_refl _,by simp only[bK];exact Int.le_of_eq h⟩
 | r::P,s,e,0,h=>⟨Int.le_refl _,qR h⟩
 | r::P,s,e,k+1,h=>by have:=cQ k h.2.2;have:=h.2.1;simp only[bK];omega
theorem jh:∀ {P:List Rng}{s:Int}{k:Nat}(h:k<P.length),bK s P (k+1)=P[k].hi
 | r::P,s,0,_=>by cases P<;>rfl
 | r::P,s,k+1,h=>by simp only[bK,List.getElem_cons_succ];exact jh (by simpa using h)
theorem ji:∀ {P:List Rng}{s e:Int}{k:Nat},Chn s P e→P.length≤k→bK s P k=e
 | [],s,e,k,h,_=>by cases k<;>exact h
 | r::P,s,e,0,_,hk=>by simp at hk
 | r::P,s,e,k+1,h,hk=>by simp only[bK];exact ji h.2.2 (by simpa using hk)
theorem gu:∀ {P:List Rng}{s e:Int}{k:Nat}(h:k<P.length),Chn s P e→P[k].lo=bK s P k∧bK s P k<P[k].hi∧P[k].hi≤e
 | r::P,s,e,0,_,h=>⟨h.1,h.2.1,qR h.2.2⟩
 | r::P,s,e,k+1,hk,h=>by
  have:=gu (P:=P) (k:=k) (by simpa using hk) h.2.2
  simpa only[bK,List.getElem_cons_succ] using this
theorem qN:∀ {P:List Rng}{s:Int}{k n:Nat},k≤n→bK s (P.take n) k=bK s P k
 | P,s,0,n,_=>by cases P<;>cases n<;>rfl
 | [],s,k+1,n,_=>by cases n<;>rfl
 | r::P,s,k+1,n+1,h=>by simp only[List.take_succ_cons,bK];exact qN (by omega)
theorem mQ:∀ {P:List Rng}{s:Int}{k:Nat},bK s P (min k P.length)=bK s P k
 | [],s,k=>by cases k<;>rfl
 | r::P,s,0=>by simp[bK]
 | r::P,s,k+1=>by rw[kO,Nat.add_min_add_right];exact mQ
theorem rv:∀ {P:List Rng}{s e:Int}{k n:Nat},Chn s P e→k≤n→bK s P k≤bK s P n
 | [],s,e,0,n,h,_=>(cQ n h).1
 | _::_,s,e,0,n,h,_=>(cQ n h).1
 | [],s,e,k+1,n,h,_=>by cases n<;>exact Int.le_refl _
 | r::P,s,e,k+1,n+1,h,hk=>by simp only[bK];exact rv h.2.2 (by omega)
theorem fb {P:List Rng}{s:Int}:bK s P 0=s:=by cases P<;>rfl
def eU (text:List Int):List Rng→List Int
 | []=>[]
 | r::P=>eU text P++(text.drop r.lo.toNat).take (r.hi-r.lo).toNat
theorem rK (text:List Int) (r:Rng):∀ P:List Rng,eU text (P++[r])=(text.drop r.lo.toNat).take (r.hi-r.lo).toNat++eU text P
 | []=>by simp[eU]
 | q::P=>by simp only[List.cons_append,eU,rK text r P,List.append_assoc]
theorem g9 {text:List Int}:∀ {P:List Rng}{s e:Int},Chn s P e→0≤s→e≤text.length→((eU text P).length:Int)=e-s
 | [],s,e,h,_,_=>by rw[show s=e from h];simp[eU]
 | r::P,s,e,h,h0,h1=>by
  have ih:=g9 h.2.2 (by have:=h.2.1;omega) h1;have:=qR h.2.2
  have:=h.2.1
  have:=h.1
  simp only[eU,kG,List.length_take,List.length_drop];omega
end
end Go.Proofs.YtjpgpihbhicinaaGreatDoor
