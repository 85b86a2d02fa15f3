/-
  Contracts of functions over data: boundaries and ranges of a text by a table (the program).
-/
import Derived.Test.YtjpgpihbhicinaaGreatDoorG0
import Derived.Test.YtjpgpihbhicinaaGreatDoorAmD
set_option linter.unusedSectionVars false
namespace Go.Proofs.YtjpgpihbhicinaaGreatDoor
section
open Go Go.Am Classical
set_option maxRecDepth 100000
variable [GT]
def ends (l:List Int) (k:Nat):List Int:=((List.range k).filter fun i=>decide (l.getD i 0≠1)).map fun(i:Nat)=>(i:Int)
theorem nI {l:List Int}{k:Nat}(h:k<l.length) (e:¬l[k]=1):ends l (k+1)=ends l k++[(k:Int)]:=by
 have this:l.getD k 0≠1:=by rw[aX h];exact e
 unfold ends;rw[List.range_succ,List.filter_append,List.map_append,List.filter_cons_of_pos (p:=fun i=>decide (l.getD i 0≠1)) (a:=k) (decide_eq_true this)];rfl
theorem pI {l:List Int}{k:Nat}(h:k<l.length) (e:l[k]=1):ends l (k+1)=ends l k:=by
 have this:l.getD k 0=1:=by rw[aX h];exact e
 unfold ends;rw[List.range_succ,List.filter_append,List.map_append,List.filter_cons_of_neg (p:=fun i=>decide (l.getD i 0≠1)) (a:=k) (fun h=>absurd this (of_decide_eq_true h)),List.filter_nil,List.map_nil,List.append_nil]
theorem qi {l:List Int}{k:Nat}:(ends l k).length<=k:=by
 simp only[ends,List.length_map];refine Nat.le_trans (List.length_filter_le _ _) (by simp)
theorem DO {p:Prp}{t:Tbl}{text:List Int}(h:text.length<=1000):(kn p t text).length<=1001:=by
 unfold kn;split
 ·rw[ge];simp[bm];omega
 ·simp
noncomputable def xq (p:Prp) (t:Tbl) (text:List Int):List Int:=ends (kn p t text) (kn p t text).length
theorem E9 {p:Prp}{t:Tbl}{text:List Int}(h:text.length<=1000):(xq p t text).length<=1001:=by
 have:=qi (l:=kn p t text) (k:=(kn p t text).length)
 have:=DO (p:=p) (t:=t) h
 unfold xq;omega
noncomputable def tQ (p:Prp) (t:Tbl) (text:List Int):List Rng:=if TV t then btw 0 (xq p t text++[(text.length:Int)]) else []
end
section
open Go Go.Am Classical
variable [GT]
def ptF (n:Int):Int->Int->List Int->List Rng
 | _,_,[]=>[]
 | i,s,a::l=>if i=s∨(a=1∧i<n-1) then ptF n (i+1) s l else⟨s,i⟩::ptF n (i+1) i l
def ov:Int->List Int->List Int
 | _,[]=>[]
 | i,a::l=>if a≠1 then i::ov (i+1) l else ov (i+1) l
theorem tP {n:Int}:∀ (l:List Int) (i s:Int),s<=i->i+l.length=n->l≠[]->ptF n i s l=btw s (ov i l++[n-1])
 | [],_,_,_,_,h=>absurd rfl h
 | [a],i,s,h1,h2,_=>by
  simp only[List.length_singleton] at h2;have e:n-1=i:=by omega
  rw[e];simp only[ptF,ov,e,Int.lt_irrefl,and_false,or_false];by_cases h:i=s
  ·subst h;by_cases ha:a=1<;>simp[ha,btw]
  ·have:s<i:=by omega
   by_cases ha:a=1<;>simp[h,ha,btw,this]
 | a::b::l,i,s,h1,h2,_=>by
  have hlen:i+1+((b::l).length:Int)=n:=by simp only[kO] at h2 ⊢;omega
  have hi:i<n-1:=by simp only[kO] at h2;omega
  have e1:ptF n i s (a::b::l)=if i=s∨(a=1∧i<n-1) then ptF n (i+1) s (b::l) else⟨s,i⟩::ptF n (i+1) i (b::l):=rfl
  have e2:ov i (a::b::l)=if a≠1 then i::ov (i+1) (b::l) else ov (i+1) (b::l):=rfl
  rw[e1,e2];have q1:=tP (b::l) (i+1) s (by omega) hlen (by simp);have q2:=tP (b::l) (i+1) i (by omega) hlen (by simp);by_cases h:i=s
  ·rw[if_pos (.inl h),q1];by_cases ha:a=1
   ·rw[if_neg (by simpa using ha)]
   ·rw[if_pos ha,List.cons_append,btw,if_neg (by omega)]
  ·by_cases ha:a=1
   ·rw[if_pos (.inr ⟨ha,hi⟩),if_neg (by simpa using ha),q1]
   ·rw[if_neg (by intro hc;rcases hc with hc|hc;exact h hc;exact ha hc.1),if_pos ha,List.cons_append,btw,if_pos (by omega),q2]
theorem zB:∀ (l:List Int) (i:Int),ov i l=((List.range l.length).filter fun j=>decide (l.getD j 0≠1)).map fun(j:Nat)=>i+(j:Int)
 | [],_=>rfl
 | a::l,i=>by
  have ih:=zB l (i+1);have e1:ov i (a::l)=if a≠1 then i::ov (i+1) l else ov (i+1) l:=rfl
  have e3:∀ (f:Nat->Int),(((List.range l.length).map Nat.succ).filter fun j=>decide ((a::l).getD j 0≠1)).map f=((List.range l.length).filter fun j=>decide (l.getD j 0≠1)).map fun j=>f (j+1):=by
   intro f;rw[List.filter_map,List.map_map];rfl
  rw[e1,kO,List.range_succ_eq_map,ih];have e4:(fun j:Nat=>i+1+(j:Int))=fun j:Nat=>i+((j+1:Nat):Int):=by funext j;omega
  by_cases ha:a=1
  ·rw[if_neg (by simpa using ha),List.filter_cons_of_neg (p:=fun j=>decide ((a::l).getD j 0≠1)) (a:=0) (by simp[ha]),e3,e4]
  ·rw[if_pos ha,List.filter_cons_of_pos (p:=fun j=>decide ((a::l).getD j 0≠1)) (a:=0) (by simp[ha]),List.map_cons,e3,e4];simp
theorem AV (l:List Int):ends l l.length=ov 0 l:=by
 rw[zB,ends];congr 1;funext j;omega
def ptV (l:List Int):List Rng:=ptF l.length 0 0 l
theorem EK {p:Prp}{t:Tbl}{text:List Int}:ptV (kn p t text)=tQ p t text:=by
 unfold ptV tQ xq;by_cases hv:TV t
 ·have hl:(kn p t text).length=text.length+1:=by rw[kn,if_pos hv,ge];simp[bm]
  rw[if_pos hv,AV,tP _ _ _ (by omega) (by omega) (by intro h;rw[h] at hl;simp at hl),hl];congr 3;omega
 ·rw[if_neg hv,kn,if_neg hv];rfl
end
section
open Go Go.Am Classical
set_option maxRecDepth 100000
variable [GT]
theorem BO {l:List Int}:Pk Tryz.prog 65 [aQ l] 1 (fun n=>.fn (.func 90) [] [.ptr n 0]) (fun n=>[(n,.cells [aQ l] true)]):=by
 refine Pk.of_v aA T0 Tryz.func65 rfl rfl (by simp[aB,aF]) ?_;repeat' ((conv=>whnf)<;>(first|refine sg ?_|exact kQ|(refine Br.mk ?_ ?_<;>intro _<;>try(exfalso;omega))|refine stq ?_))
 all_goals(conv=>whnf)
 exact⟨[0],rfl,⟨by simp,fun n=>.fn .nil (.cons (.ptr (by simp[sgn])) .nil),fun n=>.cons (id:=0) (by simp[sgn]) rfl rfl (.cells (.cons (.same (aF l)) .nil) rfl) .nil⟩⟩
noncomputable abbrev qR (l:List Int):Box:=.loop .ready none [aT,.fn (.func 90) [] [.iptr [aQ l]],.ptr 0 0,ab,aT,ab,.fn (.func 90) [] [.iptr [aQ l]],ab,ab,ab,ab,ab,ab] [7] (fnA Tryz.f89) (fnB Tryz.f89)
theorem Bh {n i s a:Int}{l:List Int}(h:i=s∨(a=1∧i<n-1)):ptF n i s (a::l)=ptF n (i+1) s l:=by rw[ptF,if_pos h]
theorem pA {n i s a:Int}{l:List Int}(h:¬(i=s∨(a=1∧i<n-1))):ptF n i s (a::l)=⟨s,i⟩::ptF n (i+1) i l:=by rw[ptF,if_neg h]
theorem xE {h:aC}{fz:Nat->Bool}{σl:List (Nat×Nat)}{l:List Int}:Rb h fz (sgm 5 σl) (qR l) (qR l):=
 .loop (by repeat(first|exact Rds.nil|refine Rds.cons (by first|exact Rd.same rfl|exact Rd.ptr rfl|exact Rd.same (by simp[aJ,aB,aF])) ?_))
theorem xI {l:List Int}(hx:l.length<=1001):AC1 Tryz.prog 90 [.yf 4,.iptr [aQ l]] ⟨5,[(4,qR l),(3,.dfr),(0,.cells [aT] true)]⟩ (.tup []) ⟨7,cW 5 cU (ptV l)++[(4,qR l),(3,.dfr),(0,.cells [ai 5 2 (ptV l)] true)]⟩:=by
 refine AC1.of_vl aA T0 Tryz.func90 rfl rfl ?_;repeat' ((conv=>whnf)<;>(first|refine sg ?_|exact kQ|(refine Br.mk ?_ ?_<;>intro _<;>try(exfalso;omega))|refine stq ?_))
 all_goals(conv=>whnf)
 refine aU.by3 aA T0 (fun(k:Nat) (s:Int) (o:List Rng)=>⟨tmp 35 [(0,.yf 4),(1,.iptr [aQ l]),(3,i64 s),(6,aQ l),(7,i64 l.length),(8,i64 (k:Int))],⟨6,cW 5 cU o++[(4,qR l),(3,.dfr),(0,.cells [ai 5 2 o] true)]⟩⟩)
  (fun k s o=>(k<=l.length∧o.length<=k)∧ptV l=o++ptF l.length k s (l.drop k)) (fun k _ _=>l.length-k) 0 0 [] ⟨⟨by omega,by simp⟩,rfl⟩ ?_ ?_
 ·exact Lf.of2 [] [] (by repeat(first|exact aM.nil|refine aM.cons rfl (by first|exact Rd.yf rfl|exact Rd.same (by simp[aJ,aB,aF])|exact rdA|fail) ?_)) (by repeat(first|exact Bxs.nil|refine Bxs.cons rfl rfl rfl (by first|exact Rb.dfr|exact xE|exact rbB|exact Rb.cells (by(repeat(first|exact Rds.nil|refine Rds.cons (by first|exact Rd.yf rfl|exact Rd.same (by simp[aJ,aB,aF])|exact rdA|fail) ?_|fail));(first|done|fail)) rfl|exact rbC|fail) ?_)) rfl rfl
 intro k s o ⟨⟨h3,h5⟩,h4⟩;cases o with
 | nil=>
  repeat' ((conv=>whnf)<;>(first|refine sg ?_|exact kQ|(refine Br.mk ?_ ?_<;>intro _<;>try(exfalso;omega))|refine stq ?_|(apply Yll.sv rfl rfl (SvR.region T0 ?_);rotate_left)|exact And.intro rfl rfl|refine And.intro rfl (SvR.block (SvR.region T0 ?_))|fail))
  all_goals(conv=>whnf)
  all_goals first
   | (refine⟨k+1,s,[],⟨⟨by omega,by simp⟩,by rw[h4,kK (by omega),Bh (by first|(left;omega)|(right;omega))];rfl⟩,by omega,?_⟩
      exact Lf.of2 [] [] (by(repeat(first|exact aM.nil|refine aM.cons rfl (by first|exact Rd.yf rfl|exact Rd.same (by simp[aJ,aB,aF])|exact rdA|fail) ?_|fail));(first|done|fail)) (by(repeat(first|exact Bxs.nil|refine Bxs.cons rfl rfl rfl (by first|exact Rb.dfr|exact xE|exact rbB|exact Rb.cells (by(repeat(first|exact Rds.nil|refine Rds.cons (by first|exact Rd.yf rfl|exact Rd.same (by simp[aJ,aB,aF])|exact rdA|fail) ?_|fail));(first|done|fail)) rfl|exact rbC|fail) ?_|fail));(first|done|fail)) rfl rfl)
   | (have h9:l[k]'(by omega)=1:=by assumption
      refine⟨k+1,k,[⟨s,k⟩],⟨⟨by omega,by simp⟩,by rw[h4,kK (by omega),pA (by omega)];rfl⟩,by omega,?_⟩
      exact Lf.of2 [(5,36)] [] (by(repeat(first|exact aM.nil|refine aM.cons rfl (by first|exact Rd.yf rfl|exact Rd.same (by simp[aJ,aB,aF])|exact rdA|fail) ?_|fail));(first|done|fail)) (by(repeat(first|exact Bxs.nil|refine Bxs.cons rfl rfl rfl (by first|exact Rb.dfr|exact xE|exact rbB|exact Rb.cells (by(repeat(first|exact Rds.nil|refine Rds.cons (by first|exact Rd.yf rfl|exact Rd.same (by simp[aJ,aB,aF])|exact rdA|fail) ?_|fail));(first|done|fail)) rfl|exact rbC|fail) ?_|fail));(first|done|fail)) rfl rfl)
   | (refine⟨k+1,k,[⟨s,k⟩],⟨⟨by omega,by simp⟩,by rw[h4,kK (by omega),pA (by omega)];rfl⟩,by omega,?_⟩
      exact Lf.of2 [(5,31)] [] (by(repeat(first|exact aM.nil|refine aM.cons rfl (by first|exact Rd.yf rfl|exact Rd.same (by simp[aJ,aB,aF])|exact rdA|fail) ?_|fail));(first|done|fail)) (by(repeat(first|exact Bxs.nil|refine Bxs.cons rfl rfl rfl (by first|exact Rb.dfr|exact xE|exact rbB|exact Rb.cells (by(repeat(first|exact Rds.nil|refine Rds.cons (by first|exact Rd.yf rfl|exact Rd.same (by simp[aJ,aB,aF])|exact rdA|fail) ?_|fail));(first|done|fail)) rfl|exact rbC|fail) ?_|fail));(first|done|fail)) rfl rfl)
   | (refine⟨Or.inl rfl,rfl,?_⟩
      rw[h4,List.drop_of_length_le (by omega)]
      rfl)
 | cons x xs=>
  have hlen:(x::xs).length<=1001:=by omega
  repeat' ((conv=>whnf)<;>(first|refine sg ?_|exact kQ|(refine Br.mk ?_ ?_<;>intro _<;>try(exfalso;omega))|refine stq ?_|(apply Yll.sv rfl rfl (SvR.region T0 ?_);rotate_left)|exact And.intro rfl rfl|refine And.intro rfl (SvR.block (SvR.region T0 ?_))|fail))
  all_goals(conv=>whnf)
  all_goals first
   | (refine⟨k+1,s,x::xs,⟨⟨by omega,by omega⟩,by rw[h4,kK (by omega),Bh (by first|(left;omega)|(right;omega))];rfl⟩,by omega,?_⟩
      exact Lf.of2 [(5,5)] [] (by(repeat(first|exact aM.nil|refine aM.cons rfl (by first|exact Rd.yf rfl|exact Rd.same (by simp[aJ,aB,aF])|exact rdA|fail) ?_|fail));(first|done|fail)) (by(repeat(first|exact Bxs.nil|refine Bxs.cons rfl rfl rfl (by first|exact Rb.dfr|exact xE|exact rbB|exact Rb.cells (by(repeat(first|exact Rds.nil|refine Rds.cons (by first|exact Rd.yf rfl|exact Rd.same (by simp[aJ,aB,aF])|exact rdA|fail) ?_|fail));(first|done|fail)) rfl|exact rbC|fail) ?_|fail));(first|done|fail)) rfl rfl)
   | (have h9:l[k]'(by omega)=1:=by assumption
      refine⟨k+1,k,(x::xs)++[⟨s,k⟩],⟨⟨by omega,by simp only[kG,List.length_singleton];omega⟩,by rw[h4,kK (by omega),pA (by omega),List.append_assoc];rfl⟩,by omega,?_⟩
      exact Lf.of2 [(5,36)] [] (by(repeat(first|exact aM.nil|refine aM.cons rfl (by first|exact Rd.yf rfl|exact Rd.sl' rfl (by simp) (by simp)|exact Rd.same (by simp[aJ,aB,aF])|exact rdA|fail) ?_|fail));(first|done|fail)) (by(repeat(first|exact Bxs.nil|refine Bxs.cons rfl rfl rfl (by first|exact Rb.dfr|exact xE|exact Rb.cells (Rds.eqs (ak (c:=cU) (sz:=2) (by intro _;rfl) (x::xs) (⟨s,k⟩:Rng)) (aD (by intro _;rfl) _)) rfl|exact rbB|exact Rb.cells (by(repeat(first|exact Rds.nil|refine Rds.cons (by first|exact Rd.yf rfl|exact Rd.sl' rfl (by simp) (by simp)|exact Rd.same (by simp[aJ,aB,aF])|exact rdA|fail) ?_|fail));(first|done|fail)) rfl|exact rbC|fail) ?_|fail));(first|done|fail)) rfl rfl)
   | (refine⟨k+1,k,(x::xs)++[⟨s,k⟩],⟨⟨by omega,by simp only[kG,List.length_singleton];omega⟩,by rw[h4,kK (by omega),pA (by omega),List.append_assoc];rfl⟩,by omega,?_⟩
      exact Lf.of2 [(5,31)] [] (by(repeat(first|exact aM.nil|refine aM.cons rfl (by first|exact Rd.yf rfl|exact Rd.sl' rfl (by simp) (by simp)|exact Rd.same (by simp[aJ,aB,aF])|exact rdA|fail) ?_|fail));(first|done|fail)) (by(repeat(first|exact Bxs.nil|refine Bxs.cons rfl rfl rfl (by first|exact Rb.dfr|exact xE|exact Rb.cells (Rds.eqs (ak (c:=cU) (sz:=2) (by intro _;rfl) (x::xs) (⟨s,k⟩:Rng)) (aD (by intro _;rfl) _)) rfl|exact rbB|exact Rb.cells (by(repeat(first|exact Rds.nil|refine Rds.cons (by first|exact Rd.yf rfl|exact Rd.sl' rfl (by simp) (by simp)|exact Rd.same (by simp[aJ,aB,aF])|exact rdA|fail) ?_|fail));(first|done|fail)) rfl|exact rbC|fail) ?_|fail));(first|done|fail)) rfl rfl)
   | (refine⟨Or.inl rfl,rfl,?_⟩
      rw[h4,List.drop_of_length_le (by omega),ptF,List.append_nil]
      rfl)
theorem oq {l:List Int}(hx:l.length<=1001):Pu Tryz.prog 89 [aT,.fn (.func 90) [] [.iptr [aQ l]]] (bc (ptV l)):=by
 have h1:=xI hx;refine Pu.of_fw (ti:=iB Tryz.prog) Tryz.func89 rfl rfl (by simp[aJ,aB,aF]) ?_;generalize ptV l=o at h1 ⊢;cases o with
 | nil=>
  repeat' ((conv=>whnf)<;>(first|refine sg ?_|exact kQ|(refine Br.mk ?_ ?_<;>intro _<;>try(exfalso;omega))|refine stq ?_|refine Fw.range aA T0 rfl h1 rfl (by simp) ?_|refine Fw.split ?_|refine Fw.one aA T0 ?_|fail))
  all_goals(conv=>whnf)
  exact⟨rfl,_,rfl,⟨.nil⟩⟩
 | cons x xs=>
  repeat' ((conv=>whnf)<;>(first|refine sg ?_|exact kQ|(refine Br.mk ?_ ?_<;>intro _<;>try(exfalso;omega))|refine stq ?_|refine Fw.range aA T0 rfl h1 rfl (by simp) ?_|refine Fw.split ?_|refine Fw.one aA T0 ?_|fail))
  all_goals(conv=>whnf)
  exact⟨rfl,_,rfl,aI.own (id:=5) (es:=2) (c:=cU) (l:=x::xs) (fun _=>rfl) (fun _=>rfl)⟩
theorem Aq {l:List Int}(hx:l.length<=1001):Pu Tryz.prog 64 [.fn (.func 90) [] [.iptr [aQ l]]] (bc (ptV l)):=by
 refine Pu.of_v aA T0 Tryz.func64 rfl rfl (by simp[aJ,aB,aF]) ?_;repeat' ((conv=>whnf)<;>(first|refine sg ?_|exact kQ|(refine Br.mk ?_ ?_<;>intro _<;>try(exfalso;omega))|refine stq ?_|refine Cll.pu (oq sd) ?_|refine aO.pu (oq sd) ?_))
 all_goals(conv=>whnf)
 exact aI.same (aK _) rfl
theorem zW {p:Prp}{t:Tbl}{text l:List Int}(ha:Pu Tryz.prog 52 [du p,iC t,aQ text] (aQ l)) (hl:l.length<=1001):Pu Tryz.prog 37 [du p,iC t,aQ text] (bc (ptV l)):=by
 refine Pu.of_v aA T0 Tryz.func37 rfl rfl (by simp[aJ,aB,aE,aG,aF,bz]) ?_;repeat' ((conv=>whnf)<;>(first|refine sg ?_|exact kQ|(refine Br.mk ?_ ?_<;>intro _<;>try(exfalso;omega))|refine stq ?_|refine Cll.pu ha ?_|refine Cll.pk BO ?_|refine Cll.give (.cons (.fn .nil (.cons (.frzp rfl rfl (.cons (.same (aF l)) .nil)) .nil)) .nil) (Aq hl) ?_|fail))
 all_goals(conv=>whnf)
 exact aI.same (aK _) rfl
theorem FK {p:Prp}{t:Tbl}{text:List Int}(hp:p.ok) (ht:t.ok) (h1:p.names.length<=1000) (h2:p.spans.length<=1000) (hx:text.length<=1000):Pu Tryz.prog 37 [du p,iC t,aQ text] (bc (tQ p t text)):=by
 rw[<-EK];exact zW (w9 hp ht h1 h2 hx) (DO hx)
end
section
open Go Go.Am Classical
set_option maxRecDepth 100000
def Chn:Int->List Rng->Int->Prop
 | s,[],e=>s=e
 | s,r::P,e=>r.lo=s∧s<r.hi∧Chn r.hi P e
theorem uG [GT]:∀ {b:List Int}{s n:Int},(s::(b++[n])).Pairwise (·<=·)->Chn s (btw s (b++[n])) n
 | [],s,n,h=>by
  have h1:s<=n:=(List.pairwise_cons.1 h).1 n (by simp);show Chn s (btw s [n]) n;by_cases h2:s<n
  ·rw[lO h2];exact⟨rfl,h2,rfl⟩
  ·rw[nz h2];exact show s=n by omega
 | e::b,s,n,h=>by
  have hp:=List.pairwise_cons.1 h;have h1:s<=e:=hp.1 e (by simp);rw[List.cons_append];by_cases h2:s<e
  ·rw[lO h2];exact⟨rfl,h2,uG hp.2⟩
  ·rw[nz h2];refine uG (List.pairwise_cons.2 ⟨fun a ha=>hp.1 a (by simp at ha ⊢;exact .inr ha),(List.pairwise_cons.1 hp.2).2⟩)
theorem Eu {A:List Int}{n:Nat}(hA:A.length=n+1):(0::(ends A A.length++[(n:Int)])).Pairwise (·<=·):=by
 have hm:∀ a∈ends A A.length,0<=a∧a<=(n:Int):=fun a ha=>by
  simp only[ends,List.mem_map,List.mem_filter,List.mem_range] at ha;obtain⟨i,⟨h1,_⟩,rfl⟩:=ha;omega
 rw[List.pairwise_cons,List.pairwise_append];refine⟨fun a ha=>?_,?_,by simp,fun a ha b hb=>?_⟩
 ·rcases List.mem_append.1 ha with h|h
  ·exact(hm a h).1
  ·simp at h;omega
 ·unfold ends;rw[List.pairwise_map];exact(List.Pairwise.filter _ List.pairwise_lt_range).imp fun h=>by omega
 ·simp at hb;have:=(hm a ha).2;omega
theorem uC:∀ {P:List Rng}{s e:Int},Chn s P e->s<=e
 | [],_,_,h=>by rw[show _=_ from h];exact Int.le_refl _
 | r::P,s,e,h=>by have:=uC h.2.2;have:=h.2.1;omega
def dv (s:Int):List Rng->Nat->Int
 | _,0=>s
 | [],_+1=>s
 | r::P,k+1=>dv r.hi P k
theorem fP:∀ {P:List Rng}{s e:Int}(k:Nat),Chn s P e->s<=dv s P k∧dv s P k<=e
 | [],s,e,k,h=>by cases k<;>exact⟨Int.le_refl _,by simp only[dv];exact Int.le_of_eq h⟩
 | r::P,s,e,0,h=>⟨Int.le_refl _,uC h⟩
 | r::P,s,e,k+1,h=>by have:=fP k h.2.2;have:=h.2.1;simp only[dv];omega
theorem kY:∀ {P:List Rng}{s:Int}{k:Nat}(h:k<P.length),dv s P (k+1)=P[k].hi
 | r::P,s,0,_=>by cases P<;>rfl
 | r::P,s,k+1,h=>by simp only[dv,List.getElem_cons_succ];exact kY (by simpa using h)
theorem nJ:∀ {P:List Rng}{s e:Int}{k:Nat},Chn s P e->P.length<=k->dv s P k=e
 | [],s,e,k,h,_=>by cases k<;>exact h
 | r::P,s,e,0,_,hk=>by simp at hk
 | r::P,s,e,k+1,h,hk=>by simp only[dv];exact nJ h.2.2 (by simpa using hk)
theorem ny:∀ {P:List Rng}{s e:Int}{k:Nat}(h:k<P.length),Chn s P e->P[k].lo=dv s P k∧dv s P k<P[k].hi∧P[k].hi<=e
 | r::P,s,e,0,_,h=>⟨h.1,h.2.1,uC h.2.2⟩
 | r::P,s,e,k+1,hk,h=>by
  have:=ny (P:=P) (k:=k) (by simpa using hk) h.2.2
  simpa only[dv,List.getElem_cons_succ] using this
theorem wI:∀ {P:List Rng}{s e:Int},Chn s P e->∀ k,Chn (dv s P k) (P.drop k) e
 | [],s,e,h,k=>by cases k<;>exact h
 | r::P,s,e,h,0=>h
 | r::P,s,e,h,k+1=>wI h.2.2 k
theorem v9:∀ {P:List Rng}{s:Int}{k:Nat},dv s P (min k P.length)=dv s P k
 | [],s,k=>by cases k<;>rfl
 | r::P,s,0=>by simp[dv]
 | r::P,s,k+1=>by rw[kO,Nat.add_min_add_right];exact v9
theorem lK {P:List Rng}{s:Int}:dv s P 0=s:=by cases P<;>rfl
def iF (text:List Int):List Rng->List Int
 | []=>[]
 | r::P=>iF text P++(text.drop r.lo.toNat).take (r.hi-r.lo).toNat
theorem rq (text:List Int) (r:Rng):∀ P:List Rng,iF text (P++[r])=(text.drop r.lo.toNat).take (r.hi-r.lo).toNat++iF text P
 | []=>by simp[iF]
 | q::P=>by simp only[List.cons_append,iF,rq text r P,List.append_assoc]
theorem iU {text:List Int}:∀ {P:List Rng}{s e:Int},Chn s P e->0<=s->e<=text.length->((iF text P).length:Int)=e-s
 | [],s,e,h,_,_=>by rw[show s=e from h];simp[iF]
 | r::P,s,e,h,h0,h1=>by
  have ih:=iU h.2.2 (by have:=h.2.1;omega) h1;have:=uC h.2.2
  have:=h.2.1
  have:=h.1
  simp only[iF,kG,List.length_take,List.length_drop];omega
end
end Go.Proofs.YtjpgpihbhicinaaGreatDoor
