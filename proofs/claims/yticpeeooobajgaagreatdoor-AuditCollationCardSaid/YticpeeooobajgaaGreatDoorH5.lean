/-
  Contracts of functions over data: sets of code points made by the program.
-/
import Derived.Test.YticpeeooobajgaaGreatDoorG0
import Derived.Test.YticpeeooobajgaaGreatDoorC0
import Derived.Test.YticpeeooobajgaaGreatDoorAmF
set_option linter.unusedSectionVars false
namespace Go.Proofs.YticpeeooobajgaaGreatDoor
section
open Go Go.Am Classical
set_option maxRecDepth 100000
theorem xH5.rdX {p:Prop}(h:p:=by first|exact Rd.same rfl|exact Rd.nil|exact Rd.sl' rfl hle'.symm hle'.symm|exact Rd.frzL bS bp rfl rfl hsl0.symm rfl rfl|exact Rd.frz rfl rfl (kD rfl) (Rds.eqs rfl rfl)|exact Rd.sl' rfl sim sim|fail):p:=h
theorem xH5.rbX {p:Prop}(h:p:=by first|exact Rb.cells (Rds.eqs (ai (c:=dK) (sz:=2) bS (x::xs) (⟨0,1114111⟩:Rng)) (aC bp _)) rfl|exact Rb.cells (Rds.eqs (ai (c:=dK) (sz:=2) bS (x::xs) (⟨0,l[k].hi⟩:Rng)) (aC bp _)) rfl|exact Rb.cells (Rds.eqs (ai (c:=dK) (sz:=2) bS (x::xs) (⟨l[k].lo,1114111⟩:Rng)) (aC bp _)) rfl|exact Rb.cells (Rds.eqs (ai (c:=dK) (sz:=2) bS (x::xs) (⟨l[k].lo,l[k].hi⟩:Rng)) (aC bp _)) rfl|exact Rb.cells (Rds.eqs (ai (c:=dK) (sz:=2) bS (y::ys) s[k]) (aC bp _)) rfl|exact Rb.cells (Rds.eqs (by first|(rw[<-h5];rfl;done)|fail) (aC bp _)) rfl|exact Rb.cells (Rds.eqs (by first|(rw[e3];done)|fail) (aC bp _)) rfl|exact Rb.cells (Rds.eqs (by first|(rw[<-e3];done)|fail) (aC bp _)) rfl|exact Rb.cells (Rds.eqs (by first|(rw[he];done)|fail) (aC bp _)) rfl|fail):p:=h
open xH5
variable [GT]
theorem bS (r:Rng):(dK r).length=2:=rfl
theorem bp (r:Rng):aJ (dK r)=true:=rfl
abbrev rU (l:List Rng):D:=.agg [dJ l]
theorem Or_c {l:List Int}(hl:l.length<=1000):Pu Tryz.prog 333 [aE l] (i64 (iz l)):=by
 refine pv Tryz.func333 ?_;repeat' ((conv=>whnf);first|exact kQ|(refine bk ?_ ?_<;>intro _<;>try(exfalso;omega))|refine stq ?_)
 refine aH.by aA T0 (λk:Nat=>⟨tmp 18 [(3,i64 0),(6,aE l),(7,i64 l.length),(8,i64 (k:Int))],⟨0,[]⟩⟩)
  (λk=>k<=l.length∧∀ i (h:i<l.length),i<k->l[i]=0) (λk=>l.length-k) 0 ⟨by omega,λ_ _ h=>by omega⟩ ?_ ?_
 ·exact lq0
 intro k ⟨h3,h4⟩;repeat' ((conv=>whnf);first|exact kQ|(refine bk ?_ ?_<;>intro _<;>try(exfalso;omega))|refine stq ?_)
 all_goals(conv=>whnf)
 all_goals first
  | exact aI.int (xG om h4 asm).symm
  | exact aI.int (mo.2 (ki om h4)).symm
  | (refine⟨k+1,⟨by omega,bv om h4 om⟩,by omega,?_⟩
     exact lq0)
theorem CO {a b:Rng}:yJ a b=iz [dF a.lo b.lo,dF a.hi b.hi]:=by
 unfold yJ dF iz iz iz;repeat' split
 all_goals omega
theorem ordR_c {a b:Rng}:Pu Tryz.prog 332 [.agg (dK a),.agg (dK b)] (i64 (yJ a b)):=by
 refine pv Tryz.func332 ?_;repeat' ((conv=>whnf);first|exact kQ|(refine bk ?_ ?_<;>intro _<;>try(exfalso;omega))|refine stq ?_|refine ab.byM (id:=1) aA T0 [0,1,0,4,15,0,32,0,128,511,1023,2047,4095] (by kernel_rfl) ?_|refine CM.pu cq ?_|refine Chk.mk ⟨_,rfl⟩ ?_|refine Chk.mk (by intro h;simp at h;simp[h]) ?_|(refine CM.w ?_;refine Cll.emb (Or_c (l:=[dF a.lo b.lo,dF a.hi b.hi]) si ⟨0,[]⟩) [] [13] (i64 (iz [dF a.lo b.lo,dF a.hi b.hi])) [] [(0,.cells (dK a) true),(1,.cells (dK b) true)] rfl aq bxA rdA bxA reA ?_)|fail)
 all_goals(conv=>whnf)
 exact aI.int CO.symm
abbrev BI:D:=.fn (.func 332) [] []
theorem Ck {l:List Rng}(hl:l.length<=12) (hn:l≠[]):AC1 Tryz.prog 363 [.sl 0 0 l.length l.length 2 false,i64 0,i64 l.length,BI] ⟨1,[(0,.cells (l.flatMap dK) false)]⟩ (.tup []) ⟨4,[(0,.cells ((gA ltR zR l).flatMap dK) false)]⟩:=by
 have h0:0<l.length:=List.length_pos_iff.2 hn;refine AC1.of_vl aA T0 Tryz.func363 rfl rfl ?_;repeat' ((conv=>whnf);first|exact kQ|(refine bk ?_ ?_<;>intro _<;>try(exfalso;omega))|refine stq ?_)
 refine aH.by aA T0 (λi:Nat=>⟨tmp 53 [(0,.sl 0 0 l.length l.length 2 false),(1,i64 0),(2,i64 l.length),(3,BI),(8,i64 ((i+1:Nat):Int))],⟨1,[(0,.cells ((mi ltR zR l i).flatMap dK) false)]⟩⟩)
  (λi=>i<l.length) (λi=>l.length-i) 0 h0 ?_ ?_
 ·exact lq0
 intro i h1;by_cases h2:i+1<l.length
 ·repeat' ((conv=>whnf);first|exact kQ|(refine bk ?_ ?_<;>intro _<;>try(exfalso;omega))|refine stq ?_|fail)
  refine aH.by2 aA T0 (λ(j:Nat) (cur:List Rng)=>⟨tmp 53 [(0,.sl 0 0 l.length l.length 2 false),(1,i64 0),(2,i64 l.length),(3,BI),(8,i64 ((i+1:Nat):Int)),(9,i64 (j:Int))],⟨1,[(0,.cells (cur.flatMap dK) false)]⟩⟩)
   (λj cur=>j<l.length∧cur.length=l.length∧ru ltR zR cur j=mi ltR zR l (i+1)) (λj _=>j) (i+1) (mi ltR zR l i) ⟨h2,by simp,rfl⟩ ?_ ?_
  ·exact lq0
  intro j cur ⟨h3,h4,h5⟩;cases j with
  | zero=>
   repeat' ((conv=>whnf);first|exact kQ|(refine bk ?_ ?_<;>intro _<;>try(exfalso;omega))|refine stq ?_|refine ab.by (id:=4) aA T0 [0,0,3,7,15,15,15,111,239,15,15,1039,3599,7695,16383,32767,65535] (by kernel_rfl) ?_|fail)
   all_goals(conv=>whnf)
   refine⟨i+1,h2,by omega,?_⟩;exact lq0
  | succ j=>
   have e1:cur.getD j zR=cur[j]:=cE om;have e2:cur.getD (j+1) zR=cur[j+1]:=cE om;repeat' ((conv=>whnf);first|exact kQ|(refine bk ?_ ?_<;>intro _<;>try(exfalso;omega))|refine stq ?_|refine cp ordR_c ?_|refine ab.by (id:=4) aA T0 [0,0,3,7,15,15,15,111,239,15,15,1039,3599,7695,16383,32767,65535] (by kernel_rfl) ?_|refine ab.by (id:=6) aA T0 [0,0,0,0,8,0,0,64,224,480,0,0,3072,7168,16355,32739,65535,131071] (by kernel_rfl) ?_|refine az.at (j+1) om om ?_|refine az.at j om om ?_|refine Get.flat bS (j+1) om om ?_|refine Get.flat bS j om om ?_|refine Put.flat bS (l:=cur) (j+1) (cur[j]'(by omega)) om om ?_|refine Put.flat bS (l:=cur.set (j+1) (cur[j]'(by omega))) j (cur[j+1]'(by omega)) om (by simp;omega) ?_|fail)
   all_goals(conv=>whnf)
   ·have hlt:ltR cur[j+1] cur[j]=true:=decide_eq_true asm;have e3:rM zR cur j=(cur.set (j+1) (cur[j]'(by omega))).set j (cur[j+1]'(by omega)):=by rw[rM,e1,e2]
    refine⟨j,rM zR cur j,⟨by omega,by simp[h4],?_⟩,by omega,?_⟩
    ·rw[<-h5];simp only[ru,e1,e2,hlt,if_true]
    exact lq0
   ·have hlt:¬ltR cur[j+1] cur[j]=true:=by rw[ltR,decide_eq_true_eq];assumption
    have e3:cur=mi ltR zR l (i+1):=by rw[<-h5];simp only[ru,e1,e2,hlt];simp
    refine⟨i+1,h2,by omega,?_⟩;exact lq0
 ·repeat' ((conv=>whnf);first|exact kQ|(refine bk ?_ ?_<;>intro _<;>try(exfalso;omega))|refine stq ?_|fail)
  all_goals(conv=>whnf)
  have e:gA ltR zR l=mi ltR zR l i:=by rw[gA,show l.length-1=i from by omega]
  exact⟨Or.inl rfl,rfl,by rw[e]⟩
theorem DD {l:List Rng}(hl:l.length<=12) (hn:l≠[]):AC1 Tryz.prog 331 [.sl 0 0 l.length l.length 2 false,BI] ⟨1,[(0,.cells (l.flatMap dK) false)]⟩ (.tup []) ⟨27,[(0,.cells ((gA ltR zR l).flatMap dK) false)]⟩:=by
 have hlen:Pu Tryz.prog 179 [.v (.int .u64 (IntKind.u64.wrap (l.length:Int)))] (i64 (([0,1,2,2,3,3,3,3,4,4,4,4,4]:List Int).getD l.length 0)):=by
  rw[show IntKind.u64.wrap (l.length:Int)=(l.length:Int) from by simp[IntKind.wrap,IntKind.bits,IntKind.signed];omega];exact Ds hl
 refine AC1.of_vl aA T0 Tryz.func331 rfl rfl ?_;repeat' ((conv=>whnf);first|exact kQ|(refine bk ?_ ?_<;>intro _<;>try(exfalso;omega))|refine stq ?_|refine cp hlen ?_|(apply Cll.inl aA T0 Tryz.func356 rfl rfl ?_;rotate_left)|exact⟨Or.inr rfl,rfl,rfl⟩|refine aH.times aA T0 1 ?_|refine Cll.emb (Ck hl hn) [(0,0)] [] (.tup []) [(0,.cells ((gA ltR zR l).flatMap dK) false)] [] rfl aq bxA rdA bxA reA ?_|fail)
 all_goals(conv=>whnf)
 exact⟨Or.inl rfl,rfl,rfl⟩
theorem y6:Pu Tryz.prog 331 [aT,BI] (.tup []):=by
 have hlen:Pu Tryz.prog 179 [.v (.int .u64 (IntKind.u64.wrap (0:Int)))] (i64 0):=Ds (n:=0) om;refine pv Tryz.func331 ?_;repeat' ((conv=>whnf);first|exact kQ|(refine bk ?_ ?_<;>intro _<;>try(exfalso;omega))|refine stq ?_|refine cp hlen ?_|(apply Cll.inl aA T0 Tryz.func356 rfl rfl ?_;rotate_left)|(apply Cll.inl aA T0 Tryz.func363 rfl rfl ?_;rotate_left)|exact⟨Or.inr rfl,rfl,rfl⟩|exact⟨Or.inl rfl,rfl,rfl⟩|refine aH.times aA T0 1 ?_|fail)
 all_goals(conv=>whnf)
 exact aI.same rfl rfl
theorem q0 {r:Rng}{a b:Int}(h1:a=max r.lo 0) (h2:b=min r.hi 1114111):iX r=⟨a,b⟩:=by rw[iX,h1,h2]
theorem dM {l:List Rng}{k:Nat}(h:k<l.length){a b:Int}(h1:a=max l[k].lo 0) (h2:b=min l[k].hi 1114111) (hab:a<=b):dC (l.take (k+1))=dC (l.take k)++[⟨a,b⟩]:=by
 rw[dC,ao h,List.map_append,List.filter_append,List.map_singleton,q0 h1 h2,List.filter_cons_of_pos (by simpa using hab)];rfl
theorem eD {l:List Rng}{k:Nat}(h:k<l.length){a b:Int}(h1:a=max l[k].lo 0) (h2:b=min l[k].hi 1114111) (hab:¬a<=b):dC (l.take (k+1))=dC (l.take k):=by
 rw[dC,ao h,List.map_append,List.filter_append,List.map_singleton,q0 h1 h2,List.filter_cons_of_neg (by simpa using hab),List.filter_nil,List.append_nil];rfl
theorem vM (l:List Rng):(dC l).length<=l.length:=Nat.le_trans (List.length_filter_le _ _) si
theorem yG {l:List Rng}{r:Rng}(h:r∈dC l):0<=r.hi∧r.hi<=1114111:=by
 simp only[dC,List.mem_filter,List.mem_map,decide_eq_true_eq] at h;obtain⟨⟨q,_,rfl⟩,h2⟩:=h;simp only[iX] at h2 ⊢;omega
theorem lR (y:Rng) (ys:List Rng) (m:Nat) (v:Rng):∃ y' ys',(y::ys).set m v=y' :: ys':=by cases m<;>exact⟨_,_,rfl⟩
theorem wx {o:List Rng}(h:0<o.length):o.getLast?=some (o[o.length-1]'(by omega)):=by rw[List.getLast?_eq_getElem?,List.getElem?_eq_getElem om]
theorem zq {o:List Rng}(h:0<o.length) (v:Rng):o.dropLast++[v]=o.set (o.length-1) v:=by
 obtain⟨q,y,rfl⟩:∃ q y,o=q++[y]:=⟨o.dropLast,o.getLast (by rintro rfl;simp at h),(List.dropLast_concat_getLast _).symm⟩;simp
theorem li {o l:List Rng}{r:Rng}{hi:Int}(h:0<o.length) (hc:r.lo<=(o[o.length-1]'(by omega)).hi+1) (hh:hi=max (o[o.length-1]'(by omega)).hi r.hi):mrg o (r::l)=mrg (o.set (o.length-1) ⟨(o[o.length-1]'(by omega)).lo,hi⟩) l:=by
 rw[mrg,wx h];simp only;rw[if_pos hc,zq h,<-hh]
theorem wk {o l:List Rng}{r:Rng}(h:0<o.length) (hc:¬r.lo<=(o[o.length-1]'(by omega)).hi+1):mrg o (r::l)=mrg (o++[r]) l:=by
 rw[mrg,wx h];simp only;rw[if_neg hc]
set_option maxHeartbeats 8000000 in
theorem Bj {l:List Rng}(hl:l.length<=12):Pu Tryz.prog 276 [dJ l] (rU (mkR l)):=by
 refine pv Tryz.func276 ?_;repeat' ((conv=>whnf);first|exact kQ|(refine bk ?_ ?_<;>intro _<;>try(exfalso;omega))|refine stq ?_)
 refine aH.by2 aA T0 (λ(k:Nat) (o:List Rng)=>⟨tmp 79 [(2,.ptr 0 0),(3,bG 1 2 o),(11,dJ l),(12,i64 l.length),(13,i64 (k:Int))],⟨2,(0,.cells [aT] true)::bJ 1 dK o⟩⟩)
  (λk o=>k<=l.length∧o=dC (l.take k)) (λk _=>l.length-k) 0 [] ⟨by omega,rfl⟩ ?_ ?_
 ·exact lq [(0,_)] []
 intro k o ⟨h3,h4⟩;have h5:o.length<=k:=by rw[h4];exact Nat.le_trans (vM _) (by simp;omega)
 by_cases hk:k<l.length
 ·by_cases ha:l[k].lo<0
  ·by_cases hb:1114111<l[k].hi
   ·
    cases o with
    | nil=>
     repeat' ((conv=>whnf);first|exact kQ|(refine bk ?_ ?_<;>intro _<;>try(exfalso;omega))|refine stq ?_)
     all_goals(conv=>whnf)
     all_goals first
      | (refine⟨k+1,[],⟨by omega,by rw[eD hk (a:=0) (b:=1114111) om om om];exact h4⟩,by omega,?_⟩
         exact lq [(0,_)] [])
      | (refine⟨k+1,[⟨0,1114111⟩],⟨by omega,by rw[dM hk (a:=0) (b:=1114111) om om om,<-h4];rfl⟩,by omega,?_⟩
         exact lq [(0,_),(1,_)] [])
    | cons x xs=>
     have hlen:(x::xs).length<=12:=by omega
     repeat' ((conv=>whnf);first|exact kQ|(refine bk ?_ ?_<;>intro _<;>try(exfalso;omega))|refine stq ?_)
     all_goals(conv=>whnf)
     all_goals first
      | (refine⟨k+1,x::xs,⟨by omega,by rw[eD hk (a:=0) (b:=1114111) om om om];exact h4⟩,by omega,?_⟩
         exact lq [(0,_),(1,_)] [])
      | (refine⟨k+1,(x::xs)++[⟨0,1114111⟩],⟨by omega,by rw[dM hk (a:=0) (b:=1114111) om om om,<-h4]⟩,by omega,?_⟩
         exact lq [(0,_),(1,_)] [])
   ·
    cases o with
    | nil=>
     repeat' ((conv=>whnf);first|exact kQ|(refine bk ?_ ?_<;>intro _<;>try(exfalso;omega))|refine stq ?_)
     all_goals(conv=>whnf)
     all_goals first
      | (refine⟨k+1,[],⟨by omega,by rw[eD hk (a:=0) (b:=l[k].hi) om om om];exact h4⟩,by omega,?_⟩
         exact lq [(0,_)] [])
      | (refine⟨k+1,[⟨0,l[k].hi⟩],⟨by omega,by rw[dM hk (a:=0) (b:=l[k].hi) om om om,<-h4];rfl⟩,by omega,?_⟩
         exact lq [(0,_),(1,_)] [])
    | cons x xs=>
     have hlen:(x::xs).length<=12:=by omega
     repeat' ((conv=>whnf);first|exact kQ|(refine bk ?_ ?_<;>intro _<;>try(exfalso;omega))|refine stq ?_)
     all_goals(conv=>whnf)
     all_goals first
      | (refine⟨k+1,x::xs,⟨by omega,by rw[eD hk (a:=0) (b:=l[k].hi) om om om];exact h4⟩,by omega,?_⟩
         exact lq [(0,_),(1,_)] [])
      | (refine⟨k+1,(x::xs)++[⟨0,l[k].hi⟩],⟨by omega,by rw[dM hk (a:=0) (b:=l[k].hi) om om om,<-h4]⟩,by omega,?_⟩
         exact lq [(0,_),(1,_)] [])
  ·by_cases hb:1114111<l[k].hi
   ·
    cases o with
    | nil=>
     repeat' ((conv=>whnf);first|exact kQ|(refine bk ?_ ?_<;>intro _<;>try(exfalso;omega))|refine stq ?_)
     all_goals(conv=>whnf)
     all_goals first
      | (refine⟨k+1,[],⟨by omega,by rw[eD hk (a:=l[k].lo) (b:=1114111) om om om];exact h4⟩,by omega,?_⟩
         exact lq [(0,_)] [])
      | (refine⟨k+1,[⟨l[k].lo,1114111⟩],⟨by omega,by rw[dM hk (a:=l[k].lo) (b:=1114111) om om om,<-h4];rfl⟩,by omega,?_⟩
         exact lq [(0,_),(1,_)] [])
    | cons x xs=>
     have hlen:(x::xs).length<=12:=by omega
     repeat' ((conv=>whnf);first|exact kQ|(refine bk ?_ ?_<;>intro _<;>try(exfalso;omega))|refine stq ?_)
     all_goals(conv=>whnf)
     all_goals first
      | (refine⟨k+1,x::xs,⟨by omega,by rw[eD hk (a:=l[k].lo) (b:=1114111) om om om];exact h4⟩,by omega,?_⟩
         exact lq [(0,_),(1,_)] [])
      | (refine⟨k+1,(x::xs)++[⟨l[k].lo,1114111⟩],⟨by omega,by rw[dM hk (a:=l[k].lo) (b:=1114111) om om om,<-h4]⟩,by omega,?_⟩
         exact lq [(0,_),(1,_)] [])
   ·
    cases o with
    | nil=>
     repeat' ((conv=>whnf);first|exact kQ|(refine bk ?_ ?_<;>intro _<;>try(exfalso;omega))|refine stq ?_)
     all_goals(conv=>whnf)
     all_goals first
      | (refine⟨k+1,[],⟨by omega,by rw[eD hk (a:=l[k].lo) (b:=l[k].hi) om om om];exact h4⟩,by omega,?_⟩
         exact lq [(0,_)] [])
      | (refine⟨k+1,[⟨l[k].lo,l[k].hi⟩],⟨by omega,by rw[dM hk (a:=l[k].lo) (b:=l[k].hi) om om om,<-h4];rfl⟩,by omega,?_⟩
         exact lq [(0,_),(1,_)] [])
    | cons x xs=>
     have hlen:(x::xs).length<=12:=by omega
     repeat' ((conv=>whnf);first|exact kQ|(refine bk ?_ ?_<;>intro _<;>try(exfalso;omega))|refine stq ?_)
     all_goals(conv=>whnf)
     all_goals first
      | (refine⟨k+1,x::xs,⟨by omega,by rw[eD hk (a:=l[k].lo) (b:=l[k].hi) om om om];exact h4⟩,by omega,?_⟩
         exact lq [(0,_),(1,_)] [])
      | (refine⟨k+1,(x::xs)++[⟨l[k].lo,l[k].hi⟩],⟨by omega,by rw[dM hk (a:=l[k].lo) (b:=l[k].hi) om om om,<-h4]⟩,by omega,?_⟩
         exact lq [(0,_),(1,_)] [])
 ·have ho:o=dC l:=by rw[h4,kE om]
  cases o with
  | nil=>
   have hs0:gA ltR zR (dC l)=[]:=by rw[<-ho];rfl
   have hend:mkR l=mrg [] (gA ltR zR (dC l)):=rfl;repeat' ((conv=>whnf);first|exact kQ|(refine bk ?_ ?_<;>intro _<;>try(exfalso;omega))|refine stq ?_|refine cp y6 ?_|fail)
   generalize hs:gA ltR zR (dC l)=s at *
   refine aH.by2 aA T0 (λ(k:Nat) (out:List Rng)=>⟨tmp 79 [(2,.ptr 0 0),(7,bG 1 2 out),(36,dJ s),(37,i64 s.length),(38,i64 (k:Int))],⟨2,(0,.cells [aT] true)::bJ 1 dK out⟩⟩)
    (λk out=>((k<=s.length∧out.length<=k)∧∀ r,r∈out->0<=r.hi∧r.hi<=1114111)∧mrg [] s=mrg out (s.drop k)) (λk _=>s.length-k) 0 [] ⟨⟨⟨by omega,by simp⟩,by simp⟩,rfl⟩ ?_ ?_
   ·subst hs0;exact lq [(0,_)] []
   have hsl:s.length<=12:=by rw[hs0];simp
   have hsb:∀ r,r∈s->0<=r.hi∧r.hi<=1114111:=by rw[hs0];simp
   intro k out ⟨⟨⟨h6,h7⟩,h9⟩,h8⟩;by_cases hk2:k<s.length
   ·have hd:s.drop k=s[k]::s.drop (k+1):=kK hk2;cases out with
    | nil=>
     repeat' ((conv=>whnf);first|exact kQ|(refine bk ?_ ?_<;>intro _<;>try(exfalso;omega))|refine stq ?_)
     all_goals(conv=>whnf)
     refine⟨k+1,[s[k]],⟨⟨⟨by omega,by simp⟩,λr hr=>by simp only[List.mem_singleton] at hr;subst hr;exact hsb _ (kM hk2)⟩,by rw[h8,hd];rfl⟩,by omega,?_⟩;exact lq [(0,_),(1,_)] []
    | cons y ys=>
     have hpos:0<(y::ys).length:=by simp
     have hle:(y::ys).length<=12:=by omega
     have hb1:=h9 _ (kM (show(y::ys).length-1<(y::ys).length by omega));have hb2:=hsb _ (kM hk2);repeat' ((conv=>whnf);first|refine Get.flat1 bS ((y::ys).length-1) 1 (by dsimp only;omega) om rfl ?_|exact kQ|(refine bk ?_ ?_<;>intro _<;>try(exfalso;omega))|refine stq ?_|refine ab.by (id:=16) aA T0 [0,0,2,0,0,16,56,120,248,0,512,2040,4095,8191,16383] (by kernel_rfl) ?_|refine az.at ((y::ys).length-1) om om ?_|refine Put.flat1 bS ((y::ys).length-1) 1 ⟨((y::ys)[(y::ys).length-1]'(by omega)).lo,s[k].hi⟩ (by dsimp only;omega) om om rfl ?_|refine Put.flat1 bS ((y::ys).length-1) 1 ⟨((y::ys)[(y::ys).length-1]'(by omega)).lo,((y::ys)[(y::ys).length-1]'(by omega)).hi⟩ (by dsimp only;omega) om om rfl ?_|fail)
     all_goals(conv=>whnf)
     all_goals first
      | (have hj:=li (l:=s.drop (k+1)) hpos asm (hi:=s[k].hi) om
         obtain⟨y',ys',he⟩:=lR y ys ((y::ys).length-1) ⟨((y::ys)[(y::ys).length-1]'(by omega)).lo,s[k].hi⟩;have hle':(y' :: ys').length=(y::ys).length:=by rw[<-he];simp
         refine⟨k+1,y' :: ys',⟨⟨⟨by omega,by omega⟩,λr hr=>by rw[<-he] at hr;rcases List.mem_or_eq_of_mem_set hr with hr|rfl<;>first|exact h9 r hr|exact hb2⟩,by rw[h8,hd,hj,he]⟩,by omega,?_⟩
         exact lq [(0,_),(1,_)] [])
      | (have hj:=li (l:=s.drop (k+1)) hpos asm (hi:=((y::ys)[(y::ys).length-1]'(by omega)).hi) om
         obtain⟨y',ys',he⟩:=lR y ys ((y::ys).length-1) ⟨((y::ys)[(y::ys).length-1]'(by omega)).lo,((y::ys)[(y::ys).length-1]'(by omega)).hi⟩;have hle':(y' :: ys').length=(y::ys).length:=by rw[<-he];simp
         refine⟨k+1,y' :: ys',⟨⟨⟨by omega,by omega⟩,λr hr=>by rw[<-he] at hr;rcases List.mem_or_eq_of_mem_set hr with hr|rfl<;>first|exact h9 r hr|exact hb1⟩,by rw[h8,hd,hj,he]⟩,by omega,?_⟩
         exact lq [(0,_),(1,_)] [])
      | (refine⟨k+1,(y::ys)++[s[k]],⟨⟨⟨by omega,by rw[kG];simp only[List.length_singleton];omega⟩,λr hr=>by rcases List.mem_append.1 hr with hr|hr<;>first|exact h9 r hr|exact(List.mem_singleton.1 hr)▸hb2⟩,by rw[h8,hd,wk hpos asm]⟩,by omega,?_⟩
         exact lq [(0,_),(1,_)] [])
   ·have he:mrg [] s=out:=by rw[h8,List.drop_of_length_le om];rfl
    rw[hend,he];cases out with
    | nil=>
     repeat' ((conv=>whnf);first|exact kQ|(refine bk ?_ ?_<;>intro _<;>try(exfalso;omega))|refine stq ?_)
     all_goals(conv=>whnf)
     exact⟨.agg (.cons .nil .nil)⟩
    | cons y ys=>
     repeat' ((conv=>whnf);first|exact kQ|(refine bk ?_ ?_<;>intro _<;>try(exfalso;omega))|refine stq ?_)
     all_goals(conv=>whnf)
     exact⟨.agg (.cons (Rd.frzL bS bp rfl rfl rfl rfl rfl) .nil)⟩
  | cons x xs=>
   have hlen:(x::xs).length<=12:=by omega
   have hend:mkR l=mrg [] (gA ltR zR (x::xs)):=by rw[ho];rfl
   have hsl0:(gA ltR zR (x::xs)).length=(x::xs).length:=srtG_len ..;repeat' ((conv=>whnf);first|exact kQ|(refine bk ?_ ?_<;>intro _<;>try(exfalso;omega))|refine stq ?_|refine Cll.emb (DD (l:=x::xs) hlen si) [(0,1)] [] (.tup []) [(1,.cells ((gA ltR zR (x::xs)).flatMap dK) false)] [(0,.cells [aT] true)] rfl aq bxA rdA bxA reA ?_|fail)
   have hsb0:∀ r,r∈gA ltR zR (x::xs)->0<=r.hi∧r.hi<=1114111:=λr hr=>yG (by rw[<-ho];exact(oQ _).1.mem_iff.1 hr)
   generalize hs:gA ltR zR (x::xs)=s at *
   refine aH.by2 aA T0 (λ(k:Nat) (out:List Rng)=>⟨tmp 79 [(2,.ptr 0 0),(7,bG 1 2 out),(36,dJ s),(37,i64 s.length),(38,i64 (k:Int))],⟨2,(0,.cells [aT] true)::bJ 1 dK out⟩⟩)
    (λk out=>((k<=s.length∧out.length<=k)∧∀ r,r∈out->0<=r.hi∧r.hi<=1114111)∧mrg [] s=mrg out (s.drop k)) (λk _=>s.length-k) 0 [] ⟨⟨⟨by omega,by simp⟩,by simp⟩,rfl⟩ ?_ ?_
   ·exact lq [(0,_)] [1]
   have hsl:s.length<=12:=by omega
   have hsb:=hsb0;intro k out ⟨⟨⟨h6,h7⟩,h9⟩,h8⟩;by_cases hk2:k<s.length
   ·have hd:s.drop k=s[k]::s.drop (k+1):=kK hk2;cases out with
    | nil=>
     repeat' ((conv=>whnf);first|exact kQ|(refine bk ?_ ?_<;>intro _<;>try(exfalso;omega))|refine stq ?_)
     all_goals(conv=>whnf)
     refine⟨k+1,[s[k]],⟨⟨⟨by omega,by simp⟩,λr hr=>by simp only[List.mem_singleton] at hr;subst hr;exact hsb _ (kM hk2)⟩,by rw[h8,hd];rfl⟩,by omega,?_⟩;exact lq [(0,_),(1,_)] []
    | cons y ys=>
     have hpos:0<(y::ys).length:=by simp
     have hle:(y::ys).length<=12:=by omega
     have hb1:=h9 _ (kM (show(y::ys).length-1<(y::ys).length by omega));have hb2:=hsb _ (kM hk2);repeat' ((conv=>whnf);first|refine Get.flat1 bS ((y::ys).length-1) 1 (by dsimp only;omega) om rfl ?_|exact kQ|(refine bk ?_ ?_<;>intro _<;>try(exfalso;omega))|refine stq ?_|refine ab.by (id:=16) aA T0 [0,0,2,0,0,16,56,120,248,0,512,2040,4095,8191,16383] (by kernel_rfl) ?_|refine az.at ((y::ys).length-1) om om ?_|refine Put.flat1 bS ((y::ys).length-1) 1 ⟨((y::ys)[(y::ys).length-1]'(by omega)).lo,s[k].hi⟩ (by dsimp only;omega) om om rfl ?_|refine Put.flat1 bS ((y::ys).length-1) 1 ⟨((y::ys)[(y::ys).length-1]'(by omega)).lo,((y::ys)[(y::ys).length-1]'(by omega)).hi⟩ (by dsimp only;omega) om om rfl ?_|fail)
     all_goals(conv=>whnf)
     all_goals first
      | (have hj:=li (l:=s.drop (k+1)) hpos asm (hi:=s[k].hi) om
         obtain⟨y',ys',he⟩:=lR y ys ((y::ys).length-1) ⟨((y::ys)[(y::ys).length-1]'(by omega)).lo,s[k].hi⟩;have hle':(y' :: ys').length=(y::ys).length:=by rw[<-he];simp
         refine⟨k+1,y' :: ys',⟨⟨⟨by omega,by omega⟩,λr hr=>by rw[<-he] at hr;rcases List.mem_or_eq_of_mem_set hr with hr|rfl<;>first|exact h9 r hr|exact hb2⟩,by rw[h8,hd,hj,he]⟩,by omega,?_⟩
         exact lq [(0,_),(1,_)] [])
      | (have hj:=li (l:=s.drop (k+1)) hpos asm (hi:=((y::ys)[(y::ys).length-1]'(by omega)).hi) om
         obtain⟨y',ys',he⟩:=lR y ys ((y::ys).length-1) ⟨((y::ys)[(y::ys).length-1]'(by omega)).lo,((y::ys)[(y::ys).length-1]'(by omega)).hi⟩;have hle':(y' :: ys').length=(y::ys).length:=by rw[<-he];simp
         refine⟨k+1,y' :: ys',⟨⟨⟨by omega,by omega⟩,λr hr=>by rw[<-he] at hr;rcases List.mem_or_eq_of_mem_set hr with hr|rfl<;>first|exact h9 r hr|exact hb1⟩,by rw[h8,hd,hj,he]⟩,by omega,?_⟩
         exact lq [(0,_),(1,_)] [])
      | (refine⟨k+1,(y::ys)++[s[k]],⟨⟨⟨by omega,by rw[kG];simp only[List.length_singleton];omega⟩,λr hr=>by rcases List.mem_append.1 hr with hr|hr<;>first|exact h9 r hr|exact(List.mem_singleton.1 hr)▸hb2⟩,by rw[h8,hd,wk hpos asm]⟩,by omega,?_⟩
         exact lq [(0,_),(1,_)] [])
   ·have he:mrg [] s=out:=by rw[h8,List.drop_of_length_le om];rfl
    rw[hend,he];cases out with
    | nil=>
     repeat' ((conv=>whnf);first|exact kQ|(refine bk ?_ ?_<;>intro _<;>try(exfalso;omega))|refine stq ?_)
     all_goals(conv=>whnf)
     exact⟨.agg (.cons .nil .nil)⟩
    | cons y ys=>
     repeat' ((conv=>whnf);first|exact kQ|(refine bk ?_ ?_<;>intro _<;>try(exfalso;omega))|refine stq ?_)
     all_goals(conv=>whnf)
     exact⟨.agg (.cons (Rd.frzL bS bp rfl rfl rfl rfl rfl) .nil)⟩
end
section
open Go Go.Am Classical
set_option maxRecDepth 100000
variable [GT]
theorem oS {l:List Rng}(hl:l.length<=12):Pu Tryz.prog 171 [rU l] (boo (decide (po l))):=by
 have hm:=CT (l:=l);refine pv Tryz.func171 ?_;by_cases hlen:l.length=(mkR l).length
 ·repeat' ((conv=>whnf);first|exact kQ|(refine bk ?_ ?_<;>intro _<;>try(exfalso;omega))|refine stq ?_|refine cp (Bj sd) ?_|fail)
  refine aH.by aA T0 (λk:Nat=>⟨tmp 32 [(1,.ptr 0 0),(17,dJ (mkR l)),(18,i64 l.length),(19,i64 (k:Int))],⟨1,[(0,.cells [dJ l] true)]⟩⟩)
   (λk=>k<=l.length∧∀ i (h:i<l.length),i<k->l[i]=(mkR l)[i]'(by omega)) (λk=>l.length-k) 0 ⟨by omega,λ_ _ h=>by omega⟩ ?_ ?_
  ·exact lq [(0,_)] []
  intro k ⟨h3,h4⟩;by_cases hk:k<l.length
  ·have hk':k<(mkR l).length:=by omega
   by_cases he:(mkR l)[k]=l[k]
   ·repeat' ((conv=>whnf);first|exact kQ|(refine bk ?_ ?_<;>intro _<;>try(exfalso;omega))|refine stq ?_|refine ab.by aA T0 [0,0,2,0,14,30,63] (by kernel_rfl) ?_|refine Idx.atS (sz:=2) (c:=dK) (λ_=>rfl) k om om ?_|(split<;>rename_i heq<;>rw[he] at heq<;>first|(obtain rfl:=Option.some.inj (AP.symm.trans heq))|exact absurd (AP.symm.trans heq) si))
    all_goals(conv=>whnf)
    refine⟨k+1,⟨by omega,bv om h4 he.symm⟩,by omega,?_⟩;exact lq [(0,_)] []
   ·repeat' ((conv=>whnf);first|exact kQ|(refine bk ?_ ?_<;>intro _<;>try(exfalso;omega))|refine stq ?_|refine ab.by aA T0 [0,0,2,0,14,30,63] (by kernel_rfl) ?_|refine Idx.atS (sz:=2) (c:=dK) (λ_=>rfl) k om om ?_|(split<;>rename_i heq<;>first|(obtain rfl:=Option.some.inj ((wg he).symm.trans heq))|exact absurd ((wg he).symm.trans heq) si))
    all_goals(conv=>whnf)
    exact aI.no (λhc=>he (List.getElem_of_eq (hm.2 hc).symm om))
  ·repeat' ((conv=>whnf);first|exact kQ|(refine bk ?_ ?_<;>intro _<;>try(exfalso;omega))|refine stq ?_)
   all_goals(conv=>whnf)
   exact aI.yes (hm.1 (List.ext_getElem hlen λi h1 h2=>h4 i h1 om))
 ·repeat' ((conv=>whnf);first|exact kQ|(refine bk ?_ ?_<;>intro _<;>try(exfalso;omega))|refine stq ?_|refine cp (Bj sd) ?_|fail)
  all_goals(conv=>whnf)
  exact aI.no (λhc=>hlen (congrArg List.length (hm.2 hc)))
end
section
open Go Go.Am Classical
set_option maxRecDepth 100000
theorem xHC.rdX {p:Prop}(h:p:=by first|exact Rd.frz rfl rfl (kD rfl) (Rds.eqs rfl rfl)|fail):p:=h
open xHC
variable [GT]
theorem yN {s:Str}(hs:s.length<=9223372036854775807):Pu Tryz.prog 335 [.str s] (boo (decide (AJ s))):=by
 refine pv Tryz.func335 ?_;repeat' ((conv=>whnf);first|exact kQ|(refine bk ?_ ?_<;>intro _<;>try(exfalso;omega))|refine stq ?_)
 all_goals(conv=>whnf)
 all_goals first
  | exact aI.no (λhc=>hc.1 asm)
  | exact aI.no (λhc=>by have:=hc.2.1;omega)
  | skip
 refine aH.by aA T0 (λk:Nat=>⟨tmp 51 [(0,.str s),(14,i64 s.length),(15,i64 (k:Int))],⟨0,[]⟩⟩) (λk=>k<=s.length∧∀ i (h:i<s.length),i<k->wb (s[i].toNat:Int)) (λk=>s.length-k) 0 ⟨by omega,λ_ _ h=>by omega⟩ ?_ ?_
 ·exact lq0
 intro k ⟨h1,h2⟩;repeat' ((conv=>whnf);first|exact kQ|(refine bk ?_ ?_<;>intro _<;>try(exfalso;omega))|refine stq ?_)
 all_goals(conv=>whnf)
 all_goals first
  | exact aI.no (λhc=>absurd (hc.2.2 k om) (by unfold wb;omega))
  | exact aI.yes ⟨by assumption,by omega,ki om h2⟩
  | (refine⟨k+1,⟨by omega,bv om h2 (by unfold wb;omega)⟩,by omega,?_⟩
     exact lq0)
theorem Av {x:Str}:Pu Tryz.prog 357 [.str x] (boo false):=by
 refine pv Tryz.func357 ?_;repeat' ((conv=>whnf);first|exact kQ|(refine bk ?_ ?_<;>intro _<;>try(exfalso;omega))|refine stq ?_)
 all_goals(conv=>whnf)
 all_goals first
  | exact aI.same rfl rfl
  | (exfalso;rename_i h;exact h rfl)
theorem cmpS_c {x y:Str}:Pu Tryz.prog 336 [.str x,.str y] (i64 (sA x y)):=by
 refine pv Tryz.func336 ?_;repeat' ((conv=>whnf);first|exact kQ|(refine bk ?_ ?_<;>intro _<;>try(exfalso;omega))|refine stq ?_|refine cp Av ?_|fail)
 all_goals(conv=>whnf)
 all_goals first
  | exact aI.int (by rename_i h;rw[sA,if_pos h])
  | exact aI.int (by rename_i h1 h2;rw[sA,if_neg h1,if_pos (h2.resolve_left h1)])
  | exact aI.int (by rename_i h1 h2;rw[sA,if_neg h1,if_neg (λe=>h2 (.inr e))])
theorem Cu {a b:Mpg}:BH a b=iz [dF a.frm b.frm,sA a.tag b.tag]:=by
 unfold BH iz iz iz;repeat' split
 all_goals first|rfl|omega
theorem qy {a b:Mpg}:Pu Tryz.prog 279 [.agg (mY a),.agg (mY b)] (i64 (BH a b)):=by
 refine pv Tryz.func279 ?_;repeat' ((conv=>whnf);first|exact kQ|(refine bk ?_ ?_<;>intro _<;>try(exfalso;omega))|refine stq ?_|refine ab.byM (id:=1) aA T0 [0,1,0,4,15,0,32,0,128,511,1023,2047,4095] (by kernel_rfl) ?_|refine CM.pu cq ?_|refine CM.pu cmpS_c ?_|refine Chk.mk ⟨_,rfl⟩ ?_|(refine CM.w ?_;refine Cll.emb (Or_c (l:=[dF a.frm b.frm,sA a.tag b.tag]) si ⟨0,[]⟩) [] [13] (i64 (iz [dF a.frm b.frm,sA a.tag b.tag])) [] [(0,.cells (mY a) true),(1,.cells (mY b) true)] rfl aq bxA rdA bxA reA ?_)|fail)
 all_goals(conv=>whnf)
 exact aI.int Cu.symm
abbrev Ci (m:Mpg):D:=.agg [i64 m.frm,.str m.tag]
theorem Ch {m:Mpg}:Pu Tryz.prog 280 [.agg (mY m)] (Ci m):=by
 refine pv Tryz.func280 ?_;repeat' ((conv=>whnf);first|exact kQ|(refine bk ?_ ?_<;>intro _<;>try(exfalso;omega))|refine stq ?_)
 all_goals(conv=>whnf)
 exact aI.same rfl rfl
structure MsOk (l:List Mpg):Prop where
 len:l.length<=9223372036854775806
 to:∀ i (h:i<l.length),l[i].to.length<=9223372036854775807
 tag:∀ i (h:i<l.length),l[i].tag.length<=9223372036854775807
theorem pE1 {l:List Mpg}{k:Nat}(hk:k<l.length) (h:¬mr l[k]):fO l=1:=by rw[fO,if_neg (λhc=>h (hc k hk))]
theorem pE2 {l:List Mpg}(h1:∀ i (h:i<l.length),mr l[i]){k:Nat}(hk:k<l.length) (h:¬l[k].to.length<=64):fO l=2:=by rw[fO,if_pos h1,if_neg (λhc=>h (hc k hk))]
theorem pE6 {l:List Mpg}(h1:∀ i (h:i<l.length),mr l[i]) (h2:∀ i (h:i<l.length),l[i].to.length<=64){k:Nat}(hk:k<l.length) (h:¬B6 l[k]):fO l=6:=by rw[fO,if_pos h1,if_pos h2,if_neg (λhc=>h (hc k hk))]
theorem pE0 {l:List Mpg}(h1:∀ i (h:i<l.length),mr l[i]) (h2:∀ i (h:i<l.length),l[i].to.length<=64) (h3:∀ i (h:i<l.length),B6 l[i]):fO l=0:=by rw[fO,if_pos h1,if_pos h2,if_pos h3]
theorem wZ {l:List Mpg}(ho:MsOk l):Pu Tryz.prog 278 [dY l] (i64 (fO l)):=by
 have hlen:=ho.len;refine pv Tryz.func278 ?_;repeat' ((conv=>whnf);first|exact kQ|(refine bk ?_ ?_<;>intro _<;>try(exfalso;omega))|refine stq ?_)
 refine aH.by aA T0 (λk:Nat=>⟨tmp 60 [(0,dY l),(11,dY l),(12,i64 l.length),(13,i64 (k:Int))],⟨0,[]⟩⟩)
  (λk=>k<=l.length∧∀ i (h:i<l.length),i<k->mr l[i]) (λk=>l.length-k) 0 ⟨by omega,λ_ _ h=>by omega⟩ ?_ ?_
 ·exact lq0
 intro k ⟨h3,h4⟩;by_cases hk:k<l.length
 ·have hto:=ho.to k hk;by_cases hf:cpQ l[k].frm
  ·repeat' ((conv=>whnf);first|exact kQ|(refine bk ?_ ?_<;>intro _<;>try(exfalso;omega))|refine stq ?_|refine cd iA (λ_=>?_) (λ_=>?_)|fail)
   all_goals(conv=>whnf)
   all_goals first
    | (exfalso;rename_i h;exact h hf)
    | skip
   refine aH.by aA T0 (λj:Nat=>⟨tmp 60 [(0,dY l),(11,dY l),(12,i64 l.length),(13,i64 (k:Int)),(22,aE l[k].to),(23,i64 l[k].to.length),(24,i64 (j:Int))],⟨0,[]⟩⟩)
    (λj=>j<=l[k].to.length∧∀ i (h:i<l[k].to.length),i<j->cpQ l[k].to[i]) (λj=>l[k].to.length-j) 0 ⟨by omega,λ_ _ h=>by omega⟩ ?_ ?_
   ·exact lq0
   intro j ⟨h5,h6⟩;repeat' ((conv=>whnf);first|exact kQ|(refine bk ?_ ?_<;>intro _<;>try(exfalso;omega))|refine stq ?_|refine cd iA (λ_=>?_) (λ_=>?_)|fail)
   all_goals(conv=>whnf)
   all_goals first
    | exact aI.int (pE1 hk λhc=>by rename_i h;exact h (hc.2 j om)).symm
    | (refine⟨j+1,⟨by omega,bv om h6 asm⟩,by omega,?_⟩
       exact lq0)
    | (refine⟨k+1,⟨by omega,bv om h4 ⟨hf,ki om h6⟩⟩,by omega,?_⟩
       exact lq0)
  ·repeat' ((conv=>whnf);first|exact kQ|(refine bk ?_ ?_<;>intro _<;>try(exfalso;omega))|refine stq ?_|refine cd iA (λ_=>?_) (λ_=>?_)|fail)
   all_goals(conv=>whnf)
   all_goals first
    | (exfalso;rename_i h;exact hf h)
    | exact aI.int (pE1 hk λhc=>hf hc.1).symm
 ·have g1:=ki (by omega:l.length<=k) h4;repeat' ((conv=>whnf);first|exact kQ|(refine bk ?_ ?_<;>intro _<;>try(exfalso;omega))|refine stq ?_|fail)
  refine aH.by aA T0 (λk:Nat=>⟨tmp 60 [(0,dY l),(33,dY l),(34,i64 l.length),(35,i64 (k:Int))],⟨0,[]⟩⟩)
   (λk=>k<=l.length∧∀ i (h:i<l.length),i<k->l[i].to.length<=64) (λk=>l.length-k) 0 ⟨by omega,λ_ _ h=>by omega⟩ ?_ ?_
  ·exact lq0
  intro k ⟨h3,h4⟩;by_cases hk:k<l.length
  ·have hto:=ho.to k hk;repeat' ((conv=>whnf);first|exact kQ|(refine bk ?_ ?_<;>intro _<;>try(exfalso;omega))|refine stq ?_)
   all_goals(conv=>whnf)
   all_goals first
    | exact aI.int (pE2 g1 hk om).symm
    | (refine⟨k+1,⟨by omega,bv om h4 om⟩,by omega,?_⟩
       exact lq0)
  ·have g2:=ki (by omega:l.length<=k) h4;repeat' ((conv=>whnf);first|exact kQ|(refine bk ?_ ?_<;>intro _<;>try(exfalso;omega))|refine stq ?_|fail)
   refine aH.by aA T0 (λk:Nat=>⟨tmp 60 [(44,dY l),(45,i64 l.length),(46,i64 (k:Int))],⟨0,[]⟩⟩)
    (λk=>k<=l.length∧∀ i (h:i<l.length),i<k->B6 l[i]) (λk=>l.length-k) 0 ⟨by omega,λ_ _ h=>by omega⟩ ?_ ?_
   ·exact lq0
   intro k ⟨h3,h4⟩;by_cases hk:k<l.length
   ·have htg:=ho.tag k hk;repeat' ((conv=>whnf);first|exact kQ|(refine bk ?_ ?_<;>intro _<;>try(exfalso;omega))|refine stq ?_|refine cd (yN sd) (λ_=>?_) (λ_=>?_)|fail)
    all_goals(conv=>whnf)
    all_goals first
     | exact aI.int (pE6 g1 g2 hk (by rintro(h|h)<;>contradiction)).symm
     | (refine⟨k+1,⟨by omega,bv om h4 (by first|exact .inl asm|exact .inr asm)⟩,by omega,?_⟩
        exact lq0)
   ·repeat' ((conv=>whnf);first|exact kQ|(refine bk ?_ ?_<;>intro _<;>try(exfalso;omega))|refine stq ?_)
    all_goals(conv=>whnf)
    exact aI.int (pE0 g1 g2 (ki om h4)).symm
end
section
open Go Go.Am Classical
set_option maxRecDepth 100000
theorem xHD.rbX {p:Prop}(h:p:=by first|exact Rb.map (Res.eqs (lj om) (vT _))|fail):p:=h
open xHD
variable [GT]
def At (a b:Mpg):Prop:=a.frm=b.frm∧a.tag=b.tag
abbrev tv (l:List Mpg):List (D×D):=l.map λm=>(Ci m,boo true)
theorem ml {h:aB}{m:Mpg}:∀ {l:List Mpg}{i:Nat},∃ r,bn h (Ci m) (tv l) i=some r∧((∃ x,x∈l∧At m x)∧(∃ j,r=some (j,boo true))∨(¬∃ x,x∈l∧At m x)∧r=none)
 | [],i=>⟨none,rfl,.inr ⟨by simp,rfl⟩⟩
 | x::l,i=>by
  simp only[tv,List.map_cons,bn,bB,fU,jG,cv,if_true];by_cases h1:m.frm=x.frm
  ·by_cases h2:m.tag=x.tag
   ·rw[show(m.frm == x.frm&&m.tag == x.tag)=true from by simp[h1,h2]];exact⟨_,rfl,.inl ⟨⟨x,by simp,h1,h2⟩,i,rfl⟩⟩
   ·rw[show(m.frm == x.frm&&m.tag == x.tag)=false from by simp[h2]];obtain⟨r,h3,h4⟩:=ml (h:=h) (m:=m) (l:=l) (i:=i+1);refine⟨r,h3,h4.imp (λ⟨⟨y,hy,hk⟩,hr⟩=>⟨⟨y,by simp[hy],hk⟩,hr⟩) (λ⟨hn,hr⟩=>⟨?_,hr⟩)⟩;rintro⟨y,hy,hk⟩;rcases List.mem_cons.1 hy with rfl|hy
    ·exact h2 hk.2
    ·exact hn ⟨y,hy,hk⟩
  ·rw[show(m.frm == x.frm&&m.tag == x.tag)=false from by simp[h1]];obtain⟨r,h3,h4⟩:=ml (h:=h) (m:=m) (l:=l) (i:=i+1);refine⟨r,h3,h4.imp (λ⟨⟨y,hy,hk⟩,hr⟩=>⟨⟨y,by simp[hy],hk⟩,hr⟩) (λ⟨hn,hr⟩=>⟨?_,hr⟩)⟩;rintro⟨y,hy,hk⟩;rcases List.mem_cons.1 hy with rfl|hy
   ·exact h1 hk.1
   ·exact hn ⟨y,hy,hk⟩
theorem eV.key {h:aB}{m:Mpg}{l:List Mpg}{K:Option (Nat×D)->Prop}(yes:∀ i,(∃ x,x∈l∧At m x)->K (some (i,boo true))) (no:(¬∃ x,x∈l∧At m x)->K none):eV h (Ci m) (tv l) K:=by
 obtain⟨r,h1,h2⟩:=ml (h:=h) (m:=m) (l:=l) (i:=0);refine⟨r,h1,?_⟩;rcases h2 with⟨h3,j,rfl⟩|⟨h3,rfl⟩
 ·exact yes j h3
 ·exact no h3
theorem vT (l:List Mpg):∀ p∈tv l,aL p.1=true∧aL p.2=true:=by
 intro p hp;obtain⟨m,_,rfl⟩:=List.mem_map.1 hp;exact⟨rfl,rfl⟩
theorem dec_go {p:Prop}{inst:Decidable p}{F:¬p->Prop}{G:p->Prop}(hp:p) (go:G hp):Decidable.rec (motive:=λ_=>Prop) F G inst:=by
 cases inst with
 | isFalse h=>exact absurd hp h
 | isTrue h=>exact go
def Seen (l:List Mpg) (i:Nat) (h:i<l.length):Prop:=∃ x,x∈l.take i∧At l[i] x
theorem td {l:List Mpg}(ho:MsOk l):∃ e:Int,Pu Tryz.prog 170 [dY l] (i64 e)∧(e=0↔MOk l):=by
 have hlen:=ho.len;by_cases h0:fO l=0
 ·have hp:Pu Tryz.prog 278 [dY l] (i64 0):=h0▸wZ ho;by_cases ha:Asc l
  ·refine⟨0,?_,λ_=>⟨h0,ha⟩,λ_=>rfl⟩;refine pv Tryz.func170 ?_;repeat' ((conv=>whnf);first|exact kQ|(refine bk ?_ ?_<;>intro _<;>try(exfalso;omega))|refine stq ?_|refine cp hp ?_|fail)
   refine aH.by aA T0 (λk:Nat=>⟨tmp 47 [(0,dY l),(4,boo true),(5,i64 ((k+1:Nat):Int))],⟨0,[]⟩⟩)
    (λk=>k<=l.length) (λk=>l.length-k) 0 om ?_ ?_
   ·exact lq0
   intro k h3;by_cases hk:k+1<l.length
   ·have hb:=xL.2 (ha (k+1) hk om);simp only[Nat.add_sub_cancel] at hb;repeat' ((conv=>whnf);first|refine Idx.atS (sz:=3) (c:=mY) (by intro _;rfl) k om om ?_|refine Idx.atS (sz:=3) (c:=mY) (by intro _;rfl) (k+1) om om ?_|exact kQ|(refine bk ?_ ?_<;>intro _<;>try(exfalso;omega))|refine stq ?_|refine cp qy ?_|fail)
    all_goals(conv=>whnf)
    refine⟨k+1,by omega,by omega,?_⟩;exact lq0
   ·repeat' ((conv=>whnf);first|exact kQ|(refine bk ?_ ?_<;>intro _<;>try(exfalso;omega))|refine stq ?_)
    all_goals(conv=>whnf)
    exact aI.same rfl rfl
  ·refine⟨if ∃ i,∃ h:i<l.length,Seen l i h then 5 else 4,?_,λh=>by split at h<;>omega,λh=>absurd h.2 ha⟩;refine pv Tryz.func170 ?_;repeat' ((conv=>whnf);first|exact kQ|(refine bk ?_ ?_<;>intro _<;>try(exfalso;omega))|refine stq ?_|refine cp hp ?_|fail)
   refine aH.by2 aA T0 (λ(k:Nat) (b:Bool)=>⟨tmp 47 [(0,dY l),(4,boo b),(5,i64 ((k+1:Nat):Int))],⟨0,[]⟩⟩)
    (λk b=>k<=l.length∧(b=true->∀ i (h:i<l.length),i<=k->∀ h0:i≠0,bef (l[i-1]'(by omega)) l[i])) (λk _=>l.length-k) 0 true ⟨by omega,λ_ i h hi h0=>by omega⟩ ?_ ?_
   ·exact lq0
   intro k b ⟨h3,h4⟩;by_cases hk:k+1<l.length
   ·repeat' ((conv=>whnf);first|refine Idx.atS (sz:=3) (c:=mY) (by intro _;rfl) k om om ?_|refine Idx.atS (sz:=3) (c:=mY) (by intro _;rfl) (k+1) om om ?_|exact kQ|(refine bk ?_ ?_<;>intro _<;>try(exfalso;omega))|refine stq ?_|refine cp qy ?_|fail)
    all_goals(conv=>whnf)
    ·refine⟨k+1,false,⟨by omega,λh=>by cases h⟩,by omega,?_⟩;exact lq0
    ·rename_i hc;refine⟨k+1,b,⟨by omega,λhb i h hi h0=>?_⟩,by omega,?_⟩
     ·by_cases he:i=k+1
      ·subst he;have:=xL.1 (Int.not_le.1 hc)
       simpa using this
      ·exact h4 hb i h om h0
     exact lq0
   ·have hbf:b=false:=by
     cases b with
     | false=>rfl
     | true=>exact absurd (λi h h0=>h4 rfl i h om h0) ha
    subst hbf;repeat' ((conv=>whnf);first|exact kQ|(refine bk ?_ ?_<;>intro _<;>try(exfalso;omega))|refine stq ?_|fail)
    refine aH.by aA T0 (λk:Nat=>⟨tmp 47 [(6,.map 0),(33,dY l),(34,i64 l.length),(35,i64 (k:Int))],⟨1,[(0,.map (tv (l.take k)))]⟩⟩)
     (λk=>k<=l.length∧∀ i (h:i<l.length),i<k->¬Seen l i h) (λk=>l.length-k) 0 ⟨by omega,λ_ _ h=>by omega⟩ ?_ ?_
    ·exact lq [(0,_)] []
    intro k ⟨h5,h6⟩;repeat' ((conv=>whnf);first|exact kQ|(refine bk ?_ ?_<;>intro _<;>try(exfalso;omega))|refine stq ?_|refine cp Ch ?_|refine dec_go (by kernel_rfl) ?_|(refine eV.key (λ_ _=>?_) (λ_=>?_)<;>(try contradiction)))
    all_goals(conv=>whnf)
    all_goals first
     | (rename_i hs;exact aI.int (by rw[if_pos ⟨k,by omega,hs⟩]))
     | exact aI.int (by rw[if_neg (λ⟨i,h,hs⟩=>h6 i h om hs)])
     | skip
    refine⟨k+1,⟨by omega,bv om h6 asm⟩,by omega,?_⟩;exact lq [(0,_)] []
 ·have hp:=wZ ho;refine⟨fO l,?_,λh=>absurd h h0,λh=>h.1⟩;refine pv Tryz.func170 ?_;repeat' ((conv=>whnf);first|exact kQ|(refine bk ?_ ?_<;>intro _<;>try(exfalso;omega))|refine stq ?_|refine cp hp ?_|fail)
  all_goals(conv=>whnf)
  exact aI.same rfl rfl
end
section
open Go Go.Am Classical
set_option maxRecDepth 100000
theorem xHF.rbX {p:Prop}(h:p:=by first|exact Rb.cells (Rds.same hnb) rfl|fail):p:=h
open xHF
variable [GT]
end
end Go.Proofs.YticpeeooobajgaaGreatDoor
