/-
  Contracts of functions over data: sets of code points made by the program.
-/
import Derived.Test.YtjpgpihbhicinaaGreatDoorG0
import Derived.Test.YtjpgpihbhicinaaGreatDoorC0
import Derived.Test.YtjpgpihbhicinaaGreatDoorAmF
set_option linter.unusedSectionVars false
namespace Go.Proofs.YtjpgpihbhicinaaGreatDoor
section
open Go Go.Am Classical
set_option maxRecDepth 100000
variable [GT]
theorem bL (r:Rng):(cU r).length=2:=rfl
theorem bF (r:Rng):aB (cU r)=true:=rfl
abbrev rI (l:List Rng):D:=.agg [bc l]
theorem Or_c {l:List Int}(hl:l.length<=1000):Pu Tryz.prog 295 [aQ l] (i64 (gY l)):=by
 refine Pu.of_v aA T0 Tryz.func295 rfl rfl (by simp[aB,aF]) ?_;repeat' ((conv=>whnf)<;>(first|refine sg ?_|exact kQ|(refine Br.mk ?_ ?_<;>intro _<;>try(exfalso;omega))|refine stq ?_))
 refine aU.by aA T0 (fun k:Nat=>⟨tmp 18 [(3,i64 0),(6,aQ l),(7,i64 l.length),(8,i64 (k:Int))],⟨0,[]⟩⟩)
  (fun k=>k<=l.length∧∀ i (h:i<l.length),i<k->l[i]=0) (fun k=>l.length-k) 0 ⟨by omega,fun _ _ h=>by omega⟩ ?_ ?_
 ·exact Lf.of2 [] [] enA bxA rfl rfl
 intro k ⟨h3,h4⟩;repeat' ((conv=>whnf)<;>(first|refine sg ?_|exact kQ|(refine Br.mk ?_ ?_<;>intro _<;>try(exfalso;omega))|refine stq ?_))
 all_goals(conv=>whnf)
 all_goals first
  | exact aI.int (t5 (by omega) h4 (by assumption)).symm
  | exact aI.int (lI.2 (cD (by omega) h4)).symm
  | (refine⟨k+1,⟨by omega,ay (by omega) h4 (by omega)⟩,by omega,?_⟩
     exact Lf.of2 [] [] enA bxA rfl rfl)
theorem EQ {a b:Rng}:zz a b=gY [gp a.lo b.lo,gp a.hi b.hi]:=by
 unfold zz gp gY gY gY;repeat' split
 all_goals omega
theorem Bp {a b:Rng}:Pu Tryz.prog 304 [.agg (cU a),.agg (cU b)] (i64 (zz a b)):=by
 refine Pu.of_v aA T0 Tryz.func304 rfl rfl rfl ?_;repeat' ((conv=>whnf)<;>(first|refine sg ?_|exact kQ|(refine Br.mk ?_ ?_<;>intro _<;>try(exfalso;omega))|refine stq ?_|refine bJ.byM (id:=1) aA T0 [0,1,0,4,15,0,32,0,128,511,1023,2047,4095] (by kernel_rfl) ?_|refine CM.pu fj ?_|refine Chk.mk ⟨_,rfl⟩ ?_|refine Chk.mk (by intro h;simp at h;simp[h]) ?_|(refine CM.w ?_;refine Cll.emb (Or_c (l:=[gp a.lo b.lo,gp a.hi b.hi]) (by simp) ⟨0,[]⟩) [] [13] (i64 (gY [gp a.lo b.lo,gp a.hi b.hi])) [] [(0,.cells (cU a) true),(1,.cells (cU b) true)] rfl (by(repeat(first|exact Rds.nil|refine Rds.cons (by first|exact Rd.frz rfl rfl (kD rfl) (Rds.eqs rfl rfl)|exact rdA|fail) ?_|fail));(first|done|fail)) (by(repeat(first|exact Bxs.nil|refine Bxs.cons rfl rfl rfl (by first|exact rbB|exact Rb.cells (by(repeat(first|exact Rds.nil|refine Rds.cons (by first|exact Rd.frz rfl rfl (kD rfl) (Rds.eqs rfl rfl)|exact rdA|fail) ?_|fail));(first|done|fail)) rfl|exact rbC|fail) ?_|fail));(first|done|fail)) (by first|exact Rd.frz rfl rfl (kD rfl) (Rds.eqs rfl rfl)|exact rdA|fail) (by(repeat(first|exact Bxs.nil|refine Bxs.cons rfl rfl rfl (by first|exact rbB|exact Rb.cells (by(repeat(first|exact Rds.nil|refine Rds.cons (by first|exact Rd.frz rfl rfl (kD rfl) (Rds.eqs rfl rfl)|exact rdA|fail) ?_|fail));(first|done|fail)) rfl|exact rbC|fail) ?_|fail));(first|done|fail)) (by(repeat(first|exact aj.nil|refine aj.cons rfl rfl rfl ?_|fail));(first|done|fail)) ?_)|fail))
 all_goals(conv=>whnf)
 exact aI.int EQ.symm
abbrev C8:D:=.fn (.func 304) [] []
theorem Ei {l:List Rng}(hl:l.length<=12) (hn:l≠[]):AC1 Tryz.prog 306 [.sl 0 0 l.length l.length 2 false,i64 0,i64 l.length,C8] ⟨1,[(0,.cells (l.flatMap cU) false)]⟩ (.tup []) ⟨4,[(0,.cells ((gk ltR zR l).flatMap cU) false)]⟩:=by
 have h0:0<l.length:=List.length_pos_iff.2 hn;refine AC1.of_vl aA T0 Tryz.func306 rfl rfl ?_;repeat' ((conv=>whnf)<;>(first|refine sg ?_|exact kQ|(refine Br.mk ?_ ?_<;>intro _<;>try(exfalso;omega))|refine stq ?_))
 refine aU.by aA T0 (fun i:Nat=>⟨tmp 53 [(0,.sl 0 0 l.length l.length 2 false),(1,i64 0),(2,i64 l.length),(3,C8),(8,i64 ((i+1:Nat):Int))],⟨1,[(0,.cells ((nn ltR zR l i).flatMap cU) false)]⟩⟩)
  (fun i=>i<l.length) (fun i=>l.length-i) 0 h0 ?_ ?_
 ·exact Lf.of2 [] [] (by repeat(first|exact aM.nil|refine aM.cons rfl (by first|exact Rd.same rfl|exact rdA|fail) ?_)) (by repeat(first|exact Bxs.nil|refine Bxs.cons rfl rfl rfl (by first|exact rbB|exact rbC|fail) ?_)) rfl rfl
 intro i h1;by_cases h2:i+1<l.length
 ·repeat' ((conv=>whnf)<;>(first|refine sg ?_|exact kQ|(refine Br.mk ?_ ?_<;>intro _<;>try(exfalso;omega))|refine stq ?_|fail))
  refine aU.by2 aA T0 (fun(j:Nat) (cur:List Rng)=>⟨tmp 53 [(0,.sl 0 0 l.length l.length 2 false),(1,i64 0),(2,i64 l.length),(3,C8),(8,i64 ((i+1:Nat):Int)),(9,i64 (j:Int))],⟨1,[(0,.cells (cur.flatMap cU) false)]⟩⟩)
   (fun j cur=>j<l.length∧cur.length=l.length∧tq ltR zR cur j=nn ltR zR l (i+1)) (fun j _=>j) (i+1) (nn ltR zR l i) ⟨h2,by simp,rfl⟩ ?_ ?_
  ·exact Lf.of2 [] [] enA bxA rfl rfl
  intro j cur ⟨h3,h4,h5⟩;cases j with
  | zero=>
   repeat' ((conv=>whnf)<;>(first|refine sg ?_|exact kQ|(refine Br.mk ?_ ?_<;>intro _<;>try(exfalso;omega))|refine stq ?_|refine bJ.by (id:=4) aA T0 [0,0,3,7,15,15,15,111,239,15,15,1039,3599,7695,16383,32767,65535] (by kernel_rfl) ?_|fail))
   all_goals(conv=>whnf)
   refine⟨i+1,h2,by omega,?_⟩;exact Lf.of2 [] [] enA (by repeat(first|exact Bxs.nil|refine Bxs.cons rfl rfl rfl (by first|exact Rb.cells (Rds.eqs (by rw[<-h5];rfl) (aD bF _)) rfl|exact rbB|exact Rb.cells bK rfl|exact rbC|fail) ?_)) rfl rfl
  | succ j=>
   have e1:cur.getD j zR=cur[j]:=aX (by omega);have e2:cur.getD (j+1) zR=cur[j+1]:=aX (by omega);repeat' ((conv=>whnf)<;>(first|refine sg ?_|exact kQ|(refine Br.mk ?_ ?_<;>intro _<;>try(exfalso;omega))|refine stq ?_|refine Cll.pu (Bp) ?_|refine aO.pu (Bp) ?_|refine bJ.by (id:=4) aA T0 [0,0,3,7,15,15,15,111,239,15,15,1039,3599,7695,16383,32767,65535] (by kernel_rfl) ?_|refine bJ.by (id:=6) aA T0 [0,0,0,0,8,0,0,64,224,480,0,0,3072,7168,16355,32739,65535,131071] (by kernel_rfl) ?_|refine ca.at (j+1) (by omega) (by omega) ?_|refine ca.at j (by omega) (by omega) ?_|refine Get.flat bL (j+1) (by omega) (by omega) ?_|refine Get.flat bL j (by omega) (by omega) ?_|refine Put.flat bL (l:=cur) (j+1) (cur[j]'(by omega)) (by omega) (by omega) ?_|refine Put.flat bL (l:=cur.set (j+1) (cur[j]'(by omega))) j (cur[j+1]'(by omega)) (by omega) (by simp;omega) ?_|fail))
   all_goals(conv=>whnf)
   ·have hlt:ltR cur[j+1] cur[j]=true:=decide_eq_true (by assumption);have e3:tF zR cur j=(cur.set (j+1) (cur[j]'(by omega))).set j (cur[j+1]'(by omega)):=by rw[tF,e1,e2]
    refine⟨j,tF zR cur j,⟨by omega,by simp[h4],?_⟩,by omega,?_⟩
    ·rw[<-h5];simp only[tq,e1,e2,hlt,if_true]
    exact Lf.of2 [] [] enA (by repeat(first|exact Bxs.nil|refine Bxs.cons rfl rfl rfl (by first|exact Rb.cells (Rds.eqs (by rw[e3]) (aD bF _)) rfl|exact rbB|exact Rb.cells bK rfl|exact rbC|fail) ?_)) rfl rfl
   ·have hlt:¬ltR cur[j+1] cur[j]=true:=by rw[ltR,decide_eq_true_eq];assumption
    have e3:cur=nn ltR zR l (i+1):=by rw[<-h5];simp only[tq,e1,e2,hlt];simp
    refine⟨i+1,h2,by omega,?_⟩;exact Lf.of2 [] [] enA (by repeat(first|exact Bxs.nil|refine Bxs.cons rfl rfl rfl (by first|exact Rb.cells (Rds.eqs (by rw[<-e3]) (aD bF _)) rfl|exact rbB|exact Rb.cells bK rfl|exact rbC|fail) ?_)) rfl rfl
 ·repeat' ((conv=>whnf)<;>(first|refine sg ?_|exact kQ|(refine Br.mk ?_ ?_<;>intro _<;>try(exfalso;omega))|refine stq ?_|fail))
  all_goals(conv=>whnf)
  have e:gk ltR zR l=nn ltR zR l i:=by rw[gk,show l.length-1=i from by omega]
  exact⟨Or.inl rfl,rfl,by rw[e]⟩
theorem FH {l:List Rng}(hl:l.length<=12) (hn:l≠[]):AC1 Tryz.prog 303 [.sl 0 0 l.length l.length 2 false,C8] ⟨1,[(0,.cells (l.flatMap cU) false)]⟩ (.tup []) ⟨27,[(0,.cells ((gk ltR zR l).flatMap cU) false)]⟩:=by
 have hlen:Pu Tryz.prog 187 [.v (.int .u64 (IntKind.u64.wrap (l.length:Int)))] (i64 (([0,1,2,2,3,3,3,3,4,4,4,4,4]:List Int).getD l.length 0)):=by
  rw[show IntKind.u64.wrap (l.length:Int)=(l.length:Int) from by simp[IntKind.wrap,IntKind.bits,IntKind.signed];omega];exact zY hl
 refine AC1.of_vl aA T0 Tryz.func303 rfl rfl ?_;repeat' ((conv=>whnf)<;>(first|refine sg ?_|exact kQ|(refine Br.mk ?_ ?_<;>intro _<;>try(exfalso;omega))|refine stq ?_|refine Cll.pu hlen ?_|(apply Cll.inl aA T0 Tryz.func305 rfl rfl ?_;rotate_left)|exact⟨Or.inr rfl,rfl,rfl⟩|refine aU.times aA T0 1 ?_|refine Cll.emb (Ei hl hn) [(0,0)] [] (.tup []) [(0,.cells ((gk ltR zR l).flatMap cU) false)] [] rfl bK bxA rdA bxA (by(repeat(first|exact aj.nil|refine aj.cons rfl rfl rfl ?_|fail));(first|done|fail)) ?_|fail))
 all_goals(conv=>whnf)
 exact⟨Or.inl rfl,rfl,rfl⟩
theorem An:Pu Tryz.prog 303 [aT,C8] (.tup []):=by
 have hlen:Pu Tryz.prog 187 [.v (.int .u64 (IntKind.u64.wrap (0:Int)))] (i64 0):=zY (n:=0) (by omega);refine Pu.of_v aA T0 Tryz.func303 rfl rfl rfl ?_;repeat' ((conv=>whnf)<;>(first|refine sg ?_|exact kQ|(refine Br.mk ?_ ?_<;>intro _<;>try(exfalso;omega))|refine stq ?_|refine Cll.pu hlen ?_|(apply Cll.inl aA T0 Tryz.func305 rfl rfl ?_;rotate_left)|(apply Cll.inl aA T0 Tryz.func306 rfl rfl ?_;rotate_left)|exact⟨Or.inr rfl,rfl,rfl⟩|exact⟨Or.inl rfl,rfl,rfl⟩|refine aU.times aA T0 1 ?_|fail))
 all_goals(conv=>whnf)
 exact aI.same rfl rfl
theorem sb {r:Rng}{a b:Int}(h1:a=max r.lo 0) (h2:b=min r.hi 1114111):jX r=⟨a,b⟩:=by rw[jX,h1,h2]
theorem dV {l:List Rng}{k:Nat}(h:k<l.length){a b:Int}(h1:a=max l[k].lo 0) (h2:b=min l[k].hi 1114111) (hab:a<=b):dI (l.take (k+1))=dI (l.take k)++[⟨a,b⟩]:=by
 rw[dI,ba h,List.map_append,List.filter_append,List.map_singleton,sb h1 h2,List.filter_cons_of_pos (by simpa using hab)];rfl
theorem eN {l:List Rng}{k:Nat}(h:k<l.length){a b:Int}(h1:a=max l[k].lo 0) (h2:b=min l[k].hi 1114111) (hab:¬a<=b):dI (l.take (k+1))=dI (l.take k):=by
 rw[dI,ba h,List.map_append,List.filter_append,List.map_singleton,sb h1 h2,List.filter_cons_of_neg (by simpa using hab),List.filter_nil,List.append_nil];rfl
theorem xH (l:List Rng):(dI l).length<=l.length:=Nat.le_trans (List.length_filter_le _ _) (by simp)
theorem zw {l:List Rng}{r:Rng}(h:r∈dI l):0<=r.hi∧r.hi<=1114111:=by
 simp only[dI,List.mem_filter,List.mem_map,decide_eq_true_eq] at h;obtain⟨⟨q,_,rfl⟩,h2⟩:=h;simp only[jX] at h2 ⊢;omega
theorem iS (y:Rng) (ys:List Rng) (m:Nat) (v:Rng):∃ y' ys',(y::ys).set m v=y' :: ys':=by cases m<;>exact⟨_,_,rfl⟩
theorem tj {o:List Rng}(h:0<o.length):o.getLast?=some (o[o.length-1]'(by omega)):=by rw[List.getLast?_eq_getElem?,List.getElem?_eq_getElem (by omega)]
theorem ur {o:List Rng}(h:0<o.length) (v:Rng):o.dropLast++[v]=o.set (o.length-1) v:=by
 obtain⟨q,y,rfl⟩:∃ q y,o=q++[y]:=⟨o.dropLast,o.getLast (by rintro rfl;simp at h),(List.dropLast_concat_getLast _).symm⟩;simp
theorem my {o l:List Rng}{r:Rng}{hi:Int}(h:0<o.length) (hc:r.lo<=(o[o.length-1]'(by omega)).hi+1) (hh:hi=max (o[o.length-1]'(by omega)).hi r.hi):mrg o (r::l)=mrg (o.set (o.length-1) ⟨(o[o.length-1]'(by omega)).lo,hi⟩) l:=by
 rw[mrg,tj h];simp only;rw[if_pos hc,ur h,<-hh]
theorem yo {o l:List Rng}{r:Rng}(h:0<o.length) (hc:¬r.lo<=(o[o.length-1]'(by omega)).hi+1):mrg o (r::l)=mrg (o++[r]) l:=by
 rw[mrg,tj h];simp only;rw[if_neg hc]
set_option maxHeartbeats 8000000 in
theorem Dc {l:List Rng}(hl:l.length<=12):Pu Tryz.prog 302 [bc l] (rI (mkR l)):=by
 refine Pu.of_v aA T0 Tryz.func302 rfl rfl (by simp[aB,aK]) ?_;repeat' ((conv=>whnf)<;>(first|refine sg ?_|exact kQ|(refine Br.mk ?_ ?_<;>intro _<;>try(exfalso;omega))|refine stq ?_))
 refine aU.by2 aA T0 (fun(k:Nat) (o:List Rng)=>⟨tmp 79 [(2,.ptr 0 0),(3,ai 1 2 o),(11,bc l),(12,i64 l.length),(13,i64 (k:Int))],⟨2,(0,.cells [aT] true)::cW 1 cU o⟩⟩)
  (fun k o=>k<=l.length∧o=dI (l.take k)) (fun k _=>l.length-k) 0 [] ⟨by omega,rfl⟩ ?_ ?_
 ·exact Lf.of2 [(0,_)] [] enA bxA rfl rfl
 intro k o ⟨h3,h4⟩;have h5:o.length<=k:=by rw[h4];exact Nat.le_trans (xH _) (by simp;omega)
 by_cases hk:k<l.length
 ·by_cases ha:l[k].lo<0
  ·by_cases hb:1114111<l[k].hi
   ·
    cases o with
    | nil=>
     repeat' ((conv=>whnf)<;>(first|refine sg ?_|exact kQ|(refine Br.mk ?_ ?_<;>intro _<;>try(exfalso;omega))|refine stq ?_))
     all_goals(conv=>whnf)
     all_goals first
      | (refine⟨k+1,[],⟨by omega,by rw[eN hk (a:=0) (b:=1114111) (by omega) (by omega) (by omega)];exact h4⟩,by omega,?_⟩
         exact Lf.of2 [(0,_)] [] enA bxA rfl rfl)
      | (refine⟨k+1,[⟨0,1114111⟩],⟨by omega,by rw[dV hk (a:=0) (b:=1114111) (by omega) (by omega) (by omega),<-h4];rfl⟩,by omega,?_⟩
         exact Lf.of2 [(0,_),(1,_)] [] enA bxA rfl rfl)
    | cons x xs=>
     have hlen:(x::xs).length<=12:=by omega
     repeat' ((conv=>whnf)<;>(first|refine sg ?_|exact kQ|(refine Br.mk ?_ ?_<;>intro _<;>try(exfalso;omega))|refine stq ?_))
     all_goals(conv=>whnf)
     all_goals first
      | (refine⟨k+1,x::xs,⟨by omega,by rw[eN hk (a:=0) (b:=1114111) (by omega) (by omega) (by omega)];exact h4⟩,by omega,?_⟩
         exact Lf.of2 [(0,_),(1,_)] [] enA bxA rfl rfl)
      | (refine⟨k+1,(x::xs)++[⟨0,1114111⟩],⟨by omega,by rw[dV hk (a:=0) (b:=1114111) (by omega) (by omega) (by omega),<-h4]⟩,by omega,?_⟩
         exact Lf.of2 [(0,_),(1,_)] [] (by(repeat(first|exact aM.nil|refine aM.cons rfl (by first|exact Rd.sl' rfl (by simp) (by simp)|exact rdA|fail) ?_|fail));(first|done|fail)) (by(repeat(first|exact Bxs.nil|refine Bxs.cons rfl rfl rfl (by first|exact Rb.cells (Rds.eqs (ak (c:=cU) (sz:=2) bL (x::xs) (⟨0,1114111⟩:Rng)) (aD bF _)) rfl|exact rbB|exact rbC|fail) ?_|fail));(first|done|fail)) rfl rfl)
   ·
    cases o with
    | nil=>
     repeat' ((conv=>whnf)<;>(first|refine sg ?_|exact kQ|(refine Br.mk ?_ ?_<;>intro _<;>try(exfalso;omega))|refine stq ?_))
     all_goals(conv=>whnf)
     all_goals first
      | (refine⟨k+1,[],⟨by omega,by rw[eN hk (a:=0) (b:=l[k].hi) (by omega) (by omega) (by omega)];exact h4⟩,by omega,?_⟩
         exact Lf.of2 [(0,_)] [] enA bxA rfl rfl)
      | (refine⟨k+1,[⟨0,l[k].hi⟩],⟨by omega,by rw[dV hk (a:=0) (b:=l[k].hi) (by omega) (by omega) (by omega),<-h4];rfl⟩,by omega,?_⟩
         exact Lf.of2 [(0,_),(1,_)] [] enA bxA rfl rfl)
    | cons x xs=>
     have hlen:(x::xs).length<=12:=by omega
     repeat' ((conv=>whnf)<;>(first|refine sg ?_|exact kQ|(refine Br.mk ?_ ?_<;>intro _<;>try(exfalso;omega))|refine stq ?_))
     all_goals(conv=>whnf)
     all_goals first
      | (refine⟨k+1,x::xs,⟨by omega,by rw[eN hk (a:=0) (b:=l[k].hi) (by omega) (by omega) (by omega)];exact h4⟩,by omega,?_⟩
         exact Lf.of2 [(0,_),(1,_)] [] enA bxA rfl rfl)
      | (refine⟨k+1,(x::xs)++[⟨0,l[k].hi⟩],⟨by omega,by rw[dV hk (a:=0) (b:=l[k].hi) (by omega) (by omega) (by omega),<-h4]⟩,by omega,?_⟩
         exact Lf.of2 [(0,_),(1,_)] [] (by(repeat(first|exact aM.nil|refine aM.cons rfl (by first|exact Rd.sl' rfl (by simp) (by simp)|exact rdA|fail) ?_|fail));(first|done|fail)) (by(repeat(first|exact Bxs.nil|refine Bxs.cons rfl rfl rfl (by first|exact Rb.cells (Rds.eqs (ak (c:=cU) (sz:=2) bL (x::xs) (⟨0,l[k].hi⟩:Rng)) (aD bF _)) rfl|exact rbB|exact rbC|fail) ?_|fail));(first|done|fail)) rfl rfl)
  ·by_cases hb:1114111<l[k].hi
   ·
    cases o with
    | nil=>
     repeat' ((conv=>whnf)<;>(first|refine sg ?_|exact kQ|(refine Br.mk ?_ ?_<;>intro _<;>try(exfalso;omega))|refine stq ?_))
     all_goals(conv=>whnf)
     all_goals first
      | (refine⟨k+1,[],⟨by omega,by rw[eN hk (a:=l[k].lo) (b:=1114111) (by omega) (by omega) (by omega)];exact h4⟩,by omega,?_⟩
         exact Lf.of2 [(0,_)] [] enA bxA rfl rfl)
      | (refine⟨k+1,[⟨l[k].lo,1114111⟩],⟨by omega,by rw[dV hk (a:=l[k].lo) (b:=1114111) (by omega) (by omega) (by omega),<-h4];rfl⟩,by omega,?_⟩
         exact Lf.of2 [(0,_),(1,_)] [] enA bxA rfl rfl)
    | cons x xs=>
     have hlen:(x::xs).length<=12:=by omega
     repeat' ((conv=>whnf)<;>(first|refine sg ?_|exact kQ|(refine Br.mk ?_ ?_<;>intro _<;>try(exfalso;omega))|refine stq ?_))
     all_goals(conv=>whnf)
     all_goals first
      | (refine⟨k+1,x::xs,⟨by omega,by rw[eN hk (a:=l[k].lo) (b:=1114111) (by omega) (by omega) (by omega)];exact h4⟩,by omega,?_⟩
         exact Lf.of2 [(0,_),(1,_)] [] enA bxA rfl rfl)
      | (refine⟨k+1,(x::xs)++[⟨l[k].lo,1114111⟩],⟨by omega,by rw[dV hk (a:=l[k].lo) (b:=1114111) (by omega) (by omega) (by omega),<-h4]⟩,by omega,?_⟩
         exact Lf.of2 [(0,_),(1,_)] [] (by(repeat(first|exact aM.nil|refine aM.cons rfl (by first|exact Rd.sl' rfl (by simp) (by simp)|exact rdA|fail) ?_|fail));(first|done|fail)) (by(repeat(first|exact Bxs.nil|refine Bxs.cons rfl rfl rfl (by first|exact Rb.cells (Rds.eqs (ak (c:=cU) (sz:=2) bL (x::xs) (⟨l[k].lo,1114111⟩:Rng)) (aD bF _)) rfl|exact rbB|exact rbC|fail) ?_|fail));(first|done|fail)) rfl rfl)
   ·
    cases o with
    | nil=>
     repeat' ((conv=>whnf)<;>(first|refine sg ?_|exact kQ|(refine Br.mk ?_ ?_<;>intro _<;>try(exfalso;omega))|refine stq ?_))
     all_goals(conv=>whnf)
     all_goals first
      | (refine⟨k+1,[],⟨by omega,by rw[eN hk (a:=l[k].lo) (b:=l[k].hi) (by omega) (by omega) (by omega)];exact h4⟩,by omega,?_⟩
         exact Lf.of2 [(0,_)] [] enA bxA rfl rfl)
      | (refine⟨k+1,[⟨l[k].lo,l[k].hi⟩],⟨by omega,by rw[dV hk (a:=l[k].lo) (b:=l[k].hi) (by omega) (by omega) (by omega),<-h4];rfl⟩,by omega,?_⟩
         exact Lf.of2 [(0,_),(1,_)] [] enA bxA rfl rfl)
    | cons x xs=>
     have hlen:(x::xs).length<=12:=by omega
     repeat' ((conv=>whnf)<;>(first|refine sg ?_|exact kQ|(refine Br.mk ?_ ?_<;>intro _<;>try(exfalso;omega))|refine stq ?_))
     all_goals(conv=>whnf)
     all_goals first
      | (refine⟨k+1,x::xs,⟨by omega,by rw[eN hk (a:=l[k].lo) (b:=l[k].hi) (by omega) (by omega) (by omega)];exact h4⟩,by omega,?_⟩
         exact Lf.of2 [(0,_),(1,_)] [] enA bxA rfl rfl)
      | (refine⟨k+1,(x::xs)++[⟨l[k].lo,l[k].hi⟩],⟨by omega,by rw[dV hk (a:=l[k].lo) (b:=l[k].hi) (by omega) (by omega) (by omega),<-h4]⟩,by omega,?_⟩
         exact Lf.of2 [(0,_),(1,_)] [] (by(repeat(first|exact aM.nil|refine aM.cons rfl (by first|exact Rd.sl' rfl (by simp) (by simp)|exact rdA|fail) ?_|fail));(first|done|fail)) (by(repeat(first|exact Bxs.nil|refine Bxs.cons rfl rfl rfl (by first|exact Rb.cells (Rds.eqs (ak (c:=cU) (sz:=2) bL (x::xs) (⟨l[k].lo,l[k].hi⟩:Rng)) (aD bF _)) rfl|exact rbB|exact rbC|fail) ?_|fail));(first|done|fail)) rfl rfl)
 ·have ho:o=dI l:=by rw[h4,kE (by omega)]
  cases o with
  | nil=>
   have hs0:gk ltR zR (dI l)=[]:=by rw[<-ho];rfl
   have hend:mkR l=mrg [] (gk ltR zR (dI l)):=rfl;repeat' ((conv=>whnf)<;>(first|refine sg ?_|exact kQ|(refine Br.mk ?_ ?_<;>intro _<;>try(exfalso;omega))|refine stq ?_|refine Cll.pu (An) ?_|fail))
   generalize hs:gk ltR zR (dI l)=s at *
   refine aU.by2 aA T0 (fun(k:Nat) (out:List Rng)=>⟨tmp 79 [(2,.ptr 0 0),(7,ai 1 2 out),(36,bc s),(37,i64 s.length),(38,i64 (k:Int))],⟨2,(0,.cells [aT] true)::cW 1 cU out⟩⟩)
    (fun k out=>((k<=s.length∧out.length<=k)∧∀ r,r∈out->0<=r.hi∧r.hi<=1114111)∧mrg [] s=mrg out (s.drop k)) (fun k _=>s.length-k) 0 [] ⟨⟨⟨by omega,by simp⟩,by simp⟩,rfl⟩ ?_ ?_
   ·subst hs0;exact Lf.of2 [(0,_)] [] (by repeat(first|exact aM.nil|refine aM.cons rfl (by first|exact Rd.nil|exact rdA|fail) ?_)) (by repeat(first|exact Bxs.nil|refine Bxs.cons rfl rfl rfl (by first|exact rbB|exact rbC|fail) ?_)) rfl rfl
   have hsl:s.length<=12:=by rw[hs0];simp
   have hsb:∀ r,r∈s->0<=r.hi∧r.hi<=1114111:=by rw[hs0];simp
   intro k out ⟨⟨⟨h6,h7⟩,h9⟩,h8⟩;by_cases hk2:k<s.length
   ·have hd:s.drop k=s[k]::s.drop (k+1):=kK hk2;cases out with
    | nil=>
     repeat' ((conv=>whnf)<;>(first|refine sg ?_|exact kQ|(refine Br.mk ?_ ?_<;>intro _<;>try(exfalso;omega))|refine stq ?_))
     all_goals(conv=>whnf)
     refine⟨k+1,[s[k]],⟨⟨⟨by omega,by simp⟩,fun r hr=>by simp only[List.mem_singleton] at hr;subst hr;exact hsb _ (kM hk2)⟩,by rw[h8,hd];rfl⟩,by omega,?_⟩;exact Lf.of2 [(0,_),(1,_)] [] enA bxA rfl rfl
    | cons y ys=>
     have hpos:0<(y::ys).length:=by simp
     have hle:(y::ys).length<=12:=by omega
     have hb1:=h9 _ (kM (show(y::ys).length-1<(y::ys).length by omega));have hb2:=hsb _ (kM hk2);repeat' ((conv=>whnf)<;>(first|refine Get.flat1 bL ((y::ys).length-1) 1 (by dsimp only;omega) (by omega) rfl ?_|refine sg ?_|exact kQ|(refine Br.mk ?_ ?_<;>intro _<;>try(exfalso;omega))|refine stq ?_|refine bJ.by (id:=16) aA T0 [0,0,2,0,0,16,56,120,248,0,512,2040,4095,8191,16383] (by kernel_rfl) ?_|refine ca.at ((y::ys).length-1) (by omega) (by omega) ?_|refine Put.flat1 bL ((y::ys).length-1) 1 ⟨((y::ys)[(y::ys).length-1]'(by omega)).lo,s[k].hi⟩ (by dsimp only;omega) (by omega) (by omega) rfl ?_|refine Put.flat1 bL ((y::ys).length-1) 1 ⟨((y::ys)[(y::ys).length-1]'(by omega)).lo,((y::ys)[(y::ys).length-1]'(by omega)).hi⟩ (by dsimp only;omega) (by omega) (by omega) rfl ?_|fail))
     all_goals(conv=>whnf)
     all_goals first
      | (have hj:=my (l:=s.drop (k+1)) hpos (by assumption) (hi:=s[k].hi) (by omega)
         obtain⟨y',ys',he⟩:=iS y ys ((y::ys).length-1) ⟨((y::ys)[(y::ys).length-1]'(by omega)).lo,s[k].hi⟩;have hle':(y' :: ys').length=(y::ys).length:=by rw[<-he];simp
         refine⟨k+1,y' :: ys',⟨⟨⟨by omega,by omega⟩,fun r hr=>by rw[<-he] at hr;rcases List.mem_or_eq_of_mem_set hr with hr|rfl<;>first|exact h9 r hr|exact hb2⟩,by rw[h8,hd,hj,he]⟩,by omega,?_⟩
         exact Lf.of2 [(0,_),(1,_)] [] (by(repeat(first|exact aM.nil|refine aM.cons rfl (by first|exact Rd.sl' rfl hle'.symm hle'.symm|exact rdA|fail) ?_|fail));(first|done|fail)) (by(repeat(first|exact Bxs.nil|refine Bxs.cons rfl rfl rfl (by first|exact Rb.cells (Rds.eqs (by rw[he]) (aD bF _)) rfl|exact rbB|exact rbC|fail) ?_|fail));(first|done|fail)) rfl rfl)
      | (have hj:=my (l:=s.drop (k+1)) hpos (by assumption) (hi:=((y::ys)[(y::ys).length-1]'(by omega)).hi) (by omega)
         obtain⟨y',ys',he⟩:=iS y ys ((y::ys).length-1) ⟨((y::ys)[(y::ys).length-1]'(by omega)).lo,((y::ys)[(y::ys).length-1]'(by omega)).hi⟩;have hle':(y' :: ys').length=(y::ys).length:=by rw[<-he];simp
         refine⟨k+1,y' :: ys',⟨⟨⟨by omega,by omega⟩,fun r hr=>by rw[<-he] at hr;rcases List.mem_or_eq_of_mem_set hr with hr|rfl<;>first|exact h9 r hr|exact hb1⟩,by rw[h8,hd,hj,he]⟩,by omega,?_⟩
         exact Lf.of2 [(0,_),(1,_)] [] (by(repeat(first|exact aM.nil|refine aM.cons rfl (by first|exact Rd.sl' rfl hle'.symm hle'.symm|exact rdA|fail) ?_|fail));(first|done|fail)) (by(repeat(first|exact Bxs.nil|refine Bxs.cons rfl rfl rfl (by first|exact Rb.cells (Rds.eqs (by rw[he]) (aD bF _)) rfl|exact rbB|exact rbC|fail) ?_|fail));(first|done|fail)) rfl rfl)
      | (refine⟨k+1,(y::ys)++[s[k]],⟨⟨⟨by omega,by rw[kG];simp only[List.length_singleton];omega⟩,fun r hr=>by rcases List.mem_append.1 hr with hr|hr<;>first|exact h9 r hr|exact(List.mem_singleton.1 hr)▸hb2⟩,by rw[h8,hd,yo hpos (by assumption)]⟩,by omega,?_⟩
         exact Lf.of2 [(0,_),(1,_)] [] (by(repeat(first|exact aM.nil|refine aM.cons rfl (by first|exact Rd.sl' rfl (by simp) (by simp)|exact rdA|fail) ?_|fail));(first|done|fail)) (by(repeat(first|exact Bxs.nil|refine Bxs.cons rfl rfl rfl (by first|exact Rb.cells (Rds.eqs (ak (c:=cU) (sz:=2) bL (y::ys) s[k]) (aD bF _)) rfl|exact rbB|exact rbC|fail) ?_|fail));(first|done|fail)) rfl rfl)
   ·have he:mrg [] s=out:=by rw[h8,List.drop_of_length_le (by omega)];rfl
    rw[hend,he];cases out with
    | nil=>
     repeat' ((conv=>whnf)<;>(first|refine sg ?_|exact kQ|(refine Br.mk ?_ ?_<;>intro _<;>try(exfalso;omega))|refine stq ?_))
     all_goals(conv=>whnf)
     exact⟨.agg (.cons .nil .nil)⟩
    | cons y ys=>
     repeat' ((conv=>whnf)<;>(first|refine sg ?_|exact kQ|(refine Br.mk ?_ ?_<;>intro _<;>try(exfalso;omega))|refine stq ?_))
     all_goals(conv=>whnf)
     exact⟨.agg (.cons (Rd.frzL bL bF rfl rfl rfl rfl rfl) .nil)⟩
  | cons x xs=>
   have hlen:(x::xs).length<=12:=by omega
   have hend:mkR l=mrg [] (gk ltR zR (x::xs)):=by rw[ho];rfl
   have hsl0:(gk ltR zR (x::xs)).length=(x::xs).length:=srtG_len ..;repeat' ((conv=>whnf)<;>(first|refine sg ?_|exact kQ|(refine Br.mk ?_ ?_<;>intro _<;>try(exfalso;omega))|refine stq ?_|refine Cll.emb (FH (l:=x::xs) hlen (by simp)) [(0,1)] [] (.tup []) [(1,.cells ((gk ltR zR (x::xs)).flatMap cU) false)] [(0,.cells [aT] true)] rfl bK bxA rdA bxA (by(repeat(first|exact aj.nil|refine aj.cons rfl rfl rfl ?_|fail));(first|done|fail)) ?_|fail))
   have hsb0:∀ r,r∈gk ltR zR (x::xs)->0<=r.hi∧r.hi<=1114111:=fun r hr=>zw (by rw[<-ho];exact(ph _).1.mem_iff.1 hr)
   generalize hs:gk ltR zR (x::xs)=s at *
   refine aU.by2 aA T0 (fun(k:Nat) (out:List Rng)=>⟨tmp 79 [(2,.ptr 0 0),(7,ai 1 2 out),(36,bc s),(37,i64 s.length),(38,i64 (k:Int))],⟨2,(0,.cells [aT] true)::cW 1 cU out⟩⟩)
    (fun k out=>((k<=s.length∧out.length<=k)∧∀ r,r∈out->0<=r.hi∧r.hi<=1114111)∧mrg [] s=mrg out (s.drop k)) (fun k _=>s.length-k) 0 [] ⟨⟨⟨by omega,by simp⟩,by simp⟩,rfl⟩ ?_ ?_
   ·exact Lf.of2 [(0,_)] [1] (by repeat(first|exact aM.nil|refine aM.cons rfl (by first|exact Rd.frzL bL bF rfl rfl hsl0.symm rfl rfl|exact rdA|fail) ?_)) (by repeat(first|exact Bxs.nil|refine Bxs.cons rfl rfl rfl (by first|exact rbB|exact rbC|fail) ?_)) rfl rfl
   have hsl:s.length<=12:=by omega
   have hsb:=hsb0;intro k out ⟨⟨⟨h6,h7⟩,h9⟩,h8⟩;by_cases hk2:k<s.length
   ·have hd:s.drop k=s[k]::s.drop (k+1):=kK hk2;cases out with
    | nil=>
     repeat' ((conv=>whnf)<;>(first|refine sg ?_|exact kQ|(refine Br.mk ?_ ?_<;>intro _<;>try(exfalso;omega))|refine stq ?_))
     all_goals(conv=>whnf)
     refine⟨k+1,[s[k]],⟨⟨⟨by omega,by simp⟩,fun r hr=>by simp only[List.mem_singleton] at hr;subst hr;exact hsb _ (kM hk2)⟩,by rw[h8,hd];rfl⟩,by omega,?_⟩;exact Lf.of2 [(0,_),(1,_)] [] enA bxA rfl rfl
    | cons y ys=>
     have hpos:0<(y::ys).length:=by simp
     have hle:(y::ys).length<=12:=by omega
     have hb1:=h9 _ (kM (show(y::ys).length-1<(y::ys).length by omega));have hb2:=hsb _ (kM hk2);repeat' ((conv=>whnf)<;>(first|refine Get.flat1 bL ((y::ys).length-1) 1 (by dsimp only;omega) (by omega) rfl ?_|refine sg ?_|exact kQ|(refine Br.mk ?_ ?_<;>intro _<;>try(exfalso;omega))|refine stq ?_|refine bJ.by (id:=16) aA T0 [0,0,2,0,0,16,56,120,248,0,512,2040,4095,8191,16383] (by kernel_rfl) ?_|refine ca.at ((y::ys).length-1) (by omega) (by omega) ?_|refine Put.flat1 bL ((y::ys).length-1) 1 ⟨((y::ys)[(y::ys).length-1]'(by omega)).lo,s[k].hi⟩ (by dsimp only;omega) (by omega) (by omega) rfl ?_|refine Put.flat1 bL ((y::ys).length-1) 1 ⟨((y::ys)[(y::ys).length-1]'(by omega)).lo,((y::ys)[(y::ys).length-1]'(by omega)).hi⟩ (by dsimp only;omega) (by omega) (by omega) rfl ?_|fail))
     all_goals(conv=>whnf)
     all_goals first
      | (have hj:=my (l:=s.drop (k+1)) hpos (by assumption) (hi:=s[k].hi) (by omega)
         obtain⟨y',ys',he⟩:=iS y ys ((y::ys).length-1) ⟨((y::ys)[(y::ys).length-1]'(by omega)).lo,s[k].hi⟩;have hle':(y' :: ys').length=(y::ys).length:=by rw[<-he];simp
         refine⟨k+1,y' :: ys',⟨⟨⟨by omega,by omega⟩,fun r hr=>by rw[<-he] at hr;rcases List.mem_or_eq_of_mem_set hr with hr|rfl<;>first|exact h9 r hr|exact hb2⟩,by rw[h8,hd,hj,he]⟩,by omega,?_⟩
         exact Lf.of2 [(0,_),(1,_)] [] (by(repeat(first|exact aM.nil|refine aM.cons rfl (by first|exact Rd.sl' rfl hle'.symm hle'.symm|exact rdA|fail) ?_|fail));(first|done|fail)) (by(repeat(first|exact Bxs.nil|refine Bxs.cons rfl rfl rfl (by first|exact Rb.cells (Rds.eqs (by rw[he]) (aD bF _)) rfl|exact rbB|exact rbC|fail) ?_|fail));(first|done|fail)) rfl rfl)
      | (have hj:=my (l:=s.drop (k+1)) hpos (by assumption) (hi:=((y::ys)[(y::ys).length-1]'(by omega)).hi) (by omega)
         obtain⟨y',ys',he⟩:=iS y ys ((y::ys).length-1) ⟨((y::ys)[(y::ys).length-1]'(by omega)).lo,((y::ys)[(y::ys).length-1]'(by omega)).hi⟩;have hle':(y' :: ys').length=(y::ys).length:=by rw[<-he];simp
         refine⟨k+1,y' :: ys',⟨⟨⟨by omega,by omega⟩,fun r hr=>by rw[<-he] at hr;rcases List.mem_or_eq_of_mem_set hr with hr|rfl<;>first|exact h9 r hr|exact hb1⟩,by rw[h8,hd,hj,he]⟩,by omega,?_⟩
         exact Lf.of2 [(0,_),(1,_)] [] (by(repeat(first|exact aM.nil|refine aM.cons rfl (by first|exact Rd.sl' rfl hle'.symm hle'.symm|exact rdA|fail) ?_|fail));(first|done|fail)) (by(repeat(first|exact Bxs.nil|refine Bxs.cons rfl rfl rfl (by first|exact Rb.cells (Rds.eqs (by rw[he]) (aD bF _)) rfl|exact rbB|exact rbC|fail) ?_|fail));(first|done|fail)) rfl rfl)
      | (refine⟨k+1,(y::ys)++[s[k]],⟨⟨⟨by omega,by rw[kG];simp only[List.length_singleton];omega⟩,fun r hr=>by rcases List.mem_append.1 hr with hr|hr<;>first|exact h9 r hr|exact(List.mem_singleton.1 hr)▸hb2⟩,by rw[h8,hd,yo hpos (by assumption)]⟩,by omega,?_⟩
         exact Lf.of2 [(0,_),(1,_)] [] (by(repeat(first|exact aM.nil|refine aM.cons rfl (by first|exact Rd.sl' rfl (by simp) (by simp)|exact rdA|fail) ?_|fail));(first|done|fail)) (by(repeat(first|exact Bxs.nil|refine Bxs.cons rfl rfl rfl (by first|exact Rb.cells (Rds.eqs (ak (c:=cU) (sz:=2) bL (y::ys) s[k]) (aD bF _)) rfl|exact rbB|exact rbC|fail) ?_|fail));(first|done|fail)) rfl rfl)
   ·have he:mrg [] s=out:=by rw[h8,List.drop_of_length_le (by omega)];rfl
    rw[hend,he];cases out with
    | nil=>
     repeat' ((conv=>whnf)<;>(first|refine sg ?_|exact kQ|(refine Br.mk ?_ ?_<;>intro _<;>try(exfalso;omega))|refine stq ?_))
     all_goals(conv=>whnf)
     exact⟨.agg (.cons .nil .nil)⟩
    | cons y ys=>
     repeat' ((conv=>whnf)<;>(first|refine sg ?_|exact kQ|(refine Br.mk ?_ ?_<;>intro _<;>try(exfalso;omega))|refine stq ?_))
     all_goals(conv=>whnf)
     exact⟨.agg (.cons (Rd.frzL bL bF rfl rfl rfl rfl rfl) .nil)⟩
end
section
open Go Go.Am Classical
set_option maxRecDepth 100000
variable [GT]
theorem po {l:List Rng}(hl:l.length<=12):Pu Tryz.prog 301 [rI l] (boo (decide (dF l))):=by
 have hm:=EY (l:=l);refine Pu.of_v aA T0 Tryz.func301 rfl rfl (by simp[aJ,aB,aK]) ?_;by_cases hlen:l.length=(mkR l).length
 ·repeat' ((conv=>whnf)<;>(first|refine sg ?_|exact kQ|(refine Br.mk ?_ ?_<;>intro _<;>try(exfalso;omega))|refine stq ?_|refine Cll.pu (Dc sd) ?_|fail))
  refine aU.by aA T0 (fun k:Nat=>⟨tmp 32 [(1,.ptr 0 0),(17,bc (mkR l)),(18,i64 l.length),(19,i64 (k:Int))],⟨1,[(0,.cells [bc l] true)]⟩⟩)
   (fun k=>k<=l.length∧∀ i (h:i<l.length),i<k->l[i]=(mkR l)[i]'(by omega)) (fun k=>l.length-k) 0 ⟨by omega,fun _ _ h=>by omega⟩ ?_ ?_
  ·exact Lf.of2 [(0,_)] [] enA bxA rfl rfl
  intro k ⟨h3,h4⟩;by_cases hk:k<l.length
  ·have hk':k<(mkR l).length:=by omega
   by_cases he:(mkR l)[k]=l[k]
   ·repeat' ((conv=>whnf)<;>(first|refine sg ?_|exact kQ|(refine Br.mk ?_ ?_<;>intro _<;>try(exfalso;omega))|refine stq ?_|refine bJ.by aA T0 [0,0,2,0,14,30,63] (by kernel_rfl) ?_|refine Idx.atS (sz:=2) (c:=cU) (fun _=>rfl) k (by omega) (by omega) ?_|(split<;>rename_i heq<;>rw[he] at heq<;>first|(obtain rfl:=Option.some.inj (tf.symm.trans heq))|exact absurd (tf.symm.trans heq) (by simp))))
    all_goals(conv=>whnf)
    refine⟨k+1,⟨by omega,ay (by omega) h4 he.symm⟩,by omega,?_⟩;exact Lf.of2 [(0,_)] [] enA bxA rfl rfl
   ·repeat' ((conv=>whnf)<;>(first|refine sg ?_|exact kQ|(refine Br.mk ?_ ?_<;>intro _<;>try(exfalso;omega))|refine stq ?_|refine bJ.by aA T0 [0,0,2,0,14,30,63] (by kernel_rfl) ?_|refine Idx.atS (sz:=2) (c:=cU) (fun _=>rfl) k (by omega) (by omega) ?_|(split<;>rename_i heq<;>first|(obtain rfl:=Option.some.inj ((pC he).symm.trans heq))|exact absurd ((pC he).symm.trans heq) (by simp))))
    all_goals(conv=>whnf)
    exact aI.no (fun hc=>he (List.getElem_of_eq (hm.2 hc).symm (by omega)))
  ·repeat' ((conv=>whnf)<;>(first|refine sg ?_|exact kQ|(refine Br.mk ?_ ?_<;>intro _<;>try(exfalso;omega))|refine stq ?_))
   all_goals(conv=>whnf)
   exact aI.yes (hm.1 (List.ext_getElem hlen fun i h1 h2=>h4 i h1 (by omega)))
 ·repeat' ((conv=>whnf)<;>(first|refine sg ?_|exact kQ|(refine Br.mk ?_ ?_<;>intro _<;>try(exfalso;omega))|refine stq ?_|refine Cll.pu (Dc sd) ?_|fail))
  all_goals(conv=>whnf)
  exact aI.no (fun hc=>hlen (congrArg List.length (hm.2 hc)))
end
section
open Go Go.Am Classical
set_option maxRecDepth 100000
variable [GT]
theorem sB {s:Str}(hs:s.length<=9223372036854775807):Pu Tryz.prog 294 [.str s] (boo (decide (mF s))):=by
 refine Pu.of_v aA T0 Tryz.func294 rfl rfl rfl ?_;repeat' ((conv=>whnf)<;>(first|refine sg ?_|exact kQ|(refine Br.mk ?_ ?_<;>intro _<;>try(exfalso;omega))|refine stq ?_))
 all_goals(conv=>whnf)
 all_goals first
  | exact aI.no (fun hc=>hc.1 (by assumption))
  | exact aI.no (fun hc=>by have:=hc.2.1;omega)
  | skip
 refine aU.by aA T0 (fun k:Nat=>⟨tmp 51 [(0,.str s),(14,i64 s.length),(15,i64 (k:Int))],⟨0,[]⟩⟩) (fun k=>k<=s.length∧∀ i (h:i<s.length),i<k->wb (s[i].toNat:Int)) (fun k=>s.length-k) 0 ⟨by omega,fun _ _ h=>by omega⟩ ?_ ?_
 ·exact Lf.of2 [] [] enA bxA rfl rfl
 intro k ⟨h1,h2⟩;repeat' ((conv=>whnf)<;>(first|refine sg ?_|exact kQ|(refine Br.mk ?_ ?_<;>intro _<;>try(exfalso;omega))|refine stq ?_))
 all_goals(conv=>whnf)
 all_goals first
  | exact aI.no (fun hc=>absurd (hc.2.2 k (by omega)) (by unfold wb;omega))
  | exact aI.yes ⟨by assumption,by omega,cD (by omega) h2⟩
  | (refine⟨k+1,⟨by omega,ay (by omega) h2 (by unfold wb;omega)⟩,by omega,?_⟩
     exact Lf.of2 [] [] enA bxA rfl rfl)
theorem CP {x:Str}:Pu Tryz.prog 297 [.str x] (boo false):=by
 refine Pu.of_v aA T0 Tryz.func297 rfl rfl rfl ?_;repeat' ((conv=>whnf)<;>(first|refine sg ?_|exact kQ|(refine Br.mk ?_ ?_<;>intro _<;>try(exfalso;omega))|refine stq ?_))
 all_goals(conv=>whnf)
 all_goals first
  | exact aI.same rfl rfl
  | (exfalso;rename_i h;exact h rfl)
theorem cmpS_c {x y:Str}:Pu Tryz.prog 296 [.str x,.str y] (i64 (t8 x y)):=by
 refine Pu.of_v aA T0 Tryz.func296 rfl rfl rfl ?_;repeat' ((conv=>whnf)<;>(first|refine sg ?_|exact kQ|(refine Br.mk ?_ ?_<;>intro _<;>try(exfalso;omega))|refine stq ?_|refine Cll.pu (CP) ?_))
 all_goals(conv=>whnf)
 all_goals first
  | exact aI.int (by rename_i h;rw[t8,if_pos h])
  | exact aI.int (by rename_i h1 h2;rw[t8,if_neg h1,if_pos (h2.resolve_left h1)])
  | exact aI.int (by rename_i h1 h2;rw[t8,if_neg h1,if_neg (fun e=>h2 (.inr e))])
theorem E3 {a b:Mpg}:C6 a b=gY [gp a.frm b.frm,t8 a.tag b.tag]:=by
 unfold C6 gY gY gY;repeat' split
 all_goals first|rfl|omega
theorem lM {a b:Mpg}:Pu Tryz.prog 292 [.agg (ig a),.agg (ig b)] (i64 (C6 a b)):=by
 refine Pu.of_v aA T0 Tryz.func292 rfl rfl (by simp[aB,aJ,aF]) ?_;repeat' ((conv=>whnf)<;>(first|refine sg ?_|exact kQ|(refine Br.mk ?_ ?_<;>intro _<;>try(exfalso;omega))|refine stq ?_|refine bJ.byM (id:=1) aA T0 [0,1,0,4,15,0,32,0,128,511,1023,2047,4095] (by kernel_rfl) ?_|refine CM.pu fj ?_|refine CM.pu cmpS_c ?_|refine Chk.mk ⟨_,rfl⟩ ?_|(refine CM.w ?_;refine Cll.emb (Or_c (l:=[gp a.frm b.frm,t8 a.tag b.tag]) (by simp) ⟨0,[]⟩) [] [13] (i64 (gY [gp a.frm b.frm,t8 a.tag b.tag])) [] [(0,.cells (ig a) true),(1,.cells (ig b) true)] rfl (by(repeat(first|exact Rds.nil|refine Rds.cons (by first|exact Rd.frz rfl rfl (kD rfl) (Rds.eqs rfl rfl)|exact rdA|fail) ?_|fail));(first|done|fail)) (by(repeat(first|exact Bxs.nil|refine Bxs.cons rfl rfl rfl (by first|exact rbB|exact Rb.cells (by(repeat(first|exact Rds.nil|refine Rds.cons (by first|exact Rd.frz rfl rfl (kD rfl) (Rds.eqs rfl rfl)|exact rdA|fail) ?_|fail));(first|done|fail)) rfl|exact rbC|fail) ?_|fail));(first|done|fail)) (by first|exact Rd.frz rfl rfl (kD rfl) (Rds.eqs rfl rfl)|exact rdA|fail) (by(repeat(first|exact Bxs.nil|refine Bxs.cons rfl rfl rfl (by first|exact rbB|exact Rb.cells (by(repeat(first|exact Rds.nil|refine Rds.cons (by first|exact Rd.frz rfl rfl (kD rfl) (Rds.eqs rfl rfl)|exact rdA|fail) ?_|fail));(first|done|fail)) rfl|exact rbC|fail) ?_|fail));(first|done|fail)) (by(repeat(first|exact aj.nil|refine aj.cons rfl rfl rfl ?_|fail));(first|done|fail)) ?_)|fail))
 all_goals(conv=>whnf)
 exact aI.int E3.symm
abbrev Eg (m:Mpg):D:=.agg [i64 m.frm,.str m.tag]
theorem yw {m:Mpg}:Pu Tryz.prog 293 [.agg (ig m)] (Eg m):=by
 refine Pu.of_v aA T0 Tryz.func293 rfl rfl (by simp[aB,aJ,aF]) ?_;repeat' ((conv=>whnf)<;>(first|refine sg ?_|exact kQ|(refine Br.mk ?_ ?_<;>intro _<;>try(exfalso;omega))|refine stq ?_))
 all_goals(conv=>whnf)
 exact aI.same rfl rfl
structure DZ (l:List Mpg):Prop where
 len:l.length<=9223372036854775806
 to:∀ i (h:i<l.length),l[i].to.length<=9223372036854775807
 tag:∀ i (h:i<l.length),l[i].tag.length<=9223372036854775807
theorem pE1 {l:List Mpg}{k:Nat}(hk:k<l.length) (h:¬kb l[k]):d5 l=1:=by rw[d5,if_neg (fun hc=>h (hc k hk))]
theorem pE2 {l:List Mpg}(h1:∀ i (h:i<l.length),kb l[i]){k:Nat}(hk:k<l.length) (h:¬l[k].to.length<=64):d5 l=2:=by rw[d5,if_pos h1,if_neg (fun hc=>h (hc k hk))]
theorem pE6 {l:List Mpg}(h1:∀ i (h:i<l.length),kb l[i]) (h2:∀ i (h:i<l.length),l[i].to.length<=64){k:Nat}(hk:k<l.length) (h:¬BA l[k]):d5 l=6:=by rw[d5,if_pos h1,if_pos h2,if_neg (fun hc=>h (hc k hk))]
theorem pE0 {l:List Mpg}(h1:∀ i (h:i<l.length),kb l[i]) (h2:∀ i (h:i<l.length),l[i].to.length<=64) (h3:∀ i (h:i<l.length),BA l[i]):d5 l=0:=by rw[d5,if_pos h1,if_pos h2,if_pos h3]
theorem ya {l:List Mpg}(ho:DZ l):Pu Tryz.prog 291 [ce l] (i64 (d5 l)):=by
 have hlen:=ho.len;refine Pu.of_v aA T0 Tryz.func291 rfl rfl (by simp[aB,aN]) ?_;repeat' ((conv=>whnf)<;>(first|refine sg ?_|exact kQ|(refine Br.mk ?_ ?_<;>intro _<;>try(exfalso;omega))|refine stq ?_))
 refine aU.by aA T0 (fun k:Nat=>⟨tmp 60 [(0,ce l),(11,ce l),(12,i64 l.length),(13,i64 (k:Int))],⟨0,[]⟩⟩)
  (fun k=>k<=l.length∧∀ i (h:i<l.length),i<k->kb l[i]) (fun k=>l.length-k) 0 ⟨by omega,fun _ _ h=>by omega⟩ ?_ ?_
 ·exact Lf.of2 [] [] enA bxA rfl rfl
 intro k ⟨h3,h4⟩;by_cases hk:k<l.length
 ·have hto:=ho.to k hk;by_cases hf:cpQ l[k].frm
  ·repeat' ((conv=>whnf)<;>(first|refine sg ?_|exact kQ|(refine Br.mk ?_ ?_<;>intro _<;>try(exfalso;omega))|refine stq ?_|refine Cll.dec (eR) (fun _=>?_) (fun _=>?_)|refine aO.dec (eR) (fun _=>?_) (fun _=>?_)))
   all_goals(conv=>whnf)
   all_goals first
    | (exfalso;rename_i h;exact h hf)
    | skip
   refine aU.by aA T0 (fun j:Nat=>⟨tmp 60 [(0,ce l),(11,ce l),(12,i64 l.length),(13,i64 (k:Int)),(22,aQ l[k].to),(23,i64 l[k].to.length),(24,i64 (j:Int))],⟨0,[]⟩⟩)
    (fun j=>j<=l[k].to.length∧∀ i (h:i<l[k].to.length),i<j->cpQ l[k].to[i]) (fun j=>l[k].to.length-j) 0 ⟨by omega,fun _ _ h=>by omega⟩ ?_ ?_
   ·exact Lf.of2 [] [] enA bxA rfl rfl
   intro j ⟨h5,h6⟩;repeat' ((conv=>whnf)<;>(first|refine sg ?_|exact kQ|(refine Br.mk ?_ ?_<;>intro _<;>try(exfalso;omega))|refine stq ?_|refine Cll.dec (eR) (fun _=>?_) (fun _=>?_)|refine aO.dec (eR) (fun _=>?_) (fun _=>?_)))
   all_goals(conv=>whnf)
   all_goals first
    | exact aI.int (pE1 hk fun hc=>by rename_i h;exact h (hc.2 j (by omega))).symm
    | (refine⟨j+1,⟨by omega,ay (by omega) h6 (by assumption)⟩,by omega,?_⟩
       exact Lf.of2 [] [] enA bxA rfl rfl)
    | (refine⟨k+1,⟨by omega,ay (by omega) h4 ⟨hf,cD (by omega) h6⟩⟩,by omega,?_⟩
       exact Lf.of2 [] [] enA bxA rfl rfl)
  ·repeat' ((conv=>whnf)<;>(first|refine sg ?_|exact kQ|(refine Br.mk ?_ ?_<;>intro _<;>try(exfalso;omega))|refine stq ?_|refine Cll.dec (eR) (fun _=>?_) (fun _=>?_)|refine aO.dec (eR) (fun _=>?_) (fun _=>?_)))
   all_goals(conv=>whnf)
   all_goals first
    | (exfalso;rename_i h;exact hf h)
    | exact aI.int (pE1 hk fun hc=>hf hc.1).symm
 ·have g1:=cD (by omega:l.length<=k) h4;repeat' ((conv=>whnf)<;>(first|refine sg ?_|exact kQ|(refine Br.mk ?_ ?_<;>intro _<;>try(exfalso;omega))|refine stq ?_|fail))
  refine aU.by aA T0 (fun k:Nat=>⟨tmp 60 [(0,ce l),(33,ce l),(34,i64 l.length),(35,i64 (k:Int))],⟨0,[]⟩⟩)
   (fun k=>k<=l.length∧∀ i (h:i<l.length),i<k->l[i].to.length<=64) (fun k=>l.length-k) 0 ⟨by omega,fun _ _ h=>by omega⟩ ?_ ?_
  ·exact Lf.of2 [] [] enA bxA rfl rfl
  intro k ⟨h3,h4⟩;by_cases hk:k<l.length
  ·have hto:=ho.to k hk;repeat' ((conv=>whnf)<;>(first|refine sg ?_|exact kQ|(refine Br.mk ?_ ?_<;>intro _<;>try(exfalso;omega))|refine stq ?_))
   all_goals(conv=>whnf)
   all_goals first
    | exact aI.int (pE2 g1 hk (by omega)).symm
    | (refine⟨k+1,⟨by omega,ay (by omega) h4 (by omega)⟩,by omega,?_⟩
       exact Lf.of2 [] [] enA bxA rfl rfl)
  ·have g2:=cD (by omega:l.length<=k) h4;repeat' ((conv=>whnf)<;>(first|refine sg ?_|exact kQ|(refine Br.mk ?_ ?_<;>intro _<;>try(exfalso;omega))|refine stq ?_|fail))
   refine aU.by aA T0 (fun k:Nat=>⟨tmp 60 [(44,ce l),(45,i64 l.length),(46,i64 (k:Int))],⟨0,[]⟩⟩)
    (fun k=>k<=l.length∧∀ i (h:i<l.length),i<k->BA l[i]) (fun k=>l.length-k) 0 ⟨by omega,fun _ _ h=>by omega⟩ ?_ ?_
   ·exact Lf.of2 [] [] enA bxA rfl rfl
   intro k ⟨h3,h4⟩;by_cases hk:k<l.length
   ·have htg:=ho.tag k hk;repeat' ((conv=>whnf)<;>(first|refine sg ?_|exact kQ|(refine Br.mk ?_ ?_<;>intro _<;>try(exfalso;omega))|refine stq ?_|refine Cll.dec (sB sd) (fun _=>?_) (fun _=>?_)|refine aO.dec (sB sd) (fun _=>?_) (fun _=>?_)))
    all_goals(conv=>whnf)
    all_goals first
     | exact aI.int (pE6 g1 g2 hk (by rintro(h|h)<;>contradiction)).symm
     | (refine⟨k+1,⟨by omega,ay (by omega) h4 (by first|exact .inl (by assumption)|exact .inr (by assumption))⟩,by omega,?_⟩
        exact Lf.of2 [] [] enA bxA rfl rfl)
   ·repeat' ((conv=>whnf)<;>(first|refine sg ?_|exact kQ|(refine Br.mk ?_ ?_<;>intro _<;>try(exfalso;omega))|refine stq ?_))
    all_goals(conv=>whnf)
    exact aI.int (pE0 g1 g2 (cD (by omega) h4)).symm
end
section
open Go Go.Am Classical
set_option maxRecDepth 100000
variable [GT]
def CN (a b:Mpg):Prop:=a.frm=b.frm∧a.tag=b.tag
abbrev vh (l:List Mpg):List (D×D):=l.map fun m=>(Eg m,boo true)
theorem nq {h:aC}{m:Mpg}:∀ {l:List Mpg}{i:Nat},∃ r,cv h (Eg m) (vh l) i=some r∧((∃ x,x∈l∧CN m x)∧(∃ j,r=some (j,boo true))∨(¬∃ x,x∈l∧CN m x)∧r=none)
 | [],i=>⟨none,rfl,.inr ⟨by simp,rfl⟩⟩
 | x::l,i=>by
  simp only[vh,List.map_cons,cv,cE,gE,d6,if_true];by_cases h1:m.frm=x.frm
  ·by_cases h2:m.tag=x.tag
   ·rw[show(m.frm == x.frm&&m.tag == x.tag)=true from by simp[h1,h2]];exact⟨_,rfl,.inl ⟨⟨x,by simp,h1,h2⟩,i,rfl⟩⟩
   ·rw[show(m.frm == x.frm&&m.tag == x.tag)=false from by simp[h2]];obtain⟨r,h3,h4⟩:=nq (h:=h) (m:=m) (l:=l) (i:=i+1);refine⟨r,h3,h4.imp (fun⟨⟨y,hy,hk⟩,hr⟩=>⟨⟨y,by simp[hy],hk⟩,hr⟩) (fun⟨hn,hr⟩=>⟨?_,hr⟩)⟩;rintro⟨y,hy,hk⟩;rcases List.mem_cons.1 hy with rfl|hy
    ·exact h2 hk.2
    ·exact hn ⟨y,hy,hk⟩
  ·rw[show(m.frm == x.frm&&m.tag == x.tag)=false from by simp[h1]];obtain⟨r,h3,h4⟩:=nq (h:=h) (m:=m) (l:=l) (i:=i+1);refine⟨r,h3,h4.imp (fun⟨⟨y,hy,hk⟩,hr⟩=>⟨⟨y,by simp[hy],hk⟩,hr⟩) (fun⟨hn,hr⟩=>⟨?_,hr⟩)⟩;rintro⟨y,hy,hk⟩;rcases List.mem_cons.1 hy with rfl|hy
   ·exact h1 hk.1
   ·exact hn ⟨y,hy,hk⟩
theorem fb.key {h:aC}{m:Mpg}{l:List Mpg}{K:Option (Nat×D)->Prop}(yes:∀ i,(∃ x,x∈l∧CN m x)->K (some (i,boo true))) (no:(¬∃ x,x∈l∧CN m x)->K none):fb h (Eg m) (vh l) K:=by
 obtain⟨r,h1,h2⟩:=nq (h:=h) (m:=m) (l:=l) (i:=0);refine⟨r,h1,?_⟩;rcases h2 with⟨h3,j,rfl⟩|⟨h3,rfl⟩
 ·exact yes j h3
 ·exact no h3
theorem xV (l:List Mpg):∀ p∈vh l,aJ p.1=true∧aJ p.2=true:=by
 intro p hp;obtain⟨m,_,rfl⟩:=List.mem_map.1 hp;exact⟨rfl,rfl⟩
theorem dec_go {p:Prop}{inst:Decidable p}{F:¬p->Prop}{G:p->Prop}(hp:p) (go:G hp):Decidable.rec (motive:=fun _=>Prop) F G inst:=by
 cases inst with
 | isFalse h=>exact absurd hp h
 | isTrue h=>exact go
def Seen (l:List Mpg) (i:Nat) (h:i<l.length):Prop:=∃ x,x∈l.take i∧CN l[i] x
theorem vV {l:List Mpg}(ho:DZ l):∃ e:Int,Pu Tryz.prog 290 [ce l] (i64 e)∧(e=0↔MOk l):=by
 have hlen:=ho.len;by_cases h0:d5 l=0
 ·have hp:Pu Tryz.prog 291 [ce l] (i64 0):=h0▸ya ho;by_cases ha:Asc l
  ·refine⟨0,?_,fun _=>⟨h0,ha⟩,fun _=>rfl⟩;refine Pu.of_v aA T0 Tryz.func290 rfl rfl (by simp[aB,aN]) ?_;repeat' ((conv=>whnf)<;>(first|refine sg ?_|exact kQ|(refine Br.mk ?_ ?_<;>intro _<;>try(exfalso;omega))|refine stq ?_|refine Cll.pu (hp) ?_|refine aO.pu (hp) ?_|fail))
   refine aU.by aA T0 (fun k:Nat=>⟨tmp 47 [(0,ce l),(4,boo true),(5,i64 ((k+1:Nat):Int))],⟨0,[]⟩⟩)
    (fun k=>k<=l.length) (fun k=>l.length-k) 0 (by omega) ?_ ?_
   ·exact Lf.of2 [] [] enA bxA rfl rfl
   intro k h3;by_cases hk:k+1<l.length
   ·have hb:=zI.2 (ha (k+1) hk (by omega));simp only[Nat.add_sub_cancel] at hb;repeat' ((conv=>whnf)<;>(first|refine Idx.atS (sz:=3) (c:=ig) (by intro _;rfl) k (by omega) (by omega) ?_|refine Idx.atS (sz:=3) (c:=ig) (by intro _;rfl) (k+1) (by omega) (by omega) ?_|refine sg ?_|exact kQ|(refine Br.mk ?_ ?_<;>intro _<;>try(exfalso;omega))|refine stq ?_|refine Cll.pu (lM) ?_|refine aO.pu (lM) ?_))
    all_goals(conv=>whnf)
    refine⟨k+1,by omega,by omega,?_⟩;exact Lf.of2 [] [] enA bxA rfl rfl
   ·repeat' ((conv=>whnf)<;>(first|refine sg ?_|exact kQ|(refine Br.mk ?_ ?_<;>intro _<;>try(exfalso;omega))|refine stq ?_))
    all_goals(conv=>whnf)
    exact aI.same rfl rfl
  ·refine⟨if ∃ i,∃ h:i<l.length,Seen l i h then 5 else 4,?_,fun h=>by split at h<;>omega,fun h=>absurd h.2 ha⟩;refine Pu.of_v aA T0 Tryz.func290 rfl rfl (by simp[aB,aN]) ?_;repeat' ((conv=>whnf)<;>(first|refine sg ?_|exact kQ|(refine Br.mk ?_ ?_<;>intro _<;>try(exfalso;omega))|refine stq ?_|refine Cll.pu (hp) ?_|refine aO.pu (hp) ?_|fail))
   refine aU.by2 aA T0 (fun(k:Nat) (b:Bool)=>⟨tmp 47 [(0,ce l),(4,boo b),(5,i64 ((k+1:Nat):Int))],⟨0,[]⟩⟩)
    (fun k b=>k<=l.length∧(b=true->∀ i (h:i<l.length),i<=k->∀ h0:i≠0,bef (l[i-1]'(by omega)) l[i])) (fun k _=>l.length-k) 0 true ⟨by omega,fun _ i h hi h0=>by omega⟩ ?_ ?_
   ·exact Lf.of2 [] [] enA bxA rfl rfl
   intro k b ⟨h3,h4⟩;by_cases hk:k+1<l.length
   ·repeat' ((conv=>whnf)<;>(first|refine Idx.atS (sz:=3) (c:=ig) (by intro _;rfl) k (by omega) (by omega) ?_|refine Idx.atS (sz:=3) (c:=ig) (by intro _;rfl) (k+1) (by omega) (by omega) ?_|refine sg ?_|exact kQ|(refine Br.mk ?_ ?_<;>intro _<;>try(exfalso;omega))|refine stq ?_|refine Cll.pu (lM) ?_|refine aO.pu (lM) ?_))
    all_goals(conv=>whnf)
    ·refine⟨k+1,false,⟨by omega,fun h=>by cases h⟩,by omega,?_⟩;exact Lf.of2 [] [] enA bxA rfl rfl
    ·rename_i hc;refine⟨k+1,b,⟨by omega,fun hb i h hi h0=>?_⟩,by omega,?_⟩
     ·by_cases he:i=k+1
      ·subst he;have:=zI.1 (Int.not_le.1 hc)
       simpa using this
      ·exact h4 hb i h (by omega) h0
     exact Lf.of2 [] [] enA bxA rfl rfl
   ·have hbf:b=false:=by
     cases b with
     | false=>rfl
     | true=>exact absurd (fun i h h0=>h4 rfl i h (by omega) h0) ha
    subst hbf;repeat' ((conv=>whnf)<;>(first|refine sg ?_|exact kQ|(refine Br.mk ?_ ?_<;>intro _<;>try(exfalso;omega))|refine stq ?_|fail))
    refine aU.by aA T0 (fun k:Nat=>⟨tmp 47 [(6,.map 0),(33,ce l),(34,i64 l.length),(35,i64 (k:Int))],⟨1,[(0,.map (vh (l.take k)))]⟩⟩)
     (fun k=>k<=l.length∧∀ i (h:i<l.length),i<k->¬Seen l i h) (fun k=>l.length-k) 0 ⟨by omega,fun _ _ h=>by omega⟩ ?_ ?_
    ·exact Lf.of2 [(0,_)] [] enA bxA rfl rfl
    intro k ⟨h5,h6⟩;repeat' ((conv=>whnf)<;>(first|refine sg ?_|exact kQ|(refine Br.mk ?_ ?_<;>intro _<;>try(exfalso;omega))|refine stq ?_|refine Cll.pu (yw) ?_|refine aO.pu (yw) ?_|refine dec_go (by kernel_rfl) ?_|(refine fb.key (fun _ _=>?_) (fun _=>?_)<;>(try contradiction))))
    all_goals(conv=>whnf)
    all_goals first
     | (rename_i hs;exact aI.int (by rw[if_pos ⟨k,by omega,hs⟩]))
     | exact aI.int (by rw[if_neg (fun⟨i,h,hs⟩=>h6 i h (by omega) hs)])
     | skip
    refine⟨k+1,⟨by omega,ay (by omega) h6 (by assumption)⟩,by omega,?_⟩;exact Lf.of2 [(0,_)] [] enA (by repeat(first|exact Bxs.nil|refine Bxs.cons rfl rfl rfl (by first|exact Rb.map (Res.eqs (kS (by omega)) (xV _))|exact rbB|exact Rb.cells bK rfl|exact rbC|fail) ?_)) rfl rfl
 ·have hp:=ya ho;refine⟨d5 l,?_,fun h=>absurd h h0,fun h=>h.1⟩;refine Pu.of_v aA T0 Tryz.func290 rfl rfl (by simp[aB,aN]) ?_;repeat' ((conv=>whnf)<;>(first|refine sg ?_|exact kQ|(refine Br.mk ?_ ?_<;>intro _<;>try(exfalso;omega))|refine stq ?_|refine Cll.pu (hp) ?_))
  all_goals(conv=>whnf)
  exact aI.same rfl rfl
end
section
open Go Go.Am Classical
set_option maxRecDepth 100000
variable [GT]
theorem j9:∀ {l:List D}(n:Nat),aB l=true->aB (l.drop n)=true
 | l,0,h=>by simpa using h
 | [],n+1,_=>by simp[aB]
 | d::l,n+1,h=>by simp only[aB,kC] at h;simpa using j9 n h.2
def bA:List Str:=[[118,101,114,115,105,111,110],[99,97,116,101,103,111,114,121],[119,105,100,116,104],[115,99,114,105,112,116],[103,114,97,112,104,101,109,101],[119,111,114,100],[115,101,110,116,101,110,99,101],[108,105,110,101],[99,108,97,115,115,101,115],[100,101,99,111,109,112,111,115,105,116,105,111,110],[101,120,99,108,117,115,105,111,110,115],[108,111,119,101,114],[117,112,112,101,114],[116,105,116,108,101],[102,111,108,100],[99,97,115,101,100],[105,103,110,111,114,97,98,108,101],[115,116,97,114,116],[99,111,110,116,105,110,117,101],[109,101,100,105,97,108],[99,111,110,102,117,115,97,98,108,101]]
def hG (k:Nat):Str:=bA.getD k []
def ftyp (k:Nat):TypeId:=([156,158,158,158,158,158,158,158,161,164,167,164,164,164,164,167,167,167,167,167,164]:List Nat).getD k 0
def fchk (k:Nat):FuncId:=([278,281,281,281,281,281,281,281,284,287,298,287,287,287,287,298,298,298,298,298,287]:List Nat).getD k 0
def foff (k:Nat):Nat:=([0,2,4,6,8,10,12,14,16,17,18,19,20,21,22,23,24,25,26,27,28]:List Nat).getD k 0
theorem Es:Pu Tryz.prog 71 [] (strs bA):=by
 refine Pu.of_v aA T0 Tryz.func71 rfl rfl rfl ?_;repeat' ((conv=>whnf)<;>(first|refine sg ?_|exact kQ|(refine Br.mk ?_ ?_<;>intro _<;>try(exfalso;omega))|refine stq ?_))
 all_goals(conv=>whnf)
 exact⟨Rd.frz rfl rfl (kD rfl) (Rds.eqs rfl rfl)⟩
set_option maxHeartbeats 8000000 in
theorem cq (d:Db):∀ k,k<21->Pu Tryz.prog 72 [.iptr (dbC d),.str (hG k)] (.iface (ftyp k) (.agg [.iptr ((dbC d).drop (foff k))])):=by
 intro k hk;have hn:aJ (.iface (ftyp k) (.agg [.iptr ((dbC d).drop (foff k))]))=true:=by simp[aJ,aB,j9 _ (ae d)]
 rcases(by omega:k=0∨k=1∨k=2∨k=3∨k=4∨k=5∨k=6∨k=7∨k=8∨k=9∨k=10∨k=11∨k=12∨k=13∨k=14∨k=15∨k=16∨k=17∨k=18∨k=19∨k=20) with rfl|rfl|rfl|rfl|rfl|rfl|rfl|rfl|rfl|rfl|rfl|rfl|rfl|rfl|rfl|rfl|rfl|rfl|rfl|rfl|rfl
 all_goals
  refine Pu.of_v aA T0 Tryz.func72 rfl rfl (by simp[aJ,aB,aE,aG,aN,aK]) ?_;repeat' ((conv=>whnf)<;>(first|refine Br.strF rfl ?_|refine Br.strT rfl ?_|refine sg ?_|exact kQ|(refine Br.mk ?_ ?_<;>intro _<;>try(exfalso;omega))|refine stq ?_))
  all_goals(conv=>whnf)
  exact⟨Rd.eqd rfl hn⟩
theorem A4 {a b:Int}{rest:List D}(hr:aB rest=true):Pu Tryz.prog 278 [.agg [.iptr (i64 a::i64 b::rest)]] (i64 (if s9 a∧s9 b then 0 else 1)):=by
 refine Pu.of_v aA T0 Tryz.func278 rfl rfl (by simp[aJ,aB,hr]) ?_;repeat' ((conv=>whnf)<;>(first|refine sg ?_|exact kQ|(refine Br.mk ?_ ?_<;>intro _<;>try(exfalso;omega))|refine stq ?_))
 refine aU.times aA T0 3 ?_;repeat' ((conv=>whnf)<;>(first|refine sg ?_|exact kQ|(refine Br.mk ?_ ?_<;>intro _<;>try(exfalso;omega))|refine stq ?_))
 all_goals(conv=>whnf)
 all_goals first
  | exact aI.int (by rw[if_neg (by rintro⟨⟨_,_⟩,_,_⟩;omega)])
  | exact aI.int (by rw[if_pos ⟨⟨by omega,by omega⟩,by omega,by omega⟩])
theorem gI {p:Prp}{rest:List D}(hp:p.ok) (hr:aB rest=true):Pu Tryz.prog 281 [.agg [.iptr (strs p.names::dO p.spans::rest)]] (i64 (if PrV p then 0 else 11)):=by
 refine Pu.of_v aA T0 Tryz.func281 rfl rfl (by simp[aJ,aB,hr,aE,aG]) ?_;repeat' ((conv=>whnf)<;>(first|refine sg ?_|exact kQ|(refine Br.mk ?_ ?_<;>intro _<;>try(exfalso;omega))|refine stq ?_|refine Cll.dec (mh sd) (fun _=>?_) (fun _=>?_)|refine aO.dec (mh sd) (fun _=>?_) (fun _=>?_)))
 all_goals(conv=>whnf)
 all_goals first
  | exact aI.int (by rename_i h;rw[if_pos h])
  | exact aI.int (by rename_i h;rw[if_neg h])
theorem iT {l:List Rng}{rest:List D}(hl:l.length<=12) (hr:aB rest=true):Pu Tryz.prog 298 [.agg [.iptr (bc l::rest)]] (i64 (if dF l then 0 else 11)):=by
 refine Pu.of_v aA T0 Tryz.func298 rfl rfl (by simp[aJ,aB,hr,aK]) ?_;repeat' ((conv=>whnf)<;>(first|refine sg ?_|exact kQ|(refine Br.mk ?_ ?_<;>intro _<;>try(exfalso;omega))|refine stq ?_|refine Cll.dec (po sd) (fun _=>?_) (fun _=>?_)|refine aO.dec (po sd) (fun _=>?_) (fun _=>?_)))
 all_goals(conv=>whnf)
 all_goals first
  | exact aI.int (by rename_i h;rw[if_pos h])
  | exact aI.int (by rename_i h;rw[if_neg h])
theorem ii {l:List Mpg}{rest:List D}{e:Int}(he:Pu Tryz.prog 290 [ce l] (i64 e)) (hr:aB rest=true):Pu Tryz.prog 287 [.agg [.iptr (ce l::rest)]] (i64 e):=by
 refine Pu.of_v aA T0 Tryz.func287 rfl rfl (by simp[aJ,aB,hr,aN]) ?_;repeat' ((conv=>whnf)<;>(first|refine sg ?_|exact kQ|(refine Br.mk ?_ ?_<;>intro _<;>try(exfalso;omega))|refine stq ?_|refine Cll.pu (he) ?_))
 all_goals(conv=>whnf)
 exact aI.same rfl rfl
theorem C9 {l:List Spn}{rest:List D}(hl:l.length<=9223372036854775807) (hr:aB rest=true):Pu Tryz.prog 284 [.agg [.iptr (dO l::rest)]] (i64 (if ClV l then 0 else 11)):=by
 have hnb:aB [D.iptr (dO l::rest)]=true:=by simp[aB,aJ,aG,hr]
 refine Pu.of_v aA T0 Tryz.func284 rfl rfl (by simp[aJ,aB,hr,aG]) ?_;repeat' ((conv=>whnf)<;>(first|refine sg ?_|exact kQ|(refine Br.mk ?_ ?_<;>intro _<;>try(exfalso;omega))|refine stq ?_))
 refine aU.by aA T0 (fun k:Nat=>⟨tmp 72 [(1,.ptr 0 0),(9,dO l),(10,i64 l.length),(11,i64 (k:Int))],⟨1,[(0,.cells [.iptr (dO l::rest)] true)]⟩⟩)
  (fun k=>k<=l.length∧∀ i (h:i<l.length),i<k->ClQ l i l[i]) (fun k=>l.length-k) 0 ⟨by omega,fun _ _ h=>by omega⟩ ?_ ?_
 ·exact Lf.of2 [(0,_)] [] enA (by repeat(first|exact Bxs.nil|refine Bxs.cons rfl rfl rfl (by first|exact Rb.cells (Rds.same hnb) rfl|exact rbB|exact Rb.cells bK rfl|exact rbC|fail) ?_)) rfl rfl
 intro k ⟨h3,h4⟩;have hall:l.length<=k->ClV l:=fun h i hi=>h4 i hi (by omega)
 by_cases hk:k=0
 ·subst hk;repeat' ((conv=>whnf)<;>(first|refine sg ?_|exact kQ|(refine Br.mk ?_ ?_<;>intro _<;>try(exfalso;omega))|refine stq ?_))
  all_goals(conv=>whnf)
  all_goals first
   | exact aI.int (by rw[if_neg (fun hc:ClV l=>by have:=(hc 0 (by omega)).1;omega)])
   | exact aI.int (by rw[if_pos (hall (by omega))])
   | (refine⟨0+1,⟨by omega,ay (by omega) h4 ⟨by omega,fun h=>absurd rfl h⟩⟩,by omega,?_⟩
      exact Lf.of2 [(0,_)] [] enA (by(repeat(first|exact Bxs.nil|refine Bxs.cons rfl rfl rfl (by first|exact Rb.cells (Rds.same hnb) rfl|exact rbB|exact Rb.cells bK rfl|exact rbC|fail) ?_|fail));(first|done|fail)) rfl rfl)
 ·by_cases hk2:k<l.length
  ·have h5:=h4 (k-1) (by omega) (by omega);have h6:=h5.1;have e:l.getD (k-1) default=l[k-1]:=aX (by omega);repeat' ((conv=>whnf)<;>(first|refine sg ?_|exact kQ|(refine Br.mk ?_ ?_<;>intro _<;>try(exfalso;omega))|refine stq ?_|refine Idx.atS (by intro _;rfl) (k-1) (by omega) (by omega) ?_))
   all_goals(conv=>whnf)
   all_goals first
    | exact aI.int (by rw[if_neg (fun hc:ClV l=>by have h7:=hc k (by omega);have:=h7.1;have:=h7.2 hk;rw[e] at this;omega)])
    | (refine⟨k+1,⟨by omega,ay (by omega) h4 ⟨by omega,fun _=>by rw[e];omega⟩⟩,by omega,?_⟩
       exact Lf.of2 [(0,_)] [] enA (by(repeat(first|exact Bxs.nil|refine Bxs.cons rfl rfl rfl (by first|exact Rb.cells (Rds.same hnb) rfl|exact rbB|exact Rb.cells bK rfl|exact rbC|fail) ?_|fail));(first|done|fail)) rfl rfl)
  ·repeat' ((conv=>whnf)<;>(first|refine sg ?_|exact kQ|(refine Br.mk ?_ ?_<;>intro _<;>try(exfalso;omega))|refine stq ?_))
   all_goals(conv=>whnf)
   exact aI.int (by rw[if_pos (hall (by omega))])
end
end Go.Proofs.YtjpgpihbhicinaaGreatDoor
