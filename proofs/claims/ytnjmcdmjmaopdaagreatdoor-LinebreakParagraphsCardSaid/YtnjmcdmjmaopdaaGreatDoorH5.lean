/-
  Contracts of functions over data: sets of code points made by the program.
-/
import Derived.Test.YtnjmcdmjmaopdaaGreatDoorG0
import Derived.Test.YtnjmcdmjmaopdaaGreatDoorC0
import Derived.Test.YtnjmcdmjmaopdaaGreatDoorAmF
set_option linter.unusedSectionVars false
namespace Go.Proofs.YtnjmcdmjmaopdaaGreatDoor
section
open Go Go.Am Classical
set_option maxRecDepth 100000
variable [GT]
theorem bM (r:Rng):(cX r).length=2:=rfl
theorem bG (r:Rng):aD (cX r)=true:=rfl
abbrev qt (l:List Rng):D:=.agg [cx l]
theorem Or_c {l:List Int}(hl:l.length≤1000):Pu Tryz.prog 269 [aZ l] (i64 (ge l)):=by
 refine Pu.of_v aA T0 Tryz.func269 rfl rfl (by simp[aD,aM]) ?_;repeat' ((conv=>whnf)<;>(first|refine aB.go aA T0 ?_|exact kQ|(refine Br.mk (fun _=>?_) (fun _=>?_)<;>(try(exfalso;omega)))|refine stq ?_))
 refine aU.by aA T0 (fun k:Nat=>⟨tmp 18 [(3,i64 0),(6,aZ l),(7,i64 l.length),(8,i64 (k:Int))],⟨0,[]⟩⟩)
  (fun k=>k≤l.length∧∀ i (h:i<l.length),i<k→l[i]=0) (fun k=>l.length-k) 0 ⟨by omega,fun _ _ h=>by omega⟩ ?_ ?_
 ·exact Lf.of2 [] [] enA bxA rfl rfl
 intro k ⟨h3,h4⟩;repeat' ((conv=>whnf)<;>(first|refine aB.go aA T0 ?_|exact kQ|(refine Br.mk (fun _=>?_) (fun _=>?_)<;>(try(exfalso;omega)))|refine stq ?_))
 all_goals(conv=>whnf)
 all_goals first
  | exact aH.int (tX (by omega) h4 (by assumption)).symm
  | exact aH.int (lG.2 (cA (by omega) h4)).symm
  | (refine⟨k+1,⟨by omega,ay (by omega) h4 (by omega)⟩,by omega,?_⟩
     exact Lf.of2 [] [] enA bxA rfl rfl)
theorem D3 {a b:Rng}:zb a b=ge [gq a.lo b.lo,gq a.hi b.hi]:=by
 unfold zb gq ge ge ge;repeat' split
 all_goals omega
theorem BQ {a b:Rng}:Pu Tryz.prog 278 [.agg (cX a),.agg (cX b)] (i64 (zb a b)):=by
 refine Pu.of_v aA T0 Tryz.func278 rfl rfl rfl ?_
 repeat' ((conv=>whnf)<;>(first|refine aB.go aA T0 ?_|exact kQ|(refine Br.mk (fun _=>?_) (fun _=>?_)<;>(try(exfalso;omega)))|refine stq ?_|refine bK.byM (id:=1) aA T0 [0,1,0,4,15,0,32,0,128,511,1023,2047,4095] (by kernel_rfl) ?_|refine CM.pu ft ?_|refine Chk.mk ⟨_,rfl⟩ ?_|refine Chk.mk (by intro h;simp at h;simp[h]) ?_|(refine CM.w ?_;refine Cll.emb (Or_c (l:=[gq a.lo b.lo,gq a.hi b.hi]) (by simp) ⟨0,[]⟩) [] [13] (i64 (ge [gq a.lo b.lo,gq a.hi b.hi])) [] [(0,.cells (cX a) true),(1,.cells (cX b) true)] rfl (by(repeat(first|exact Rds.nil|refine Rds.cons (by first|exact Rd.frz rfl rfl (kD rfl) (Rds.eqs rfl rfl)|exact rdA|fail) ?_|fail));(first|done|fail)) (by(repeat(first|exact Bxs.nil|refine Bxs.cons rfl rfl rfl (by first|exact rbB|exact Rb.cells (by(repeat(first|exact Rds.nil|refine Rds.cons (by first|exact Rd.frz rfl rfl (kD rfl) (Rds.eqs rfl rfl)|exact rdA|fail) ?_|fail));(first|done|fail)) rfl|exact rbC|fail) ?_|fail));(first|done|fail)) (by first|exact Rd.frz rfl rfl (kD rfl) (Rds.eqs rfl rfl)|exact rdA|fail) (by(repeat(first|exact Bxs.nil|refine Bxs.cons rfl rfl rfl (by first|exact rbB|exact Rb.cells (by(repeat(first|exact Rds.nil|refine Rds.cons (by first|exact Rd.frz rfl rfl (kD rfl) (Rds.eqs rfl rfl)|exact rdA|fail) ?_|fail));(first|done|fail)) rfl|exact rbC|fail) ?_|fail));(first|done|fail)) (by(repeat(first|exact ap.nil|refine ap.cons rfl rfl rfl ?_|fail));(first|done|fail)) ?_)|fail))
 all_goals(conv=>whnf)
 exact aH.int D3.symm
abbrev Cm:D:=.fn (.func 278) [] []
theorem ER {l:List Rng}(hl:l.length≤12) (hn:l≠[]):AC1 Tryz.prog 280 [.sl 0 0 l.length l.length 2 false,i64 0,i64 l.length,Cm] ⟨1,[(0,.cells (l.flatMap cX) false)]⟩ (.tup []) ⟨4,[(0,.cells ((gn ltR zR l).flatMap cX) false)]⟩:=by
 have h0:0<l.length:=List.length_pos_iff.2 hn;refine AC1.of_vl aA T0 Tryz.func280 rfl rfl ?_;repeat' ((conv=>whnf)<;>(first|refine aB.go aA T0 ?_|exact kQ|(refine Br.mk (fun _=>?_) (fun _=>?_)<;>(try(exfalso;omega)))|refine stq ?_))
 refine aU.by aA T0 (fun i:Nat=>⟨tmp 53 [(0,.sl 0 0 l.length l.length 2 false),(1,i64 0),(2,i64 l.length),(3,Cm),(8,i64 ((i+1:Nat):Int))],⟨1,[(0,.cells ((nW ltR zR l i).flatMap cX) false)]⟩⟩)
  (fun i=>i<l.length) (fun i=>l.length-i) 0 h0 ?_ ?_
 ·exact Lf.of2 [] [] (by repeat(first|exact aI.nil|refine aI.cons rfl (by first|exact Rd.same rfl|exact rdA|fail) ?_)) (by repeat(first|exact Bxs.nil|refine Bxs.cons rfl rfl rfl (by first|exact rbB|exact rbC|fail) ?_)) rfl rfl
 intro i h1;by_cases h2:i+1<l.length
 ·repeat' ((conv=>whnf)<;>(first|refine aB.go aA T0 ?_|exact kQ|(refine Br.mk (fun _=>?_) (fun _=>?_)<;>(try(exfalso;omega)))|refine stq ?_|fail))
  refine aU.by2 aA T0 (fun(j:Nat) (cur:List Rng)=>⟨tmp 53 [(0,.sl 0 0 l.length l.length 2 false),(1,i64 0),(2,i64 l.length),(3,Cm),(8,i64 ((i+1:Nat):Int)),(9,i64 (j:Int))],⟨1,[(0,.cells (cur.flatMap cX) false)]⟩⟩)
   (fun j cur=>j<l.length∧cur.length=l.length∧tS ltR zR cur j=nW ltR zR l (i+1)) (fun j _=>j) (i+1) (nW ltR zR l i) ⟨h2,by simp,rfl⟩ ?_ ?_
  ·exact Lf.of2 [] [] enA bxA rfl rfl
  intro j cur ⟨h3,h4,h5⟩;cases j with
  | zero=>
   repeat' ((conv=>whnf)<;>(first|refine aB.go aA T0 ?_|exact kQ|(refine Br.mk (fun _=>?_) (fun _=>?_)<;>(try(exfalso;omega)))|refine stq ?_|refine bK.by (id:=4) aA T0 [0,0,3,7,15,15,15,111,239,15,15,1039,3599,7695,16383,32767,65535] (by kernel_rfl) ?_|fail))
   all_goals(conv=>whnf)
   refine⟨i+1,h2,by omega,?_⟩;exact Lf.of2 [] [] enA (by repeat(first|exact Bxs.nil|refine Bxs.cons rfl rfl rfl (by first|exact Rb.cells (Rds.eqs (by rw[←h5];rfl) (aE bG _)) rfl|exact rbB|exact Rb.cells bS rfl|exact rbC|fail) ?_)) rfl rfl
  | succ j=>
   have e1:cur.getD j zR=cur[j]:=aW (by omega);have e2:cur.getD (j+1) zR=cur[j+1]:=aW (by omega);repeat' ((conv=>whnf)<;>(first|refine aB.go aA T0 ?_|exact kQ|(refine Br.mk (fun _=>?_) (fun _=>?_)<;>(try(exfalso;omega)))|refine stq ?_|refine Cll.pu (BQ) ?_|refine aN.pu (BQ) ?_|refine bK.by (id:=4) aA T0 [0,0,3,7,15,15,15,111,239,15,15,1039,3599,7695,16383,32767,65535] (by kernel_rfl) ?_|refine bK.by (id:=6) aA T0 [0,0,0,0,8,0,0,64,224,480,0,0,3072,7168,16355,32739,65535,131071] (by kernel_rfl) ?_|refine cj.at (j+1) (by omega) (by omega) ?_|refine cj.at j (by omega) (by omega) ?_|refine Get.flat bM (j+1) (by omega) (by omega) ?_|refine Get.flat bM j (by omega) (by omega) ?_|refine Put.flat bM (l:=cur) (j+1) (cur[j]'(by omega)) (by omega) (by omega) ?_|refine Put.flat bM (l:=cur.set (j+1) (cur[j]'(by omega))) j (cur[j+1]'(by omega)) (by omega) (by simp;omega) ?_|fail))
   all_goals(conv=>whnf)
   ·have hlt:ltR cur[j+1] cur[j]=true:=decide_eq_true (by assumption);have e3:sm zR cur j=(cur.set (j+1) (cur[j]'(by omega))).set j (cur[j+1]'(by omega)):=by rw[sm,e1,e2]
    refine⟨j,sm zR cur j,⟨by omega,by simp[h4],?_⟩,by omega,?_⟩
    ·rw[←h5];simp only[tS,e1,e2,hlt,if_true]
    exact Lf.of2 [] [] enA (by repeat(first|exact Bxs.nil|refine Bxs.cons rfl rfl rfl (by first|exact Rb.cells (Rds.eqs (by rw[e3]) (aE bG _)) rfl|exact rbB|exact Rb.cells bS rfl|exact rbC|fail) ?_)) rfl rfl
   ·have hlt:¬ltR cur[j+1] cur[j]=true:=by rw[ltR,decide_eq_true_eq];assumption
    have e3:cur=nW ltR zR l (i+1):=by rw[←h5];simp only[tS,e1,e2,hlt];simp
    refine⟨i+1,h2,by omega,?_⟩;exact Lf.of2 [] [] enA (by repeat(first|exact Bxs.nil|refine Bxs.cons rfl rfl rfl (by first|exact Rb.cells (Rds.eqs (by rw[←e3]) (aE bG _)) rfl|exact rbB|exact Rb.cells bS rfl|exact rbC|fail) ?_)) rfl rfl
 ·repeat' ((conv=>whnf)<;>(first|refine aB.go aA T0 ?_|exact kQ|(refine Br.mk (fun _=>?_) (fun _=>?_)<;>(try(exfalso;omega)))|refine stq ?_|fail))
  all_goals(conv=>whnf)
  have e:gn ltR zR l=nW ltR zR l i:=by rw[gn,show l.length-1=i from by omega]
  exact⟨Or.inl rfl,rfl,by rw[e]⟩
theorem E3 {l:List Rng}(hl:l.length≤12) (hn:l≠[]):AC1 Tryz.prog 277 [.sl 0 0 l.length l.length 2 false,Cm] ⟨1,[(0,.cells (l.flatMap cX) false)]⟩ (.tup []) ⟨27,[(0,.cells ((gn ltR zR l).flatMap cX) false)]⟩:=by
 have hlen:Pu Tryz.prog 158 [.v (.int .u64 (IntKind.u64.wrap (l.length:Int)))] (i64 (([0,1,2,2,3,3,3,3,4,4,4,4,4]:List Int).getD l.length 0)):=by
  rw[show IntKind.u64.wrap (l.length:Int)=(l.length:Int) from by simp[IntKind.wrap,IntKind.bits,IntKind.signed];omega];exact zA hl
 refine AC1.of_vl aA T0 Tryz.func277 rfl rfl ?_;repeat' ((conv=>whnf)<;>(first|refine aB.go aA T0 ?_|exact kQ|(refine Br.mk (fun _=>?_) (fun _=>?_)<;>(try(exfalso;omega)))|refine stq ?_|refine Cll.pu hlen ?_|(apply Cll.inl aA T0 Tryz.func279 rfl rfl ?_;rotate_left)|exact⟨Or.inr rfl,rfl,rfl⟩|refine aU.times aA T0 1 ?_|refine Cll.emb (ER hl hn) [(0,0)] [] (.tup []) [(0,.cells ((gn ltR zR l).flatMap cX) false)] [] rfl bS bxA rdA bxA (by(repeat(first|exact ap.nil|refine ap.cons rfl rfl rfl ?_|fail));(first|done|fail)) ?_|fail))
 all_goals(conv=>whnf)
 exact⟨Or.inl rfl,rfl,rfl⟩
theorem AQ:Pu Tryz.prog 277 [aY,Cm] (.tup []):=by
 have hlen:Pu Tryz.prog 158 [.v (.int .u64 (IntKind.u64.wrap (0:Int)))] (i64 0):=zA (n:=0) (by omega);refine Pu.of_v aA T0 Tryz.func277 rfl rfl rfl ?_;repeat' ((conv=>whnf)<;>(first|refine aB.go aA T0 ?_|exact kQ|(refine Br.mk (fun _=>?_) (fun _=>?_)<;>(try(exfalso;omega)))|refine stq ?_|refine Cll.pu hlen ?_|(apply Cll.inl aA T0 Tryz.func279 rfl rfl ?_;rotate_left)|(apply Cll.inl aA T0 Tryz.func280 rfl rfl ?_;rotate_left)|exact⟨Or.inr rfl,rfl,rfl⟩|exact⟨Or.inl rfl,rfl,rfl⟩|refine aU.times aA T0 1 ?_|fail))
 all_goals(conv=>whnf)
 exact aH.same rfl rfl
theorem sK {r:Rng}{a b:Int}(h1:a=max r.lo 0) (h2:b=min r.hi 1114111):jU r=⟨a,b⟩:=by rw[jU,h1,h2]
theorem dW {l:List Rng}{k:Nat}(h:k<l.length){a b:Int}(h1:a=max l[k].lo 0) (h2:b=min l[k].hi 1114111) (hab:a≤b):dL (l.take (k+1))=dL (l.take k)++[⟨a,b⟩]:=by
 rw[dL,bk h,List.map_append,List.filter_append,List.map_singleton,sK h1 h2,List.filter_cons_of_pos (by simpa using hab)];rfl
theorem eL {l:List Rng}{k:Nat}(h:k<l.length){a b:Int}(h1:a=max l[k].lo 0) (h2:b=min l[k].hi 1114111) (hab:¬a≤b):dL (l.take (k+1))=dL (l.take k):=by
 rw[dL,bk h,List.map_append,List.filter_append,List.map_singleton,sK h1 h2,List.filter_cons_of_neg (by simpa using hab),List.filter_nil,List.append_nil];rfl
theorem wj (l:List Rng):(dL l).length≤l.length:=Nat.le_trans (List.length_filter_le _ _) (by simp)
theorem zZ {l:List Rng}{r:Rng}(h:r∈dL l):0≤r.hi∧r.hi≤1114111:=by
 simp only[dL,List.mem_filter,List.mem_map,decide_eq_true_eq] at h;obtain⟨⟨q,_,rfl⟩,h2⟩:=h;simp only[jU] at h2 ⊢;omega
theorem iR (y:Rng) (ys:List Rng) (m:Nat) (v:Rng):∃ y' ys',(y::ys).set m v=y' :: ys':=by cases m<;>exact⟨_,_,rfl⟩
theorem tP {o:List Rng}(h:0<o.length):o.getLast?=some (o[o.length-1]'(by omega)):=by rw[List.getLast?_eq_getElem?,List.getElem?_eq_getElem (by omega)]
theorem uP {o:List Rng}(h:0<o.length) (v:Rng):o.dropLast++[v]=o.set (o.length-1) v:=by
 obtain⟨q,y,rfl⟩:∃ q y,o=q++[y]:=⟨o.dropLast,o.getLast (by rintro rfl;simp at h),(List.dropLast_concat_getLast _).symm⟩;simp
theorem mU {o l:List Rng}{r:Rng}{hi:Int}(h:0<o.length) (hc:r.lo≤(o[o.length-1]'(by omega)).hi+1) (hh:hi=max (o[o.length-1]'(by omega)).hi r.hi):mrg o (r::l)=mrg (o.set (o.length-1) ⟨(o[o.length-1]'(by omega)).lo,hi⟩) l:=by
 rw[mrg,tP h];simp only;rw[if_pos hc,uP h,←hh]
theorem yV {o l:List Rng}{r:Rng}(h:0<o.length) (hc:¬r.lo≤(o[o.length-1]'(by omega)).hi+1):mrg o (r::l)=mrg (o++[r]) l:=by
 rw[mrg,tP h];simp only;rw[if_neg hc]
set_option maxHeartbeats 8000000 in
theorem DG {l:List Rng}(hl:l.length≤12):Pu Tryz.prog 276 [cx l] (qt (mkR l)):=by
 refine Pu.of_v aA T0 Tryz.func276 rfl rfl (by simp[aD,aO]) ?_;repeat' ((conv=>whnf)<;>(first|refine aB.go aA T0 ?_|exact kQ|(refine Br.mk (fun _=>?_) (fun _=>?_)<;>(try(exfalso;omega)))|refine stq ?_))
 refine aU.by2 aA T0 (fun(k:Nat) (o:List Rng)=>⟨tmp 79 [(2,.ptr 0 0),(3,ai 1 2 o),(11,cx l),(12,i64 l.length),(13,i64 (k:Int))],⟨2,(0,.cells [aY] true)::cY 1 cX o⟩⟩)
  (fun k o=>k≤l.length∧o=dL (l.take k)) (fun k _=>l.length-k) 0 [] ⟨by omega,rfl⟩ ?_ ?_
 ·exact Lf.of2 [(0,_)] [] enA bxA rfl rfl
 intro k o ⟨h3,h4⟩;have h5:o.length≤k:=by rw[h4];exact Nat.le_trans (wj _) (by simp;omega)
 by_cases hk:k<l.length
 ·by_cases ha:l[k].lo<0
  ·by_cases hb:1114111<l[k].hi
   ·
    cases o with
    | nil=>
     repeat' ((conv=>whnf)<;>(first|refine aB.go aA T0 ?_|exact kQ|(refine Br.mk (fun _=>?_) (fun _=>?_)<;>(try(exfalso;omega)))|refine stq ?_))
     all_goals(conv=>whnf)
     all_goals first
      | (refine⟨k+1,[],⟨by omega,by rw[eL hk (a:=0) (b:=1114111) (by omega) (by omega) (by omega)];exact h4⟩,by omega,?_⟩
         exact Lf.of2 [(0,_)] [] enA bxA rfl rfl)
      | (refine⟨k+1,[⟨0,1114111⟩],⟨by omega,by rw[dW hk (a:=0) (b:=1114111) (by omega) (by omega) (by omega),←h4];rfl⟩,by omega,?_⟩
         exact Lf.of2 [(0,_),(1,_)] [] enA bxA rfl rfl)
    | cons x xs=>
     have hlen:(x::xs).length≤12:=by omega
     repeat' ((conv=>whnf)<;>(first|refine aB.go aA T0 ?_|exact kQ|(refine Br.mk (fun _=>?_) (fun _=>?_)<;>(try(exfalso;omega)))|refine stq ?_))
     all_goals(conv=>whnf)
     all_goals first
      | (refine⟨k+1,x::xs,⟨by omega,by rw[eL hk (a:=0) (b:=1114111) (by omega) (by omega) (by omega)];exact h4⟩,by omega,?_⟩
         exact Lf.of2 [(0,_),(1,_)] [] enA bxA rfl rfl)
      | (refine⟨k+1,(x::xs)++[⟨0,1114111⟩],⟨by omega,by rw[dW hk (a:=0) (b:=1114111) (by omega) (by omega) (by omega),←h4]⟩,by omega,?_⟩
         exact Lf.of2 [(0,_),(1,_)] [] (by(repeat(first|exact aI.nil|refine aI.cons rfl (by first|exact Rd.sl' rfl (by simp) (by simp)|exact rdA|fail) ?_|fail));(first|done|fail)) (by(repeat(first|exact Bxs.nil|refine Bxs.cons rfl rfl rfl (by first|exact Rb.cells (Rds.eqs (ag (c:=cX) (sz:=2) bM (x::xs) (⟨0,1114111⟩:Rng)) (aE bG _)) rfl|exact rbB|exact rbC|fail) ?_|fail));(first|done|fail)) rfl rfl)
   ·
    cases o with
    | nil=>
     repeat' ((conv=>whnf)<;>(first|refine aB.go aA T0 ?_|exact kQ|(refine Br.mk (fun _=>?_) (fun _=>?_)<;>(try(exfalso;omega)))|refine stq ?_))
     all_goals(conv=>whnf)
     all_goals first
      | (refine⟨k+1,[],⟨by omega,by rw[eL hk (a:=0) (b:=l[k].hi) (by omega) (by omega) (by omega)];exact h4⟩,by omega,?_⟩
         exact Lf.of2 [(0,_)] [] enA bxA rfl rfl)
      | (refine⟨k+1,[⟨0,l[k].hi⟩],⟨by omega,by rw[dW hk (a:=0) (b:=l[k].hi) (by omega) (by omega) (by omega),←h4];rfl⟩,by omega,?_⟩
         exact Lf.of2 [(0,_),(1,_)] [] enA bxA rfl rfl)
    | cons x xs=>
     have hlen:(x::xs).length≤12:=by omega
     repeat' ((conv=>whnf)<;>(first|refine aB.go aA T0 ?_|exact kQ|(refine Br.mk (fun _=>?_) (fun _=>?_)<;>(try(exfalso;omega)))|refine stq ?_))
     all_goals(conv=>whnf)
     all_goals first
      | (refine⟨k+1,x::xs,⟨by omega,by rw[eL hk (a:=0) (b:=l[k].hi) (by omega) (by omega) (by omega)];exact h4⟩,by omega,?_⟩
         exact Lf.of2 [(0,_),(1,_)] [] enA bxA rfl rfl)
      | (refine⟨k+1,(x::xs)++[⟨0,l[k].hi⟩],⟨by omega,by rw[dW hk (a:=0) (b:=l[k].hi) (by omega) (by omega) (by omega),←h4]⟩,by omega,?_⟩
         exact Lf.of2 [(0,_),(1,_)] [] (by(repeat(first|exact aI.nil|refine aI.cons rfl (by first|exact Rd.sl' rfl (by simp) (by simp)|exact rdA|fail) ?_|fail));(first|done|fail)) (by(repeat(first|exact Bxs.nil|refine Bxs.cons rfl rfl rfl (by first|exact Rb.cells (Rds.eqs (ag (c:=cX) (sz:=2) bM (x::xs) (⟨0,l[k].hi⟩:Rng)) (aE bG _)) rfl|exact rbB|exact rbC|fail) ?_|fail));(first|done|fail)) rfl rfl)
  ·by_cases hb:1114111<l[k].hi
   ·
    cases o with
    | nil=>
     repeat' ((conv=>whnf)<;>(first|refine aB.go aA T0 ?_|exact kQ|(refine Br.mk (fun _=>?_) (fun _=>?_)<;>(try(exfalso;omega)))|refine stq ?_))
     all_goals(conv=>whnf)
     all_goals first
      | (refine⟨k+1,[],⟨by omega,by rw[eL hk (a:=l[k].lo) (b:=1114111) (by omega) (by omega) (by omega)];exact h4⟩,by omega,?_⟩
         exact Lf.of2 [(0,_)] [] enA bxA rfl rfl)
      | (refine⟨k+1,[⟨l[k].lo,1114111⟩],⟨by omega,by rw[dW hk (a:=l[k].lo) (b:=1114111) (by omega) (by omega) (by omega),←h4];rfl⟩,by omega,?_⟩
         exact Lf.of2 [(0,_),(1,_)] [] enA bxA rfl rfl)
    | cons x xs=>
     have hlen:(x::xs).length≤12:=by omega
     repeat' ((conv=>whnf)<;>(first|refine aB.go aA T0 ?_|exact kQ|(refine Br.mk (fun _=>?_) (fun _=>?_)<;>(try(exfalso;omega)))|refine stq ?_))
     all_goals(conv=>whnf)
     all_goals first
      | (refine⟨k+1,x::xs,⟨by omega,by rw[eL hk (a:=l[k].lo) (b:=1114111) (by omega) (by omega) (by omega)];exact h4⟩,by omega,?_⟩
         exact Lf.of2 [(0,_),(1,_)] [] enA bxA rfl rfl)
      | (refine⟨k+1,(x::xs)++[⟨l[k].lo,1114111⟩],⟨by omega,by rw[dW hk (a:=l[k].lo) (b:=1114111) (by omega) (by omega) (by omega),←h4]⟩,by omega,?_⟩
         exact Lf.of2 [(0,_),(1,_)] [] (by(repeat(first|exact aI.nil|refine aI.cons rfl (by first|exact Rd.sl' rfl (by simp) (by simp)|exact rdA|fail) ?_|fail));(first|done|fail)) (by(repeat(first|exact Bxs.nil|refine Bxs.cons rfl rfl rfl (by first|exact Rb.cells (Rds.eqs (ag (c:=cX) (sz:=2) bM (x::xs) (⟨l[k].lo,1114111⟩:Rng)) (aE bG _)) rfl|exact rbB|exact rbC|fail) ?_|fail));(first|done|fail)) rfl rfl)
   ·
    cases o with
    | nil=>
     repeat' ((conv=>whnf)<;>(first|refine aB.go aA T0 ?_|exact kQ|(refine Br.mk (fun _=>?_) (fun _=>?_)<;>(try(exfalso;omega)))|refine stq ?_))
     all_goals(conv=>whnf)
     all_goals first
      | (refine⟨k+1,[],⟨by omega,by rw[eL hk (a:=l[k].lo) (b:=l[k].hi) (by omega) (by omega) (by omega)];exact h4⟩,by omega,?_⟩
         exact Lf.of2 [(0,_)] [] enA bxA rfl rfl)
      | (refine⟨k+1,[⟨l[k].lo,l[k].hi⟩],⟨by omega,by rw[dW hk (a:=l[k].lo) (b:=l[k].hi) (by omega) (by omega) (by omega),←h4];rfl⟩,by omega,?_⟩
         exact Lf.of2 [(0,_),(1,_)] [] enA bxA rfl rfl)
    | cons x xs=>
     have hlen:(x::xs).length≤12:=by omega
     repeat' ((conv=>whnf)<;>(first|refine aB.go aA T0 ?_|exact kQ|(refine Br.mk (fun _=>?_) (fun _=>?_)<;>(try(exfalso;omega)))|refine stq ?_))
     all_goals(conv=>whnf)
     all_goals first
      | (refine⟨k+1,x::xs,⟨by omega,by rw[eL hk (a:=l[k].lo) (b:=l[k].hi) (by omega) (by omega) (by omega)];exact h4⟩,by omega,?_⟩
         exact Lf.of2 [(0,_),(1,_)] [] enA bxA rfl rfl)
      | (refine⟨k+1,(x::xs)++[⟨l[k].lo,l[k].hi⟩],⟨by omega,by rw[dW hk (a:=l[k].lo) (b:=l[k].hi) (by omega) (by omega) (by omega),←h4]⟩,by omega,?_⟩
         exact Lf.of2 [(0,_),(1,_)] [] (by(repeat(first|exact aI.nil|refine aI.cons rfl (by first|exact Rd.sl' rfl (by simp) (by simp)|exact rdA|fail) ?_|fail));(first|done|fail)) (by(repeat(first|exact Bxs.nil|refine Bxs.cons rfl rfl rfl (by first|exact Rb.cells (Rds.eqs (ag (c:=cX) (sz:=2) bM (x::xs) (⟨l[k].lo,l[k].hi⟩:Rng)) (aE bG _)) rfl|exact rbB|exact rbC|fail) ?_|fail));(first|done|fail)) rfl rfl)
 ·have ho:o=dL l:=by rw[h4,kE (by omega)]
  cases o with
  | nil=>
   have hs0:gn ltR zR (dL l)=[]:=by rw[←ho];rfl
   have hend:mkR l=mrg [] (gn ltR zR (dL l)):=rfl;repeat' ((conv=>whnf)<;>(first|refine aB.go aA T0 ?_|exact kQ|(refine Br.mk (fun _=>?_) (fun _=>?_)<;>(try(exfalso;omega)))|refine stq ?_|refine Cll.pu (AQ) ?_|fail))
   generalize hs:gn ltR zR (dL l)=s at *
   refine aU.by2 aA T0 (fun(k:Nat) (out:List Rng)=>⟨tmp 79 [(2,.ptr 0 0),(7,ai 1 2 out),(36,cx s),(37,i64 s.length),(38,i64 (k:Int))],⟨2,(0,.cells [aY] true)::cY 1 cX out⟩⟩)
    (fun k out=>((k≤s.length∧out.length≤k)∧∀ r,r∈out→0≤r.hi∧r.hi≤1114111)∧mrg [] s=mrg out (s.drop k)) (fun k _=>s.length-k) 0 [] ⟨⟨⟨by omega,by simp⟩,by simp⟩,rfl⟩ ?_ ?_
   ·subst hs0;exact Lf.of2 [(0,_)] [] (by repeat(first|exact aI.nil|refine aI.cons rfl (by first|exact Rd.nil|exact rdA|fail) ?_)) (by repeat(first|exact Bxs.nil|refine Bxs.cons rfl rfl rfl (by first|exact rbB|exact rbC|fail) ?_)) rfl rfl
   have hsl:s.length≤12:=by rw[hs0];simp
   have hsb:∀ r,r∈s→0≤r.hi∧r.hi≤1114111:=by rw[hs0];simp
   intro k out ⟨⟨⟨h6,h7⟩,h9⟩,h8⟩;by_cases hk2:k<s.length
   ·have hd:s.drop k=s[k]::s.drop (k+1):=kK hk2;cases out with
    | nil=>
     repeat' ((conv=>whnf)<;>(first|refine aB.go aA T0 ?_|exact kQ|(refine Br.mk (fun _=>?_) (fun _=>?_)<;>(try(exfalso;omega)))|refine stq ?_))
     all_goals(conv=>whnf)
     refine⟨k+1,[s[k]],⟨⟨⟨by omega,by simp⟩,fun r hr=>by simp only[List.mem_singleton] at hr;subst hr;exact hsb _ (kM hk2)⟩,by rw[h8,hd];rfl⟩,by omega,?_⟩;exact Lf.of2 [(0,_),(1,_)] [] enA bxA rfl rfl
    | cons y ys=>
     have hpos:0<(y::ys).length:=by simp
     have hle:(y::ys).length≤12:=by omega
     have hb1:=h9 _ (kM (show(y::ys).length-1<(y::ys).length by omega));have hb2:=hsb _ (kM hk2);repeat' ((conv=>whnf)<;>(first|refine Get.flat1 bM ((y::ys).length-1) 1 (by dsimp only;omega) (by omega) rfl ?_|refine aB.go aA T0 ?_|exact kQ|(refine Br.mk (fun _=>?_) (fun _=>?_)<;>(try(exfalso;omega)))|refine stq ?_|refine bK.by (id:=16) aA T0 [0,0,2,0,0,16,56,120,248,0,512,2040,4095,8191,16383] (by kernel_rfl) ?_|refine cj.at ((y::ys).length-1) (by omega) (by omega) ?_|refine Put.flat1 bM ((y::ys).length-1) 1 ⟨((y::ys)[(y::ys).length-1]'(by omega)).lo,s[k].hi⟩ (by dsimp only;omega) (by omega) (by omega) rfl ?_|refine Put.flat1 bM ((y::ys).length-1) 1 ⟨((y::ys)[(y::ys).length-1]'(by omega)).lo,((y::ys)[(y::ys).length-1]'(by omega)).hi⟩ (by dsimp only;omega) (by omega) (by omega) rfl ?_|fail))
     all_goals(conv=>whnf)
     all_goals first
      | (have hj:=mU (l:=s.drop (k+1)) hpos (by assumption) (hi:=s[k].hi) (by omega)
         obtain⟨y',ys',he⟩:=iR y ys ((y::ys).length-1) ⟨((y::ys)[(y::ys).length-1]'(by omega)).lo,s[k].hi⟩;have hle':(y' :: ys').length=(y::ys).length:=by rw[←he];simp
         refine⟨k+1,y' :: ys',⟨⟨⟨by omega,by omega⟩,fun r hr=>by rw[←he] at hr;rcases List.mem_or_eq_of_mem_set hr with hr|rfl<;>first|exact h9 r hr|exact hb2⟩,by rw[h8,hd,hj,he]⟩,by omega,?_⟩
         exact Lf.of2 [(0,_),(1,_)] [] (by(repeat(first|exact aI.nil|refine aI.cons rfl (by first|exact Rd.sl' rfl hle'.symm hle'.symm|exact rdA|fail) ?_|fail));(first|done|fail)) (by(repeat(first|exact Bxs.nil|refine Bxs.cons rfl rfl rfl (by first|exact Rb.cells (Rds.eqs (by rw[he]) (aE bG _)) rfl|exact rbB|exact rbC|fail) ?_|fail));(first|done|fail)) rfl rfl)
      | (have hj:=mU (l:=s.drop (k+1)) hpos (by assumption) (hi:=((y::ys)[(y::ys).length-1]'(by omega)).hi) (by omega)
         obtain⟨y',ys',he⟩:=iR y ys ((y::ys).length-1) ⟨((y::ys)[(y::ys).length-1]'(by omega)).lo,((y::ys)[(y::ys).length-1]'(by omega)).hi⟩;have hle':(y' :: ys').length=(y::ys).length:=by rw[←he];simp
         refine⟨k+1,y' :: ys',⟨⟨⟨by omega,by omega⟩,fun r hr=>by rw[←he] at hr;rcases List.mem_or_eq_of_mem_set hr with hr|rfl<;>first|exact h9 r hr|exact hb1⟩,by rw[h8,hd,hj,he]⟩,by omega,?_⟩
         exact Lf.of2 [(0,_),(1,_)] [] (by(repeat(first|exact aI.nil|refine aI.cons rfl (by first|exact Rd.sl' rfl hle'.symm hle'.symm|exact rdA|fail) ?_|fail));(first|done|fail)) (by(repeat(first|exact Bxs.nil|refine Bxs.cons rfl rfl rfl (by first|exact Rb.cells (Rds.eqs (by rw[he]) (aE bG _)) rfl|exact rbB|exact rbC|fail) ?_|fail));(first|done|fail)) rfl rfl)
      | (refine⟨k+1,(y::ys)++[s[k]],⟨⟨⟨by omega,by rw[kG];simp only[List.length_singleton];omega⟩,fun r hr=>by rcases List.mem_append.1 hr with hr|hr<;>first|exact h9 r hr|exact(List.mem_singleton.1 hr)▸hb2⟩,by rw[h8,hd,yV hpos (by assumption)]⟩,by omega,?_⟩
         exact Lf.of2 [(0,_),(1,_)] [] (by(repeat(first|exact aI.nil|refine aI.cons rfl (by first|exact Rd.sl' rfl (by simp) (by simp)|exact rdA|fail) ?_|fail));(first|done|fail)) (by(repeat(first|exact Bxs.nil|refine Bxs.cons rfl rfl rfl (by first|exact Rb.cells (Rds.eqs (ag (c:=cX) (sz:=2) bM (y::ys) s[k]) (aE bG _)) rfl|exact rbB|exact rbC|fail) ?_|fail));(first|done|fail)) rfl rfl)
   ·have he:mrg [] s=out:=by rw[h8,List.drop_of_length_le (by omega)];rfl
    rw[hend,he];cases out with
    | nil=>
     repeat' ((conv=>whnf)<;>(first|refine aB.go aA T0 ?_|exact kQ|(refine Br.mk (fun _=>?_) (fun _=>?_)<;>(try(exfalso;omega)))|refine stq ?_))
     all_goals(conv=>whnf)
     exact⟨.agg (.cons .nil .nil)⟩
    | cons y ys=>
     repeat' ((conv=>whnf)<;>(first|refine aB.go aA T0 ?_|exact kQ|(refine Br.mk (fun _=>?_) (fun _=>?_)<;>(try(exfalso;omega)))|refine stq ?_))
     all_goals(conv=>whnf)
     exact⟨.agg (.cons (Rd.frzL bM bG rfl rfl rfl rfl rfl) .nil)⟩
  | cons x xs=>
   have hlen:(x::xs).length≤12:=by omega
   have hend:mkR l=mrg [] (gn ltR zR (x::xs)):=by rw[ho];rfl
   have hsl0:(gn ltR zR (x::xs)).length=(x::xs).length:=srtG_len ..;repeat' ((conv=>whnf)<;>(first|refine aB.go aA T0 ?_|exact kQ|(refine Br.mk (fun _=>?_) (fun _=>?_)<;>(try(exfalso;omega)))|refine stq ?_|refine Cll.emb (E3 (l:=x::xs) hlen (by simp)) [(0,1)] [] (.tup []) [(1,.cells ((gn ltR zR (x::xs)).flatMap cX) false)] [(0,.cells [aY] true)] rfl bS bxA rdA bxA (by(repeat(first|exact ap.nil|refine ap.cons rfl rfl rfl ?_|fail));(first|done|fail)) ?_|fail))
   have hsb0:∀ r,r∈gn ltR zR (x::xs)→0≤r.hi∧r.hi≤1114111:=fun r hr=>zZ (by rw[←ho];exact(pN _).1.mem_iff.1 hr)
   generalize hs:gn ltR zR (x::xs)=s at *
   refine aU.by2 aA T0 (fun(k:Nat) (out:List Rng)=>⟨tmp 79 [(2,.ptr 0 0),(7,ai 1 2 out),(36,cx s),(37,i64 s.length),(38,i64 (k:Int))],⟨2,(0,.cells [aY] true)::cY 1 cX out⟩⟩)
    (fun k out=>((k≤s.length∧out.length≤k)∧∀ r,r∈out→0≤r.hi∧r.hi≤1114111)∧mrg [] s=mrg out (s.drop k)) (fun k _=>s.length-k) 0 [] ⟨⟨⟨by omega,by simp⟩,by simp⟩,rfl⟩ ?_ ?_
   ·exact Lf.of2 [(0,_)] [1] (by repeat(first|exact aI.nil|refine aI.cons rfl (by first|exact Rd.frzL bM bG rfl rfl hsl0.symm rfl rfl|exact rdA|fail) ?_)) (by repeat(first|exact Bxs.nil|refine Bxs.cons rfl rfl rfl (by first|exact rbB|exact rbC|fail) ?_)) rfl rfl
   have hsl:s.length≤12:=by omega
   have hsb:=hsb0;intro k out ⟨⟨⟨h6,h7⟩,h9⟩,h8⟩;by_cases hk2:k<s.length
   ·have hd:s.drop k=s[k]::s.drop (k+1):=kK hk2;cases out with
    | nil=>
     repeat' ((conv=>whnf)<;>(first|refine aB.go aA T0 ?_|exact kQ|(refine Br.mk (fun _=>?_) (fun _=>?_)<;>(try(exfalso;omega)))|refine stq ?_))
     all_goals(conv=>whnf)
     refine⟨k+1,[s[k]],⟨⟨⟨by omega,by simp⟩,fun r hr=>by simp only[List.mem_singleton] at hr;subst hr;exact hsb _ (kM hk2)⟩,by rw[h8,hd];rfl⟩,by omega,?_⟩;exact Lf.of2 [(0,_),(1,_)] [] enA bxA rfl rfl
    | cons y ys=>
     have hpos:0<(y::ys).length:=by simp
     have hle:(y::ys).length≤12:=by omega
     have hb1:=h9 _ (kM (show(y::ys).length-1<(y::ys).length by omega));have hb2:=hsb _ (kM hk2);repeat' ((conv=>whnf)<;>(first|refine Get.flat1 bM ((y::ys).length-1) 1 (by dsimp only;omega) (by omega) rfl ?_|refine aB.go aA T0 ?_|exact kQ|(refine Br.mk (fun _=>?_) (fun _=>?_)<;>(try(exfalso;omega)))|refine stq ?_|refine bK.by (id:=16) aA T0 [0,0,2,0,0,16,56,120,248,0,512,2040,4095,8191,16383] (by kernel_rfl) ?_|refine cj.at ((y::ys).length-1) (by omega) (by omega) ?_|refine Put.flat1 bM ((y::ys).length-1) 1 ⟨((y::ys)[(y::ys).length-1]'(by omega)).lo,s[k].hi⟩ (by dsimp only;omega) (by omega) (by omega) rfl ?_|refine Put.flat1 bM ((y::ys).length-1) 1 ⟨((y::ys)[(y::ys).length-1]'(by omega)).lo,((y::ys)[(y::ys).length-1]'(by omega)).hi⟩ (by dsimp only;omega) (by omega) (by omega) rfl ?_|fail))
     all_goals(conv=>whnf)
     all_goals first
      | (have hj:=mU (l:=s.drop (k+1)) hpos (by assumption) (hi:=s[k].hi) (by omega)
         obtain⟨y',ys',he⟩:=iR y ys ((y::ys).length-1) ⟨((y::ys)[(y::ys).length-1]'(by omega)).lo,s[k].hi⟩;have hle':(y' :: ys').length=(y::ys).length:=by rw[←he];simp
         refine⟨k+1,y' :: ys',⟨⟨⟨by omega,by omega⟩,fun r hr=>by rw[←he] at hr;rcases List.mem_or_eq_of_mem_set hr with hr|rfl<;>first|exact h9 r hr|exact hb2⟩,by rw[h8,hd,hj,he]⟩,by omega,?_⟩
         exact Lf.of2 [(0,_),(1,_)] [] (by(repeat(first|exact aI.nil|refine aI.cons rfl (by first|exact Rd.sl' rfl hle'.symm hle'.symm|exact rdA|fail) ?_|fail));(first|done|fail)) (by(repeat(first|exact Bxs.nil|refine Bxs.cons rfl rfl rfl (by first|exact Rb.cells (Rds.eqs (by rw[he]) (aE bG _)) rfl|exact rbB|exact rbC|fail) ?_|fail));(first|done|fail)) rfl rfl)
      | (have hj:=mU (l:=s.drop (k+1)) hpos (by assumption) (hi:=((y::ys)[(y::ys).length-1]'(by omega)).hi) (by omega)
         obtain⟨y',ys',he⟩:=iR y ys ((y::ys).length-1) ⟨((y::ys)[(y::ys).length-1]'(by omega)).lo,((y::ys)[(y::ys).length-1]'(by omega)).hi⟩;have hle':(y' :: ys').length=(y::ys).length:=by rw[←he];simp
         refine⟨k+1,y' :: ys',⟨⟨⟨by omega,by omega⟩,fun r hr=>by rw[←he] at hr;rcases List.mem_or_eq_of_mem_set hr with hr|rfl<;>first|exact h9 r hr|exact hb1⟩,by rw[h8,hd,hj,he]⟩,by omega,?_⟩
         exact Lf.of2 [(0,_),(1,_)] [] (by(repeat(first|exact aI.nil|refine aI.cons rfl (by first|exact Rd.sl' rfl hle'.symm hle'.symm|exact rdA|fail) ?_|fail));(first|done|fail)) (by(repeat(first|exact Bxs.nil|refine Bxs.cons rfl rfl rfl (by first|exact Rb.cells (Rds.eqs (by rw[he]) (aE bG _)) rfl|exact rbB|exact rbC|fail) ?_|fail));(first|done|fail)) rfl rfl)
      | (refine⟨k+1,(y::ys)++[s[k]],⟨⟨⟨by omega,by rw[kG];simp only[List.length_singleton];omega⟩,fun r hr=>by rcases List.mem_append.1 hr with hr|hr<;>first|exact h9 r hr|exact(List.mem_singleton.1 hr)▸hb2⟩,by rw[h8,hd,yV hpos (by assumption)]⟩,by omega,?_⟩
         exact Lf.of2 [(0,_),(1,_)] [] (by(repeat(first|exact aI.nil|refine aI.cons rfl (by first|exact Rd.sl' rfl (by simp) (by simp)|exact rdA|fail) ?_|fail));(first|done|fail)) (by(repeat(first|exact Bxs.nil|refine Bxs.cons rfl rfl rfl (by first|exact Rb.cells (Rds.eqs (ag (c:=cX) (sz:=2) bM (y::ys) s[k]) (aE bG _)) rfl|exact rbB|exact rbC|fail) ?_|fail));(first|done|fail)) rfl rfl)
   ·have he:mrg [] s=out:=by rw[h8,List.drop_of_length_le (by omega)];rfl
    rw[hend,he];cases out with
    | nil=>
     repeat' ((conv=>whnf)<;>(first|refine aB.go aA T0 ?_|exact kQ|(refine Br.mk (fun _=>?_) (fun _=>?_)<;>(try(exfalso;omega)))|refine stq ?_))
     all_goals(conv=>whnf)
     exact⟨.agg (.cons .nil .nil)⟩
    | cons y ys=>
     repeat' ((conv=>whnf)<;>(first|refine aB.go aA T0 ?_|exact kQ|(refine Br.mk (fun _=>?_) (fun _=>?_)<;>(try(exfalso;omega)))|refine stq ?_))
     all_goals(conv=>whnf)
     exact⟨.agg (.cons (Rd.frzL bM bG rfl rfl rfl rfl rfl) .nil)⟩
end
section
open Go Go.Am Classical
set_option maxRecDepth 100000
variable [GT]
theorem pP {l:List Rng}(hl:l.length≤12):Pu Tryz.prog 275 [qt l] (boo (decide (dH l))):=by
 have hm:=EE (l:=l);refine Pu.of_v aA T0 Tryz.func275 rfl rfl (by simp[aJ,aD,aO]) ?_;by_cases hlen:l.length=(mkR l).length
 ·repeat' ((conv=>whnf)<;>(first|refine aB.go aA T0 ?_|exact kQ|(refine Br.mk (fun _=>?_) (fun _=>?_)<;>(try(exfalso;omega)))|refine stq ?_|refine Cll.pu (DG sd) ?_|fail))
  refine aU.by aA T0 (fun k:Nat=>⟨tmp 32 [(1,.ptr 0 0),(17,cx (mkR l)),(18,i64 l.length),(19,i64 (k:Int))],⟨1,[(0,.cells [cx l] true)]⟩⟩)
   (fun k=>k≤l.length∧∀ i (h:i<l.length),i<k→l[i]=(mkR l)[i]'(by omega)) (fun k=>l.length-k) 0 ⟨by omega,fun _ _ h=>by omega⟩ ?_ ?_
  ·exact Lf.of2 [(0,_)] [] enA bxA rfl rfl
  intro k ⟨h3,h4⟩;by_cases hk:k<l.length
  ·have hk':k<(mkR l).length:=by omega
   by_cases he:(mkR l)[k]=l[k]
   ·repeat' ((conv=>whnf)<;>(first|refine aB.go aA T0 ?_|exact kQ|(refine Br.mk (fun _=>?_) (fun _=>?_)<;>(try(exfalso;omega)))|refine stq ?_|refine bK.by aA T0 [0,0,2,0,14,30,63] (by kernel_rfl) ?_|refine Idx.atS (sz:=2) (c:=cX) (fun _=>rfl) k (by omega) (by omega) ?_|(split<;>rename_i heq<;>rw[he] at heq<;>first|(obtain rfl:=Option.some.inj (nN.symm.trans heq))|exact absurd (nN.symm.trans heq) (by simp))))
    all_goals(conv=>whnf)
    refine⟨k+1,⟨by omega,ay (by omega) h4 he.symm⟩,by omega,?_⟩;exact Lf.of2 [(0,_)] [] enA bxA rfl rfl
   ·repeat' ((conv=>whnf)<;>(first|refine aB.go aA T0 ?_|exact kQ|(refine Br.mk (fun _=>?_) (fun _=>?_)<;>(try(exfalso;omega)))|refine stq ?_|refine bK.by aA T0 [0,0,2,0,14,30,63] (by kernel_rfl) ?_|refine Idx.atS (sz:=2) (c:=cX) (fun _=>rfl) k (by omega) (by omega) ?_|(split<;>rename_i heq<;>first|(obtain rfl:=Option.some.inj ((lA he).symm.trans heq))|exact absurd ((lA he).symm.trans heq) (by simp))))
    all_goals(conv=>whnf)
    exact aH.no (fun hc=>he (List.getElem_of_eq (hm.2 hc).symm (by omega)))
  ·repeat' ((conv=>whnf)<;>(first|refine aB.go aA T0 ?_|exact kQ|(refine Br.mk (fun _=>?_) (fun _=>?_)<;>(try(exfalso;omega)))|refine stq ?_))
   all_goals(conv=>whnf)
   exact aH.yes (hm.1 (List.ext_getElem hlen fun i h1 h2=>h4 i h1 (by omega)))
 ·repeat' ((conv=>whnf)<;>(first|refine aB.go aA T0 ?_|exact kQ|(refine Br.mk (fun _=>?_) (fun _=>?_)<;>(try(exfalso;omega)))|refine stq ?_|refine Cll.pu (DG sd) ?_|fail))
  all_goals(conv=>whnf)
  exact aH.no (fun hc=>hlen (congrArg List.length (hm.2 hc)))
end
section
open Go Go.Am Classical
set_option maxRecDepth 100000
variable [GT]
theorem rt {s:Str}(hs:s.length≤9223372036854775807):Pu Tryz.prog 268 [.str s] (boo (decide (lw s))):=by
 refine Pu.of_v aA T0 Tryz.func268 rfl rfl rfl ?_;repeat' ((conv=>whnf)<;>(first|refine aB.go aA T0 ?_|exact kQ|(refine Br.mk (fun _=>?_) (fun _=>?_)<;>(try(exfalso;omega)))|refine stq ?_))
 all_goals(conv=>whnf)
 all_goals first
  | exact aH.no (fun hc=>hc.1 (by assumption))
  | exact aH.no (fun hc=>by have:=hc.2.1;omega)
  | skip
 refine aU.by aA T0 (fun k:Nat=>⟨tmp 51 [(0,.str s),(14,i64 s.length),(15,i64 (k:Int))],⟨0,[]⟩⟩) (fun k=>k≤s.length∧∀ i (h:i<s.length),i<k→wb (s[i].toNat:Int)) (fun k=>s.length-k) 0 ⟨by omega,fun _ _ h=>by omega⟩ ?_ ?_
 ·exact Lf.of2 [] [] enA bxA rfl rfl
 intro k ⟨h1,h2⟩;repeat' ((conv=>whnf)<;>(first|refine aB.go aA T0 ?_|exact kQ|(refine Br.mk (fun _=>?_) (fun _=>?_)<;>(try(exfalso;omega)))|refine stq ?_))
 all_goals(conv=>whnf)
 all_goals first
  | exact aH.no (fun hc=>absurd (hc.2.2 k (by omega)) (by unfold wb;omega))
  | exact aH.yes ⟨by assumption,by omega,cA (by omega) h2⟩
  | (refine⟨k+1,⟨by omega,ay (by omega) h2 (by unfold wb;omega)⟩,by omega,?_⟩
     exact Lf.of2 [] [] enA bxA rfl rfl)
theorem B2 {x:Str}:Pu Tryz.prog 271 [.str x] (boo false):=by
 refine Pu.of_v aA T0 Tryz.func271 rfl rfl rfl ?_;repeat' ((conv=>whnf)<;>(first|refine aB.go aA T0 ?_|exact kQ|(refine Br.mk (fun _=>?_) (fun _=>?_)<;>(try(exfalso;omega)))|refine stq ?_))
 all_goals(conv=>whnf)
 all_goals first
  | exact aH.same rfl rfl
  | (exfalso;rename_i h;exact h rfl)
theorem cmpS_c {x y:Str}:Pu Tryz.prog 270 [.str x,.str y] (i64 (td x y)):=by
 refine Pu.of_v aA T0 Tryz.func270 rfl rfl rfl ?_;repeat' ((conv=>whnf)<;>(first|refine aB.go aA T0 ?_|exact kQ|(refine Br.mk (fun _=>?_) (fun _=>?_)<;>(try(exfalso;omega)))|refine stq ?_|refine Cll.pu (B2) ?_))
 all_goals(conv=>whnf)
 all_goals first
  | exact aH.int (by rename_i h;rw[td,if_pos h])
  | exact aH.int (by rename_i h1 h2;rw[td,if_neg h1,if_pos (h2.resolve_left h1)])
  | exact aH.int (by rename_i h1 h2;rw[td,if_neg h1,if_neg (fun e=>h2 (.inr e))])
theorem Eo {a b:Mpg}:Ck a b=ge [gq a.frm b.frm,td a.tag b.tag]:=by
 unfold Ck ge ge ge;repeat' split
 all_goals first|rfl|omega
theorem lJ {a b:Mpg}:Pu Tryz.prog 266 [.agg (ib a),.agg (ib b)] (i64 (Ck a b)):=by
 refine Pu.of_v aA T0 Tryz.func266 rfl rfl (by simp[aD,aJ,aM]) ?_
 repeat' ((conv=>whnf)<;>(first|refine aB.go aA T0 ?_|exact kQ|(refine Br.mk (fun _=>?_) (fun _=>?_)<;>(try(exfalso;omega)))|refine stq ?_|refine bK.byM (id:=1) aA T0 [0,1,0,4,15,0,32,0,128,511,1023,2047,4095] (by kernel_rfl) ?_|refine CM.pu ft ?_|refine CM.pu cmpS_c ?_|refine Chk.mk ⟨_,rfl⟩ ?_|(refine CM.w ?_;refine Cll.emb (Or_c (l:=[gq a.frm b.frm,td a.tag b.tag]) (by simp) ⟨0,[]⟩) [] [13] (i64 (ge [gq a.frm b.frm,td a.tag b.tag])) [] [(0,.cells (ib a) true),(1,.cells (ib b) true)] rfl (by(repeat(first|exact Rds.nil|refine Rds.cons (by first|exact Rd.frz rfl rfl (kD rfl) (Rds.eqs rfl rfl)|exact rdA|fail) ?_|fail));(first|done|fail)) (by(repeat(first|exact Bxs.nil|refine Bxs.cons rfl rfl rfl (by first|exact rbB|exact Rb.cells (by(repeat(first|exact Rds.nil|refine Rds.cons (by first|exact Rd.frz rfl rfl (kD rfl) (Rds.eqs rfl rfl)|exact rdA|fail) ?_|fail));(first|done|fail)) rfl|exact rbC|fail) ?_|fail));(first|done|fail)) (by first|exact Rd.frz rfl rfl (kD rfl) (Rds.eqs rfl rfl)|exact rdA|fail) (by(repeat(first|exact Bxs.nil|refine Bxs.cons rfl rfl rfl (by first|exact rbB|exact Rb.cells (by(repeat(first|exact Rds.nil|refine Rds.cons (by first|exact Rd.frz rfl rfl (kD rfl) (Rds.eqs rfl rfl)|exact rdA|fail) ?_|fail));(first|done|fail)) rfl|exact rbC|fail) ?_|fail));(first|done|fail)) (by(repeat(first|exact ap.nil|refine ap.cons rfl rfl rfl ?_|fail));(first|done|fail)) ?_)|fail))
 all_goals(conv=>whnf)
 exact aH.int Eo.symm
abbrev EP (m:Mpg):D:=.agg [i64 m.frm,.str m.tag]
theorem yZ {m:Mpg}:Pu Tryz.prog 267 [.agg (ib m)] (EP m):=by
 refine Pu.of_v aA T0 Tryz.func267 rfl rfl (by simp[aD,aJ,aM]) ?_;repeat' ((conv=>whnf)<;>(first|refine aB.go aA T0 ?_|exact kQ|(refine Br.mk (fun _=>?_) (fun _=>?_)<;>(try(exfalso;omega)))|refine stq ?_))
 all_goals(conv=>whnf)
 exact aH.same rfl rfl
structure DD (l:List Mpg):Prop where
 len:l.length≤9223372036854775806
 to:∀ i (h:i<l.length),l[i].to.length≤9223372036854775807
 tag:∀ i (h:i<l.length),l[i].tag.length≤9223372036854775807
theorem pE1 {l:List Mpg}{k:Nat}(hk:k<l.length) (h:¬kZ l[k]):dw l=1:=by rw[dw,if_neg (fun hc=>h (hc k hk))]
theorem pE2 {l:List Mpg}(h1:∀ i (h:i<l.length),kZ l[i]){k:Nat}(hk:k<l.length) (h:¬l[k].to.length≤64):dw l=2:=by rw[dw,if_pos h1,if_neg (fun hc=>h (hc k hk))]
theorem pE6 {l:List Mpg}(h1:∀ i (h:i<l.length),kZ l[i]) (h2:∀ i (h:i<l.length),l[i].to.length≤64){k:Nat}(hk:k<l.length) (h:¬Ao l[k]):dw l=6:=by rw[dw,if_pos h1,if_pos h2,if_neg (fun hc=>h (hc k hk))]
theorem pE0 {l:List Mpg}(h1:∀ i (h:i<l.length),kZ l[i]) (h2:∀ i (h:i<l.length),l[i].to.length≤64) (h3:∀ i (h:i<l.length),Ao l[i]):dw l=0:=by rw[dw,if_pos h1,if_pos h2,if_pos h3]
theorem yE {l:List Mpg}(ho:DD l):Pu Tryz.prog 265 [cn l] (i64 (dw l)):=by
 have hlen:=ho.len;refine Pu.of_v aA T0 Tryz.func265 rfl rfl (by simp[aD,aP]) ?_;repeat' ((conv=>whnf)<;>(first|refine aB.go aA T0 ?_|exact kQ|(refine Br.mk (fun _=>?_) (fun _=>?_)<;>(try(exfalso;omega)))|refine stq ?_))
 refine aU.by aA T0 (fun k:Nat=>⟨tmp 60 [(0,cn l),(11,cn l),(12,i64 l.length),(13,i64 (k:Int))],⟨0,[]⟩⟩)
  (fun k=>k≤l.length∧∀ i (h:i<l.length),i<k→kZ l[i]) (fun k=>l.length-k) 0 ⟨by omega,fun _ _ h=>by omega⟩ ?_ ?_
 ·exact Lf.of2 [] [] enA bxA rfl rfl
 intro k ⟨h3,h4⟩;by_cases hk:k<l.length
 ·have hto:=ho.to k hk;by_cases hf:cpQ l[k].frm
  ·repeat' ((conv=>whnf)<;>(first|refine aB.go aA T0 ?_|exact kQ|(refine Br.mk (fun _=>?_) (fun _=>?_)<;>(try(exfalso;omega)))|refine stq ?_|refine Cll.dec (eQ) (fun _=>?_) (fun _=>?_)|refine aN.dec (eQ) (fun _=>?_) (fun _=>?_)))
   all_goals(conv=>whnf)
   all_goals first
    | (exfalso;rename_i h;exact h hf)
    | skip
   refine aU.by aA T0 (fun j:Nat=>⟨tmp 60 [(0,cn l),(11,cn l),(12,i64 l.length),(13,i64 (k:Int)),(22,aZ l[k].to),(23,i64 l[k].to.length),(24,i64 (j:Int))],⟨0,[]⟩⟩)
    (fun j=>j≤l[k].to.length∧∀ i (h:i<l[k].to.length),i<j→cpQ l[k].to[i]) (fun j=>l[k].to.length-j) 0 ⟨by omega,fun _ _ h=>by omega⟩ ?_ ?_
   ·exact Lf.of2 [] [] enA bxA rfl rfl
   intro j ⟨h5,h6⟩;repeat' ((conv=>whnf)<;>(first|refine aB.go aA T0 ?_|exact kQ|(refine Br.mk (fun _=>?_) (fun _=>?_)<;>(try(exfalso;omega)))|refine stq ?_|refine Cll.dec (eQ) (fun _=>?_) (fun _=>?_)|refine aN.dec (eQ) (fun _=>?_) (fun _=>?_)))
   all_goals(conv=>whnf)
   all_goals first
    | exact aH.int (pE1 hk fun hc=>by rename_i h;exact h (hc.2 j (by omega))).symm
    | (refine⟨j+1,⟨by omega,ay (by omega) h6 (by assumption)⟩,by omega,?_⟩
       exact Lf.of2 [] [] enA bxA rfl rfl)
    | (refine⟨k+1,⟨by omega,ay (by omega) h4 ⟨hf,cA (by omega) h6⟩⟩,by omega,?_⟩
       exact Lf.of2 [] [] enA bxA rfl rfl)
  ·repeat' ((conv=>whnf)<;>(first|refine aB.go aA T0 ?_|exact kQ|(refine Br.mk (fun _=>?_) (fun _=>?_)<;>(try(exfalso;omega)))|refine stq ?_|refine Cll.dec (eQ) (fun _=>?_) (fun _=>?_)|refine aN.dec (eQ) (fun _=>?_) (fun _=>?_)))
   all_goals(conv=>whnf)
   all_goals first
    | (exfalso;rename_i h;exact hf h)
    | exact aH.int (pE1 hk fun hc=>hf hc.1).symm
 ·have g1:=cA (by omega:l.length≤k) h4;repeat' ((conv=>whnf)<;>(first|refine aB.go aA T0 ?_|exact kQ|(refine Br.mk (fun _=>?_) (fun _=>?_)<;>(try(exfalso;omega)))|refine stq ?_|fail))
  refine aU.by aA T0 (fun k:Nat=>⟨tmp 60 [(0,cn l),(33,cn l),(34,i64 l.length),(35,i64 (k:Int))],⟨0,[]⟩⟩)
   (fun k=>k≤l.length∧∀ i (h:i<l.length),i<k→l[i].to.length≤64) (fun k=>l.length-k) 0 ⟨by omega,fun _ _ h=>by omega⟩ ?_ ?_
  ·exact Lf.of2 [] [] enA bxA rfl rfl
  intro k ⟨h3,h4⟩;by_cases hk:k<l.length
  ·have hto:=ho.to k hk;repeat' ((conv=>whnf)<;>(first|refine aB.go aA T0 ?_|exact kQ|(refine Br.mk (fun _=>?_) (fun _=>?_)<;>(try(exfalso;omega)))|refine stq ?_))
   all_goals(conv=>whnf)
   all_goals first
    | exact aH.int (pE2 g1 hk (by omega)).symm
    | (refine⟨k+1,⟨by omega,ay (by omega) h4 (by omega)⟩,by omega,?_⟩
       exact Lf.of2 [] [] enA bxA rfl rfl)
  ·have g2:=cA (by omega:l.length≤k) h4;repeat' ((conv=>whnf)<;>(first|refine aB.go aA T0 ?_|exact kQ|(refine Br.mk (fun _=>?_) (fun _=>?_)<;>(try(exfalso;omega)))|refine stq ?_|fail))
   refine aU.by aA T0 (fun k:Nat=>⟨tmp 60 [(44,cn l),(45,i64 l.length),(46,i64 (k:Int))],⟨0,[]⟩⟩)
    (fun k=>k≤l.length∧∀ i (h:i<l.length),i<k→Ao l[i]) (fun k=>l.length-k) 0 ⟨by omega,fun _ _ h=>by omega⟩ ?_ ?_
   ·exact Lf.of2 [] [] enA bxA rfl rfl
   intro k ⟨h3,h4⟩;by_cases hk:k<l.length
   ·have htg:=ho.tag k hk;repeat' ((conv=>whnf)<;>(first|refine aB.go aA T0 ?_|exact kQ|(refine Br.mk (fun _=>?_) (fun _=>?_)<;>(try(exfalso;omega)))|refine stq ?_|refine Cll.dec (rt sd) (fun _=>?_) (fun _=>?_)|refine aN.dec (rt sd) (fun _=>?_) (fun _=>?_)))
    all_goals(conv=>whnf)
    all_goals first
     | exact aH.int (pE6 g1 g2 hk (by rintro(h|h)<;>contradiction)).symm
     | (refine⟨k+1,⟨by omega,ay (by omega) h4 (by first|exact .inl (by assumption)|exact .inr (by assumption))⟩,by omega,?_⟩
        exact Lf.of2 [] [] enA bxA rfl rfl)
   ·repeat' ((conv=>whnf)<;>(first|refine aB.go aA T0 ?_|exact kQ|(refine Br.mk (fun _=>?_) (fun _=>?_)<;>(try(exfalso;omega)))|refine stq ?_))
    all_goals(conv=>whnf)
    exact aH.int (pE0 g1 g2 (cA (by omega) h4)).symm
end
section
open Go Go.Am Classical
set_option maxRecDepth 100000
variable [GT]
def Bz (a b:Mpg):Prop:=a.frm=b.frm∧a.tag=b.tag
abbrev vB (l:List Mpg):List (D×D):=l.map fun m=>(EP m,boo true)
theorem nZ {h:aC}{m:Mpg}:∀ {l:List Mpg}{i:Nat},∃ r,cz h (EP m) (vB l) i=some r∧((∃ x,x∈l∧Bz m x)∧(∃ j,r=some (j,boo true))∨(¬∃ x,x∈l∧Bz m x)∧r=none)
 | [],i=>⟨none,rfl,.inr ⟨by simp,rfl⟩⟩
 | x::l,i=>by
  simp only[vB,List.map_cons,cz,cD,gJ,d6,if_true];by_cases h1:m.frm=x.frm
  ·by_cases h2:m.tag=x.tag
   ·rw[show(m.frm == x.frm&&m.tag == x.tag)=true from by simp[h1,h2]];exact⟨_,rfl,.inl ⟨⟨x,by simp,h1,h2⟩,i,rfl⟩⟩
   ·rw[show(m.frm == x.frm&&m.tag == x.tag)=false from by simp[h2]];obtain⟨r,h3,h4⟩:=nZ (h:=h) (m:=m) (l:=l) (i:=i+1);refine⟨r,h3,h4.imp (fun⟨⟨y,hy,hk⟩,hr⟩=>⟨⟨y,by simp[hy],hk⟩,hr⟩) (fun⟨hn,hr⟩=>⟨?_,hr⟩)⟩;rintro⟨y,hy,hk⟩;rcases List.mem_cons.1 hy with rfl|hy
    ·exact h2 hk.2
    ·exact hn ⟨y,hy,hk⟩
  ·rw[show(m.frm == x.frm&&m.tag == x.tag)=false from by simp[h1]];obtain⟨r,h3,h4⟩:=nZ (h:=h) (m:=m) (l:=l) (i:=i+1);refine⟨r,h3,h4.imp (fun⟨⟨y,hy,hk⟩,hr⟩=>⟨⟨y,by simp[hy],hk⟩,hr⟩) (fun⟨hn,hr⟩=>⟨?_,hr⟩)⟩;rintro⟨y,hy,hk⟩;rcases List.mem_cons.1 hy with rfl|hy
   ·exact h1 hk.1
   ·exact hn ⟨y,hy,hk⟩
theorem fg.key {h:aC}{m:Mpg}{l:List Mpg}{K:Option (Nat×D)→Prop}(yes:∀ i,(∃ x,x∈l∧Bz m x)→K (some (i,boo true))) (no:(¬∃ x,x∈l∧Bz m x)→K none):fg h (EP m) (vB l) K:=by
 obtain⟨r,h1,h2⟩:=nZ (h:=h) (m:=m) (l:=l) (i:=0);refine⟨r,h1,?_⟩;rcases h2 with⟨h3,j,rfl⟩|⟨h3,rfl⟩
 ·exact yes j h3
 ·exact no h3
theorem wu (l:List Mpg):∀ p∈vB l,aJ p.1=true∧aJ p.2=true:=by
 intro p hp;obtain⟨m,_,rfl⟩:=List.mem_map.1 hp;exact⟨rfl,rfl⟩
theorem dec_go {p:Prop}{inst:Decidable p}{F:¬p→Prop}{G:p→Prop}(hp:p) (go:G hp):Decidable.rec (motive:=fun _=>Prop) F G inst:=by
 cases inst with
 | isFalse h=>exact absurd hp h
 | isTrue h=>exact go
def Seen (l:List Mpg) (i:Nat) (h:i<l.length):Prop:=∃ x,x∈l.take i∧Bz l[i] x
theorem u3 {l:List Mpg}(ho:DD l):∃ e:Int,Pu Tryz.prog 264 [cn l] (i64 e)∧(e=0↔MOk l):=by
 have hlen:=ho.len;by_cases h0:dw l=0
 ·have hp:Pu Tryz.prog 265 [cn l] (i64 0):=h0▸yE ho;by_cases ha:Asc l
  ·refine⟨0,?_,fun _=>⟨h0,ha⟩,fun _=>rfl⟩;refine Pu.of_v aA T0 Tryz.func264 rfl rfl (by simp[aD,aP]) ?_;repeat' ((conv=>whnf)<;>(first|refine aB.go aA T0 ?_|exact kQ|(refine Br.mk (fun _=>?_) (fun _=>?_)<;>(try(exfalso;omega)))|refine stq ?_|refine Cll.pu (hp) ?_|refine aN.pu (hp) ?_|fail))
   refine aU.by aA T0 (fun k:Nat=>⟨tmp 47 [(0,cn l),(4,boo true),(5,i64 ((k+1:Nat):Int))],⟨0,[]⟩⟩)
    (fun k=>k≤l.length) (fun k=>l.length-k) 0 (by omega) ?_ ?_
   ·exact Lf.of2 [] [] enA bxA rfl rfl
   intro k h3;by_cases hk:k+1<l.length
   ·have hb:=yp.2 (ha (k+1) hk (by omega));simp only[Nat.add_sub_cancel] at hb;repeat' ((conv=>whnf)<;>(first|refine Idx.atS (sz:=3) (c:=ib) (by intro _;rfl) k (by omega) (by omega) ?_|refine Idx.atS (sz:=3) (c:=ib) (by intro _;rfl) (k+1) (by omega) (by omega) ?_|refine aB.go aA T0 ?_|exact kQ|(refine Br.mk (fun _=>?_) (fun _=>?_)<;>(try(exfalso;omega)))|refine stq ?_|refine Cll.pu (lJ) ?_|refine aN.pu (lJ) ?_))
    all_goals(conv=>whnf)
    refine⟨k+1,by omega,by omega,?_⟩;exact Lf.of2 [] [] enA bxA rfl rfl
   ·repeat' ((conv=>whnf)<;>(first|refine aB.go aA T0 ?_|exact kQ|(refine Br.mk (fun _=>?_) (fun _=>?_)<;>(try(exfalso;omega)))|refine stq ?_))
    all_goals(conv=>whnf)
    exact aH.same rfl rfl
  ·refine⟨if ∃ i,∃ h:i<l.length,Seen l i h then 5 else 4,?_,fun h=>by split at h<;>omega,fun h=>absurd h.2 ha⟩;refine Pu.of_v aA T0 Tryz.func264 rfl rfl (by simp[aD,aP]) ?_;repeat' ((conv=>whnf)<;>(first|refine aB.go aA T0 ?_|exact kQ|(refine Br.mk (fun _=>?_) (fun _=>?_)<;>(try(exfalso;omega)))|refine stq ?_|refine Cll.pu (hp) ?_|refine aN.pu (hp) ?_|fail))
   refine aU.by2 aA T0 (fun(k:Nat) (b:Bool)=>⟨tmp 47 [(0,cn l),(4,boo b),(5,i64 ((k+1:Nat):Int))],⟨0,[]⟩⟩)
    (fun k b=>k≤l.length∧(b=true→∀ i (h:i<l.length),i≤k→∀ h0:i≠0,bef (l[i-1]'(by omega)) l[i])) (fun k _=>l.length-k) 0 true ⟨by omega,fun _ i h hi h0=>by omega⟩ ?_ ?_
   ·exact Lf.of2 [] [] enA bxA rfl rfl
   intro k b ⟨h3,h4⟩;by_cases hk:k+1<l.length
   ·repeat' ((conv=>whnf)<;>(first|refine Idx.atS (sz:=3) (c:=ib) (by intro _;rfl) k (by omega) (by omega) ?_|refine Idx.atS (sz:=3) (c:=ib) (by intro _;rfl) (k+1) (by omega) (by omega) ?_|refine aB.go aA T0 ?_|exact kQ|(refine Br.mk (fun _=>?_) (fun _=>?_)<;>(try(exfalso;omega)))|refine stq ?_|refine Cll.pu (lJ) ?_|refine aN.pu (lJ) ?_))
    all_goals(conv=>whnf)
    ·refine⟨k+1,false,⟨by omega,fun h=>by cases h⟩,by omega,?_⟩;exact Lf.of2 [] [] enA bxA rfl rfl
    ·rename_i hc;refine⟨k+1,b,⟨by omega,fun hb i h hi h0=>?_⟩,by omega,?_⟩
     ·by_cases he:i=k+1
      ·subst he;have:=yp.1 (Int.not_le.1 hc)
       simpa using this
      ·exact h4 hb i h (by omega) h0
     exact Lf.of2 [] [] enA bxA rfl rfl
   ·have hbf:b=false:=by
     cases b with
     | false=>rfl
     | true=>exact absurd (fun i h h0=>h4 rfl i h (by omega) h0) ha
    subst hbf;repeat' ((conv=>whnf)<;>(first|refine aB.go aA T0 ?_|exact kQ|(refine Br.mk (fun _=>?_) (fun _=>?_)<;>(try(exfalso;omega)))|refine stq ?_|fail))
    refine aU.by aA T0 (fun k:Nat=>⟨tmp 47 [(6,.map 0),(33,cn l),(34,i64 l.length),(35,i64 (k:Int))],⟨1,[(0,.map (vB (l.take k)))]⟩⟩)
     (fun k=>k≤l.length∧∀ i (h:i<l.length),i<k→¬Seen l i h) (fun k=>l.length-k) 0 ⟨by omega,fun _ _ h=>by omega⟩ ?_ ?_
    ·exact Lf.of2 [(0,_)] [] enA bxA rfl rfl
    intro k ⟨h5,h6⟩;repeat' ((conv=>whnf)<;>(first|refine aB.go aA T0 ?_|exact kQ|(refine Br.mk (fun _=>?_) (fun _=>?_)<;>(try(exfalso;omega)))|refine stq ?_|refine Cll.pu (yZ) ?_|refine aN.pu (yZ) ?_|refine dec_go (by kernel_rfl) ?_|(refine fg.key (fun _ _=>?_) (fun _=>?_)<;>(try contradiction))))
    all_goals(conv=>whnf)
    all_goals first
     | (rename_i hs;exact aH.int (by rw[if_pos ⟨k,by omega,hs⟩]))
     | exact aH.int (by rw[if_neg (fun⟨i,h,hs⟩=>h6 i h (by omega) hs)])
     | skip
    refine⟨k+1,⟨by omega,ay (by omega) h6 (by assumption)⟩,by omega,?_⟩;exact Lf.of2 [(0,_)] [] enA (by repeat(first|exact Bxs.nil|refine Bxs.cons rfl rfl rfl (by first|exact Rb.map (Res.eqs (j9 (by omega)) (wu _))|exact rbB|exact Rb.cells bS rfl|exact rbC|fail) ?_)) rfl rfl
 ·have hp:=yE ho;refine⟨dw l,?_,fun h=>absurd h h0,fun h=>h.1⟩;refine Pu.of_v aA T0 Tryz.func264 rfl rfl (by simp[aD,aP]) ?_;repeat' ((conv=>whnf)<;>(first|refine aB.go aA T0 ?_|exact kQ|(refine Br.mk (fun _=>?_) (fun _=>?_)<;>(try(exfalso;omega)))|refine stq ?_|refine Cll.pu (hp) ?_))
  all_goals(conv=>whnf)
  exact aH.same rfl rfl
end
section
open Go Go.Am Classical
set_option maxRecDepth 100000
variable [GT]
theorem j4:∀ {l:List D}(n:Nat),aD l=true→aD (l.drop n)=true
 | l,0,h=>by simpa using h
 | [],n+1,_=>by simp[aD]
 | d::l,n+1,h=>by simp only[aD,kC] at h;simpa using j4 n h.2
def bB:List Str:=[[118,101,114,115,105,111,110],[99,97,116,101,103,111,114,121],[119,105,100,116,104],[115,99,114,105,112,116],[103,114,97,112,104,101,109,101],[119,111,114,100],[115,101,110,116,101,110,99,101],[108,105,110,101],[99,108,97,115,115,101,115],[100,101,99,111,109,112,111,115,105,116,105,111,110],[101,120,99,108,117,115,105,111,110,115],[108,111,119,101,114],[117,112,112,101,114],[116,105,116,108,101],[102,111,108,100],[99,97,115,101,100],[105,103,110,111,114,97,98,108,101],[115,116,97,114,116],[99,111,110,116,105,110,117,101],[109,101,100,105,97,108],[99,111,110,102,117,115,97,98,108,101]]
def hG (k:Nat):Str:=bB.getD k []
def ftyp (k:Nat):TypeId:=([118,120,120,120,120,120,120,120,123,126,129,126,126,126,126,129,129,129,129,129,126]:List Nat).getD k 0
def fchk (k:Nat):FuncId:=([252,255,255,255,255,255,255,255,258,261,272,261,261,261,261,272,272,272,272,272,261]:List Nat).getD k 0
def foff (k:Nat):Nat:=([0,2,4,6,8,10,12,14,16,17,18,19,20,21,22,23,24,25,26,27,28]:List Nat).getD k 0
theorem Ed:Pu Tryz.prog 34 [] (strs bB):=by
 refine Pu.of_v aA T0 Tryz.func34 rfl rfl rfl ?_;repeat' ((conv=>whnf)<;>(first|refine aB.go aA T0 ?_|exact kQ|(refine Br.mk (fun _=>?_) (fun _=>?_)<;>(try(exfalso;omega)))|refine stq ?_))
 all_goals(conv=>whnf)
 exact⟨Rd.frz rfl rfl (kD rfl) (Rds.eqs rfl rfl)⟩
set_option maxHeartbeats 8000000 in
theorem cv (d:Db):∀ k,k<21→Pu Tryz.prog 35 [.iptr (dbC d),.str (hG k)] (.iface (ftyp k) (.agg [.iptr ((dbC d).drop (foff k))])):=by
 intro k hk;have hn:aJ (.iface (ftyp k) (.agg [.iptr ((dbC d).drop (foff k))]))=true:=by simp[aJ,aD,j4 _ (am d)]
 rcases(by omega:k=0∨k=1∨k=2∨k=3∨k=4∨k=5∨k=6∨k=7∨k=8∨k=9∨k=10∨k=11∨k=12∨k=13∨k=14∨k=15∨k=16∨k=17∨k=18∨k=19∨k=20) with rfl|rfl|rfl|rfl|rfl|rfl|rfl|rfl|rfl|rfl|rfl|rfl|rfl|rfl|rfl|rfl|rfl|rfl|rfl|rfl|rfl
 all_goals
  refine Pu.of_v aA T0 Tryz.func35 rfl rfl (by simp[aJ,aD,aG,aK,aP,aO]) ?_;repeat' ((conv=>whnf)<;>(first|refine Br.strF rfl ?_|refine Br.strT rfl ?_|refine aB.go aA T0 ?_|exact kQ|(refine Br.mk (fun _=>?_) (fun _=>?_)<;>(try(exfalso;omega)))|refine stq ?_))
  all_goals(conv=>whnf)
  exact⟨Rd.eqd rfl hn⟩
theorem Af {a b:Int}{rest:List D}(hr:aD rest=true):Pu Tryz.prog 252 [.agg [.iptr (i64 a::i64 b::rest)]] (i64 (if sc a∧sc b then 0 else 1)):=by
 refine Pu.of_v aA T0 Tryz.func252 rfl rfl (by simp[aJ,aD,hr]) ?_;repeat' ((conv=>whnf)<;>(first|refine aB.go aA T0 ?_|exact kQ|(refine Br.mk (fun _=>?_) (fun _=>?_)<;>(try(exfalso;omega)))|refine stq ?_))
 refine aU.times aA T0 3 ?_;repeat' ((conv=>whnf)<;>(first|refine aB.go aA T0 ?_|exact kQ|(refine Br.mk (fun _=>?_) (fun _=>?_)<;>(try(exfalso;omega)))|refine stq ?_))
 all_goals(conv=>whnf)
 all_goals first
  | exact aH.int (by rw[if_neg (by rintro⟨⟨_,_⟩,_,_⟩;omega)])
  | exact aH.int (by rw[if_pos ⟨⟨by omega,by omega⟩,by omega,by omega⟩])
theorem gO {p:Prp}{rest:List D}(hp:p.ok) (hr:aD rest=true):Pu Tryz.prog 255 [.agg [.iptr (strs p.names::dK p.spans::rest)]] (i64 (if PrV p then 0 else 11)):=by
 refine Pu.of_v aA T0 Tryz.func255 rfl rfl (by simp[aJ,aD,hr,aG,aK]) ?_;repeat' ((conv=>whnf)<;>(first|refine aB.go aA T0 ?_|exact kQ|(refine Br.mk (fun _=>?_) (fun _=>?_)<;>(try(exfalso;omega)))|refine stq ?_|refine Cll.dec (mM sd) (fun _=>?_) (fun _=>?_)|refine aN.dec (mM sd) (fun _=>?_) (fun _=>?_)))
 all_goals(conv=>whnf)
 all_goals first
  | exact aH.int (by rename_i h;rw[if_pos h])
  | exact aH.int (by rename_i h;rw[if_neg h])
theorem iS {l:List Rng}{rest:List D}(hl:l.length≤12) (hr:aD rest=true):Pu Tryz.prog 272 [.agg [.iptr (cx l::rest)]] (i64 (if dH l then 0 else 11)):=by
 refine Pu.of_v aA T0 Tryz.func272 rfl rfl (by simp[aJ,aD,hr,aO]) ?_;repeat' ((conv=>whnf)<;>(first|refine aB.go aA T0 ?_|exact kQ|(refine Br.mk (fun _=>?_) (fun _=>?_)<;>(try(exfalso;omega)))|refine stq ?_|refine Cll.dec (pP sd) (fun _=>?_) (fun _=>?_)|refine aN.dec (pP sd) (fun _=>?_) (fun _=>?_)))
 all_goals(conv=>whnf)
 all_goals first
  | exact aH.int (by rename_i h;rw[if_pos h])
  | exact aH.int (by rename_i h;rw[if_neg h])
theorem ic {l:List Mpg}{rest:List D}{e:Int}(he:Pu Tryz.prog 264 [cn l] (i64 e)) (hr:aD rest=true):Pu Tryz.prog 261 [.agg [.iptr (cn l::rest)]] (i64 e):=by
 refine Pu.of_v aA T0 Tryz.func261 rfl rfl (by simp[aJ,aD,hr,aP]) ?_;repeat' ((conv=>whnf)<;>(first|refine aB.go aA T0 ?_|exact kQ|(refine Br.mk (fun _=>?_) (fun _=>?_)<;>(try(exfalso;omega)))|refine stq ?_|refine Cll.pu (he) ?_))
 all_goals(conv=>whnf)
 exact aH.same rfl rfl
theorem Cn {l:List Spn}{rest:List D}(hl:l.length≤9223372036854775807) (hr:aD rest=true):Pu Tryz.prog 258 [.agg [.iptr (dK l::rest)]] (i64 (if ClV l then 0 else 11)):=by
 have hnb:aD [D.iptr (dK l::rest)]=true:=by simp[aD,aJ,aK,hr]
 refine Pu.of_v aA T0 Tryz.func258 rfl rfl (by simp[aJ,aD,hr,aK]) ?_;repeat' ((conv=>whnf)<;>(first|refine aB.go aA T0 ?_|exact kQ|(refine Br.mk (fun _=>?_) (fun _=>?_)<;>(try(exfalso;omega)))|refine stq ?_))
 refine aU.by aA T0 (fun k:Nat=>⟨tmp 72 [(1,.ptr 0 0),(9,dK l),(10,i64 l.length),(11,i64 (k:Int))],⟨1,[(0,.cells [.iptr (dK l::rest)] true)]⟩⟩)
  (fun k=>k≤l.length∧∀ i (h:i<l.length),i<k→ClQ l i l[i]) (fun k=>l.length-k) 0 ⟨by omega,fun _ _ h=>by omega⟩ ?_ ?_
 ·exact Lf.of2 [(0,_)] [] enA (by repeat(first|exact Bxs.nil|refine Bxs.cons rfl rfl rfl (by first|exact Rb.cells (Rds.same hnb) rfl|exact rbB|exact Rb.cells bS rfl|exact rbC|fail) ?_)) rfl rfl
 intro k ⟨h3,h4⟩;have hall:l.length≤k→ClV l:=fun h i hi=>h4 i hi (by omega)
 by_cases hk:k=0
 ·subst hk;repeat' ((conv=>whnf)<;>(first|refine aB.go aA T0 ?_|exact kQ|(refine Br.mk (fun _=>?_) (fun _=>?_)<;>(try(exfalso;omega)))|refine stq ?_))
  all_goals(conv=>whnf)
  all_goals first
   | exact aH.int (by rw[if_neg (fun hc:ClV l=>by have:=(hc 0 (by omega)).1;omega)])
   | exact aH.int (by rw[if_pos (hall (by omega))])
   | (refine⟨0+1,⟨by omega,ay (by omega) h4 ⟨by omega,fun h=>absurd rfl h⟩⟩,by omega,?_⟩
      exact Lf.of2 [(0,_)] [] enA (by(repeat(first|exact Bxs.nil|refine Bxs.cons rfl rfl rfl (by first|exact Rb.cells (Rds.same hnb) rfl|exact rbB|exact Rb.cells bS rfl|exact rbC|fail) ?_|fail));(first|done|fail)) rfl rfl)
 ·by_cases hk2:k<l.length
  ·have h5:=h4 (k-1) (by omega) (by omega);have h6:=h5.1;have e:l.getD (k-1) default=l[k-1]:=aW (by omega);repeat' ((conv=>whnf)<;>(first|refine aB.go aA T0 ?_|exact kQ|(refine Br.mk (fun _=>?_) (fun _=>?_)<;>(try(exfalso;omega)))|refine stq ?_|refine Idx.atS (by intro _;rfl) (k-1) (by omega) (by omega) ?_))
   all_goals(conv=>whnf)
   all_goals first
    | exact aH.int (by rw[if_neg (fun hc:ClV l=>by have h7:=hc k (by omega);have:=h7.1;have:=h7.2 hk;rw[e] at this;omega)])
    | (refine⟨k+1,⟨by omega,ay (by omega) h4 ⟨by omega,fun _=>by rw[e];omega⟩⟩,by omega,?_⟩
       exact Lf.of2 [(0,_)] [] enA (by(repeat(first|exact Bxs.nil|refine Bxs.cons rfl rfl rfl (by first|exact Rb.cells (Rds.same hnb) rfl|exact rbB|exact Rb.cells bS rfl|exact rbC|fail) ?_|fail));(first|done|fail)) rfl rfl)
  ·repeat' ((conv=>whnf)<;>(first|refine aB.go aA T0 ?_|exact kQ|(refine Br.mk (fun _=>?_) (fun _=>?_)<;>(try(exfalso;omega)))|refine stq ?_))
   all_goals(conv=>whnf)
   exact aH.int (by rw[if_pos (hall (by omega))])
end
end Go.Proofs.YtnjmcdmjmaopdaaGreatDoor
