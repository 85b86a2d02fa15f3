/-
  Contracts of functions over data: sets of code points made by the reference.
-/
import Derived.Test.YtnjmcdmjmaopdaaGreatDoorG0
import Derived.Test.YtnjmcdmjmaopdaaGreatDoorAmF
import Derived.Test.YtnjmcdmjmaopdaaGreatDoorH5
set_option linter.unusedSectionVars false
namespace Go.Proofs.YtnjmcdmjmaopdaaGreatDoor
section
open Go Go.Am Classical
set_option maxRecDepth 100000
variable [GT]
theorem cK {n:Int}:Pu Tryz.prog 180 [i64 n] (boo (decide (0≤n∧n≤1114111))):=by
 refine Pu.of_v aA T0 Tryz.func180 rfl rfl rfl ?_;repeat' ((conv=>whnf)<;>(first|refine aB.go aA T0 ?_|exact kQ|(refine Br.mk (fun _=>?_) (fun _=>?_)<;>(try(exfalso;omega)))|refine stq ?_))
 all_goals(conv=>whnf)
 all_goals first
  | exact aH.yes (by omega)
  | exact aH.no (by omega)
theorem tV {l:List Int}{p:Int→Bool}(h:∀ x,x∈l→p x=true):l.filter p=l:=List.filter_eq_self.2 h
theorem qO {l:List Int}{p:Int→Bool}(h:∀ x,x∈l→¬p x=true):l.filter p=[]:=List.filter_eq_nil_iff.2 h
theorem zY {l:List Int}{n:Int}(h:∀ x,x∈l→x<n):bP l n=l++[n]:=by
 rw[bP,tV (fun x hx=>by simpa using h x hx),qO (fun x hx=>by have:=h x hx;simp;omega)]
theorem ub {l:List Int}{n y:Int}(h:∀ x,x∈l→x<n) (hy:n<y):bP (l++[y]) n=l++[n,y]:=by
 rw[bP,List.filter_append,List.filter_append,tV (l:=l) (fun x hx=>by simpa using h x hx),qO (l:=l) (fun x hx=>by have:=h x hx;simp;omega)];have h1:¬y<n:=by omega
 simp[h1,hy]
theorem uc {l:List Int}{n:Int}(h:∀ x,x∈l→x<n):bP (l++[n]) n=l++[n]:=by
 rw[bP,List.filter_append,List.filter_append,tV (l:=l) (fun x hx=>by simpa using h x hx),qO (l:=l) (fun x hx=>by have:=h x hx;simp;omega)];simp
theorem pb {l:List Int}{n y:Int}(hy:n<y):bP (l++[y]) n=bP l n++[y]:=by
 have h1:¬y<n:=by omega
 simp[bP,List.filter_append,h1,hy]
theorem BM {l:List Int}{n:Int}:bP l n≠[]:=by simp[bP]
theorem fB {l:List Int}{n:Int}:(bP l n).length≤l.length+1:=by
 simp only[bP,kG,kO]
 have h1:∀ l:List Int,(l.filter fun x=>decide (x<n)).length+(l.filter fun x=>decide (n<x)).length≤l.length:=fun l=>by
  induction l with
  | nil=>simp
  | cons x l ih=>
   simp only[List.filter_cons];by_cases h1:x<n
   ·have h2:¬n<x:=by omega
    simp[h1,h2];omega
   ·by_cases h2:n<x
    ·simp[h1,h2];omega
    ·simp[h1,h2];omega
 have:=h1 l
 omega
theorem tO {α:Type}{c:α→List D}{sz:Nat}(hc:∀ x,(c x).length=sz) (l:List α) (v:α):(l.length+1)*sz≤(((l.flatMap c).drop 0).take (l.length*sz)++c v).length:=by
 rw[ag hc l v,aq hc];simp
theorem Ey {α:Type}{c:α→List D}{sz:Nat}(hc:∀ x,(c x).length=sz) (l:List α) (v w:α):((((l.flatMap c).drop 0).take (l.length*sz)++c v).drop 0).take ((l.length+1)*sz)++c w=(l++[v,w]).flatMap c:=by
 rw[ag hc l v,List.drop_zero,kE (by rw[aq hc];simp)];simp
theorem Rd.frzI {h:aC}{fz:Nat→Bool}{σ:Nat→Option Nat}{l:List Int}{id n cap es:Nat}{ex:Bool}{cs:List D}{bx:Bool}(hf:fz id=true) (hg:h.get id=some (.cells cs bx)) (hn:n=l.length) (he:es=1) (hc:cs=l.flatMap fun x=>[i64 x]):Rd h fz σ (.sl id 0 n cap es ex) (aZ l):=by
 rw[show aZ l=lstS (fun x=>[i64 x]) l from(qD l).symm];exact Rd.frzL (c:=fun x:Int=>[i64 x]) (sz:=1) (fun _=>rfl) (fun _=>rfl) hf hg hn he hc
theorem ep (x:Int):([i64 x]:List D).length=1:=rfl
set_option maxHeartbeats 8000000 in
theorem mO {l:List Int}{n:Int}(hl:l.length≤1000) (ha:asc l):Pu Tryz.prog 207 [aZ l,i64 n] (aZ (bP l n)):=by
 refine Pu.of_v aA T0 Tryz.func207 rfl rfl (by simp[aD,aJ,aM]) ?_;repeat' ((conv=>whnf)<;>(first|refine aB.go aA T0 ?_|exact kQ|(refine Br.mk (fun _=>?_) (fun _=>?_)<;>(try(exfalso;omega)))|refine stq ?_))
 refine aU.by3 aA T0 (fun(k:Nat) (dn:Bool) (o:List Int)=>⟨tmp 48 [(0,aZ l),(1,i64 n),(5,ai 0 1 o),(6,boo dn),(7,i64 (k:Int))],⟨1,cY 0 (fun x=>[i64 x]) o⟩⟩)
  (fun k dn o=>(k≤l.length∧o.length≤k+1)∧(dn=false∧(∀ x,x∈l.take k→x<n)∧o=l.take k∨dn=true∧(∃ x,x∈l.take k∧n≤x)∧o=bP (l.take k) n)) (fun k _ _=>l.length-k) 0 false [] ⟨⟨by omega,by simp⟩,.inl ⟨rfl,by simp,rfl⟩⟩ ?_ ?_
 ·exact Lf.of2 [] [] enA bxA rfl rfl
 intro k dn o ⟨⟨h3,h5⟩,h4⟩;by_cases hk:k<l.length
 ·have ht:l.take (k+1)=l.take k++[l[k]]:=bk hk;have hm:l[k]∈l.take (k+1):=ht▸List.mem_append_right _ (List.mem_singleton_self _);rcases h4 with⟨rfl,h6,h7⟩|⟨rfl,h6,h7⟩
  ·have h5':o.length≤k:=by rw[h7];simp;omega
   by_cases hge:n≤l[k]
   ·by_cases hgt:n<l[k]
    ·
     cases o with
     | nil=>
      repeat' ((conv=>whnf)<;>(first|refine aB.go aA T0 ?_|exact kQ|(refine Br.mk (fun _=>?_) (fun _=>?_)<;>(try(exfalso;omega)))|refine stq ?_|refine Chk.growX 8 1 rfl rfl (by omega) (by omega) (kD rfl) ?_))
      all_goals(conv=>whnf)
      refine⟨k+1,true,([]:List Int)++[n,l[k]],⟨⟨by omega,by simp⟩,.inr ⟨rfl,⟨_,hm,by omega⟩,by rw[ht,ub h6 hgt,←h7]⟩⟩,by omega,?_⟩;exact Lf.of2 [(0,_)] [] enA bxA rfl rfl
     | cons x xs=>
      have hlen:(x::xs).length≤1001:=by omega
      repeat' ((conv=>whnf)<;>(first|refine aB.go aA T0 ?_|exact kQ|(refine Br.mk (fun _=>?_) (fun _=>?_)<;>(try(exfalso;omega)))|refine stq ?_|refine Chk.growX 8 1 rfl rfl (by omega) (by omega) (tO (c:=fun x=>[i64 x]) ep (x::xs) n) ?_))
      all_goals(conv=>whnf)
      refine⟨k+1,true,(x::xs)++[n,l[k]],⟨⟨by omega,by rw[kG];simp only[kO,List.length_nil] at h5 h5' ⊢;omega⟩,.inr ⟨rfl,⟨_,hm,by omega⟩,by rw[ht,ub h6 hgt,←h7]⟩⟩,by omega,?_⟩;exact Lf.of2 [(0,_)] [] (by repeat(first|exact aI.nil|refine aI.cons rfl (by first|exact Rd.sl' rfl (by simp) (by simp)|exact rdA|fail) ?_)) (by repeat(first|exact Bxs.nil|refine Bxs.cons rfl rfl rfl (by first|exact Rb.cells (Rds.eqs (Ey (c:=fun x=>[i64 x]) ep (x::xs) n l[k]) (aE (by intro _;rfl) _)) rfl|exact rbB|exact rbC|fail) ?_)) rfl rfl
    ·have e:l[k]=n:=by omega
     cases o with
     | nil=>
      repeat' ((conv=>whnf)<;>(first|refine aB.go aA T0 ?_|exact kQ|(refine Br.mk (fun _=>?_) (fun _=>?_)<;>(try(exfalso;omega)))|refine stq ?_|refine Chk.growX 8 1 rfl rfl (by omega) (by omega) (kD rfl) ?_))
      all_goals(conv=>whnf)
      refine⟨k+1,true,([]:List Int)++[l[k]],⟨⟨by omega,by simp⟩,.inr ⟨rfl,⟨_,hm,by omega⟩,by rw[ht,e,uc h6,←h7]⟩⟩,by omega,?_⟩;exact Lf.of2 [(0,_)] [] enA bxA rfl rfl
     | cons x xs=>
      have hlen:(x::xs).length≤1001:=by omega
      repeat' ((conv=>whnf)<;>(first|refine aB.go aA T0 ?_|exact kQ|(refine Br.mk (fun _=>?_) (fun _=>?_)<;>(try(exfalso;omega)))|refine stq ?_|refine Chk.growX 8 1 rfl rfl (by omega) (by omega) (tO (c:=fun x=>[i64 x]) ep (x::xs) n) ?_))
      all_goals(conv=>whnf)
      refine⟨k+1,true,(x::xs)++[l[k]],⟨⟨by omega,by rw[kG];simp only[kO,List.length_nil] at h5 h5' ⊢;omega⟩,.inr ⟨rfl,⟨_,hm,by omega⟩,by rw[ht,e,uc h6,←h7]⟩⟩,by omega,?_⟩;exact Lf.of2 [(0,_)] [] (by repeat(first|exact aI.nil|refine aI.cons rfl (by first|exact Rd.sl' rfl (by simp) (by simp)|exact rdA|fail) ?_)) (by repeat(first|exact Bxs.nil|refine Bxs.cons rfl rfl rfl (by first|exact Rb.cells (Rds.eqs (ag (c:=fun x=>[i64 x]) ep (x::xs) l[k]) (aE (by intro _;rfl) _)) rfl|exact rbB|exact rbC|fail) ?_)) rfl rfl
   ·
    cases o with
    | nil=>
     repeat' ((conv=>whnf)<;>(first|refine aB.go aA T0 ?_|exact kQ|(refine Br.mk (fun _=>?_) (fun _=>?_)<;>(try(exfalso;omega)))|refine stq ?_|refine Chk.growX 8 1 rfl rfl (by omega) (by omega) (kD rfl) ?_))
     all_goals(conv=>whnf)
     refine⟨k+1,false,([]:List Int)++[l[k]],⟨⟨by omega,by simp⟩,.inl ⟨rfl,fun x hx=>by rw[ht] at hx;rcases List.mem_append.1 hx with hx|hx<;>first|exact h6 x hx|(have:=List.mem_singleton.1 hx;omega),by rw[ht,←h7]⟩⟩,by omega,?_⟩;exact Lf.of2 [(0,_)] [] enA bxA rfl rfl
    | cons x xs=>
     have hlen:(x::xs).length≤1001:=by omega
     repeat' ((conv=>whnf)<;>(first|refine aB.go aA T0 ?_|exact kQ|(refine Br.mk (fun _=>?_) (fun _=>?_)<;>(try(exfalso;omega)))|refine stq ?_|refine Chk.growX 8 1 rfl rfl (by omega) (by omega) (tO (c:=fun x=>[i64 x]) ep (x::xs) n) ?_))
     all_goals(conv=>whnf)
     refine⟨k+1,false,(x::xs)++[l[k]],⟨⟨by omega,by rw[kG];simp only[kO,List.length_nil] at h5 h5' ⊢;omega⟩,.inl ⟨rfl,fun x hx=>by rw[ht] at hx;rcases List.mem_append.1 hx with hx|hx<;>first|exact h6 x hx|(have:=List.mem_singleton.1 hx;omega),by rw[ht,←h7]⟩⟩,by omega,?_⟩;exact Lf.of2 [(0,_)] [] (by repeat(first|exact aI.nil|refine aI.cons rfl (by first|exact Rd.sl' rfl (by simp) (by simp)|exact rdA|fail) ?_)) (by repeat(first|exact Bxs.nil|refine Bxs.cons rfl rfl rfl (by first|exact Rb.cells (Rds.eqs (ag (c:=fun x=>[i64 x]) ep (x::xs) l[k]) (aE (by intro _;rfl) _)) rfl|exact rbB|exact rbC|fail) ?_)) rfl rfl
  ·obtain⟨z,hz,hnz⟩:=h6
   have hgt:n<l[k]:=by
    rw[List.mem_take_iff_getElem] at hz;obtain⟨i,hi,rfl⟩:=hz;have:=(List.pairwise_iff_getElem.1 ha) i k (by omega) hk (by omega)
    omega
   have h5':o.length≤k+1:=h5;have h5:o.length≤k+1:=h5;cases o with
   | nil=>
    repeat' ((conv=>whnf)<;>(first|refine aB.go aA T0 ?_|exact kQ|(refine Br.mk (fun _=>?_) (fun _=>?_)<;>(try(exfalso;omega)))|refine stq ?_|refine Chk.growX 8 1 rfl rfl (by omega) (by omega) (kD rfl) ?_))
    all_goals(conv=>whnf)
    refine⟨k+1,true,([]:List Int)++[l[k]],⟨⟨by omega,by simp⟩,.inr ⟨rfl,⟨_,hm,by omega⟩,by rw[ht,pb hgt,←h7]⟩⟩,by omega,?_⟩;exact Lf.of2 [(0,_)] [] enA bxA rfl rfl
   | cons x xs=>
    have hlen:(x::xs).length≤1001:=by omega
    repeat' ((conv=>whnf)<;>(first|refine aB.go aA T0 ?_|exact kQ|(refine Br.mk (fun _=>?_) (fun _=>?_)<;>(try(exfalso;omega)))|refine stq ?_|refine Chk.growX 8 1 rfl rfl (by omega) (by omega) (tO (c:=fun x=>[i64 x]) ep (x::xs) n) ?_))
    all_goals(conv=>whnf)
    refine⟨k+1,true,(x::xs)++[l[k]],⟨⟨by omega,by rw[kG];simp only[kO,List.length_nil] at h5 h5' ⊢;omega⟩,.inr ⟨rfl,⟨_,hm,by omega⟩,by rw[ht,pb hgt,←h7]⟩⟩,by omega,?_⟩;exact Lf.of2 [(0,_)] [] (by repeat(first|exact aI.nil|refine aI.cons rfl (by first|exact Rd.sl' rfl (by simp) (by simp)|exact rdA|fail) ?_)) (by repeat(first|exact Bxs.nil|refine Bxs.cons rfl rfl rfl (by first|exact Rb.cells (Rds.eqs (ag (c:=fun x=>[i64 x]) ep (x::xs) l[k]) (aE (by intro _;rfl) _)) rfl|exact rbB|exact rbC|fail) ?_)) rfl rfl
 ·rw[kE (by omega)] at h4;rcases h4 with⟨rfl,h6,h7⟩|⟨rfl,h6,h7⟩
  ·have e:bP l n=o++[n]:=by rw[zY h6,h7]
   rw[e];cases o with
   | nil=>
    repeat' ((conv=>whnf)<;>(first|refine aB.go aA T0 ?_|exact kQ|(refine Br.mk (fun _=>?_) (fun _=>?_)<;>(try(exfalso;omega)))|refine stq ?_))
    all_goals(conv=>whnf)
    exact⟨Rd.frzI (l:=[n]) rfl rfl rfl rfl rfl⟩
   | cons x xs=>
    have hlen:(x::xs).length≤1001:=by omega
    repeat' ((conv=>whnf)<;>(first|refine aB.go aA T0 ?_|exact kQ|(refine Br.mk (fun _=>?_) (fun _=>?_)<;>(try(exfalso;omega)))|refine stq ?_))
    all_goals(conv=>whnf)
    exact⟨Rd.frzI rfl rfl (by simp) rfl (ag (c:=fun x=>[i64 x]) ep (x::xs) n)⟩
  ·have e:bP l n=o:=h7.symm;rw[e];cases o with
   | nil=>exact absurd h7.symm BM
   | cons x xs=>
    repeat' ((conv=>whnf)<;>(first|refine aB.go aA T0 ?_|exact kQ|(refine Br.mk (fun _=>?_) (fun _=>?_)<;>(try(exfalso;omega)))|refine stq ?_))
    all_goals(conv=>whnf)
    exact aH.own1 (id:=0) (l:=x::xs) (rest:=[]) (fun _=>rfl)
end
section
open Go Go.Am Classical
set_option maxRecDepth 100000
variable [GT]
abbrev lP (l:List Rng):D:=.agg [cx l]
theorem fY {l rs:List _}{r:Rng}:bZ l (r::rs)=bZ (if 0≤r.hi∧r.hi<1114111 then bP (if 0≤r.lo∧r.lo≤1114111 then bP l r.lo else l) (r.hi+1) else(if 0≤r.lo∧r.lo≤1114111 then bP l r.lo else l)) rs:=rfl
set_option maxHeartbeats 8000000 in
theorem DP {l:List Int}{rs:List Rng}(hl:l.length≤500) (ha:asc l) (hr:rs.length≤12):Pu Tryz.prog 177 [aZ l,lP rs] (aZ (bZ l rs)):=by
 refine Pu.of_v aA T0 Tryz.func177 rfl rfl (by simp[aD,aJ,aM,aO]) ?_;repeat' ((conv=>whnf)<;>(first|refine aB.go aA T0 ?_|exact kQ|(refine Br.mk (fun _=>?_) (fun _=>?_)<;>(try(exfalso;omega)))|refine stq ?_))
 refine aU.by2 aA T0 (fun(k:Nat) (cur:List Int)=>⟨tmp 44 [(0,aZ cur),(3,.ptr 0 0),(5,i64 (k:Int))],⟨1,[(0,.cells [cx rs] true)]⟩⟩)
  (fun k cur=>(k≤rs.length∧cur.length≤l.length+2*k)∧asc cur∧bZ l rs=bZ cur (rs.drop k)) (fun k _=>rs.length-k) 0 l ⟨⟨by omega,by omega⟩,ha,rfl⟩ ?_ ?_
 ·exact Lf.of2 [(0,_)] [] enA bxA rfl rfl
 intro k cur ⟨⟨h3,h5⟩,h7,h8⟩;by_cases hk:k<rs.length
 ·have hd:rs.drop k=rs[k]::rs.drop (k+1):=kK hk;have a1:=fw (n:=rs[k].lo) h7;have b1:=fB (l:=cur) (n:=rs[k].lo);have b2:=fB (l:=cur) (n:=rs[k].hi+1);have b3:=fB (l:=bP cur rs[k].lo) (n:=rs[k].hi+1);by_cases c1:0≤rs[k].lo∧rs[k].lo≤1114111
  ·by_cases c2:0≤rs[k].hi∧rs[k].hi<1114111
   ·
    repeat' ((conv=>whnf)<;>(first|refine aB.go aA T0 ?_|exact kQ|(refine Br.mk (fun _=>?_) (fun _=>?_)<;>(try(exfalso;omega)))|refine stq ?_|refine Cll.dec (cK) (fun _=>?_) (fun _=>?_)|refine aN.dec (cK) (fun _=>?_) (fun _=>?_)|refine Cll.pu (mO sd sd) ?_))
    all_goals(conv=>whnf)
    all_goals first
     | (exfalso;omega)
     | (refine⟨k+1,bP (bP cur rs[k].lo) (rs[k].hi+1),⟨⟨by omega,by omega⟩,fw a1,by rw[h8,hd,fY,if_pos c1,if_pos c2]⟩,by omega,?_⟩
        exact Lf.of2 [(0,_)] [] enA bxA rfl rfl)
   ·
    repeat' ((conv=>whnf)<;>(first|refine aB.go aA T0 ?_|exact kQ|(refine Br.mk (fun _=>?_) (fun _=>?_)<;>(try(exfalso;omega)))|refine stq ?_|refine Cll.dec (cK) (fun _=>?_) (fun _=>?_)|refine aN.dec (cK) (fun _=>?_) (fun _=>?_)|refine Cll.pu (mO sd sd) ?_))
    all_goals(conv=>whnf)
    all_goals first
     | (exfalso;omega)
     | (refine⟨k+1,bP cur rs[k].lo,⟨⟨by omega,by omega⟩,a1,by rw[h8,hd,fY,if_pos c1,if_neg c2]⟩,by omega,?_⟩
        exact Lf.of2 [(0,_)] [] enA bxA rfl rfl)
  ·by_cases c2:0≤rs[k].hi∧rs[k].hi<1114111
   ·
    repeat' ((conv=>whnf)<;>(first|refine aB.go aA T0 ?_|exact kQ|(refine Br.mk (fun _=>?_) (fun _=>?_)<;>(try(exfalso;omega)))|refine stq ?_|refine Cll.dec (cK) (fun _=>?_) (fun _=>?_)|refine aN.dec (cK) (fun _=>?_) (fun _=>?_)|refine Cll.pu (mO sd sd) ?_))
    all_goals(conv=>whnf)
    all_goals first
     | (exfalso;omega)
     | (refine⟨k+1,bP cur (rs[k].hi+1),⟨⟨by omega,by omega⟩,fw h7,by rw[h8,hd,fY,if_neg c1,if_pos c2]⟩,by omega,?_⟩
        exact Lf.of2 [(0,_)] [] enA bxA rfl rfl)
   ·
    repeat' ((conv=>whnf)<;>(first|refine aB.go aA T0 ?_|exact kQ|(refine Br.mk (fun _=>?_) (fun _=>?_)<;>(try(exfalso;omega)))|refine stq ?_|refine Cll.dec (cK) (fun _=>?_) (fun _=>?_)|refine aN.dec (cK) (fun _=>?_) (fun _=>?_)|refine Cll.pu (mO sd sd) ?_))
    all_goals(conv=>whnf)
    all_goals first
     | (exfalso;omega)
     | (refine⟨k+1,cur,⟨⟨by omega,by omega⟩,h7,by rw[h8,hd,fY,if_neg c1,if_neg c2]⟩,by omega,?_⟩
        exact Lf.of2 [(0,_)] [] enA bxA rfl rfl)
 ·repeat' ((conv=>whnf)<;>(first|refine aB.go aA T0 ?_|exact kQ|(refine Br.mk (fun _=>?_) (fun _=>?_)<;>(try(exfalso;omega)))|refine stq ?_|refine Cll.pu (mO sd sd) ?_))
  all_goals(conv=>whnf)
  rw[h8,List.drop_of_length_le (by omega)];exact aH.same (aM _) rfl
theorem E8 {rs:List Rng}(hr:rs.length≤12):Pu Tryz.prog 177 [aY,lP rs] (aZ (bZ [] rs)):=(DP (l:=[]) (by simp) List.Pairwise.nil hr).args fun c vs h=>by
 obtain⟨y,ys,rfl,h1,h2⟩:=h.inv;exact VS.cons (FX h1) h2
theorem v7 {c:Ctx}{y:Value}(h:V c (.agg [aY]) y):V c (.agg [.imm 0 []]) y:=by
 simp only[V] at h ⊢;obtain⟨ys,rfl,h⟩:=h;obtain⟨z,zs,rfl,h1,h2⟩:=h.inv;exact⟨_,rfl,VS.cons (FX (by simp only[V];exact h1)) h2⟩
theorem E9 {l:List Int}(hl:l.length≤500) (ha:asc l):Pu Tryz.prog 177 [aZ l,.agg [aY]] (aZ (bZ l [])):=(DP (rs:=[]) hl ha (by simp)).args fun c vs h=>by
 obtain⟨y,ys,rfl,h1,h2⟩:=h.inv;obtain⟨z,zs,rfl,h3,h4⟩:=h2.inv;exact VS.cons h1 (VS.cons (v7 h3) h4)
theorem wB {rs:List Rng}{n:Int}(hr:rs.length≤12):Pu Tryz.prog 179 [lP rs,i64 n] (boo (ij rs n)):=by
 refine Pu.of_v aA T0 Tryz.func179 rfl rfl (by simp[aD,aJ,aO]) ?_;repeat' ((conv=>whnf)<;>(first|refine aB.go aA T0 ?_|exact kQ|(refine Br.mk (fun _=>?_) (fun _=>?_)<;>(try(exfalso;omega)))|refine stq ?_))
 refine aU.by aA T0 (fun k:Nat=>⟨tmp 35 [(1,i64 n),(2,.ptr 0 0),(5,i64 (k:Int))],⟨1,[(0,.cells [cx rs] true)]⟩⟩)
  (fun k=>k≤rs.length∧∀ i (h:i<rs.length),i<k→¬((0≤n∧n≤1114111)∧rs[i].lo≤n∧n≤rs[i].hi)) (fun k=>rs.length-k) 0 ⟨by omega,fun _ _ h=>by omega⟩ ?_ ?_
 ·exact Lf.of2 [(0,_)] [] enA bxA rfl rfl
 intro k ⟨h3,h4⟩;repeat' ((conv=>whnf)<;>(first|refine aB.go aA T0 ?_|exact kQ|(refine Br.mk (fun _=>?_) (fun _=>?_)<;>(try(exfalso;omega)))|refine stq ?_|refine Cll.dec (cK) (fun _=>?_) (fun _=>?_)|refine aN.dec (cK) (fun _=>?_) (fun _=>?_)))
 all_goals(conv=>whnf)
 all_goals first
  | exact aH.v (by rw[show ij rs n=true from ii.2 ⟨by assumption,⟨_,kM (show k<rs.length by omega),by omega,by omega⟩⟩])
  | exact aH.v (by rw[show ij rs n=false from Bool.eq_false_iff.2 fun hb=>by
    obtain⟨h1,r,hr1,hr2⟩:=ii.1 hb;obtain⟨i,hi,rfl⟩:=List.getElem_of_mem hr1
    exact h4 i hi (by omega) ⟨h1,hr2⟩])
  | (refine⟨k+1,⟨by omega,ay (by omega) h4 (by omega)⟩,by omega,?_⟩
     exact Lf.of2 [(0,_)] [] enA bxA rfl rfl)
theorem c6 {n:Int}:Pu Tryz.prog 179 [.agg [aY],i64 n] (boo false):=by
 have h:Pu Tryz.prog 179 [lP [],i64 n] (boo false):=by
  have:=wB (rs:=[]) (n:=n) (by simp)
  rwa [show ij [] n=false from by simp[ij]] at this
 exact h.args fun c vs h=>by
  obtain⟨y,ys,rfl,h1,h2⟩:=h.inv;exact VS.cons (v7 h1) h2
theorem om {x:Bool}:Pu Tryz.prog 178 [i64 1,boo x,boo false] (boo x):=by
 refine Pu.of_v aA T0 Tryz.func178 rfl rfl rfl ?_;cases x
 all_goals
  repeat' ((conv=>whnf)<;>(first|refine aB.go aA T0 ?_|exact kQ|(refine Br.mk (fun _=>?_) (fun _=>?_)<;>(try(exfalso;omega)))|refine stq ?_))
  all_goals(conv=>whnf)
  exact aH.same rfl rfl
end
section
open Go Go.Am Classical
set_option maxRecDepth 100000
variable [GT]
theorem jS:∀ (rs:List Rng) (l:List Int),(bZ l rs).length≤l.length+2*rs.length+1
 | [],l=>by have:=fB (l:=l) (n:=0);simp[bZ];exact this
 | r::rs,l=>by
  rw[fY];have h1:=fB (l:=l) (n:=r.lo);have h2:=fB (l:=l) (n:=r.hi+1);have h3:=fB (l:=bP l r.lo) (n:=r.hi+1);have h4:=jS rs;simp only[kO];split<;>split
  ·have:=h4 (bP (bP l r.lo) (r.hi+1));omega
  ·have:=h4 (bP l (r.hi+1));omega
  ·have:=h4 (bP l r.lo);omega
  ·have:=h4 l;omega
def bm (rs:List Rng):List Int:=bZ (bZ [] rs) []
theorem sH (rs:List Rng):(bm rs).length≤2*rs.length+2:=by
 have h1:=jS [] (bZ [] rs);have h2:=jS rs [];simp only[List.length_nil] at h1 h2;rw[bm];omega
theorem vb {rs:List Rng}{x:Int}(h:x∈bm rs):0≤x∧x≤1114111:=by
 rcases(gh [] _ x).1 h with rfl|h|⟨_,h,_⟩
 ·omega
 ·rcases(gh rs _ x).1 h with rfl|h|⟨r,_,h⟩
  ·omega
  ·cases h
  ·rcases h with h|h<;>omega
 ·cases h
section
variable {p:Int→Bool}{o:List Rng}{op:Bool}{c hi:Int}{l:List Int}
def EW:List Int→Int
 | []=>1114111
 | d::_=>d-1
theorem te (h:p c=false):cmb p o op (c::l)=cmb p o false l:=by simp only[cmb,h];rfl
theorem oz (h:p c=true) (hh:hi=EW l):cmb p o false (c::l)=cmb p (o++[⟨c,hi⟩]) true l:=by
 subst hh;simp only[cmb,h];cases l<;>rfl
theorem vg (h:p c=true) (hh:hi=EW l) (ho:0<o.length):cmb p o true (c::l)=cmb p (o.set (o.length-1) ⟨(o[o.length-1]'(by omega)).lo,hi⟩) true l:=by
 subst hh;simp only[cmb,h,if_true,tP ho,uP ho];cases l<;>rfl
end
theorem EQ {l:List Int}:¬aZ l=aY:=by intro h;simp only[lst] at h;cases h
theorem fH {l:List Rng}:¬D.agg [aY]=lP l:=by
 intro h;injection h with h
 injection h with h
 simp only[lstS] at h;cases h
abbrev cmF (rs:List Rng) (k:Nat) (op:Bool) (o:List Rng):St:=⟨tmp 79 [(2,i64 1),(3,.ptr 0 0),(4,.ptr 1 0),(6,.ptr 2 0),(7,aZ (bm rs)),(8,.ptr 3 0),(9,boo op),(10,i64 (k:Int))],⟨5,(0,.cells [cx rs] true)::(1,.cells [aY] true)::(2,.cells [aY] true)::(3,.cells [ai 4 2 o] true)::cY 4 cX o⟩⟩
set_option maxHeartbeats 8000000 in
theorem AF {rs:List Rng}(hr:rs.length≤12):Pu Tryz.prog 137 [lP rs,.agg [aY],i64 1] (qt (jb rs)):=by
 have hcl:=sH rs;have hc1:=E8 hr;have hl1:=jS rs [];simp only[List.length_nil] at hl1;have hc2:Pu Tryz.prog 177 [aZ (bZ [] rs),.agg [aY]] (aZ (bm rs)):=E9 (by omega) (jT rs [] List.Pairwise.nil);have hend:jb rs=cmb (fun c=>ij rs c) [] false (bm rs):=rfl;refine Pu.of_v aA T0 Tryz.func137 rfl rfl (by simp[aD,aJ,aO]) ?_;repeat' ((conv=>whnf)<;>(first|refine aB.go aA T0 ?_|exact kQ|(refine Br.mk (fun _=>?_) (fun _=>?_)<;>(try(exfalso;omega)))|refine stq ?_|refine Cll.pu (hc1) ?_|refine aN.pu (hc1) ?_|refine Cll.pu (hc2) ?_|refine aN.pu (hc2) ?_|refine Chk.mk (fun h=>absurd (List.cons.inj h).1 EQ) ?_))
 refine aU.by3 aA T0 (cmF rs) (fun k op o=>(k≤(bm rs).length∧o.length≤k)∧(op=true→o≠[])∧cmb (fun c=>ij rs c) [] false (bm rs)=cmb (fun c=>ij rs c) o op ((bm rs).drop k)) (fun k _ _=>(bm rs).length-k) 0 false [] ⟨⟨by omega,by simp⟩,fun h=>Bool.noConfusion h,rfl⟩ ?_ ?_
 ·exact Lf.of2 [(0,_),(1,_),(2,_),(3,_)] [] enA bxA rfl rfl
 intro k op o ⟨⟨h3,h5⟩,h9,h8⟩;by_cases hk:k<(bm rs).length
 ·have hd:(bm rs).drop k=(bm rs)[k]::(bm rs).drop (k+1):=kK hk;have hb1:=vb (kM hk);by_cases hk1:k+1<(bm rs).length
  ·have hb2:=vb (kM hk1);have hd2:(bm rs).drop (k+1)=(bm rs)[k+1]::(bm rs).drop (k+1+1):=kK hk1;have hi:(bm rs)[k+1]-1=EW ((bm rs).drop (k+1)):=by rw[hd2];rfl
   cases hb:ij rs (bm rs)[k] with
   | false=>
    have hH:Pu Tryz.prog 179 [lP rs,i64 (bm rs)[k]] (boo false):=hb▸wB hr;have hK:Pu Tryz.prog 178 [i64 1,boo false,boo false] (boo false):=om;cases o with
    | nil=>
     repeat' ((conv=>whnf)<;>(first|refine Idx.at (k+1) (by omega) (by omega) ?_|refine aB.go aA T0 ?_|exact kQ|(refine Br.mk (fun _=>?_) (fun _=>?_)<;>(try(exfalso;omega)))|refine stq ?_|refine Cll.pu (hH) ?_|refine aN.pu (hH) ?_|refine Cll.pu (c6) ?_|refine aN.pu (c6) ?_|refine Cll.pu (hK) ?_|refine aN.pu (hK) ?_|refine Chk.mk (fun h=>absurd (List.cons.inj h).1 fH) ?_|fail))
     all_goals(conv=>whnf)
     refine⟨k+1,false,[],⟨⟨by omega,by simp⟩,fun h=>Bool.noConfusion h,by rw[h8,hd,te hb]⟩,by omega,?_⟩;exact Lf.of2 [(0,_),(1,_),(2,_),(3,_)] [] enA bxA rfl rfl
    | cons x xs=>
     repeat' ((conv=>whnf)<;>(first|refine Idx.at (k+1) (by omega) (by omega) ?_|refine aB.go aA T0 ?_|exact kQ|(refine Br.mk (fun _=>?_) (fun _=>?_)<;>(try(exfalso;omega)))|refine stq ?_|refine Cll.pu (hH) ?_|refine aN.pu (hH) ?_|refine Cll.pu (c6) ?_|refine aN.pu (c6) ?_|refine Cll.pu (hK) ?_|refine aN.pu (hK) ?_|refine Chk.mk (fun h=>absurd (List.cons.inj h).1 fH) ?_|fail))
     all_goals(conv=>whnf)
     refine⟨k+1,false,x::xs,⟨⟨by omega,by omega⟩,fun h=>Bool.noConfusion h,by rw[h8,hd,te hb]⟩,by omega,?_⟩;exact Lf.of2 [(0,_),(1,_),(2,_),(3,_),(4,_)] [] enA bxA rfl rfl
   | true=>
    have hH:Pu Tryz.prog 179 [lP rs,i64 (bm rs)[k]] (boo true):=hb▸wB hr;have hK:Pu Tryz.prog 178 [i64 1,boo true,boo false] (boo true):=om;cases op with
    | false=>
     cases o with
     | nil=>
      repeat' ((conv=>whnf)<;>(first|refine Idx.at (k+1) (by omega) (by omega) ?_|refine aB.go aA T0 ?_|exact kQ|(refine Br.mk (fun _=>?_) (fun _=>?_)<;>(try(exfalso;omega)))|refine stq ?_|refine Cll.pu (hH) ?_|refine aN.pu (hH) ?_|refine Cll.pu (c6) ?_|refine aN.pu (c6) ?_|refine Cll.pu (hK) ?_|refine aN.pu (hK) ?_|refine Chk.mk (fun h=>absurd (List.cons.inj h).1 fH) ?_|refine bK.by (id:=14) aA T0 [0,1,0,0,12,28,0,124,252,511,1023,2047] (by kernel_rfl) ?_|fail))
      all_goals(conv=>whnf)
      refine⟨k+1,true,[⟨(bm rs)[k],(bm rs)[k+1]-1⟩],⟨⟨by omega,by simp⟩,fun _=>by simp,by rw[h8,hd,oz hb hi];rfl⟩,by omega,?_⟩;exact Lf.of2 [(0,_),(1,_),(2,_),(3,_),(4,_)] [] enA bxA rfl rfl
     | cons x xs=>
      have hlen:(x::xs).length≤100:=by omega
      repeat' ((conv=>whnf)<;>(first|refine Idx.at (k+1) (by omega) (by omega) ?_|refine aB.go aA T0 ?_|exact kQ|(refine Br.mk (fun _=>?_) (fun _=>?_)<;>(try(exfalso;omega)))|refine stq ?_|refine Cll.pu (hH) ?_|refine aN.pu (hH) ?_|refine Cll.pu (c6) ?_|refine aN.pu (c6) ?_|refine Cll.pu (hK) ?_|refine aN.pu (hK) ?_|refine Chk.mk (fun h=>absurd (List.cons.inj h).1 fH) ?_|refine bK.by (id:=14) aA T0 [0,1,0,0,12,28,0,124,252,511,1023,2047] (by kernel_rfl) ?_|fail))
      all_goals(conv=>whnf)
      refine⟨k+1,true,(x::xs)++[⟨(bm rs)[k],(bm rs)[k+1]-1⟩],⟨⟨by omega,by rw[kG];simp only[List.length_singleton];omega⟩,fun _=>by simp,by rw[h8,hd,oz hb hi]⟩,by omega,?_⟩;exact Lf.of2 [(0,_),(1,_),(2,_),(3,_),(4,_)] [] (by repeat(first|exact aI.nil|refine aI.cons rfl (by first|exact Rd.sl' rfl (by simp) (by simp)|exact rdA|fail) ?_)) (by repeat(first|exact Bxs.nil|refine Bxs.cons rfl rfl rfl (by first|exact Rb.cells (Rds.eqs (ag (c:=cX) (sz:=2) bM (x::xs) (⟨(bm rs)[k],(bm rs)[k+1]-1⟩:Rng)) (aE bG _)) rfl|exact rbB|exact Rb.cells (by(repeat(first|exact Rds.nil|refine Rds.cons (by first|exact Rd.sl' rfl (by simp) (by simp)|exact rdA|fail) ?_|fail));(first|done|fail)) rfl|exact rbC|fail) ?_)) rfl rfl
    | true=>
     cases o with
     | nil=>exact absurd rfl (h9 rfl)
     | cons x xs=>
      have hpos:0<(x::xs).length:=by simp
      have hlen:(x::xs).length≤100:=by omega
      repeat' ((conv=>whnf)<;>(first|refine Idx.at (k+1) (by omega) (by omega) ?_|refine aB.go aA T0 ?_|exact kQ|(refine Br.mk (fun _=>?_) (fun _=>?_)<;>(try(exfalso;omega)))|refine stq ?_|refine Cll.pu (hH) ?_|refine aN.pu (hH) ?_|refine Cll.pu (c6) ?_|refine aN.pu (c6) ?_|refine Cll.pu (hK) ?_|refine aN.pu (hK) ?_|refine Chk.mk (fun h=>absurd (List.cons.inj h).1 fH) ?_|refine cj.at ((x::xs).length-1) (by omega) (by omega) ?_|refine Put.flat1 bM ((x::xs).length-1) 1 ⟨((x::xs)[(x::xs).length-1]'(by omega)).lo,(bm rs)[k+1]-1⟩ (by dsimp only;omega) (by omega) (by omega) rfl ?_|fail))
      all_goals(conv=>whnf)
      have hj:=vg (p:=fun c=>ij rs c) (l:=(bm rs).drop (k+1)) hb hi hpos;obtain⟨y',ys',he⟩:=iR x xs ((x::xs).length-1) ⟨((x::xs)[(x::xs).length-1]'(by omega)).lo,(bm rs)[k+1]-1⟩;have hle':(y' :: ys').length=(x::xs).length:=by rw[←he];simp
      refine⟨k+1,true,y' :: ys',⟨⟨by omega,by omega⟩,fun _=>by simp,by rw[h8,hd,hj,he]⟩,by omega,?_⟩;exact Lf.of2 [(0,_),(1,_),(2,_),(3,_),(4,_)] [] (by repeat(first|exact aI.nil|refine aI.cons rfl (by first|exact Rd.sl' rfl hle'.symm hle'.symm|exact rdA|fail) ?_)) (by repeat(first|exact Bxs.nil|refine Bxs.cons rfl rfl rfl (by first|exact Rb.cells (Rds.eqs (by rw[he]) (aE bG _)) rfl|exact rbB|exact Rb.cells (by(repeat(first|exact Rds.nil|refine Rds.cons (by first|exact Rd.sl' rfl hle'.symm hle'.symm|exact rdA|fail) ?_|fail));(first|done|fail)) rfl|exact rbC|fail) ?_)) rfl rfl
  ·have hi:(1114111:Int)=EW ((bm rs).drop (k+1)):=by rw[List.drop_of_length_le (by omega)];rfl
   cases hb:ij rs (bm rs)[k] with
   | false=>
    have hH:Pu Tryz.prog 179 [lP rs,i64 (bm rs)[k]] (boo false):=hb▸wB hr;have hK:Pu Tryz.prog 178 [i64 1,boo false,boo false] (boo false):=om;cases o with
    | nil=>
     repeat' ((conv=>whnf)<;>(first|refine Idx.at (k+1) (by omega) (by omega) ?_|refine aB.go aA T0 ?_|exact kQ|(refine Br.mk (fun _=>?_) (fun _=>?_)<;>(try(exfalso;omega)))|refine stq ?_|refine Cll.pu (hH) ?_|refine aN.pu (hH) ?_|refine Cll.pu (c6) ?_|refine aN.pu (c6) ?_|refine Cll.pu (hK) ?_|refine aN.pu (hK) ?_|refine Chk.mk (fun h=>absurd (List.cons.inj h).1 fH) ?_|fail))
     all_goals(conv=>whnf)
     refine⟨k+1,false,[],⟨⟨by omega,by simp⟩,fun h=>Bool.noConfusion h,by rw[h8,hd,te hb]⟩,by omega,?_⟩;exact Lf.of2 [(0,_),(1,_),(2,_),(3,_)] [] enA bxA rfl rfl
    | cons x xs=>
     repeat' ((conv=>whnf)<;>(first|refine Idx.at (k+1) (by omega) (by omega) ?_|refine aB.go aA T0 ?_|exact kQ|(refine Br.mk (fun _=>?_) (fun _=>?_)<;>(try(exfalso;omega)))|refine stq ?_|refine Cll.pu (hH) ?_|refine aN.pu (hH) ?_|refine Cll.pu (c6) ?_|refine aN.pu (c6) ?_|refine Cll.pu (hK) ?_|refine aN.pu (hK) ?_|refine Chk.mk (fun h=>absurd (List.cons.inj h).1 fH) ?_|fail))
     all_goals(conv=>whnf)
     refine⟨k+1,false,x::xs,⟨⟨by omega,by omega⟩,fun h=>Bool.noConfusion h,by rw[h8,hd,te hb]⟩,by omega,?_⟩;exact Lf.of2 [(0,_),(1,_),(2,_),(3,_),(4,_)] [] enA bxA rfl rfl
   | true=>
    have hH:Pu Tryz.prog 179 [lP rs,i64 (bm rs)[k]] (boo true):=hb▸wB hr;have hK:Pu Tryz.prog 178 [i64 1,boo true,boo false] (boo true):=om;cases op with
    | false=>
     cases o with
     | nil=>
      repeat' ((conv=>whnf)<;>(first|refine Idx.at (k+1) (by omega) (by omega) ?_|refine aB.go aA T0 ?_|exact kQ|(refine Br.mk (fun _=>?_) (fun _=>?_)<;>(try(exfalso;omega)))|refine stq ?_|refine Cll.pu (hH) ?_|refine aN.pu (hH) ?_|refine Cll.pu (c6) ?_|refine aN.pu (c6) ?_|refine Cll.pu (hK) ?_|refine aN.pu (hK) ?_|refine Chk.mk (fun h=>absurd (List.cons.inj h).1 fH) ?_|refine bK.by (id:=14) aA T0 [0,1,0,0,12,28,0,124,252,511,1023,2047] (by kernel_rfl) ?_|fail))
      all_goals(conv=>whnf)
      refine⟨k+1,true,[⟨(bm rs)[k],1114111⟩],⟨⟨by omega,by simp⟩,fun _=>by simp,by rw[h8,hd,oz hb hi];rfl⟩,by omega,?_⟩;exact Lf.of2 [(0,_),(1,_),(2,_),(3,_),(4,_)] [] enA bxA rfl rfl
     | cons x xs=>
      have hlen:(x::xs).length≤100:=by omega
      repeat' ((conv=>whnf)<;>(first|refine Idx.at (k+1) (by omega) (by omega) ?_|refine aB.go aA T0 ?_|exact kQ|(refine Br.mk (fun _=>?_) (fun _=>?_)<;>(try(exfalso;omega)))|refine stq ?_|refine Cll.pu (hH) ?_|refine aN.pu (hH) ?_|refine Cll.pu (c6) ?_|refine aN.pu (c6) ?_|refine Cll.pu (hK) ?_|refine aN.pu (hK) ?_|refine Chk.mk (fun h=>absurd (List.cons.inj h).1 fH) ?_|refine bK.by (id:=14) aA T0 [0,1,0,0,12,28,0,124,252,511,1023,2047] (by kernel_rfl) ?_|fail))
      all_goals(conv=>whnf)
      refine⟨k+1,true,(x::xs)++[⟨(bm rs)[k],1114111⟩],⟨⟨by omega,by rw[kG];simp only[List.length_singleton];omega⟩,fun _=>by simp,by rw[h8,hd,oz hb hi]⟩,by omega,?_⟩;exact Lf.of2 [(0,_),(1,_),(2,_),(3,_),(4,_)] [] (by repeat(first|exact aI.nil|refine aI.cons rfl (by first|exact Rd.sl' rfl (by simp) (by simp)|exact rdA|fail) ?_)) (by repeat(first|exact Bxs.nil|refine Bxs.cons rfl rfl rfl (by first|exact Rb.cells (Rds.eqs (ag (c:=cX) (sz:=2) bM (x::xs) (⟨(bm rs)[k],1114111⟩:Rng)) (aE bG _)) rfl|exact rbB|exact Rb.cells (by(repeat(first|exact Rds.nil|refine Rds.cons (by first|exact Rd.sl' rfl (by simp) (by simp)|exact rdA|fail) ?_|fail));(first|done|fail)) rfl|exact rbC|fail) ?_)) rfl rfl
    | true=>
     cases o with
     | nil=>exact absurd rfl (h9 rfl)
     | cons x xs=>
      have hpos:0<(x::xs).length:=by simp
      have hlen:(x::xs).length≤100:=by omega
      repeat' ((conv=>whnf)<;>(first|refine Idx.at (k+1) (by omega) (by omega) ?_|refine aB.go aA T0 ?_|exact kQ|(refine Br.mk (fun _=>?_) (fun _=>?_)<;>(try(exfalso;omega)))|refine stq ?_|refine Cll.pu (hH) ?_|refine aN.pu (hH) ?_|refine Cll.pu (c6) ?_|refine aN.pu (c6) ?_|refine Cll.pu (hK) ?_|refine aN.pu (hK) ?_|refine Chk.mk (fun h=>absurd (List.cons.inj h).1 fH) ?_|refine cj.at ((x::xs).length-1) (by omega) (by omega) ?_|refine Put.flat1 bM ((x::xs).length-1) 1 ⟨((x::xs)[(x::xs).length-1]'(by omega)).lo,1114111⟩ (by dsimp only;omega) (by omega) (by omega) rfl ?_|fail))
      all_goals(conv=>whnf)
      have hj:=vg (p:=fun c=>ij rs c) (l:=(bm rs).drop (k+1)) hb hi hpos;obtain⟨y',ys',he⟩:=iR x xs ((x::xs).length-1) ⟨((x::xs)[(x::xs).length-1]'(by omega)).lo,1114111⟩;have hle':(y' :: ys').length=(x::xs).length:=by rw[←he];simp
      refine⟨k+1,true,y' :: ys',⟨⟨by omega,by omega⟩,fun _=>by simp,by rw[h8,hd,hj,he]⟩,by omega,?_⟩;exact Lf.of2 [(0,_),(1,_),(2,_),(3,_),(4,_)] [] (by repeat(first|exact aI.nil|refine aI.cons rfl (by first|exact Rd.sl' rfl hle'.symm hle'.symm|exact rdA|fail) ?_)) (by repeat(first|exact Bxs.nil|refine Bxs.cons rfl rfl rfl (by first|exact Rb.cells (Rds.eqs (by rw[he]) (aE bG _)) rfl|exact rbB|exact Rb.cells (by(repeat(first|exact Rds.nil|refine Rds.cons (by first|exact Rd.sl' rfl hle'.symm hle'.symm|exact rdA|fail) ?_|fail));(first|done|fail)) rfl|exact rbC|fail) ?_)) rfl rfl
 ·have he:jb rs=o:=by rw[hend,h8,List.drop_of_length_le (by omega)];rfl
  rw[he];cases o with
  | nil=>
   repeat' ((conv=>whnf)<;>(first|refine aB.go aA T0 ?_|exact kQ|(refine Br.mk (fun _=>?_) (fun _=>?_)<;>(try(exfalso;omega)))|refine stq ?_))
   all_goals(conv=>whnf)
   exact⟨.agg (.cons .nil .nil)⟩
  | cons y ys=>
   repeat' ((conv=>whnf)<;>(first|refine aB.go aA T0 ?_|exact kQ|(refine Br.mk (fun _=>?_) (fun _=>?_)<;>(try(exfalso;omega)))|refine stq ?_))
   all_goals(conv=>whnf)
   exact⟨.agg (.cons (Rd.frzL bM bG rfl rfl rfl rfl rfl) .nil)⟩
end
section
open Go Go.Am Classical
set_option maxRecDepth 100000
variable [GT]
theorem yB {rs:List Rng}(hr:rs.length≤12):Pu Tryz.prog 103 [cx rs] (qt (jb rs)):=by
 refine Pu.of_v aA T0 Tryz.func103 rfl rfl (by simp[aD,aO]) ?_;repeat' ((conv=>whnf)<;>(first|refine aB.go aA T0 ?_|exact kQ|(refine Br.mk (fun _=>?_) (fun _=>?_)<;>(try(exfalso;omega)))|refine stq ?_|refine Cll.pu (AF sd) ?_))
 all_goals(conv=>whnf)
 exact⟨Rd.eqd rfl (by simp[aJ,aD,aO])⟩
theorem Same_c {a b:List Rng}(ha:a.length≤9223372036854775807) (hb:b.length≤9223372036854775807):Pu Tryz.prog 102 [qt a,qt b] (boo (decide (a=b))):=by
 refine Pu.of_v aA T0 Tryz.func102 rfl rfl (by simp[aD,aJ,aO]) ?_;by_cases hl:a.length=b.length
 ·repeat' ((conv=>whnf)<;>(first|refine aB.go aA T0 ?_|exact kQ|(refine Br.mk (fun _=>?_) (fun _=>?_)<;>(try(exfalso;omega)))|refine stq ?_))
  all_goals(conv=>whnf)
  refine aU.by aA T0 (fun k:Nat=>⟨tmp 31 [(2,.ptr 0 0),(3,.ptr 1 0),(5,i64 (k:Int))],⟨2,[(0,.cells [cx a] true),(1,.cells [cx b] true)]⟩⟩)
   (fun k=>k≤a.length∧∀ i (h:i<a.length),i<k→a[i]=b[i]'(by omega)) (fun k=>a.length-k) 0 ⟨by omega,fun _ _ h=>by omega⟩ ?_ ?_
  ·exact Lf.of2 [(0,_),(1,_)] [] enA bxA rfl rfl
  intro k ⟨h3,h4⟩;by_cases hk:k<a.length
  ·have hk':k<b.length:=by omega
   by_cases he:a[k]=b[k]
   ·repeat' ((conv=>whnf)<;>(first|refine aB.go aA T0 ?_|exact kQ|(refine Br.mk (fun _=>?_) (fun _=>?_)<;>(try(exfalso;omega)))|refine stq ?_|refine bK.by aA T0 [0,1,0,7,15,0,32,0,224,480,1023] (by kernel_rfl) ?_|refine Idx.atS (sz:=2) (c:=cX) (fun _=>rfl) k (by omega) (by omega) ?_|(split<;>rename_i heq<;>rw[he] at heq<;>first|(obtain rfl:=Option.some.inj (nN.symm.trans heq))|exact absurd (nN.symm.trans heq) (by simp))))
    all_goals(conv=>whnf)
    refine⟨k+1,⟨by omega,ay (by omega) h4 he⟩,by omega,?_⟩;exact Lf.of2 [(0,_),(1,_)] [] enA bxA rfl rfl
   ·repeat' ((conv=>whnf)<;>(first|refine aB.go aA T0 ?_|exact kQ|(refine Br.mk (fun _=>?_) (fun _=>?_)<;>(try(exfalso;omega)))|refine stq ?_|refine bK.by aA T0 [0,1,0,7,15,0,32,0,224,480,1023] (by kernel_rfl) ?_|refine Idx.atS (sz:=2) (c:=cX) (fun _=>rfl) k (by omega) (by omega) ?_|(split<;>rename_i heq<;>first|(obtain rfl:=Option.some.inj ((lA he).symm.trans heq))|exact absurd ((lA he).symm.trans heq) (by simp))))
    all_goals(conv=>whnf)
    exact aH.no (fun hc=>he (by subst hc;rfl))
  ·repeat' ((conv=>whnf)<;>(first|refine aB.go aA T0 ?_|exact kQ|(refine Br.mk (fun _=>?_) (fun _=>?_)<;>(try(exfalso;omega)))|refine stq ?_))
   all_goals(conv=>whnf)
   exact aH.yes (List.ext_getElem hl fun i h1 h2=>h4 i h1 (by omega))
 ·repeat' ((conv=>whnf)<;>(first|refine aB.go aA T0 ?_|exact kQ|(refine Br.mk (fun _=>?_) (fun _=>?_)<;>(try(exfalso;omega)))|refine stq ?_))
  all_goals(conv=>whnf)
  exact aH.no (fun hc=>hl (by rw[hc]))
theorem zT (rs:List Rng) (hr:rs.length≤12):(jb rs).length≤1000:=by
 have h:∀ (p:Int→Bool) (l:List Int) (o:List Rng) (op:Bool),(cmb p o op l).length≤o.length+l.length:=fun p l=>by
  induction l with
  | nil=>intro o op;simp[cmb]
  | cons c l ih=>
   intro o op;simp only[cmb,kO];refine Nat.le_trans (ih _ _) ?_;split
   ·split
    ·split
     ·omega
     ·rename_i x hx;simp only[kG,List.length_dropLast,kO,List.length_nil]
      have:0<o.length:=List.length_pos_iff.2 (by rintro rfl;simp at hx)
      omega
    ·simp only[kG,kO,List.length_nil];omega
   ·omega
 have h1:=h (fun c=>ij rs c) (bm rs) [] false;have h2:=sH rs;have h3:jb rs=cmb (fun c=>ij rs c) [] false (bm rs):=rfl;rw[h3];simp only[List.length_nil] at h1;omega
theorem eK {rs:List Rng}(hr:rs.length≤12):Pu Tryz.prog 72 [qt rs] (boo (decide (dH rs))):=by
 have h1:=zT rs hr;have hS:=Same_c (a:=rs) (b:=jb rs) (by omega) (by omega);rw[show decide (rs=jb rs)=decide (dH rs) from by simp only[zU]] at hS;refine Pu.of_v aA T0 Tryz.func72 rfl rfl (by simp[aD,aJ,aO]) ?_;repeat' ((conv=>whnf)<;>(first|refine aB.go aA T0 ?_|exact kQ|(refine Br.mk (fun _=>?_) (fun _=>?_)<;>(try(exfalso;omega)))|refine stq ?_|refine Cll.pu (hS) ?_|refine aN.pu (hS) ?_|refine Cll.pu (yB sd) ?_|refine aN.pu (yB sd) ?_))
 all_goals(conv=>whnf)
 exact aH.same rfl rfl
end
end Go.Proofs.YtnjmcdmjmaopdaaGreatDoor
