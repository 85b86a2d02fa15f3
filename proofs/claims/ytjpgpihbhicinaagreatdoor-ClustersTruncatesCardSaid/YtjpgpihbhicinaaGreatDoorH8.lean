/-
  Contracts of functions over data: sets of code points made by the reference.
-/
import Derived.Test.YtjpgpihbhicinaaGreatDoorG0
import Derived.Test.YtjpgpihbhicinaaGreatDoorAmF
import Derived.Test.YtjpgpihbhicinaaGreatDoorH5
set_option linter.unusedSectionVars false
namespace Go.Proofs.YtjpgpihbhicinaaGreatDoor
section
open Go Go.Am Classical
set_option maxRecDepth 100000
variable [GT]
theorem cL {n:Int}:Pu Tryz.prog 209 [i64 n] (boo (decide (0<=n∧n<=1114111))):=by
 refine Pu.of_v aA T0 Tryz.func209 rfl rfl rfl ?_;repeat' ((conv=>whnf)<;>(first|refine sg ?_|exact kQ|(refine Br.mk ?_ ?_<;>intro _<;>try(exfalso;omega))|refine stq ?_))
 all_goals(conv=>whnf)
 all_goals first
  | exact aI.yes (by omega)
  | exact aI.no (by omega)
theorem tz {l:List Int}{p:Int->Bool}(h:∀ x,x∈l->p x=true):l.filter p=l:=List.filter_eq_self.2 h
theorem qZ {l:List Int}{p:Int->Bool}(h:∀ x,x∈l->¬p x=true):l.filter p=[]:=List.filter_eq_nil_iff.2 h
theorem zv {l:List Int}{n:Int}(h:∀ x,x∈l->x<n):bM l n=l++[n]:=by
 rw[bM,tz (fun x hx=>by simpa using h x hx),qZ (fun x hx=>by have:=h x hx;simp;omega)]
theorem u9 {l:List Int}{n y:Int}(h:∀ x,x∈l->x<n) (hy:n<y):bM (l++[y]) n=l++[n,y]:=by
 rw[bM,List.filter_append,List.filter_append,tz (l:=l) (fun x hx=>by simpa using h x hx),qZ (l:=l) (fun x hx=>by have:=h x hx;simp;omega)];have h1:¬y<n:=by omega
 simp[h1,hy]
theorem vA {l:List Int}{n:Int}(h:∀ x,x∈l->x<n):bM (l++[n]) n=l++[n]:=by
 rw[bM,List.filter_append,List.filter_append,tz (l:=l) (fun x hx=>by simpa using h x hx),qZ (l:=l) (fun x hx=>by have:=h x hx;simp;omega)];simp
theorem qB {l:List Int}{n y:Int}(hy:n<y):bM (l++[y]) n=bM l n++[y]:=by
 have h1:¬y<n:=by omega
 simp[bM,List.filter_append,h1,hy]
theorem Bk {l:List Int}{n:Int}:bM l n≠[]:=by simp[bM]
theorem fF {l:List Int}{n:Int}:(bM l n).length<=l.length+1:=by
 simp only[bM,kG,kO]
 have h1:∀ l:List Int,(l.filter fun x=>decide (x<n)).length+(l.filter fun x=>decide (n<x)).length<=l.length:=fun l=>by
  induction l with
  | nil=>simp
  | cons x l ih=>
   simp only[List.filter_cons];by_cases h1:x<n
   ·have h2:¬n<x:=by omega
    simp[h1,h2];omega
   ·by_cases h2:n<x
    ·simp[h1,h2];omega
    ·simp[h1,h2];omega
 have:=h1 l
 omega
theorem th {α:Type}{c:α->List D}{sz:Nat}(hc:∀ x,(c x).length=sz) (l:List α) (v:α):(l.length+1)*sz<=(((l.flatMap c).drop 0).take (l.length*sz)++c v).length:=by
 rw[ak hc l v,aq hc];simp
theorem FD {α:Type}{c:α->List D}{sz:Nat}(hc:∀ x,(c x).length=sz) (l:List α) (v w:α):((((l.flatMap c).drop 0).take (l.length*sz)++c v).drop 0).take ((l.length+1)*sz)++c w=(l++[v,w]).flatMap c:=by
 rw[ak hc l v,List.drop_zero,kE (by rw[aq hc];simp)];simp
theorem Rd.frzI {h:aC}{fz:Nat->Bool}{σ:Nat->Option Nat}{l:List Int}{id n cap es:Nat}{ex:Bool}{cs:List D}{bx:Bool}(hf:fz id=true) (hg:h.get id=some (.cells cs bx)) (hn:n=l.length) (he:es=1) (hc:cs=l.flatMap fun x=>[i64 x]):Rd h fz σ (.sl id 0 n cap es ex) (aQ l):=by
 rw[show aQ l=lstS (fun x=>[i64 x]) l from(qQ l).symm];exact Rd.frzL (c:=fun x:Int=>[i64 x]) (sz:=1) (fun _=>rfl) (fun _=>rfl) hf hg hn he hc
theorem et (x:Int):([i64 x]:List D).length=1:=rfl
set_option maxHeartbeats 8000000 in
theorem mj {l:List Int}{n:Int}(hl:l.length<=1000) (ha:asc l):Pu Tryz.prog 233 [aQ l,i64 n] (aQ (bM l n)):=by
 refine Pu.of_v aA T0 Tryz.func233 rfl rfl (by simp[aB,aJ,aF]) ?_;repeat' ((conv=>whnf)<;>(first|refine sg ?_|exact kQ|(refine Br.mk ?_ ?_<;>intro _<;>try(exfalso;omega))|refine stq ?_))
 refine aU.by3 aA T0 (fun(k:Nat) (dn:Bool) (o:List Int)=>⟨tmp 48 [(0,aQ l),(1,i64 n),(5,ai 0 1 o),(6,boo dn),(7,i64 (k:Int))],⟨1,cW 0 (fun x=>[i64 x]) o⟩⟩)
  (fun k dn o=>(k<=l.length∧o.length<=k+1)∧(dn=false∧(∀ x,x∈l.take k->x<n)∧o=l.take k∨dn=true∧(∃ x,x∈l.take k∧n<=x)∧o=bM (l.take k) n)) (fun k _ _=>l.length-k) 0 false [] ⟨⟨by omega,by simp⟩,.inl ⟨rfl,by simp,rfl⟩⟩ ?_ ?_
 ·exact Lf.of2 [] [] enA bxA rfl rfl
 intro k dn o ⟨⟨h3,h5⟩,h4⟩;by_cases hk:k<l.length
 ·have ht:l.take (k+1)=l.take k++[l[k]]:=ba hk;have hm:l[k]∈l.take (k+1):=ht▸List.mem_append_right _ (List.mem_singleton_self _);rcases h4 with⟨rfl,h6,h7⟩|⟨rfl,h6,h7⟩
  ·have h5':o.length<=k:=by rw[h7];simp;omega
   by_cases hge:n<=l[k]
   ·by_cases hgt:n<l[k]
    ·
     cases o with
     | nil=>
      repeat' ((conv=>whnf)<;>(first|refine sg ?_|exact kQ|(refine Br.mk ?_ ?_<;>intro _<;>try(exfalso;omega))|refine stq ?_|refine Chk.growX 8 1 rfl rfl (by omega) (by omega) (kD rfl) ?_))
      all_goals(conv=>whnf)
      refine⟨k+1,true,([]:List Int)++[n,l[k]],⟨⟨by omega,by simp⟩,.inr ⟨rfl,⟨_,hm,by omega⟩,by rw[ht,u9 h6 hgt,<-h7]⟩⟩,by omega,?_⟩;exact Lf.of2 [(0,_)] [] enA bxA rfl rfl
     | cons x xs=>
      have hlen:(x::xs).length<=1001:=by omega
      repeat' ((conv=>whnf)<;>(first|refine sg ?_|exact kQ|(refine Br.mk ?_ ?_<;>intro _<;>try(exfalso;omega))|refine stq ?_|refine Chk.growX 8 1 rfl rfl (by omega) (by omega) (th (c:=fun x=>[i64 x]) et (x::xs) n) ?_))
      all_goals(conv=>whnf)
      refine⟨k+1,true,(x::xs)++[n,l[k]],⟨⟨by omega,by rw[kG];simp only[kO,List.length_nil] at h5 h5' ⊢;omega⟩,.inr ⟨rfl,⟨_,hm,by omega⟩,by rw[ht,u9 h6 hgt,<-h7]⟩⟩,by omega,?_⟩;exact Lf.of2 [(0,_)] [] (by repeat(first|exact aM.nil|refine aM.cons rfl (by first|exact Rd.sl' rfl (by simp) (by simp)|exact rdA|fail) ?_)) (by repeat(first|exact Bxs.nil|refine Bxs.cons rfl rfl rfl (by first|exact Rb.cells (Rds.eqs (FD (c:=fun x=>[i64 x]) et (x::xs) n l[k]) (aD (by intro _;rfl) _)) rfl|exact rbB|exact rbC|fail) ?_)) rfl rfl
    ·have e:l[k]=n:=by omega
     cases o with
     | nil=>
      repeat' ((conv=>whnf)<;>(first|refine sg ?_|exact kQ|(refine Br.mk ?_ ?_<;>intro _<;>try(exfalso;omega))|refine stq ?_|refine Chk.growX 8 1 rfl rfl (by omega) (by omega) (kD rfl) ?_))
      all_goals(conv=>whnf)
      refine⟨k+1,true,([]:List Int)++[l[k]],⟨⟨by omega,by simp⟩,.inr ⟨rfl,⟨_,hm,by omega⟩,by rw[ht,e,vA h6,<-h7]⟩⟩,by omega,?_⟩;exact Lf.of2 [(0,_)] [] enA bxA rfl rfl
     | cons x xs=>
      have hlen:(x::xs).length<=1001:=by omega
      repeat' ((conv=>whnf)<;>(first|refine sg ?_|exact kQ|(refine Br.mk ?_ ?_<;>intro _<;>try(exfalso;omega))|refine stq ?_|refine Chk.growX 8 1 rfl rfl (by omega) (by omega) (th (c:=fun x=>[i64 x]) et (x::xs) n) ?_))
      all_goals(conv=>whnf)
      refine⟨k+1,true,(x::xs)++[l[k]],⟨⟨by omega,by rw[kG];simp only[kO,List.length_nil] at h5 h5' ⊢;omega⟩,.inr ⟨rfl,⟨_,hm,by omega⟩,by rw[ht,e,vA h6,<-h7]⟩⟩,by omega,?_⟩;exact Lf.of2 [(0,_)] [] (by repeat(first|exact aM.nil|refine aM.cons rfl (by first|exact Rd.sl' rfl (by simp) (by simp)|exact rdA|fail) ?_)) (by repeat(first|exact Bxs.nil|refine Bxs.cons rfl rfl rfl (by first|exact Rb.cells (Rds.eqs (ak (c:=fun x=>[i64 x]) et (x::xs) l[k]) (aD (by intro _;rfl) _)) rfl|exact rbB|exact rbC|fail) ?_)) rfl rfl
   ·
    cases o with
    | nil=>
     repeat' ((conv=>whnf)<;>(first|refine sg ?_|exact kQ|(refine Br.mk ?_ ?_<;>intro _<;>try(exfalso;omega))|refine stq ?_|refine Chk.growX 8 1 rfl rfl (by omega) (by omega) (kD rfl) ?_))
     all_goals(conv=>whnf)
     refine⟨k+1,false,([]:List Int)++[l[k]],⟨⟨by omega,by simp⟩,.inl ⟨rfl,fun x hx=>by rw[ht] at hx;rcases List.mem_append.1 hx with hx|hx<;>first|exact h6 x hx|(have:=List.mem_singleton.1 hx;omega),by rw[ht,<-h7]⟩⟩,by omega,?_⟩;exact Lf.of2 [(0,_)] [] enA bxA rfl rfl
    | cons x xs=>
     have hlen:(x::xs).length<=1001:=by omega
     repeat' ((conv=>whnf)<;>(first|refine sg ?_|exact kQ|(refine Br.mk ?_ ?_<;>intro _<;>try(exfalso;omega))|refine stq ?_|refine Chk.growX 8 1 rfl rfl (by omega) (by omega) (th (c:=fun x=>[i64 x]) et (x::xs) n) ?_))
     all_goals(conv=>whnf)
     refine⟨k+1,false,(x::xs)++[l[k]],⟨⟨by omega,by rw[kG];simp only[kO,List.length_nil] at h5 h5' ⊢;omega⟩,.inl ⟨rfl,fun x hx=>by rw[ht] at hx;rcases List.mem_append.1 hx with hx|hx<;>first|exact h6 x hx|(have:=List.mem_singleton.1 hx;omega),by rw[ht,<-h7]⟩⟩,by omega,?_⟩;exact Lf.of2 [(0,_)] [] (by repeat(first|exact aM.nil|refine aM.cons rfl (by first|exact Rd.sl' rfl (by simp) (by simp)|exact rdA|fail) ?_)) (by repeat(first|exact Bxs.nil|refine Bxs.cons rfl rfl rfl (by first|exact Rb.cells (Rds.eqs (ak (c:=fun x=>[i64 x]) et (x::xs) l[k]) (aD (by intro _;rfl) _)) rfl|exact rbB|exact rbC|fail) ?_)) rfl rfl
  ·obtain⟨z,hz,hnz⟩:=h6
   have hgt:n<l[k]:=by
    rw[List.mem_take_iff_getElem] at hz;obtain⟨i,hi,rfl⟩:=hz;have:=(List.pairwise_iff_getElem.1 ha) i k (by omega) hk (by omega)
    omega
   have h5':o.length<=k+1:=h5;have h5:o.length<=k+1:=h5;cases o with
   | nil=>
    repeat' ((conv=>whnf)<;>(first|refine sg ?_|exact kQ|(refine Br.mk ?_ ?_<;>intro _<;>try(exfalso;omega))|refine stq ?_|refine Chk.growX 8 1 rfl rfl (by omega) (by omega) (kD rfl) ?_))
    all_goals(conv=>whnf)
    refine⟨k+1,true,([]:List Int)++[l[k]],⟨⟨by omega,by simp⟩,.inr ⟨rfl,⟨_,hm,by omega⟩,by rw[ht,qB hgt,<-h7]⟩⟩,by omega,?_⟩;exact Lf.of2 [(0,_)] [] enA bxA rfl rfl
   | cons x xs=>
    have hlen:(x::xs).length<=1001:=by omega
    repeat' ((conv=>whnf)<;>(first|refine sg ?_|exact kQ|(refine Br.mk ?_ ?_<;>intro _<;>try(exfalso;omega))|refine stq ?_|refine Chk.growX 8 1 rfl rfl (by omega) (by omega) (th (c:=fun x=>[i64 x]) et (x::xs) n) ?_))
    all_goals(conv=>whnf)
    refine⟨k+1,true,(x::xs)++[l[k]],⟨⟨by omega,by rw[kG];simp only[kO,List.length_nil] at h5 h5' ⊢;omega⟩,.inr ⟨rfl,⟨_,hm,by omega⟩,by rw[ht,qB hgt,<-h7]⟩⟩,by omega,?_⟩;exact Lf.of2 [(0,_)] [] (by repeat(first|exact aM.nil|refine aM.cons rfl (by first|exact Rd.sl' rfl (by simp) (by simp)|exact rdA|fail) ?_)) (by repeat(first|exact Bxs.nil|refine Bxs.cons rfl rfl rfl (by first|exact Rb.cells (Rds.eqs (ak (c:=fun x=>[i64 x]) et (x::xs) l[k]) (aD (by intro _;rfl) _)) rfl|exact rbB|exact rbC|fail) ?_)) rfl rfl
 ·rw[kE (by omega)] at h4;rcases h4 with⟨rfl,h6,h7⟩|⟨rfl,h6,h7⟩
  ·have e:bM l n=o++[n]:=by rw[zv h6,h7]
   rw[e];cases o with
   | nil=>
    repeat' ((conv=>whnf)<;>(first|refine sg ?_|exact kQ|(refine Br.mk ?_ ?_<;>intro _<;>try(exfalso;omega))|refine stq ?_))
    all_goals(conv=>whnf)
    exact⟨Rd.frzI (l:=[n]) rfl rfl rfl rfl rfl⟩
   | cons x xs=>
    have hlen:(x::xs).length<=1001:=by omega
    repeat' ((conv=>whnf)<;>(first|refine sg ?_|exact kQ|(refine Br.mk ?_ ?_<;>intro _<;>try(exfalso;omega))|refine stq ?_))
    all_goals(conv=>whnf)
    exact⟨Rd.frzI rfl rfl (by simp) rfl (ak (c:=fun x=>[i64 x]) et (x::xs) n)⟩
  ·have e:bM l n=o:=h7.symm;rw[e];cases o with
   | nil=>exact absurd h7.symm Bk
   | cons x xs=>
    repeat' ((conv=>whnf)<;>(first|refine sg ?_|exact kQ|(refine Br.mk ?_ ?_<;>intro _<;>try(exfalso;omega))|refine stq ?_))
    all_goals(conv=>whnf)
    exact aI.own1 (id:=0) (l:=x::xs) (rest:=[]) (fun _=>rfl)
end
section
open Go Go.Am Classical
set_option maxRecDepth 100000
variable [GT]
abbrev lZ (l:List Rng):D:=.agg [bc l]
theorem fW {l rs:List _}{r:Rng}:bX l (r::rs)=bX (if 0<=r.hi∧r.hi<1114111 then bM (if 0<=r.lo∧r.lo<=1114111 then bM l r.lo else l) (r.hi+1) else(if 0<=r.lo∧r.lo<=1114111 then bM l r.lo else l)) rs:=rfl
set_option maxHeartbeats 8000000 in
theorem Dj {l:List Int}{rs:List Rng}(hl:l.length<=500) (ha:asc l) (hr:rs.length<=12):Pu Tryz.prog 206 [aQ l,lZ rs] (aQ (bX l rs)):=by
 refine Pu.of_v aA T0 Tryz.func206 rfl rfl (by simp[aB,aJ,aF,aK]) ?_;repeat' ((conv=>whnf)<;>(first|refine sg ?_|exact kQ|(refine Br.mk ?_ ?_<;>intro _<;>try(exfalso;omega))|refine stq ?_))
 refine aU.by2 aA T0 (fun(k:Nat) (cur:List Int)=>⟨tmp 44 [(0,aQ cur),(3,.ptr 0 0),(5,i64 (k:Int))],⟨1,[(0,.cells [bc rs] true)]⟩⟩)
  (fun k cur=>(k<=rs.length∧cur.length<=l.length+2*k)∧asc cur∧bX l rs=bX cur (rs.drop k)) (fun k _=>rs.length-k) 0 l ⟨⟨by omega,by omega⟩,ha,rfl⟩ ?_ ?_
 ·exact Lf.of2 [(0,_)] [] enA bxA rfl rfl
 intro k cur ⟨⟨h3,h5⟩,h7,h8⟩;by_cases hk:k<rs.length
 ·have hd:rs.drop k=rs[k]::rs.drop (k+1):=kK hk;have a1:=fq (n:=rs[k].lo) h7;have b1:=fF (l:=cur) (n:=rs[k].lo);have b2:=fF (l:=cur) (n:=rs[k].hi+1);have b3:=fF (l:=bM cur rs[k].lo) (n:=rs[k].hi+1);by_cases c1:0<=rs[k].lo∧rs[k].lo<=1114111
  ·by_cases c2:0<=rs[k].hi∧rs[k].hi<1114111
   ·
    repeat' ((conv=>whnf)<;>(first|refine sg ?_|exact kQ|(refine Br.mk ?_ ?_<;>intro _<;>try(exfalso;omega))|refine stq ?_|refine Cll.dec (cL) (fun _=>?_) (fun _=>?_)|refine aO.dec (cL) (fun _=>?_) (fun _=>?_)|refine Cll.pu (mj sd sd) ?_))
    all_goals(conv=>whnf)
    all_goals first
     | (exfalso;omega)
     | (refine⟨k+1,bM (bM cur rs[k].lo) (rs[k].hi+1),⟨⟨by omega,by omega⟩,fq a1,by rw[h8,hd,fW,if_pos c1,if_pos c2]⟩,by omega,?_⟩
        exact Lf.of2 [(0,_)] [] enA bxA rfl rfl)
   ·
    repeat' ((conv=>whnf)<;>(first|refine sg ?_|exact kQ|(refine Br.mk ?_ ?_<;>intro _<;>try(exfalso;omega))|refine stq ?_|refine Cll.dec (cL) (fun _=>?_) (fun _=>?_)|refine aO.dec (cL) (fun _=>?_) (fun _=>?_)|refine Cll.pu (mj sd sd) ?_))
    all_goals(conv=>whnf)
    all_goals first
     | (exfalso;omega)
     | (refine⟨k+1,bM cur rs[k].lo,⟨⟨by omega,by omega⟩,a1,by rw[h8,hd,fW,if_pos c1,if_neg c2]⟩,by omega,?_⟩
        exact Lf.of2 [(0,_)] [] enA bxA rfl rfl)
  ·by_cases c2:0<=rs[k].hi∧rs[k].hi<1114111
   ·
    repeat' ((conv=>whnf)<;>(first|refine sg ?_|exact kQ|(refine Br.mk ?_ ?_<;>intro _<;>try(exfalso;omega))|refine stq ?_|refine Cll.dec (cL) (fun _=>?_) (fun _=>?_)|refine aO.dec (cL) (fun _=>?_) (fun _=>?_)|refine Cll.pu (mj sd sd) ?_))
    all_goals(conv=>whnf)
    all_goals first
     | (exfalso;omega)
     | (refine⟨k+1,bM cur (rs[k].hi+1),⟨⟨by omega,by omega⟩,fq h7,by rw[h8,hd,fW,if_neg c1,if_pos c2]⟩,by omega,?_⟩
        exact Lf.of2 [(0,_)] [] enA bxA rfl rfl)
   ·
    repeat' ((conv=>whnf)<;>(first|refine sg ?_|exact kQ|(refine Br.mk ?_ ?_<;>intro _<;>try(exfalso;omega))|refine stq ?_|refine Cll.dec (cL) (fun _=>?_) (fun _=>?_)|refine aO.dec (cL) (fun _=>?_) (fun _=>?_)|refine Cll.pu (mj sd sd) ?_))
    all_goals(conv=>whnf)
    all_goals first
     | (exfalso;omega)
     | (refine⟨k+1,cur,⟨⟨by omega,by omega⟩,h7,by rw[h8,hd,fW,if_neg c1,if_neg c2]⟩,by omega,?_⟩
        exact Lf.of2 [(0,_)] [] enA bxA rfl rfl)
 ·repeat' ((conv=>whnf)<;>(first|refine sg ?_|exact kQ|(refine Br.mk ?_ ?_<;>intro _<;>try(exfalso;omega))|refine stq ?_|refine Cll.pu (mj sd sd) ?_))
  all_goals(conv=>whnf)
  rw[h8,List.drop_of_length_le (by omega)];exact aI.same (aF _) rfl
theorem FN {rs:List Rng}(hr:rs.length<=12):Pu Tryz.prog 206 [aT,lZ rs] (aQ (bX [] rs)):=(Dj (l:=[]) (by simp) List.Pairwise.nil hr).args fun c vs h=>by
 obtain⟨y,ys,rfl,h1,h2⟩:=h.inv;exact VS.cons (Fp h1) h2
theorem wY {c:Ctx}{y:Value}(h:V c (.agg [aT]) y):V c (.agg [.imm 0 []]) y:=by
 simp only[V] at h ⊢;obtain⟨ys,rfl,h⟩:=h;obtain⟨z,zs,rfl,h1,h2⟩:=h.inv;exact⟨_,rfl,VS.cons (Fp (by simp only[V];exact h1)) h2⟩
theorem FO {l:List Int}(hl:l.length<=500) (ha:asc l):Pu Tryz.prog 206 [aQ l,.agg [aT]] (aQ (bX l [])):=(Dj (rs:=[]) hl ha (by simp)).args fun c vs h=>by
 obtain⟨y,ys,rfl,h1,h2⟩:=h.inv;obtain⟨z,zs,rfl,h3,h4⟩:=h2.inv;exact VS.cons h1 (VS.cons (wY h3) h4)
theorem we {rs:List Rng}{n:Int}(hr:rs.length<=12):Pu Tryz.prog 208 [lZ rs,i64 n] (boo (ip rs n)):=by
 refine Pu.of_v aA T0 Tryz.func208 rfl rfl (by simp[aB,aJ,aK]) ?_;repeat' ((conv=>whnf)<;>(first|refine sg ?_|exact kQ|(refine Br.mk ?_ ?_<;>intro _<;>try(exfalso;omega))|refine stq ?_))
 refine aU.by aA T0 (fun k:Nat=>⟨tmp 35 [(1,i64 n),(2,.ptr 0 0),(5,i64 (k:Int))],⟨1,[(0,.cells [bc rs] true)]⟩⟩)
  (fun k=>k<=rs.length∧∀ i (h:i<rs.length),i<k->¬((0<=n∧n<=1114111)∧rs[i].lo<=n∧n<=rs[i].hi)) (fun k=>rs.length-k) 0 ⟨by omega,fun _ _ h=>by omega⟩ ?_ ?_
 ·exact Lf.of2 [(0,_)] [] enA bxA rfl rfl
 intro k ⟨h3,h4⟩;repeat' ((conv=>whnf)<;>(first|refine sg ?_|exact kQ|(refine Br.mk ?_ ?_<;>intro _<;>try(exfalso;omega))|refine stq ?_|refine Cll.dec (cL) (fun _=>?_) (fun _=>?_)|refine aO.dec (cL) (fun _=>?_) (fun _=>?_)))
 all_goals(conv=>whnf)
 all_goals first
  | exact aI.v (by rw[show ip rs n=true from io.2 ⟨by assumption,⟨_,kM (show k<rs.length by omega),by omega,by omega⟩⟩])
  | exact aI.v (by rw[show ip rs n=false from Bool.eq_false_iff.2 fun hb=>by
    obtain⟨h1,r,hr1,hr2⟩:=io.1 hb;obtain⟨i,hi,rfl⟩:=List.getElem_of_mem hr1
    exact h4 i hi (by omega) ⟨h1,hr2⟩])
  | (refine⟨k+1,⟨by omega,ay (by omega) h4 (by omega)⟩,by omega,?_⟩
     exact Lf.of2 [(0,_)] [] enA bxA rfl rfl)
theorem cx {n:Int}:Pu Tryz.prog 208 [.agg [aT],i64 n] (boo false):=by
 have h:Pu Tryz.prog 208 [lZ [],i64 n] (boo false):=by
  have:=we (rs:=[]) (n:=n) (by simp)
  rwa [show ip [] n=false from by simp[ip]] at this
 exact h.args fun c vs h=>by
  obtain⟨y,ys,rfl,h1,h2⟩:=h.inv;exact VS.cons (wY h1) h2
theorem pF {x:Bool}:Pu Tryz.prog 207 [i64 1,boo x,boo false] (boo x):=by
 refine Pu.of_v aA T0 Tryz.func207 rfl rfl rfl ?_;cases x
 all_goals
  repeat' ((conv=>whnf)<;>(first|refine sg ?_|exact kQ|(refine Br.mk ?_ ?_<;>intro _<;>try(exfalso;omega))|refine stq ?_))
  all_goals(conv=>whnf)
  exact aI.same rfl rfl
end
section
open Go Go.Am Classical
set_option maxRecDepth 100000
variable [GT]
theorem jT:∀ (rs:List Rng) (l:List Int),(bX l rs).length<=l.length+2*rs.length+1
 | [],l=>by have:=fF (l:=l) (n:=0);simp[bX];exact this
 | r::rs,l=>by
  rw[fW];have h1:=fF (l:=l) (n:=r.lo);have h2:=fF (l:=l) (n:=r.hi+1);have h3:=fF (l:=bM l r.lo) (n:=r.hi+1);have h4:=jT rs;simp only[kO];split<;>split
  ·have:=h4 (bM (bM l r.lo) (r.hi+1));omega
  ·have:=h4 (bM l (r.hi+1));omega
  ·have:=h4 (bM l r.lo);omega
  ·have:=h4 l;omega
def bg (rs:List Rng):List Int:=bX (bX [] rs) []
theorem sX (rs:List Rng):(bg rs).length<=2*rs.length+2:=by
 have h1:=jT [] (bX [] rs);have h2:=jT rs [];simp only[List.length_nil] at h1 h2;rw[bg];omega
theorem wD {rs:List Rng}{x:Int}(h:x∈bg rs):0<=x∧x<=1114111:=by
 rcases(ga [] _ x).1 h with rfl|h|⟨_,h,_⟩
 ·omega
 ·rcases(ga rs _ x).1 h with rfl|h|⟨r,_,h⟩
  ·omega
  ·cases h
  ·rcases h with h|h<;>omega
 ·cases h
section
variable {p:Int->Bool}{o:List Rng}{op:Bool}{c hi:Int}{l:List Int}
def Em:List Int->Int
 | []=>1114111
 | d::_=>d-1
theorem t9 (h:p c=false):cmb p o op (c::l)=cmb p o false l:=by simp only[cmb,h];rfl
theorem pK (h:p c=true) (hh:hi=Em l):cmb p o false (c::l)=cmb p (o++[⟨c,hi⟩]) true l:=by
 subst hh;simp only[cmb,h];cases l<;>rfl
theorem wG (h:p c=true) (hh:hi=Em l) (ho:0<o.length):cmb p o true (c::l)=cmb p (o.set (o.length-1) ⟨(o[o.length-1]'(by omega)).lo,hi⟩) true l:=by
 subst hh;simp only[cmb,h,if_true,tj ho,ur ho];cases l<;>rfl
end
theorem Eh {l:List Int}:¬aQ l=aT:=by intro h;simp only[lst] at h;cases h
theorem fI {l:List Rng}:¬D.agg [aT]=lZ l:=by
 intro h;injection h with h
 injection h with h
 simp only[lstS] at h;cases h
abbrev cmF (rs:List Rng) (k:Nat) (op:Bool) (o:List Rng):St:=⟨tmp 79 [(2,i64 1),(3,.ptr 0 0),(4,.ptr 1 0),(6,.ptr 2 0),(7,aQ (bg rs)),(8,.ptr 3 0),(9,boo op),(10,i64 (k:Int))],⟨5,(0,.cells [bc rs] true)::(1,.cells [aT] true)::(2,.cells [aT] true)::(3,.cells [ai 4 2 o] true)::cW 4 cU o⟩⟩
set_option maxHeartbeats 8000000 in
theorem Ac {rs:List Rng}(hr:rs.length<=12):Pu Tryz.prog 174 [lZ rs,.agg [aT],i64 1] (rI (jf rs)):=by
 have hcl:=sX rs;have hc1:=FN hr;have hl1:=jT rs [];simp only[List.length_nil] at hl1;have hc2:Pu Tryz.prog 206 [aQ (bX [] rs),.agg [aT]] (aQ (bg rs)):=FO (by omega) (jU rs [] List.Pairwise.nil);have hend:jf rs=cmb (fun c=>ip rs c) [] false (bg rs):=rfl;refine Pu.of_v aA T0 Tryz.func174 rfl rfl (by simp[aB,aJ,aK]) ?_;repeat' ((conv=>whnf)<;>(first|refine sg ?_|exact kQ|(refine Br.mk ?_ ?_<;>intro _<;>try(exfalso;omega))|refine stq ?_|refine Cll.pu (hc1) ?_|refine aO.pu (hc1) ?_|refine Cll.pu (hc2) ?_|refine aO.pu (hc2) ?_|refine Chk.mk (fun h=>absurd (List.cons.inj h).1 Eh) ?_))
 refine aU.by3 aA T0 (cmF rs) (fun k op o=>(k<=(bg rs).length∧o.length<=k)∧(op=true->o≠[])∧cmb (fun c=>ip rs c) [] false (bg rs)=cmb (fun c=>ip rs c) o op ((bg rs).drop k)) (fun k _ _=>(bg rs).length-k) 0 false [] ⟨⟨by omega,by simp⟩,fun h=>Bool.noConfusion h,rfl⟩ ?_ ?_
 ·exact Lf.of2 [(0,_),(1,_),(2,_),(3,_)] [] enA bxA rfl rfl
 intro k op o ⟨⟨h3,h5⟩,h9,h8⟩;by_cases hk:k<(bg rs).length
 ·have hd:(bg rs).drop k=(bg rs)[k]::(bg rs).drop (k+1):=kK hk;have hb1:=wD (kM hk);by_cases hk1:k+1<(bg rs).length
  ·have hb2:=wD (kM hk1);have hd2:(bg rs).drop (k+1)=(bg rs)[k+1]::(bg rs).drop (k+1+1):=kK hk1;have hi:(bg rs)[k+1]-1=Em ((bg rs).drop (k+1)):=by rw[hd2];rfl
   cases hb:ip rs (bg rs)[k] with
   | false=>
    have hH:Pu Tryz.prog 208 [lZ rs,i64 (bg rs)[k]] (boo false):=hb▸we hr;have hK:Pu Tryz.prog 207 [i64 1,boo false,boo false] (boo false):=pF;cases o with
    | nil=>
     repeat' ((conv=>whnf)<;>(first|refine Idx.at (k+1) (by omega) (by omega) ?_|refine sg ?_|exact kQ|(refine Br.mk ?_ ?_<;>intro _<;>try(exfalso;omega))|refine stq ?_|refine Cll.pu (hH) ?_|refine aO.pu (hH) ?_|refine Cll.pu (cx) ?_|refine aO.pu (cx) ?_|refine Cll.pu (hK) ?_|refine aO.pu (hK) ?_|refine Chk.mk (fun h=>absurd (List.cons.inj h).1 fI) ?_|fail))
     all_goals(conv=>whnf)
     refine⟨k+1,false,[],⟨⟨by omega,by simp⟩,fun h=>Bool.noConfusion h,by rw[h8,hd,t9 hb]⟩,by omega,?_⟩;exact Lf.of2 [(0,_),(1,_),(2,_),(3,_)] [] enA bxA rfl rfl
    | cons x xs=>
     repeat' ((conv=>whnf)<;>(first|refine Idx.at (k+1) (by omega) (by omega) ?_|refine sg ?_|exact kQ|(refine Br.mk ?_ ?_<;>intro _<;>try(exfalso;omega))|refine stq ?_|refine Cll.pu (hH) ?_|refine aO.pu (hH) ?_|refine Cll.pu (cx) ?_|refine aO.pu (cx) ?_|refine Cll.pu (hK) ?_|refine aO.pu (hK) ?_|refine Chk.mk (fun h=>absurd (List.cons.inj h).1 fI) ?_|fail))
     all_goals(conv=>whnf)
     refine⟨k+1,false,x::xs,⟨⟨by omega,by omega⟩,fun h=>Bool.noConfusion h,by rw[h8,hd,t9 hb]⟩,by omega,?_⟩;exact Lf.of2 [(0,_),(1,_),(2,_),(3,_),(4,_)] [] enA bxA rfl rfl
   | true=>
    have hH:Pu Tryz.prog 208 [lZ rs,i64 (bg rs)[k]] (boo true):=hb▸we hr;have hK:Pu Tryz.prog 207 [i64 1,boo true,boo false] (boo true):=pF;cases op with
    | false=>
     cases o with
     | nil=>
      repeat' ((conv=>whnf)<;>(first|refine Idx.at (k+1) (by omega) (by omega) ?_|refine sg ?_|exact kQ|(refine Br.mk ?_ ?_<;>intro _<;>try(exfalso;omega))|refine stq ?_|refine Cll.pu (hH) ?_|refine aO.pu (hH) ?_|refine Cll.pu (cx) ?_|refine aO.pu (cx) ?_|refine Cll.pu (hK) ?_|refine aO.pu (hK) ?_|refine Chk.mk (fun h=>absurd (List.cons.inj h).1 fI) ?_|refine bJ.by (id:=14) aA T0 [0,1,0,0,12,28,0,124,252,511,1023,2047] (by kernel_rfl) ?_|fail))
      all_goals(conv=>whnf)
      refine⟨k+1,true,[⟨(bg rs)[k],(bg rs)[k+1]-1⟩],⟨⟨by omega,by simp⟩,fun _=>by simp,by rw[h8,hd,pK hb hi];rfl⟩,by omega,?_⟩;exact Lf.of2 [(0,_),(1,_),(2,_),(3,_),(4,_)] [] enA bxA rfl rfl
     | cons x xs=>
      have hlen:(x::xs).length<=100:=by omega
      repeat' ((conv=>whnf)<;>(first|refine Idx.at (k+1) (by omega) (by omega) ?_|refine sg ?_|exact kQ|(refine Br.mk ?_ ?_<;>intro _<;>try(exfalso;omega))|refine stq ?_|refine Cll.pu (hH) ?_|refine aO.pu (hH) ?_|refine Cll.pu (cx) ?_|refine aO.pu (cx) ?_|refine Cll.pu (hK) ?_|refine aO.pu (hK) ?_|refine Chk.mk (fun h=>absurd (List.cons.inj h).1 fI) ?_|refine bJ.by (id:=14) aA T0 [0,1,0,0,12,28,0,124,252,511,1023,2047] (by kernel_rfl) ?_|fail))
      all_goals(conv=>whnf)
      refine⟨k+1,true,(x::xs)++[⟨(bg rs)[k],(bg rs)[k+1]-1⟩],⟨⟨by omega,by rw[kG];simp only[List.length_singleton];omega⟩,fun _=>by simp,by rw[h8,hd,pK hb hi]⟩,by omega,?_⟩;exact Lf.of2 [(0,_),(1,_),(2,_),(3,_),(4,_)] [] (by repeat(first|exact aM.nil|refine aM.cons rfl (by first|exact Rd.sl' rfl (by simp) (by simp)|exact rdA|fail) ?_)) (by repeat(first|exact Bxs.nil|refine Bxs.cons rfl rfl rfl (by first|exact Rb.cells (Rds.eqs (ak (c:=cU) (sz:=2) bL (x::xs) (⟨(bg rs)[k],(bg rs)[k+1]-1⟩:Rng)) (aD bF _)) rfl|exact rbB|exact Rb.cells (by(repeat(first|exact Rds.nil|refine Rds.cons (by first|exact Rd.sl' rfl (by simp) (by simp)|exact rdA|fail) ?_|fail));(first|done|fail)) rfl|exact rbC|fail) ?_)) rfl rfl
    | true=>
     cases o with
     | nil=>exact absurd rfl (h9 rfl)
     | cons x xs=>
      have hpos:0<(x::xs).length:=by simp
      have hlen:(x::xs).length<=100:=by omega
      repeat' ((conv=>whnf)<;>(first|refine Idx.at (k+1) (by omega) (by omega) ?_|refine sg ?_|exact kQ|(refine Br.mk ?_ ?_<;>intro _<;>try(exfalso;omega))|refine stq ?_|refine Cll.pu (hH) ?_|refine aO.pu (hH) ?_|refine Cll.pu (cx) ?_|refine aO.pu (cx) ?_|refine Cll.pu (hK) ?_|refine aO.pu (hK) ?_|refine Chk.mk (fun h=>absurd (List.cons.inj h).1 fI) ?_|refine ca.at ((x::xs).length-1) (by omega) (by omega) ?_|refine Put.flat1 bL ((x::xs).length-1) 1 ⟨((x::xs)[(x::xs).length-1]'(by omega)).lo,(bg rs)[k+1]-1⟩ (by dsimp only;omega) (by omega) (by omega) rfl ?_|fail))
      all_goals(conv=>whnf)
      have hj:=wG (p:=fun c=>ip rs c) (l:=(bg rs).drop (k+1)) hb hi hpos;obtain⟨y',ys',he⟩:=iS x xs ((x::xs).length-1) ⟨((x::xs)[(x::xs).length-1]'(by omega)).lo,(bg rs)[k+1]-1⟩;have hle':(y' :: ys').length=(x::xs).length:=by rw[<-he];simp
      refine⟨k+1,true,y' :: ys',⟨⟨by omega,by omega⟩,fun _=>by simp,by rw[h8,hd,hj,he]⟩,by omega,?_⟩;exact Lf.of2 [(0,_),(1,_),(2,_),(3,_),(4,_)] [] (by repeat(first|exact aM.nil|refine aM.cons rfl (by first|exact Rd.sl' rfl hle'.symm hle'.symm|exact rdA|fail) ?_)) (by repeat(first|exact Bxs.nil|refine Bxs.cons rfl rfl rfl (by first|exact Rb.cells (Rds.eqs (by rw[he]) (aD bF _)) rfl|exact rbB|exact Rb.cells (by(repeat(first|exact Rds.nil|refine Rds.cons (by first|exact Rd.sl' rfl hle'.symm hle'.symm|exact rdA|fail) ?_|fail));(first|done|fail)) rfl|exact rbC|fail) ?_)) rfl rfl
  ·have hi:(1114111:Int)=Em ((bg rs).drop (k+1)):=by rw[List.drop_of_length_le (by omega)];rfl
   cases hb:ip rs (bg rs)[k] with
   | false=>
    have hH:Pu Tryz.prog 208 [lZ rs,i64 (bg rs)[k]] (boo false):=hb▸we hr;have hK:Pu Tryz.prog 207 [i64 1,boo false,boo false] (boo false):=pF;cases o with
    | nil=>
     repeat' ((conv=>whnf)<;>(first|refine Idx.at (k+1) (by omega) (by omega) ?_|refine sg ?_|exact kQ|(refine Br.mk ?_ ?_<;>intro _<;>try(exfalso;omega))|refine stq ?_|refine Cll.pu (hH) ?_|refine aO.pu (hH) ?_|refine Cll.pu (cx) ?_|refine aO.pu (cx) ?_|refine Cll.pu (hK) ?_|refine aO.pu (hK) ?_|refine Chk.mk (fun h=>absurd (List.cons.inj h).1 fI) ?_|fail))
     all_goals(conv=>whnf)
     refine⟨k+1,false,[],⟨⟨by omega,by simp⟩,fun h=>Bool.noConfusion h,by rw[h8,hd,t9 hb]⟩,by omega,?_⟩;exact Lf.of2 [(0,_),(1,_),(2,_),(3,_)] [] enA bxA rfl rfl
    | cons x xs=>
     repeat' ((conv=>whnf)<;>(first|refine Idx.at (k+1) (by omega) (by omega) ?_|refine sg ?_|exact kQ|(refine Br.mk ?_ ?_<;>intro _<;>try(exfalso;omega))|refine stq ?_|refine Cll.pu (hH) ?_|refine aO.pu (hH) ?_|refine Cll.pu (cx) ?_|refine aO.pu (cx) ?_|refine Cll.pu (hK) ?_|refine aO.pu (hK) ?_|refine Chk.mk (fun h=>absurd (List.cons.inj h).1 fI) ?_|fail))
     all_goals(conv=>whnf)
     refine⟨k+1,false,x::xs,⟨⟨by omega,by omega⟩,fun h=>Bool.noConfusion h,by rw[h8,hd,t9 hb]⟩,by omega,?_⟩;exact Lf.of2 [(0,_),(1,_),(2,_),(3,_),(4,_)] [] enA bxA rfl rfl
   | true=>
    have hH:Pu Tryz.prog 208 [lZ rs,i64 (bg rs)[k]] (boo true):=hb▸we hr;have hK:Pu Tryz.prog 207 [i64 1,boo true,boo false] (boo true):=pF;cases op with
    | false=>
     cases o with
     | nil=>
      repeat' ((conv=>whnf)<;>(first|refine Idx.at (k+1) (by omega) (by omega) ?_|refine sg ?_|exact kQ|(refine Br.mk ?_ ?_<;>intro _<;>try(exfalso;omega))|refine stq ?_|refine Cll.pu (hH) ?_|refine aO.pu (hH) ?_|refine Cll.pu (cx) ?_|refine aO.pu (cx) ?_|refine Cll.pu (hK) ?_|refine aO.pu (hK) ?_|refine Chk.mk (fun h=>absurd (List.cons.inj h).1 fI) ?_|refine bJ.by (id:=14) aA T0 [0,1,0,0,12,28,0,124,252,511,1023,2047] (by kernel_rfl) ?_|fail))
      all_goals(conv=>whnf)
      refine⟨k+1,true,[⟨(bg rs)[k],1114111⟩],⟨⟨by omega,by simp⟩,fun _=>by simp,by rw[h8,hd,pK hb hi];rfl⟩,by omega,?_⟩;exact Lf.of2 [(0,_),(1,_),(2,_),(3,_),(4,_)] [] enA bxA rfl rfl
     | cons x xs=>
      have hlen:(x::xs).length<=100:=by omega
      repeat' ((conv=>whnf)<;>(first|refine Idx.at (k+1) (by omega) (by omega) ?_|refine sg ?_|exact kQ|(refine Br.mk ?_ ?_<;>intro _<;>try(exfalso;omega))|refine stq ?_|refine Cll.pu (hH) ?_|refine aO.pu (hH) ?_|refine Cll.pu (cx) ?_|refine aO.pu (cx) ?_|refine Cll.pu (hK) ?_|refine aO.pu (hK) ?_|refine Chk.mk (fun h=>absurd (List.cons.inj h).1 fI) ?_|refine bJ.by (id:=14) aA T0 [0,1,0,0,12,28,0,124,252,511,1023,2047] (by kernel_rfl) ?_|fail))
      all_goals(conv=>whnf)
      refine⟨k+1,true,(x::xs)++[⟨(bg rs)[k],1114111⟩],⟨⟨by omega,by rw[kG];simp only[List.length_singleton];omega⟩,fun _=>by simp,by rw[h8,hd,pK hb hi]⟩,by omega,?_⟩;exact Lf.of2 [(0,_),(1,_),(2,_),(3,_),(4,_)] [] (by repeat(first|exact aM.nil|refine aM.cons rfl (by first|exact Rd.sl' rfl (by simp) (by simp)|exact rdA|fail) ?_)) (by repeat(first|exact Bxs.nil|refine Bxs.cons rfl rfl rfl (by first|exact Rb.cells (Rds.eqs (ak (c:=cU) (sz:=2) bL (x::xs) (⟨(bg rs)[k],1114111⟩:Rng)) (aD bF _)) rfl|exact rbB|exact Rb.cells (by(repeat(first|exact Rds.nil|refine Rds.cons (by first|exact Rd.sl' rfl (by simp) (by simp)|exact rdA|fail) ?_|fail));(first|done|fail)) rfl|exact rbC|fail) ?_)) rfl rfl
    | true=>
     cases o with
     | nil=>exact absurd rfl (h9 rfl)
     | cons x xs=>
      have hpos:0<(x::xs).length:=by simp
      have hlen:(x::xs).length<=100:=by omega
      repeat' ((conv=>whnf)<;>(first|refine Idx.at (k+1) (by omega) (by omega) ?_|refine sg ?_|exact kQ|(refine Br.mk ?_ ?_<;>intro _<;>try(exfalso;omega))|refine stq ?_|refine Cll.pu (hH) ?_|refine aO.pu (hH) ?_|refine Cll.pu (cx) ?_|refine aO.pu (cx) ?_|refine Cll.pu (hK) ?_|refine aO.pu (hK) ?_|refine Chk.mk (fun h=>absurd (List.cons.inj h).1 fI) ?_|refine ca.at ((x::xs).length-1) (by omega) (by omega) ?_|refine Put.flat1 bL ((x::xs).length-1) 1 ⟨((x::xs)[(x::xs).length-1]'(by omega)).lo,1114111⟩ (by dsimp only;omega) (by omega) (by omega) rfl ?_|fail))
      all_goals(conv=>whnf)
      have hj:=wG (p:=fun c=>ip rs c) (l:=(bg rs).drop (k+1)) hb hi hpos;obtain⟨y',ys',he⟩:=iS x xs ((x::xs).length-1) ⟨((x::xs)[(x::xs).length-1]'(by omega)).lo,1114111⟩;have hle':(y' :: ys').length=(x::xs).length:=by rw[<-he];simp
      refine⟨k+1,true,y' :: ys',⟨⟨by omega,by omega⟩,fun _=>by simp,by rw[h8,hd,hj,he]⟩,by omega,?_⟩;exact Lf.of2 [(0,_),(1,_),(2,_),(3,_),(4,_)] [] (by repeat(first|exact aM.nil|refine aM.cons rfl (by first|exact Rd.sl' rfl hle'.symm hle'.symm|exact rdA|fail) ?_)) (by repeat(first|exact Bxs.nil|refine Bxs.cons rfl rfl rfl (by first|exact Rb.cells (Rds.eqs (by rw[he]) (aD bF _)) rfl|exact rbB|exact Rb.cells (by(repeat(first|exact Rds.nil|refine Rds.cons (by first|exact Rd.sl' rfl hle'.symm hle'.symm|exact rdA|fail) ?_|fail));(first|done|fail)) rfl|exact rbC|fail) ?_)) rfl rfl
 ·have he:jf rs=o:=by rw[hend,h8,List.drop_of_length_le (by omega)];rfl
  rw[he];cases o with
  | nil=>
   repeat' ((conv=>whnf)<;>(first|refine sg ?_|exact kQ|(refine Br.mk ?_ ?_<;>intro _<;>try(exfalso;omega))|refine stq ?_))
   all_goals(conv=>whnf)
   exact⟨.agg (.cons .nil .nil)⟩
  | cons y ys=>
   repeat' ((conv=>whnf)<;>(first|refine sg ?_|exact kQ|(refine Br.mk ?_ ?_<;>intro _<;>try(exfalso;omega))|refine stq ?_))
   all_goals(conv=>whnf)
   exact⟨.agg (.cons (Rd.frzL bL bF rfl rfl rfl rfl rfl) .nil)⟩
end
section
open Go Go.Am Classical
set_option maxRecDepth 100000
variable [GT]
theorem yZ {rs:List Rng}(hr:rs.length<=12):Pu Tryz.prog 145 [bc rs] (rI (jf rs)):=by
 refine Pu.of_v aA T0 Tryz.func145 rfl rfl (by simp[aB,aK]) ?_;repeat' ((conv=>whnf)<;>(first|refine sg ?_|exact kQ|(refine Br.mk ?_ ?_<;>intro _<;>try(exfalso;omega))|refine stq ?_|refine Cll.pu (Ac sd) ?_))
 all_goals(conv=>whnf)
 exact⟨Rd.eqd rfl (by simp[aJ,aB,aK])⟩
theorem Same_c {a b:List Rng}(ha:a.length<=9223372036854775807) (hb:b.length<=9223372036854775807):Pu Tryz.prog 144 [rI a,rI b] (boo (decide (a=b))):=by
 refine Pu.of_v aA T0 Tryz.func144 rfl rfl (by simp[aB,aJ,aK]) ?_;by_cases hl:a.length=b.length
 ·repeat' ((conv=>whnf)<;>(first|refine sg ?_|exact kQ|(refine Br.mk ?_ ?_<;>intro _<;>try(exfalso;omega))|refine stq ?_))
  all_goals(conv=>whnf)
  refine aU.by aA T0 (fun k:Nat=>⟨tmp 31 [(2,.ptr 0 0),(3,.ptr 1 0),(5,i64 (k:Int))],⟨2,[(0,.cells [bc a] true),(1,.cells [bc b] true)]⟩⟩)
   (fun k=>k<=a.length∧∀ i (h:i<a.length),i<k->a[i]=b[i]'(by omega)) (fun k=>a.length-k) 0 ⟨by omega,fun _ _ h=>by omega⟩ ?_ ?_
  ·exact Lf.of2 [(0,_),(1,_)] [] enA bxA rfl rfl
  intro k ⟨h3,h4⟩;by_cases hk:k<a.length
  ·have hk':k<b.length:=by omega
   by_cases he:a[k]=b[k]
   ·repeat' ((conv=>whnf)<;>(first|refine sg ?_|exact kQ|(refine Br.mk ?_ ?_<;>intro _<;>try(exfalso;omega))|refine stq ?_|refine bJ.by aA T0 [0,1,0,7,15,0,32,0,224,480,1023] (by kernel_rfl) ?_|refine Idx.atS (sz:=2) (c:=cU) (fun _=>rfl) k (by omega) (by omega) ?_|(split<;>rename_i heq<;>rw[he] at heq<;>first|(obtain rfl:=Option.some.inj (tf.symm.trans heq))|exact absurd (tf.symm.trans heq) (by simp))))
    all_goals(conv=>whnf)
    refine⟨k+1,⟨by omega,ay (by omega) h4 he⟩,by omega,?_⟩;exact Lf.of2 [(0,_),(1,_)] [] enA bxA rfl rfl
   ·repeat' ((conv=>whnf)<;>(first|refine sg ?_|exact kQ|(refine Br.mk ?_ ?_<;>intro _<;>try(exfalso;omega))|refine stq ?_|refine bJ.by aA T0 [0,1,0,7,15,0,32,0,224,480,1023] (by kernel_rfl) ?_|refine Idx.atS (sz:=2) (c:=cU) (fun _=>rfl) k (by omega) (by omega) ?_|(split<;>rename_i heq<;>first|(obtain rfl:=Option.some.inj ((pC he).symm.trans heq))|exact absurd ((pC he).symm.trans heq) (by simp))))
    all_goals(conv=>whnf)
    exact aI.no (fun hc=>he (by subst hc;rfl))
  ·repeat' ((conv=>whnf)<;>(first|refine sg ?_|exact kQ|(refine Br.mk ?_ ?_<;>intro _<;>try(exfalso;omega))|refine stq ?_))
   all_goals(conv=>whnf)
   exact aI.yes (List.ext_getElem hl fun i h1 h2=>h4 i h1 (by omega))
 ·repeat' ((conv=>whnf)<;>(first|refine sg ?_|exact kQ|(refine Br.mk ?_ ?_<;>intro _<;>try(exfalso;omega))|refine stq ?_))
  all_goals(conv=>whnf)
  exact aI.no (fun hc=>hl (by rw[hc]))
theorem zq (rs:List Rng) (hr:rs.length<=12):(jf rs).length<=1000:=by
 have h:∀ (p:Int->Bool) (l:List Int) (o:List Rng) (op:Bool),(cmb p o op l).length<=o.length+l.length:=fun p l=>by
  induction l with
  | nil=>intro o op;simp[cmb]
  | cons c l ih=>
   intro o op;simp only[cmb,kO];refine Nat.le_trans (ih _ _) ?_;split
   ·split
    ·split
     ·omega
     ·rename_i x hx;simp only[kG,List.length_dropLast,kO,List.length_nil]
      have:0<o.length:=List.length_pos_iff.2 (by rintro rfl;simp at hx)
      omega
    ·simp only[kG,kO,List.length_nil];omega
   ·omega
 have h1:=h (fun c=>ip rs c) (bg rs) [] false;have h2:=sX rs;have h3:jf rs=cmb (fun c=>ip rs c) [] false (bg rs):=rfl;rw[h3];simp only[List.length_nil] at h1;omega
theorem eL {rs:List Rng}(hr:rs.length<=12):Pu Tryz.prog 108 [rI rs] (boo (decide (dF rs))):=by
 have h1:=zq rs hr;have hS:=Same_c (a:=rs) (b:=jf rs) (by omega) (by omega);rw[show decide (rs=jf rs)=decide (dF rs) from by simp only[zr]] at hS;refine Pu.of_v aA T0 Tryz.func108 rfl rfl (by simp[aB,aJ,aK]) ?_;repeat' ((conv=>whnf)<;>(first|refine sg ?_|exact kQ|(refine Br.mk ?_ ?_<;>intro _<;>try(exfalso;omega))|refine stq ?_|refine Cll.pu (hS) ?_|refine aO.pu (hS) ?_|refine Cll.pu (yZ sd) ?_|refine aO.pu (yZ sd) ?_))
 all_goals(conv=>whnf)
 exact aI.same rfl rfl
end
end Go.Proofs.YtjpgpihbhicinaaGreatDoor
