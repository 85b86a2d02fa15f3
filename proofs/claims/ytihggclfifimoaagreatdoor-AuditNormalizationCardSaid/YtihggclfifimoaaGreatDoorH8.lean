/-
  Contracts of functions over data: sets of code points made by the reference.
-/
import Derived.Test.YtihggclfifimoaaGreatDoorG1
import Derived.Test.YtihggclfifimoaaGreatDoorNA
set_option linter.unusedSectionVars false
set_option maxRecDepth 100000
set_option maxHeartbeats 8000000
namespace Go.Proofs.YtihggclfifimoaaGreatDoor
section
open Go Go.Am Classical
theorem xH8.rdX {p:Prop}(h:p:=by first|exact Rd.sl' rfl sim sim|fail):p:=h
theorem xH8.rbX {p:Prop}(h:p:=by first|exact Rb.cells (Rds.eqs (Gx (c:=λx=>[i64 x]) gZ (x::xs) n l[k]) (aG (by intro _;rfl) _)) rfl|exact Rb.cells (Rds.eqs (ae (c:=λx=>[i64 x]) gZ (x::xs) l[k]) (aG (by intro _;rfl) _)) rfl|fail):p:=h
open xH8
variable [GT]
theorem dD {n:Int}:Pu Tryz.prog 361 [i64 n] (boo (decide (0<=n∧n<=1114111))):=by
 refine pv Tryz.func361 ?_;repeat' ((conv=>whnf);first|exact kQ|(refine bk ?_ ?_<;>intro _<;>try(exfalso;omega))|refine stq ?_)
 all_goals(conv=>whnf)
 all_goals first
  | exact aE.yes om
  | exact aE.no om
theorem uZ {l:List Int}{p:Int->Bool}(h:∀ x,x∈l->p x=true):l.filter p=l:=List.filter_eq_self.2 h
theorem rF {l:List Int}{p:Int->Bool}(h:∀ x,x∈l->¬p x=true):l.filter p=[]:=List.filter_eq_nil_iff.2 h
theorem BP {l:List Int}{n:Int}(h:∀ x,x∈l->x<n):aw l n=l++[n]:=by
 rw[aw,uZ (λx hx=>by simpa using h x hx),rF (λx hx=>by have:=h x hx;simp;omega)]
theorem wE {l:List Int}{n y:Int}(h:∀ x,x∈l->x<n) (hy:n<y):aw (l++[y]) n=l++[n,y]:=by
 rw[aw,List.filter_append,List.filter_append,uZ (l:=l) (λx hx=>by simpa using h x hx),rF (l:=l) (λx hx=>by have:=h x hx;simp;omega)];have h1:¬y<n:=by omega
 simp[h1,hy]
theorem wF {l:List Int}{n:Int}(h:∀ x,x∈l->x<n):aw (l++[n]) n=l++[n]:=by
 rw[aw,List.filter_append,List.filter_append,uZ (l:=l) (λx hx=>by simpa using h x hx),rF (l:=l) (λx hx=>by have:=h x hx;simp;omega)];simp
theorem qc {l:List Int}{n y:Int}(hy:n<y):aw (l++[y]) n=aw l n++[y]:=by
 have h1:¬y<n:=by omega
 simp[aw,List.filter_append,h1,hy]
theorem DQ {l:List Int}{n:Int}:aw l n≠[]:=by simp[aw]
theorem fL {l:List Int}{n:Int}:(aw l n).length<=l.length+1:=by
 simp only[aw,kG,kO]
 have h1:∀ l:List Int,(l.filter λx=>decide (x<n)).length+(l.filter λx=>decide (n<x)).length<=l.length:=λl=>by
  induction l with
  | nil=>simp
  | cons x l ih=>
   simp only[List.filter_cons];by_cases h1:x<n
   ·have h2:¬n<x:=by omega
    simp[h1,h2];omega
   ·by_cases h2:n<x
    ·simp[h1,h2];omega
    ·simp[h1,h2];omega
 have:=h1 l
 omega
theorem uT {α:Type}{c:α->List D}{sz:Nat}(hc:∀ x,(c x).length=sz) (l:List α) (v:α):(l.length+1)*sz<=(((l.flatMap c).drop 0).take (l.length*sz)++c v).length:=by
 rw[ae hc l v,aW hc];simp
theorem Gx {α:Type}{c:α->List D}{sz:Nat}(hc:∀ x,(c x).length=sz) (l:List α) (v w:α):((((l.flatMap c).drop 0).take (l.length*sz)++c v).drop 0).take ((l.length+1)*sz)++c w=(l++[v,w]).flatMap c:=by
 rw[ae hc l v,List.drop_zero,kE (by rw[aW hc];simp)];simp
theorem Rd.frzI {h:aB}{fz:Nat->Bool}{σ:Nat->Option Nat}{l:List Int}{id n cap es:Nat}{ex:Bool}{cs:List D}{bx:Bool}(hf:fz id=true) (hg:h.get id=some (.cells cs bx)) (hn:n=l.length) (he:es=1) (hc:cs=l.flatMap λx=>[i64 x]):Rd h fz σ (.sl id 0 n cap es ex) (aF l):=by
 rw[show aF l=lstS (λx=>[i64 x]) l from(wZ l).symm];exact Rd.frzL (c:=λx:Int=>[i64 x]) (sz:=1) (λ_=>rfl) (λ_=>rfl) hf hg hn he hc
theorem gZ (x:Int):([i64 x]:List D).length=1:=rfl
theorem mu {l:List Int}{n:Int}(hl:l.length<=1000) (ha:asc l):Pu Tryz.prog 389 [aF l,i64 n] (aF (aw l n)):=by
 refine pv Tryz.func389 ?_;repeat' ((conv=>whnf);first|exact kQ|(refine bk ?_ ?_<;>intro _<;>try(exfalso;omega))|refine stq ?_)
 refine aH.by3 aA T0 (λ(k:Nat) (dn:Bool) (o:List Int)=>⟨tmp 48 [(0,aF l),(1,i64 n),(5,fB 0 1 o),(6,boo dn),(7,i64 (k:Int))],⟨1,gA 0 (λx=>[i64 x]) o⟩⟩)
  (λk dn o=>(k<=l.length∧o.length<=k+1)∧(dn=false∧(∀ x,x∈l.take k->x<n)∧o=l.take k∨dn=true∧(∃ x,x∈l.take k∧n<=x)∧o=aw (l.take k) n)) (λk _ _=>l.length-k) 0 false [] ⟨⟨by omega,by simp⟩,.inl ⟨rfl,by simp,rfl⟩⟩ ?_ ?_
 ·exact lq0
 intro k dn o ⟨⟨h3,h5⟩,h4⟩;by_cases hk:k<l.length
 ·have ht:l.take (k+1)=l.take k++[l[k]]:=aS hk;have hm:l[k]∈l.take (k+1):=ht▸List.mem_append_right _ (List.mem_singleton_self _);rcases h4 with⟨rfl,h6,h7⟩|⟨rfl,h6,h7⟩
  ·have h5':o.length<=k:=by rw[h7];simp;omega
   by_cases hge:n<=l[k]
   ·by_cases hgt:n<l[k]
    ·
     cases o with
     | nil=>
      repeat' ((conv=>whnf);first|exact kQ|(refine bk ?_ ?_<;>intro _<;>try(exfalso;omega))|refine stq ?_|refine Chk.growX 8 1 rfl rfl om om (kD rfl) ?_)
      all_goals(conv=>whnf)
      refine⟨k+1,true,([]:List Int)++[n,l[k]],⟨⟨by omega,by simp⟩,.inr ⟨rfl,⟨_,hm,by omega⟩,by rw[ht,wE h6 hgt,<-h7]⟩⟩,by omega,?_⟩;exact lq [(0,_)] []
     | cons x xs=>
      have hlen:(x::xs).length<=1001:=by omega
      repeat' ((conv=>whnf);first|exact kQ|(refine bk ?_ ?_<;>intro _<;>try(exfalso;omega))|refine stq ?_|refine Chk.growX 8 1 rfl rfl om om (uT (c:=λx=>[i64 x]) gZ (x::xs) n) ?_)
      all_goals(conv=>whnf)
      refine⟨k+1,true,(x::xs)++[n,l[k]],⟨⟨by omega,by rw[kG];simp only[kO,List.length_nil] at h5 h5' ⊢;omega⟩,.inr ⟨rfl,⟨_,hm,by omega⟩,by rw[ht,wE h6 hgt,<-h7]⟩⟩,by omega,?_⟩;exact lq [(0,_)] []
    ·have e:l[k]=n:=by omega
     cases o with
     | nil=>
      repeat' ((conv=>whnf);first|exact kQ|(refine bk ?_ ?_<;>intro _<;>try(exfalso;omega))|refine stq ?_|refine Chk.growX 8 1 rfl rfl om om (kD rfl) ?_)
      all_goals(conv=>whnf)
      refine⟨k+1,true,([]:List Int)++[l[k]],⟨⟨by omega,by simp⟩,.inr ⟨rfl,⟨_,hm,by omega⟩,by rw[ht,e,wF h6,<-h7]⟩⟩,by omega,?_⟩;exact lq [(0,_)] []
     | cons x xs=>
      have hlen:(x::xs).length<=1001:=by omega
      repeat' ((conv=>whnf);first|exact kQ|(refine bk ?_ ?_<;>intro _<;>try(exfalso;omega))|refine stq ?_|refine Chk.growX 8 1 rfl rfl om om (uT (c:=λx=>[i64 x]) gZ (x::xs) n) ?_)
      all_goals(conv=>whnf)
      refine⟨k+1,true,(x::xs)++[l[k]],⟨⟨by omega,by rw[kG];simp only[kO,List.length_nil] at h5 h5' ⊢;omega⟩,.inr ⟨rfl,⟨_,hm,by omega⟩,by rw[ht,e,wF h6,<-h7]⟩⟩,by omega,?_⟩;exact lq [(0,_)] []
   ·
    cases o with
    | nil=>
     repeat' ((conv=>whnf);first|exact kQ|(refine bk ?_ ?_<;>intro _<;>try(exfalso;omega))|refine stq ?_|refine Chk.growX 8 1 rfl rfl om om (kD rfl) ?_)
     all_goals(conv=>whnf)
     refine⟨k+1,false,([]:List Int)++[l[k]],⟨⟨by omega,by simp⟩,.inl ⟨rfl,λx hx=>by rw[ht] at hx;rcases List.mem_append.1 hx with hx|hx<;>first|exact h6 x hx|(have:=List.mem_singleton.1 hx;omega),by rw[ht,<-h7]⟩⟩,by omega,?_⟩;exact lq [(0,_)] []
    | cons x xs=>
     have hlen:(x::xs).length<=1001:=by omega
     repeat' ((conv=>whnf);first|exact kQ|(refine bk ?_ ?_<;>intro _<;>try(exfalso;omega))|refine stq ?_|refine Chk.growX 8 1 rfl rfl om om (uT (c:=λx=>[i64 x]) gZ (x::xs) n) ?_)
     all_goals(conv=>whnf)
     refine⟨k+1,false,(x::xs)++[l[k]],⟨⟨by omega,by rw[kG];simp only[kO,List.length_nil] at h5 h5' ⊢;omega⟩,.inl ⟨rfl,λx hx=>by rw[ht] at hx;rcases List.mem_append.1 hx with hx|hx<;>first|exact h6 x hx|(have:=List.mem_singleton.1 hx;omega),by rw[ht,<-h7]⟩⟩,by omega,?_⟩;exact lq [(0,_)] []
  ·obtain⟨z,hz,hnz⟩:=h6
   have hgt:n<l[k]:=by
    rw[List.mem_take_iff_getElem] at hz;obtain⟨i,hi,rfl⟩:=hz;have:=(List.pairwise_iff_getElem.1 ha) i k om hk om
    omega
   have h5':o.length<=k+1:=h5;have h5:o.length<=k+1:=h5;cases o with
   | nil=>
    repeat' ((conv=>whnf);first|exact kQ|(refine bk ?_ ?_<;>intro _<;>try(exfalso;omega))|refine stq ?_|refine Chk.growX 8 1 rfl rfl om om (kD rfl) ?_)
    all_goals(conv=>whnf)
    refine⟨k+1,true,([]:List Int)++[l[k]],⟨⟨by omega,by simp⟩,.inr ⟨rfl,⟨_,hm,by omega⟩,by rw[ht,qc hgt,<-h7]⟩⟩,by omega,?_⟩;exact lq [(0,_)] []
   | cons x xs=>
    have hlen:(x::xs).length<=1001:=by omega
    repeat' ((conv=>whnf);first|exact kQ|(refine bk ?_ ?_<;>intro _<;>try(exfalso;omega))|refine stq ?_|refine Chk.growX 8 1 rfl rfl om om (uT (c:=λx=>[i64 x]) gZ (x::xs) n) ?_)
    all_goals(conv=>whnf)
    refine⟨k+1,true,(x::xs)++[l[k]],⟨⟨by omega,by rw[kG];simp only[kO,List.length_nil] at h5 h5' ⊢;omega⟩,.inr ⟨rfl,⟨_,hm,by omega⟩,by rw[ht,qc hgt,<-h7]⟩⟩,by omega,?_⟩;exact lq [(0,_)] []
 ·rw[kE om] at h4;rcases h4 with⟨rfl,h6,h7⟩|⟨rfl,h6,h7⟩
  ·have e:aw l n=o++[n]:=by rw[BP h6,h7]
   rw[e];cases o with
   | nil=>
    repeat' ((conv=>whnf);first|exact kQ|(refine bk ?_ ?_<;>intro _<;>try(exfalso;omega))|refine stq ?_)
    all_goals(conv=>whnf)
    exact⟨Rd.frzI (l:=[n]) rfl rfl rfl rfl rfl⟩
   | cons x xs=>
    have hlen:(x::xs).length<=1001:=by omega
    repeat' ((conv=>whnf);first|exact kQ|(refine bk ?_ ?_<;>intro _<;>try(exfalso;omega))|refine stq ?_)
    all_goals(conv=>whnf)
    exact⟨Rd.frzI rfl rfl si rfl (ae (c:=λx=>[i64 x]) gZ (x::xs) n)⟩
  ·have e:aw l n=o:=h7.symm;rw[e];cases o with
   | nil=>exact absurd h7.symm DQ
   | cons x xs=>
    repeat' ((conv=>whnf);first|exact kQ|(refine bk ?_ ?_<;>intro _<;>try(exfalso;omega))|refine stq ?_)
    all_goals(conv=>whnf)
    exact aE.own1 (id:=0) (l:=x::xs) (rest:=[]) (λ_=>rfl)
end
section
open Go Go.Am Classical
variable [GT]
abbrev jd (l:List Rng):D:=.agg [bD l]
theorem fh {l rs:List _}{r:Rng}:bB l (r::rs)=bB (if 0<=r.hi∧r.hi<1114111 then aw (if 0<=r.lo∧r.lo<=1114111 then aw l r.lo else l) (r.hi+1) else(if 0<=r.lo∧r.lo<=1114111 then aw l r.lo else l)) rs:=rfl
theorem FC {l:List Int}{rs:List Rng}(hl:l.length<=500) (ha:asc l) (hr:rs.length<=40):Pu Tryz.prog 351 [aF l,jd rs] (aF (bB l rs)):=by
 refine pv Tryz.func351 ?_;repeat' ((conv=>whnf);first|exact kQ|(refine bk ?_ ?_<;>intro _<;>try(exfalso;omega))|refine stq ?_)
 refine aH.by2 aA T0 (λ(k:Nat) (cur:List Int)=>⟨tmp 44 [(0,aF cur),(3,.ptr 0 0),(5,i64 (k:Int))],⟨1,[(0,.cells [bD rs] true)]⟩⟩)
  (λk cur=>(k<=rs.length∧cur.length<=l.length+2*k)∧asc cur∧bB l rs=bB cur (rs.drop k)) (λk _=>rs.length-k) 0 l ⟨⟨by omega,by omega⟩,ha,rfl⟩ ?_ ?_
 ·exact lq [(0,_)] []
 intro k cur ⟨⟨h3,h5⟩,h7,h8⟩;by_cases hk:k<rs.length
 ·have hd:rs.drop k=rs[k]::rs.drop (k+1):=kK hk;have a1:=gI (n:=rs[k].lo) h7;have b1:=fL (l:=cur) (n:=rs[k].lo);have b2:=fL (l:=cur) (n:=rs[k].hi+1);have b3:=fL (l:=aw cur rs[k].lo) (n:=rs[k].hi+1);by_cases c1:0<=rs[k].lo∧rs[k].lo<=1114111
  ·by_cases c2:0<=rs[k].hi∧rs[k].hi<1114111
   ·
    repeat' ((conv=>whnf);first|exact kQ|(refine bk ?_ ?_<;>intro _<;>try(exfalso;omega))|refine stq ?_|refine cd dD (λ_=>?_) (λ_=>?_)|refine cp (mu sd sd) ?_|fail)
    all_goals(conv=>whnf)
    all_goals first
     | (exfalso;omega)
     | (refine⟨k+1,aw (aw cur rs[k].lo) (rs[k].hi+1),⟨⟨by omega,by omega⟩,gI a1,by rw[h8,hd,fh,if_pos c1,if_pos c2]⟩,by omega,?_⟩
        exact lq [(0,_)] [])
   ·
    repeat' ((conv=>whnf);first|exact kQ|(refine bk ?_ ?_<;>intro _<;>try(exfalso;omega))|refine stq ?_|refine cd dD (λ_=>?_) (λ_=>?_)|refine cp (mu sd sd) ?_|fail)
    all_goals(conv=>whnf)
    all_goals first
     | (exfalso;omega)
     | (refine⟨k+1,aw cur rs[k].lo,⟨⟨by omega,by omega⟩,a1,by rw[h8,hd,fh,if_pos c1,if_neg c2]⟩,by omega,?_⟩
        exact lq [(0,_)] [])
  ·by_cases c2:0<=rs[k].hi∧rs[k].hi<1114111
   ·
    repeat' ((conv=>whnf);first|exact kQ|(refine bk ?_ ?_<;>intro _<;>try(exfalso;omega))|refine stq ?_|refine cd dD (λ_=>?_) (λ_=>?_)|refine cp (mu sd sd) ?_|fail)
    all_goals(conv=>whnf)
    all_goals first
     | (exfalso;omega)
     | (refine⟨k+1,aw cur (rs[k].hi+1),⟨⟨by omega,by omega⟩,gI h7,by rw[h8,hd,fh,if_neg c1,if_pos c2]⟩,by omega,?_⟩
        exact lq [(0,_)] [])
   ·
    repeat' ((conv=>whnf);first|exact kQ|(refine bk ?_ ?_<;>intro _<;>try(exfalso;omega))|refine stq ?_|refine cd dD (λ_=>?_) (λ_=>?_)|refine cp (mu sd sd) ?_|fail)
    all_goals(conv=>whnf)
    all_goals first
     | (exfalso;omega)
     | (refine⟨k+1,cur,⟨⟨by omega,by omega⟩,h7,by rw[h8,hd,fh,if_neg c1,if_neg c2]⟩,by omega,?_⟩
        exact lq [(0,_)] [])
 ·repeat' ((conv=>whnf);first|exact kQ|(refine bk ?_ ?_<;>intro _<;>try(exfalso;omega))|refine stq ?_|refine cp (mu sd sd) ?_|fail)
  all_goals(conv=>whnf)
  rw[h8,List.drop_of_length_le om];exact aE.same (aC _) rfl
theorem G6 {rs:List Rng}(hr:rs.length<=40):Pu Tryz.prog 351 [aO,jd rs] (aF (bB [] rs)):=(FC (l:=[]) si List.Pairwise.nil hr).args λc vs h=>by
 obtain⟨y,ys,rfl,h1,h2⟩:=h.inv;exact VS.cons (xr h1) h2
theorem xq {c:Ctx}{y:Value}(h:V c (.agg [aO]) y):V c (.agg [.imm 0 []]) y:=by
 simp only[V] at h ⊢;obtain⟨ys,rfl,h⟩:=h;obtain⟨z,zs,rfl,h1,h2⟩:=h.inv;exact⟨_,rfl,VS.cons (xr (by simp only[V];exact h1)) h2⟩
theorem G7 {l:List Int}(hl:l.length<=500) (ha:asc l):Pu Tryz.prog 351 [aF l,.agg [aO]] (aF (bB l [])):=(FC (rs:=[]) hl ha si).args λc vs h=>by
 obtain⟨y,ys,rfl,h1,h2⟩:=h.inv;obtain⟨z,zs,rfl,h3,h4⟩:=h2.inv;exact VS.cons h1 (VS.cons (xq h3) h4)
theorem rn {rs:List Rng}{n:Int}(hr:rs.length<=1000):Pu Tryz.prog 287 [jd rs,i64 n] (boo (bM rs n)):=by
 refine pv Tryz.func287 ?_;repeat' ((conv=>whnf);first|exact kQ|(refine bk ?_ ?_<;>intro _<;>try(exfalso;omega))|refine stq ?_)
 refine aH.by aA T0 (λk:Nat=>⟨tmp 35 [(1,i64 n),(2,.ptr 0 0),(5,i64 (k:Int))],⟨1,[(0,.cells [bD rs] true)]⟩⟩)
  (λk=>k<=rs.length∧∀ i (h:i<rs.length),i<k->¬((0<=n∧n<=1114111)∧rs[i].lo<=n∧n<=rs[i].hi)) (λk=>rs.length-k) 0 ⟨by omega,λ_ _ h=>by omega⟩ ?_ ?_
 ·exact lq [(0,_)] []
 intro k ⟨h3,h4⟩;repeat' ((conv=>whnf);first|exact kQ|(refine bk ?_ ?_<;>intro _<;>try(exfalso;omega))|refine stq ?_|refine cd dD (λ_=>?_) (λ_=>?_)|fail)
 all_goals(conv=>whnf)
 all_goals first
  | exact aE.v (by rw[show bM rs n=true from cG.2 ⟨by assumption,⟨_,kM (show k<rs.length by omega),by omega,by omega⟩⟩])
  | exact aE.v (by rw[show bM rs n=false from Bool.eq_false_iff.2 λhb=>by
    obtain⟨h1,r,hr1,hr2⟩:=cG.1 hb;obtain⟨i,hi,rfl⟩:=List.getElem_of_mem hr1
    exact h4 i hi om ⟨h1,hr2⟩])
  | (refine⟨k+1,⟨by omega,ad om h4 om⟩,by omega,?_⟩
     exact lq [(0,_)] [])
theorem iP {n:Int}:Pu Tryz.prog 287 [.agg [aO],i64 n] (boo false):=by
 have h:Pu Tryz.prog 287 [jd [],i64 n] (boo false):=by
  have:=rn (rs:=[]) (n:=n) si
  rwa [show bM [] n=false from by simp[bM]] at this
 exact h.args λc vs h=>by
  obtain⟨y,ys,rfl,h1,h2⟩:=h.inv;exact VS.cons (xq h1) h2
theorem pX {x:Bool}:Pu Tryz.prog 352 [i64 1,boo x,boo false] (boo x):=by
 refine pv Tryz.func352 ?_;cases x
 all_goals
  repeat' ((conv=>whnf);first|exact kQ|(refine bk ?_ ?_<;>intro _<;>try(exfalso;omega))|refine stq ?_)
  all_goals(conv=>whnf)
  exact aE.same rfl rfl
end
section
open Go Go.Am
set_option linter.unusedVariables false
structure NK (cls:Int->Int) (jn:Int->Int->Option Int) (ex:Int->List Int):Prop extends JOk cls jn where
 pos:∀ c,0<=cls c
 join:∀ {a c w},jn a c=some w->ex w=ex a++ex c
 irr:∀ c,∀ e∈ex c,ex e=[e]
section
variable {cls:Int->Int}{jn:Int->Int->Option Int}{ex:Int->List Int}
def dcm (cls:Int->Int) (ex:Int->List Int) (x:List Int):List Int:=can cls (exs ex x)
def gi (cls:Int->Int) (jn:Int->Int->Option Int) (ex:Int->List Int) (x:List Int):List Int:=ft cls jn (dcm cls ex x)
theorem nU (h:NK cls jn ex){x:List Int}{e:Int}(he:e∈dcm cls ex x):ex e=[e]:=by
 obtain⟨c,_,hc⟩:=List.mem_flatMap.1 (lU.1 he);exact h.irr c e hc
theorem nT (x:List Int):aq cls (dcm cls ex x):=my _
theorem rO {l:List Int}(h:∀ e∈l,ex e=[e]):dcm cls ex l=can cls l:=by rw[dcm,exs,gK h]
theorem ug (h:NK cls jn ex) (x:List Int):dcm cls ex (dcm cls ex x)=dcm cls ex x:=by
 rw[rO λe he=>nU h he,dcm,Gq]
theorem xO (h:NK cls jn ex){l:List Int}(ho:aq cls l) (hl:∀ x∈l,cls x≠0->ex x=[x]):dcm cls ex (ft cls jn l)=dcm cls ex l:=
 (AY (cls:=cls) (jn:=jn) (ex:=ex) h.join l [] none (λx hx=>by simp at hx) (λx hx hz=>⟨by have:=h.pos x;omega,hl x hx hz⟩) ho).same.symm
theorem Gc (h:NK cls jn ex) (x:List Int):dcm cls ex (gi cls jn ex x)=dcm cls ex x:=by
 rw[gi,xO h (nT x) λe he _=>nU h he,ug h]
theorem Gg (h:NK cls jn ex) (x:List Int):gi cls jn ex (gi cls jn ex x)=gi cls jn ex x:=congrArg (ft cls jn) (Gc h x)
structure NK2 (cls:Int->Int) (jn:Int->Int->Option Int) (ex ex':Int->List Int):Prop where
 one:NK cls jn ex
 two:NK cls jn ex'
 more:∀ c,exs ex' (ex c)=ex' c
 keep:∀ c,cls c≠0->ex c=[c]->ex' c=[c]
variable {ex':Int->List Int}
theorem sw_exs {a b:List Int}(h:Sw cls a b):(∀ x∈a,cls x≠0->ex x=[x])->Sw cls (exs ex a) (exs ex b):=by
 induction h with
 | refl=>exact λ_=>.refl _
 | step p x y s h1 h2 h3 h4 ih=>
  intro ha;refine(ih ha).trans ?_;have hm:=h4.perm;have e1:ex x=[x]:=ha x (hm.mem_iff.2 si) om;have e2:ex y=[y]:=ha y (hm.mem_iff.2 si) om;simp only[exs,List.flatMap_append,List.flatMap_cons,e1,e2];exact Sw.one _ x y _ h1 h2 h3
theorem xE (h:NK2 cls jn ex ex'):∀ x,exs ex' (exs ex x)=exs ex' x
 | []=>rfl
 | c::x=>by
  have:=xE h x
  simp only[exs,List.flatMap_cons,List.flatMap_append] at this ⊢;rw[this,<-h.more c]
theorem xN (h:NK2 cls jn ex ex') (x:List Int):dcm cls ex' (dcm cls ex x)=dcm cls ex' x:=by
 have:Sw cls (exs ex' (exs ex x)) (exs ex' (dcm cls ex x)):=sw_exs (fu _) λe he hz=>by
  obtain⟨c,_,hc⟩:=List.mem_flatMap.1 he;exact h.keep e hz (h.one.irr c e hc)
 rw[dcm,<-this.same,xE h];rfl
theorem nW (h:NK2 cls jn ex ex') (x:List Int):dcm cls ex' (gi cls jn ex x)=dcm cls ex' x:=by
 rw[gi,xO h.two (nT x) λe he hz=>h.keep e hz (nU h.one he),xN h]
structure Hh (cls:Int->Int) (ex:Int->List Int) (c:Int):Prop where
 start:∃ t es,can cls (ex c)=t::es∧cls t=0
theorem Bm {x:Int}:∀ {l:List Int}{t:Int}{es:List Int},bw cls x l=t::es->cls t=0->(∀ c,0<=cls c)->x=t
 | [],t,es,h,_,_=>by simp only[bw,List.cons.injEq] at h;exact h.1
 | y::l,t,es,h,ht,_=>by
  unfold bw at h;split at h
  ·rename_i hp;simp only[List.cons.injEq] at h;rw[<-h.1] at ht;omega
  ·simp only[List.cons.injEq] at h;exact h.1
theorem xb (hp:∀ c,0<=cls c){l:List Int}{t:Int}{es:List Int}(h:can cls l=t::es) (ht:cls t=0):∃ s,l=t::s:=by
 cases l with
 | nil=>simp[can] at h
 | cons x l=>exact⟨l,by rw[Bm (show bw cls x (can cls l)=t::es from h) ht hp]⟩
theorem AX (hp:∀ c,0<=cls c){c:Int}(hc:Hh cls ex c) (x y:List Int):dcm cls ex (x++c::y)=dcm cls ex x++dcm cls ex (c::y)∧∃ t es s,can cls (ex c)=t::es∧cls t=0∧dcm cls ex (c::y)=t::s:=by
 obtain⟨t,es,h1,h2⟩:=hc.start;obtain⟨s,h3⟩:=xb hp h1 h2;have e:exs ex (c::y)=t::(s++exs ex y):=by simp only[exs,List.flatMap_cons,h3,List.cons_append]
 have e2:dcm cls ex (c::y)=t::can cls (s++exs ex y):=by rw[dcm,e,kw h2]
 refine⟨?_,t,es,_,h1,h2,e2⟩
 have:exs ex (x++c::y)=exs ex x++t::(s++exs ex y):=by rw[<-e];simp only[exs,List.flatMap_append]
 rw[e2,dcm,dcm,this,gj h2]
theorem Gf (hp:∀ c,0<=cls c){c:Int}(hc:Hh cls ex c) (hj:∀ t es,can cls (ex c)=t::es->∀ a,jn a t=none) (x y:List Int):gi cls jn ex (x++c::y)=gi cls jn ex x++gi cls jn ex (c::y):=by
 obtain⟨h1,t,es,s,h2,h3,h4⟩:=AX (ex:=ex) hp hc x y;unfold gi ft;rw[h1,h4,lR h3 (hj t es h2)]
theorem Gb {x:List Int}(ho:aq cls x) (h:∀ c∈x,dcm cls ex [c]=[c]) (hp:∀ c,0<=cls c):dcm cls ex x=x:=by
 have:(x.flatMap λc=>can cls (ex c))=x:=gK λc hc=>by have:=h c hc;simpa [dcm,exs] using this
 rw[dcm,(uc x).same,this,ho.same]
theorem dcm_no (h:NK cls jn ex){x:List Int}(e:dcm cls ex x=x):aq cls x∧∀ c∈x,dcm cls ex [c]=[c]:=by
 refine⟨e▸nT x,λc hc=>?_⟩;rw[rO λy hy=>(by rw[List.mem_singleton.1 hy];exact nU h (e.symm▸hc))];rfl
theorem Ab (c:Int):gi cls jn ex [c]=[c]↔pD cls jn ex c:=by
 unfold gi pD dcm exs;simp
theorem Ge (h:NK cls jn ex){x:List Int}(ho:aq cls x) (hg:∀ c∈x,gi cls jn ex [c]=[c]∧∀ t es,can cls (ex c)=t::es->∀ a,jn a t=none):gi cls jn ex x=x:=
 EM h.toJOk ho λc hc=>⟨(Ab c).1 (hg c hc).1,(hg c hc).2⟩
theorem cmp_no (h:NK cls jn ex){x:List Int}(e:gi cls jn ex x=x):aq cls x∧∀ c∈x,gi cls jn ex [c]=[c]:=by
 refine⟨?_,λc hc=>(Ab c).2 ?_⟩
 ·rw[<-e];exact uh h.toJOk _ [] none (λ_ h=>by cases h) (nT x)
 ·rw[<-e] at hc;exact pb h.toJOk h.join _ [] none (λ_ h=>by cases h) (λ_ h=>by simp at h) (λy hy=>nU h hy) h.pos (nT x) c hc
def eU (g:Int) (f:Int->List Int) (l:List Int):List Int:=l.flatMap λc=>f c++[g]
theorem fM {g:Int}{f:Int->List Int}{c:Int}{l:List Int}:eU g f (c::l)=f c++g::eU g f l:=by simp[eU]
theorem rP {g:Int}(hg:ex g=[g]) (hz:cls g=0):∀ l,dcm cls ex (eU g (λc=>[c]) l)=eU g (λc=>dcm cls ex [c]) l
 | []=>rfl
 | c::l=>by
  have ih:=rP hg hz l;rw[fM,fM,<-ih];unfold dcm
  have:exs ex ([c]++g::eU g (λc=>[c]) l)=exs ex [c]++g::exs ex (eU g (λc=>[c]) l):=by simp[exs,hg]
  rw[this,gj hz]
theorem Ee {g:Int}(hg:ex g=[g]) (hz:cls g=0) (h1:∀ a,jn a g=none) (h2:∀ b,jn g b=none) (l:List Int):gi cls jn ex (eU g (λc=>[c]) l)=eU g (λc=>gi cls jn ex [c]) l:=by
 unfold gi;rw[rP hg hz]
 induction l with
 | nil=>rfl
 | cons c l ih=>
  rw[fM,fM,<-ih];unfold ft;rw[lR hz h1,cX];simp only[jns,if_pos hz,Option.toList_none,List.nil_append];rw[xP h2]
theorem ui {e:Int}:∀ {l q:List Int}{s:Option Int},e∈cz cls jn s q l->e∈s.toList∨e∈q∨e∈l∨∃ a c,jn a c=some e
 | [],q,s,h=>by
  rcases List.mem_append.1 (show e∈s.toList++q from h) with h|h
  ·exact .inl h
  ·exact .inr (.inl h)
 | c::l,q,s,h=>by
  rw[cX] at h;split at h
  ·rename_i w hw;obtain⟨a,_,h2,_⟩:=gY hw;rcases ui h with h|h|h|h
   ·have:e=w:=by simpa using h
    exact .inr (.inr (.inr ⟨a,c,this▸h2⟩))
   ·exact .inr (.inl h)
   ·exact .inr (.inr (.inl (List.mem_cons_of_mem _ h)))
   ·exact .inr (.inr (.inr h))
  ·split at h
   ·simp only[List.mem_append] at h;rcases h with h|h|h
    ·exact .inl h
    ·exact .inr (.inl h)
    ·rcases ui h with h|h|h|h
     ·have:e=c:=by simpa using h
      exact .inr (.inr (.inl (by simp[this])))
     ·simp at h
     ·exact .inr (.inr (.inl (List.mem_cons_of_mem _ h)))
     ·exact .inr (.inr (.inr h))
   ·rcases ui h with h|h|h|h
    ·exact .inl h
    ·rcases List.mem_append.1 h with h|h
     ·exact .inr (.inl h)
     ·exact .inr (.inr (.inl (by simp[List.mem_singleton.1 h])))
    ·exact .inr (.inr (.inl (List.mem_cons_of_mem _ h)))
    ·exact .inr (.inr (.inr h))
end
end
section
open Go Go.Am Classical
set_option linter.unusedVariables false
structure Nm where
 cl:List Spn
 dc:List Mpg
 xc:List Rng
def hk (c:Int):Int:=
 if 4352<=c∧c<=4370 then 1 else if 4449<=c∧c<=4469 then 2 else if 4520<=c∧c<=4546 then 3 else if 44032<=c∧c<=55203 then(if(c-44032) % 28=0 then 4 else 5) else 0
def hd (c:Int):List Int:=
 if 4<=hk c then [4352+(c-44032) / 28 / 21,4449+(c-44032) / 28 % 21]++(if(c-44032) % 28=0 then [] else [4519+(c-44032) % 28]) else [c]
def hc (a b:Int):Option Int:=
 if hk a=1∧hk b=2 then some (44032+(21*(a-4352)+(b-4449))*28) else if hk a=4∧hk b=3 then some (a+b-4519) else none
theorem aj (c:Int):(hk c=1∧4352<=c∧c<=4370)∨(hk c=2∧4449<=c∧c<=4469)∨(hk c=3∧4520<=c∧c<=4546)∨(hk c=4∧44032<=c∧c<=55203∧(c-44032) % 28=0)∨(hk c=5∧44032<=c∧c<=55203∧(c-44032) % 28≠0) ∨
  (hk c=0∧¬(4352<=c∧c<=4370)∧¬(4449<=c∧c<=4469)∧¬(4520<=c∧c<=4546)∧¬(44032<=c∧c<=55203)):=by
 unfold hk;repeat' split
 all_goals simp_all
theorem yv {c e:Int}(h:4<=hk c) (he:e∈hd c):hk e<4∧1<=hk e∧4352<=e∧e<=4546:=by
 unfold hd at he;rw[if_pos h] at he;have hc:=aj c
 have key:∀ {x:Int},(4352<=x∧x<=4370)∨(4449<=x∧x<=4469)∨(4520<=x∧x<=4546)->hk x<4∧1<=hk x∧4352<=x∧x<=4546:=λ{x} hx=>by
  have:=aj x;omega
 apply key;split at he
 ·simp only[List.append_nil,kH,List.not_mem_nil,or_false] at he;omega
 ·simp only[List.cons_append,List.nil_append,kH,List.not_mem_nil,or_false] at he;omega
theorem HU {c:Int}:hd c≠[]:=by unfold hd;split<;>simp
theorem ix {a b w:Int}(h:hc a b=some w):4<=hk w∧hk b<4∧2<=hk b∧((hk a=1∧hd w=[a,b])∨(hk a=4∧hd w=hd a++[b])):=by
 unfold hc at h;have ha:=aj a;have hb:=aj b;split at h
 ·rename_i h1;injection h with h;subst h
  have h2:4352<=a∧a<=4370:=by omega
  have h3:4449<=b∧b<=4469:=by omega
  have hw:=aj (44032+(21*(a-4352)+(b-4449))*28);have h4:hk (44032+(21*(a-4352)+(b-4449))*28)=4:=by omega
  refine⟨by omega,by omega,by omega,.inl ⟨h1.1,?_⟩⟩;unfold hd;rw[if_pos om,if_pos om,List.append_nil];congr 1
  ·omega
  ·congr 1;omega
 ·split at h
  ·rename_i h1;injection h with h;subst h
   have h2:44032<=a∧a<=55203∧(a-44032) % 28=0:=by omega
   have h3:4520<=b∧b<=4546:=by omega
   have hw:=aj (a+b-4519);have h4:hk (a+b-4519)=5:=by omega
   refine⟨by omega,by omega,by omega,.inr ⟨h1.1,?_⟩⟩;unfold hd;rw[if_pos om,if_neg om,if_pos om,if_pos om,List.append_nil];simp only[List.cons_append,List.nil_append];congr 1
   ·omega
   ·congr 1
    ·omega
    ·congr 1;omega
  ·cases h
def cls (n:Nm) (c:Int):Int:=aJ n.cl c
def fnd (l:List Mpg) (c:Int):Option Mpg:=l.find? λm=>decide (m.frm=c)
def once (n:Nm) (k:Bool) (c:Int):Option (List Int):=
 if 4<=hk c then some (hd c) else match fnd n.dc c with
  | some m=>if m.tag≠[]∧k=false then none else some m.to
  | none=>none
theorem dv {l:List Mpg}{c:Int}{m:Mpg}(h:fnd l c=some m):m∈l∧m.frm=c:=by
 unfold fnd at h;exact⟨List.mem_of_find?_eq_some h,by have:=List.find?_some h;simpa using this⟩
def oX (on:Int->Option (List Int)) (ex:Int->List Int):Prop:=∀ c,ex c=match on c with|none=>[c]|some to=>to.flatMap ex
noncomputable def bA (on:Int->Option (List Int)):Int->List Int:=if h:∃ ex,oX on ex then Classical.choose h else λc=>[c]
def nf (on:Int->Option (List Int)):Prop:=∃ rk:Int->Nat,∀ c to,on c=some to->∀ e∈to,rk e<rk c
def exF (on:Int->Option (List Int)):Nat->Int->List Int
 | 0,c=>[c]
 | f+1,c=>match on c with|none=>[c]|some to=>to.flatMap (exF on f)
theorem xF {on:Int->Option (List Int)}{rk:Int->Nat}(hr:∀ c to,on c=some to->∀ e∈to,rk e<rk c):∀ (f g:Nat) (c:Int),rk c<f->rk c<g->exF on f c=exF on g c
 | 0,_,_,h,_=>absurd h (Nat.not_lt_zero _)
 | _+1,0,_,_,h=>absurd h (Nat.not_lt_zero _)
 | f+1,g+1,c,h1,h2=>by
  simp only[exF];split
  ·rfl
  ·rename_i to ht
   have:∀ l:List Int,(∀ e∈l,rk e<rk c)->l.flatMap (exF on f)=l.flatMap (exF on g):=λl=>by
    induction l with
    | nil=>intro _;rfl
    | cons e l ih=>
     intro hl;have:=hl e si
     simp only[List.flatMap_cons,ih λx hx=>hl x (List.mem_cons_of_mem _ hx),xF hr f g e om om]
   exact this to (hr c to ht)
theorem lY {on:Int->Option (List Int)}(h:nf on):oX on (bA on):=by
 have he:∃ ex,oX on ex:=by
  obtain⟨rk,hr⟩:=h;refine⟨λc=>exF on (rk c+1) c,λc=>?_⟩;show exF on (rk c+1) c=_;simp only[exF];split
  ·rfl
  ·rename_i to ht
   have:∀ l:List Int,(∀ e∈l,rk e<rk c)->l.flatMap (exF on (rk c))=l.flatMap (λe=>exF on (rk e+1) e):=λl=>by
    induction l with
    | nil=>intro _;rfl
    | cons e l ih=>
     intro hl;have:=hl e si
     simp only[List.flatMap_cons,ih λx hx=>hl x (List.mem_cons_of_mem _ hx),xF hr (rk c) (rk e+1) e om om]
   exact this to (hr c to ht)
 unfold bA;rw[dif_pos he];exact Classical.choose_spec he
theorem oX.none {on:Int->Option (List Int)}{ex:Int->List Int}(h:oX on ex){c:Int}(hc:on c=none):ex c=[c]:=by rw[h c,hc]
theorem oX.some {on:Int->Option (List Int)}{ex:Int->List Int}(h:oX on ex){c:Int}{to:List Int}(hc:on c=some to):ex c=to.flatMap ex:=by rw[h c,hc]
theorem oX.irr {on:Int->Option (List Int)}{ex:Int->List Int}(h:oX on ex) (hE:nf on) (c:Int):∀ e∈ex c,on e=Option.none:=by
 obtain⟨rk,hr⟩:=hE
 have:∀ n c,rk c<n->∀ e∈ex c,on e=Option.none:=by
  intro n
  induction n with
  | zero=>intro c h;exact absurd h (Nat.not_lt_zero _)
  | succ n ih=>
   intro c hn e he;cases hc:on c with
   | none=>rw[h.none hc,List.mem_singleton] at he;rw[he,hc]
   | some to=>
    rw[h.some hc] at he;obtain⟨d,hd,he⟩:=List.mem_flatMap.1 he;have:=hr c to hc d hd
    exact ih d om e he
 exact this _ c (Nat.lt_succ_self _)
def ci (n:Nm) (a b:Int) (m:Mpg):Prop:=m.tag=[]∧m.to=[a,b]∧bM n.xc m.frm=false∧cls n m.frm=0∧cls n a=0
noncomputable def jn (n:Nm) (a b:Int):Option Int:=
 match hc a b with
 | some w=>some w
 | none=>(n.dc.find? λm=>decide (ci n a b m)).map (·.frm)
structure NmV (n:Nm):Prop where
 cl:ClV n.cl
 dc:MOk n.dc
 xc:i7 n.xc
 inj:∀ m∈n.dc,∀ m' ∈ n.dc,m.frm=m'.frm->m=m'
 two:∀ m∈n.dc,m.tag=[]->m.to.length=1∨m.to.length=2
 kind:∀ m∈n.dc,hk m.frm=0
 tagged:∀ m∈n.dc,m.tag≠[]->cls n m.frm=0
 ends:nf (once n true)
 len:∀ c,(bA (once n true) c).length<=64
theorem dF {n:Nm}{c:Int}{to:List Int}(h:once n false c=some to):once n true c=some to:=by
 unfold once at *;split at h
 ·rename_i hc;rw[if_pos hc];exact h
 ·rename_i hc;rw[if_neg hc];split at h
  ·rename_i m hm;split at h
   ·cases h
   ·rename_i ht
    try simp only[hm]
    rw[if_neg si];exact h
  ·cases h
theorem rE {l:List Mpg}(hi:∀ m∈l,∀ m' ∈ l,m.frm=m'.frm->m=m'){m:Mpg}(hm:m∈l):fnd l m.frm=some m:=by
 unfold fnd;cases h:l.find? λx=>decide (x.frm=m.frm) with
 | none=>exact absurd (List.find?_eq_none.1 h m hm) si
 | some x=>
  have h1:=List.mem_of_find?_eq_some h;have h2:=List.find?_some h;rw[hi x h1 m hm (by simpa using h2)]
namespace NmV
variable {n:Nm}(h:NmV n)
include h
theorem endsD:nf (once n false):=by
 obtain⟨rk,hr⟩:=h.ends;exact⟨rk,λc to hc=>hr c to (dF hc)⟩
theorem cls_pos (c:Int):0<=cls n c:=by
 have:∀ l:List Spn,(∀ s∈l,1<=s.val)->0<=aJ l c:=λl=>by
  induction l with
  | nil=>intro _;simp[aJ]
  | cons s l ih=>
   intro hl;simp only[aJ];split
   ·have:=hl s si;omega
   ·exact ih λx hx=>hl x (List.mem_cons_of_mem _ hx)
 exact this _ λs hs=>by
  obtain⟨i,hi,rfl⟩:=List.getElem_of_mem hs;exact(h.cl i hi).1.2.2.2.1
end NmV
end
end Go.Proofs.YtihggclfifimoaaGreatDoor
