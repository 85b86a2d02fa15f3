/-
  Contracts of functions over data: sets of code points made by the reference.
-/
import Derived.Test.YtlimkdlhldlolaaGreatDoorH5
set_option linter.unusedSectionVars false
namespace Go.Proofs.YtlimkdlhldlolaaGreatDoor
set_option maxHeartbeats 8000000
set_option maxRecDepth 100000
section
open Go Go.Am Classical
theorem xH8.rdX {p:Prop}(h:p:=by first|exact Rd.sl' rfl sim sim|fail):p:=h
theorem xH8.rbX {p:Prop}(h:p:=by first|exact Rb.cells (Rds.eqs (I3 (c:=λx=>[i64 x]) gk (x::xs) n l[k]) (aE (by intro _;rfl) _)) rfl|exact Rb.cells (Rds.eqs (aQ (c:=λx=>[i64 x]) gk (x::xs) l[k]) (aE (by intro _;rfl) _)) rfl|fail):p:=h
open xH8
variable [GT]
theorem fJ {n:Int}:Pu Tryz.prog 165 [i64 n] (boo (decide (0<=n/\n<=1114111))):=by
 refine pv Tryz.func165 ?_;repeat' ((conv=>whnf);first|exact kQ|(refine bk ?_ ?_<;>intro _<;>try exact exo)|refine stq ?_)
 all_goals(conv=>whnf)
 all_goals first
  | exact aD.yes om
  | exact aD.no om
theorem vU {l:List Int}{p:Int->Bool}(h:∀ x,x∈l->p x=true):l.filter p=l:=List.filter_eq_self.2 h
theorem rO {l:List Int}{p:Int->Bool}(h:∀ x,x∈l->¬p x=true):l.filter p=[]:=List.filter_eq_nil_iff.2 h
theorem CU {l:List Int}{n:Int}(h:∀ x,x∈l->x<n):bA l n=l++[n]:=by
 rw[bA,vU (λx hx=>by simpa using h x hx),rO (λx hx=>by have:=h x hx;simp;omega)]
theorem wx {l:List Int}{n y:Int}(h:∀ x,x∈l->x<n) (hy:n<y):bA (l++[y]) n=l++[n,y]:=by
 rw[bA,List.filter_append,List.filter_append,vU (l:=l) (λx hx=>by simpa using h x hx),rO (l:=l) (λx hx=>by have:=h x hx;simp;omega)];have h1:¬y<n:=om;simp[h1,hy]
theorem wy {l:List Int}{n:Int}(h:∀ x,x∈l->x<n):bA (l++[n]) n=l++[n]:=by
 rw[bA,List.filter_append,List.filter_append,vU (l:=l) (λx hx=>by simpa using h x hx),rO (l:=l) (λx hx=>by have:=h x hx;simp;omega)];simp
theorem qd {l:List Int}{n y:Int}(hy:n<y):bA (l++[y]) n=bA l n++[y]:=by
 have h1:¬y<n:=om;simp[bA,List.filter_append,h1,hy]
theorem Eu {l:List Int}{n:Int}:bA l n≠[]:=by simp[bA]
theorem fO {l:List Int}{n:Int}:(bA l n).length<=l.length+1:=by
 simp only[bA,kG,kO]
 have h1:∀ l:List Int,(l.filter λx=>decide (x<n)).length+(l.filter λx=>decide (n<x)).length<=l.length:=λl=>by
  induction l with
  | nil=>simp
  | cons x l ih=>
   simp only[List.filter_cons];by_cases h1:x<n
   .have h2:¬n<x:=om;simp[h1,h2];omega
   .by_cases h2:n<x
    .simp[h1,h2];omega
    .simp[h1,h2];omega
 have:=h1 l
 omega
theorem vK {α:Type}{c:α->List D}{sz:Nat}(hc:∀ x,(c x).length=sz) (l:List α) (v:α):(l.length+1)*sz<=(((l.flatMap c).drop 0).take (l.length*sz)++c v).length:=by
 rw[aQ hc l v,aa hc];simp
theorem I3 {α:Type}{c:α->List D}{sz:Nat}(hc:∀ x,(c x).length=sz) (l:List α) (v w:α):((((l.flatMap c).drop 0).take (l.length*sz)++c v).drop 0).take ((l.length+1)*sz)++c w=(l++[v,w]).flatMap c:=by
 rw[aQ hc l v,List.drop_zero,kE (by rw[aa hc];simp)];simp
theorem Rd.frzI {h:aA}{fz:Nat->Bool}{σ:Nat->Option Nat}{l:List Int}{id n cap es:Nat}{ex:Bool}{cs:List D}{bx:Bool}(hf:fz id=true) (hg:h.get id=some (.cells cs bx)) (hn:n=l.length) (he:es=1) (hc:cs=l.flatMap λx=>[i64 x]):Rd h fz σ (.sl id 0 n cap es ex) (aC l):=by
 rw[show aC l=lstS (λx=>[i64 x]) l from(qw l).symm];exact Rd.frzL (c:=λx:Int=>[i64 x]) (sz:=1) (λ_=>rfl) (λ_=>rfl) hf hg hn he hc
theorem gk (x:Int):([i64 x]:List D).length=1:=rfl
theorem m8 {l:List Int}{n:Int}(hl:l.length<=1000) (ha:asc l):Pu Tryz.prog 196 [aC l,i64 n] (aC (bA l n)):=by
 refine pv Tryz.func196 ?_;repeat' ((conv=>whnf);first|exact kQ|(refine bk ?_ ?_<;>intro _<;>try exact exo)|refine stq ?_)
 refine aG.by3 aB T0 (λ(k:Nat) (dn:Bool) (o:List Int)=>⟨tmp 48 [(0,aC l),(1,i64 n),(5,aP 0 1 o),(6,boo dn),(7,i64 (k:Int))],⟨1,bS 0 (λx=>[i64 x]) o⟩⟩)
  (λk dn o=>(k<=l.length/\o.length<=k+1)/\(dn=false/\(∀ x,x∈l.take k->x<n)/\o=l.take k\/dn=true/\(∃ x,x∈l.take k/\n<=x)/\o=bA (l.take k) n)) (λk _ _=>l.length-k) 0 false [] ⟨⟨om,si⟩,.inl ⟨rfl,si,rfl⟩⟩ ?_ ?_
 .exact lq0
 intro k dn o ⟨⟨h3,h5⟩,h4⟩;by_cases hk:k<l.length
 .have ht:l.take (k+1)=l.take k++[l[k]]:=bI hk;have hm:l[k]∈l.take (k+1):=ht▸List.mem_append_right _ (List.mem_singleton_self _);rcases h4 with⟨rfl,h6,h7⟩|⟨rfl,h6,h7⟩
  .have h5':o.length<=k:=by rw[h7];simp;omega
   by_cases hge:n<=l[k]
   .by_cases hgt:n<l[k]
    .
     cases o with
     | nil=>
      repeat' ((conv=>whnf);first|exact kQ|(refine bk ?_ ?_<;>intro _<;>try exact exo)|refine stq ?_|refine Chk.growX 8 1 rfl rfl om om (kD rfl) ?_)
      (conv=>whnf)
      refine⟨k+1,true,([]:List Int)++[n,l[k]],⟨⟨om,si⟩,.inr ⟨rfl,⟨_,hm,om⟩,by rw[ht,wx h6 hgt,<-h7]⟩⟩,om,?_⟩;exact lq [(0,_)] []
     | cons x xs=>
      have hlen:(x::xs).length<=1001:=by omega
      repeat' ((conv=>whnf);first|exact kQ|(refine bk ?_ ?_<;>intro _<;>try exact exo)|refine stq ?_|refine Chk.growX 8 1 rfl rfl om om (vK (c:=λx=>[i64 x]) gk (x::xs) n) ?_)
      (conv=>whnf)
      refine⟨k+1,true,(x::xs)++[n,l[k]],⟨⟨om,by rw[kG];simp only[kO,List.length_nil] at h5 h5' ⊢;omega⟩,.inr ⟨rfl,⟨_,hm,om⟩,by rw[ht,wx h6 hgt,<-h7]⟩⟩,om,?_⟩;exact lq [(0,_)] []
    .have e:l[k]=n:=om;cases o with
     | nil=>
      repeat' ((conv=>whnf);first|exact kQ|(refine bk ?_ ?_<;>intro _<;>try exact exo)|refine stq ?_|refine Chk.growX 8 1 rfl rfl om om (kD rfl) ?_)
      (conv=>whnf)
      refine⟨k+1,true,([]:List Int)++[l[k]],⟨⟨om,si⟩,.inr ⟨rfl,⟨_,hm,om⟩,by rw[ht,e,wy h6,<-h7]⟩⟩,om,?_⟩;exact lq [(0,_)] []
     | cons x xs=>
      have hlen:(x::xs).length<=1001:=by omega
      repeat' ((conv=>whnf);first|exact kQ|(refine bk ?_ ?_<;>intro _<;>try exact exo)|refine stq ?_|refine Chk.growX 8 1 rfl rfl om om (vK (c:=λx=>[i64 x]) gk (x::xs) n) ?_)
      (conv=>whnf)
      refine⟨k+1,true,(x::xs)++[l[k]],⟨⟨om,by rw[kG];simp only[kO,List.length_nil] at h5 h5' ⊢;omega⟩,.inr ⟨rfl,⟨_,hm,om⟩,by rw[ht,e,wy h6,<-h7]⟩⟩,om,?_⟩;exact lq [(0,_)] []
   .
    cases o with
    | nil=>
     repeat' ((conv=>whnf);first|exact kQ|(refine bk ?_ ?_<;>intro _<;>try exact exo)|refine stq ?_|refine Chk.growX 8 1 rfl rfl om om (kD rfl) ?_)
     (conv=>whnf)
     refine⟨k+1,false,([]:List Int)++[l[k]],⟨⟨om,si⟩,.inl ⟨rfl,λx hx=>by rw[ht] at hx;rcases List.mem_append.1 hx with hx|hx<;>first|exact h6 x hx|(have:=List.mem_singleton.1 hx;omega),by rw[ht,<-h7]⟩⟩,om,?_⟩;exact lq [(0,_)] []
    | cons x xs=>
     have hlen:(x::xs).length<=1001:=by omega
     repeat' ((conv=>whnf);first|exact kQ|(refine bk ?_ ?_<;>intro _<;>try exact exo)|refine stq ?_|refine Chk.growX 8 1 rfl rfl om om (vK (c:=λx=>[i64 x]) gk (x::xs) n) ?_)
     (conv=>whnf)
     refine⟨k+1,false,(x::xs)++[l[k]],⟨⟨om,by rw[kG];simp only[kO,List.length_nil] at h5 h5' ⊢;omega⟩,.inl ⟨rfl,λx hx=>by rw[ht] at hx;rcases List.mem_append.1 hx with hx|hx<;>first|exact h6 x hx|(have:=List.mem_singleton.1 hx;omega),by rw[ht,<-h7]⟩⟩,om,?_⟩;exact lq [(0,_)] []
  .obtain⟨z,hz,hnz⟩:=h6
   have hgt:n<l[k]:=by
    rw[List.mem_take_iff_getElem] at hz;obtain⟨i,hi,rfl⟩:=hz;have:=(List.pairwise_iff_getElem.1 ha) i k om hk om
    omega
   have h5':o.length<=k+1:=h5;have h5:o.length<=k+1:=h5;cases o with
   | nil=>
    repeat' ((conv=>whnf);first|exact kQ|(refine bk ?_ ?_<;>intro _<;>try exact exo)|refine stq ?_|refine Chk.growX 8 1 rfl rfl om om (kD rfl) ?_)
    (conv=>whnf)
    refine⟨k+1,true,([]:List Int)++[l[k]],⟨⟨om,si⟩,.inr ⟨rfl,⟨_,hm,om⟩,by rw[ht,qd hgt,<-h7]⟩⟩,om,?_⟩;exact lq [(0,_)] []
   | cons x xs=>
    have hlen:(x::xs).length<=1001:=by omega
    repeat' ((conv=>whnf);first|exact kQ|(refine bk ?_ ?_<;>intro _<;>try exact exo)|refine stq ?_|refine Chk.growX 8 1 rfl rfl om om (vK (c:=λx=>[i64 x]) gk (x::xs) n) ?_)
    (conv=>whnf)
    refine⟨k+1,true,(x::xs)++[l[k]],⟨⟨om,by rw[kG];simp only[kO,List.length_nil] at h5 h5' ⊢;omega⟩,.inr ⟨rfl,⟨_,hm,om⟩,by rw[ht,qd hgt,<-h7]⟩⟩,om,?_⟩;exact lq [(0,_)] []
 .rw[kE om] at h4;rcases h4 with⟨rfl,h6,h7⟩|⟨rfl,h6,h7⟩
  .have e:bA l n=o++[n]:=by rw[CU h6,h7]
   rw[e];cases o with
   | nil=>
    repeat' ((conv=>whnf);first|exact kQ|(refine bk ?_ ?_<;>intro _<;>try exact exo)|refine stq ?_)
    (conv=>whnf)
    exact⟨Rd.frzI (l:=[n]) rfl rfl rfl rfl rfl⟩
   | cons x xs=>
    have hlen:(x::xs).length<=1001:=by omega
    repeat' ((conv=>whnf);first|exact kQ|(refine bk ?_ ?_<;>intro _<;>try exact exo)|refine stq ?_)
    (conv=>whnf)
    exact⟨Rd.frzI rfl rfl si rfl (aQ (c:=λx=>[i64 x]) gk (x::xs) n)⟩
  .have e:bA l n=o:=h7.symm;rw[e];cases o with
   | nil=>exact absurd h7.symm Eu
   | cons x xs=>
    repeat' ((conv=>whnf);first|exact kQ|(refine bk ?_ ?_<;>intro _<;>try exact exo)|refine stq ?_)
    (conv=>whnf)
    exact aD.own1 (id:=0) (l:=x::xs) (rest:=[]) (λ_=>rfl)
end
section
open Go Go.Am Classical
variable [GT]
abbrev lh (l:List Rng):D:=.agg [ax l]
theorem fk {l rs:List _}{r:Rng}:bM l (r::rs)=bM (if 0<=r.hi/\r.hi<1114111 then bA (if 0<=r.lo/\r.lo<=1114111 then bA l r.lo else l) (r.hi+1) else(if 0<=r.lo/\r.lo<=1114111 then bA l r.lo else l)) rs:=rfl
theorem Gt {l:List Int}{rs:List Rng}(hl:l.length<=500) (ha:asc l) (hr:rs.length<=12):Pu Tryz.prog 162 [aC l,lh rs] (aC (bM l rs)):=by
 refine pv Tryz.func162 ?_;repeat' ((conv=>whnf);first|exact kQ|(refine bk ?_ ?_<;>intro _<;>try exact exo)|refine stq ?_)
 refine aG.by2 aB T0 (λ(k:Nat) (cur:List Int)=>⟨tmp 44 [(0,aC cur),(3,.ptr 0 0),(5,i64 (k:Int))],⟨1,[(0,.cells [ax rs] true)]⟩⟩)
  (λk cur=>(k<=rs.length/\cur.length<=l.length+2*k)/\asc cur/\bM l rs=bM cur (rs.drop k)) (λk _=>rs.length-k) 0 l ⟨⟨om,om⟩,ha,rfl⟩ ?_ ?_
 .exact lq [(0,_)] []
 intro k cur ⟨⟨h3,h5⟩,h7,h8⟩;by_cases hk:k<rs.length
 .have hd:rs.drop k=rs[k]::rs.drop (k+1):=kK hk;have a1:=gG (n:=rs[k].lo) h7;have b1:=fO (l:=cur) (n:=rs[k].lo);have b2:=fO (l:=cur) (n:=rs[k].hi+1);have b3:=fO (l:=bA cur rs[k].lo) (n:=rs[k].hi+1);by_cases c1:0<=rs[k].lo/\rs[k].lo<=1114111
  .by_cases c2:0<=rs[k].hi/\rs[k].hi<1114111
   .
    repeat' ((conv=>whnf);first|exact kQ|(refine bk ?_ ?_<;>intro _<;>try exact exo)|refine stq ?_|refine cd fJ (λ_=>?_) (λ_=>?_)|refine cp (m8 sd sd) ?_|fail)
    all_goals(conv=>whnf)
    all_goals first
     | (exfalso;omega)
     | (refine⟨k+1,bA (bA cur rs[k].lo) (rs[k].hi+1),⟨⟨om,om⟩,gG a1,by rw[h8,hd,fk,if_pos c1,if_pos c2]⟩,om,?_⟩
        exact lq [(0,_)] [])
   .
    repeat' ((conv=>whnf);first|exact kQ|(refine bk ?_ ?_<;>intro _<;>try exact exo)|refine stq ?_|refine cd fJ (λ_=>?_) (λ_=>?_)|refine cp (m8 sd sd) ?_|fail)
    all_goals(conv=>whnf)
    all_goals first
     | (exfalso;omega)
     | (refine⟨k+1,bA cur rs[k].lo,⟨⟨om,om⟩,a1,by rw[h8,hd,fk,if_pos c1,if_neg c2]⟩,om,?_⟩
        exact lq [(0,_)] [])
  .by_cases c2:0<=rs[k].hi/\rs[k].hi<1114111
   .
    repeat' ((conv=>whnf);first|exact kQ|(refine bk ?_ ?_<;>intro _<;>try exact exo)|refine stq ?_|refine cd fJ (λ_=>?_) (λ_=>?_)|refine cp (m8 sd sd) ?_|fail)
    all_goals(conv=>whnf)
    all_goals first
     | (exfalso;omega)
     | (refine⟨k+1,bA cur (rs[k].hi+1),⟨⟨om,om⟩,gG h7,by rw[h8,hd,fk,if_neg c1,if_pos c2]⟩,om,?_⟩
        exact lq [(0,_)] [])
   .
    repeat' ((conv=>whnf);first|exact kQ|(refine bk ?_ ?_<;>intro _<;>try exact exo)|refine stq ?_|refine cd fJ (λ_=>?_) (λ_=>?_)|refine cp (m8 sd sd) ?_|fail)
    all_goals(conv=>whnf)
    all_goals first
     | (exfalso;omega)
     | (refine⟨k+1,cur,⟨⟨om,om⟩,h7,by rw[h8,hd,fk,if_neg c1,if_neg c2]⟩,om,?_⟩
        exact lq [(0,_)] [])
 .repeat' ((conv=>whnf);first|exact kQ|(refine bk ?_ ?_<;>intro _<;>try exact exo)|refine stq ?_|refine cp (m8 sd sd) ?_|fail)
  (conv=>whnf)
  rw[h8,List.drop_of_length_le om];exact aD.same (aM _) rfl
theorem JE {rs:List Rng}(hr:rs.length<=12):Pu Tryz.prog 162 [aJ,lh rs] (aC (bM [] rs)):=(Gt (l:=[]) si List.Pairwise.nil hr).args λc vs h=>by
 obtain⟨y,ys,rfl,h1,h2⟩:=h.inv;exact VS.cons (Jd h1) h2
theorem yu {c:Ctx}{y:Value}(h:V c (.agg [aJ]) y):V c (.agg [.imm 0 []]) y:=by
 simp only[V] at h ⊢;obtain⟨ys,rfl,h⟩:=h;obtain⟨z,zs,rfl,h1,h2⟩:=h.inv;exact⟨_,rfl,VS.cons (Jd (by simp only[V];exact h1)) h2⟩
theorem JF {l:List Int}(hl:l.length<=500) (ha:asc l):Pu Tryz.prog 162 [aC l,.agg [aJ]] (aC (bM l [])):=(Gt (rs:=[]) hl ha si).args λc vs h=>by
 obtain⟨y,ys,rfl,h1,h2⟩:=h.inv;obtain⟨z,zs,rfl,h3,h4⟩:=h2.inv;exact VS.cons h1 (VS.cons (yu h3) h4)
theorem yz {rs:List Rng}{n:Int}(hr:rs.length<=12):Pu Tryz.prog 164 [lh rs,i64 n] (boo (i5 rs n)):=by
 refine pv Tryz.func164 ?_;repeat' ((conv=>whnf);first|exact kQ|(refine bk ?_ ?_<;>intro _<;>try exact exo)|refine stq ?_)
 refine aG.by aB T0 (λk:Nat=>⟨tmp 35 [(1,i64 n),(2,.ptr 0 0),(5,i64 (k:Int))],⟨1,[(0,.cells [ax rs] true)]⟩⟩)
  (λk=>k<=rs.length/\∀ i (h:i<rs.length),i<k->¬((0<=n/\n<=1114111)/\rs[i].lo<=n/\n<=rs[i].hi)) (λk=>rs.length-k) 0 ⟨om,λ_ _ h=>om⟩ ?_ ?_
 .exact lq [(0,_)] []
 intro k ⟨h3,h4⟩;repeat' ((conv=>whnf);first|exact kQ|(refine bk ?_ ?_<;>intro _<;>try exact exo)|refine stq ?_|refine cd fJ (λ_=>?_) (λ_=>?_)|fail)
 all_goals(conv=>whnf)
 all_goals first
  | exact aD.v (by rw[show i5 rs n=true from i4.2 ⟨asm,⟨_,kM (show k<rs.length by omega),om,om⟩⟩])
  | exact aD.v (by rw[show i5 rs n=false from Bool.eq_false_iff.2 λhb=>by
    obtain⟨h1,r,hr1,hr2⟩:=i4.1 hb;obtain⟨i,hi,rfl⟩:=List.getElem_of_mem hr1
    exact h4 i hi om ⟨h1,hr2⟩])
  | (refine⟨k+1,⟨om,aj om h4 om⟩,om,?_⟩
     exact lq [(0,_)] [])
theorem iU {n:Int}:Pu Tryz.prog 164 [.agg [aJ],i64 n] (boo false):=by
 have h:Pu Tryz.prog 164 [lh [],i64 n] (boo false):=by
  have:=yz (rs:=[]) (n:=n) si
  rwa [show i5 [] n=false from by simp[i5]] at this
 exact h.args λc vs h=>by
  obtain⟨y,ys,rfl,h1,h2⟩:=h.inv;exact VS.cons (yu h1) h2
theorem pb {x:Bool}:Pu Tryz.prog 163 [i64 1,boo x,boo false] (boo x):=by
 refine pv Tryz.func163 ?_;cases x
 all_goals
  repeat' ((conv=>whnf);first|exact kQ|(refine bk ?_ ?_<;>intro _<;>try exact exo)|refine stq ?_)
  (conv=>whnf)
  exact aD.same rfl rfl
end
section
open Go Go.Am Classical
theorem xHA.rdX {p:Prop}(h:p:=by first|exact Rd.sl' rfl hle'.symm hle'.symm|exact Rd.sl' rfl sim sim|fail):p:=h
theorem xHA.rbX {p:Prop}(h:p:=by first|exact Rb.cells (Rds.eqs (aQ (c:=bm) (sz:=2) bE (x::xs) (⟨(bV rs)[k],(bV rs)[k+1]-1⟩:Rng)) (aE bQ _)) rfl|exact Rb.cells (Rds.eqs (aQ (c:=bm) (sz:=2) bE (x::xs) (⟨(bV rs)[k],1114111⟩:Rng)) (aE bQ _)) rfl|exact Rb.cells (Rds.eqs (by first|(rw[he];done)|fail) (aE bQ _)) rfl|fail):p:=h
open xHA
variable [GT]
theorem ja:∀ (rs:List Rng) (l:List Int),(bM l rs).length<=l.length+2*rs.length+1
 | [],l=>by have:=fO (l:=l) (n:=0);simp[bM];exact this
 | r::rs,l=>by
  rw[fk];have h1:=fO (l:=l) (n:=r.lo);have h2:=fO (l:=l) (n:=r.hi+1);have h3:=fO (l:=bA l r.lo) (n:=r.hi+1);have h4:=ja rs;simp only[kO];split<;>split
  .have:=h4 (bA (bA l r.lo) (r.hi+1));omega
  .have:=h4 (bA l (r.hi+1));omega
  .have:=h4 (bA l r.lo);omega
  .have:=h4 l;omega
def bV (rs:List Rng):List Int:=bM (bM [] rs) []
theorem t9 (rs:List Rng):(bV rs).length<=2*rs.length+2:=by
 have h1:=ja [] (bM [] rs);have h2:=ja rs [];simp only[List.length_nil] at h1 h2;rw[bV];omega
theorem yP {rs:List Rng}{x:Int}(h:x∈bV rs):0<=x/\x<=1114111:=by
 rcases(gy [] _ x).1 h with rfl|h|⟨_,h,_⟩
 .omega
 .rcases(gy rs _ x).1 h with rfl|h|⟨r,_,h⟩
  .omega
  .cases h
  .rcases h with h|h<;>omega
 .cases h
section
variable {p:Int->Bool}{o:List Rng}{op:Bool}{c hi:Int}{l:List Int}
def IW:List Int->Int
 | []=>1114111
 | d::_=>d-1
theorem vb (h:p c=false):cmb p o op (c::l)=cmb p o false l:=by simp only[cmb,h];rfl
theorem px (h:p c=true) (hh:hi=IW l):cmb p o false (c::l)=cmb p (o++[⟨c,hi⟩]) true l:=by
 subst hh;simp only[cmb,h];cases l<;>rfl
theorem yU (h:p c=true) (hh:hi=IW l) (ho:0<o.length):cmb p o true (c::l)=cmb p (o.set (o.length-1) ⟨(o[o.length-1]'(by omega)).lo,hi⟩) true l:=by
 subst hh;simp only[cmb,h,if_true,vL ho,wd ho];cases l<;>rfl
end
theorem IP {l:List Int}:¬aC l=aJ:=by intro h;simp only[lst] at h;cases h
theorem fX {l:List Rng}:¬D.agg [aJ]=lh l:=by
 intro h;injection h with h
 injection h with h
 simp only[lstS] at h;cases h
abbrev cmF (rs:List Rng) (k:Nat) (op:Bool) (o:List Rng):St:=⟨tmp 79 [(2,i64 1),(3,.ptr 0 0),(4,.ptr 1 0),(6,.ptr 2 0),(7,aC (bV rs)),(8,.ptr 3 0),(9,boo op),(10,i64 (k:Int))],⟨5,(0,.cells [ax rs] true)::(1,.cells [aJ] true)::(2,.cells [aJ] true)::(3,.cells [aP 4 2 o] true)::bS 4 bm o⟩⟩
theorem DN {rs:List Rng}(hr:rs.length<=12):Pu Tryz.prog 121 [lh rs,.agg [aJ],i64 1] (sK (jm rs)):=by
 have hcl:=t9 rs;have hc1:=JE hr;have hl1:=ja rs [];simp only[List.length_nil] at hl1;have hc2:Pu Tryz.prog 162 [aC (bM [] rs),.agg [aJ]] (aC (bV rs)):=JF om (jb rs [] List.Pairwise.nil);have hend:jm rs=cmb (λc=>i5 rs c) [] false (bV rs):=rfl;refine pv Tryz.func121 ?_;repeat' ((conv=>whnf);first|exact kQ|(refine bk ?_ ?_<;>intro _<;>try exact exo)|refine stq ?_|refine cp hc1 ?_|refine cp hc2 ?_|refine Chk.mk (λh=>absurd (List.cons.inj h).1 IP) ?_)
 refine aG.by3 aB T0 (cmF rs) (λk op o=>(k<=(bV rs).length/\o.length<=k)/\(op=true->o≠[])/\cmb (λc=>i5 rs c) [] false (bV rs)=cmb (λc=>i5 rs c) o op ((bV rs).drop k)) (λk _ _=>(bV rs).length-k) 0 false [] ⟨⟨om,si⟩,λh=>Bool.noConfusion h,rfl⟩ ?_ ?_
 .exact lq [(0,_),(1,_),(2,_),(3,_)] []
 intro k op o ⟨⟨h3,h5⟩,h9,h8⟩;by_cases hk:k<(bV rs).length
 .have hd:(bV rs).drop k=(bV rs)[k]::(bV rs).drop (k+1):=kK hk;have hb1:=yP (kM hk);by_cases hk1:k+1<(bV rs).length
  .have hb2:=yP (kM hk1);have hd2:(bV rs).drop (k+1)=(bV rs)[k+1]::(bV rs).drop (k+1+1):=kK hk1;have hi:(bV rs)[k+1]-1=IW ((bV rs).drop (k+1)):=by rw[hd2];rfl
   cases hb:i5 rs (bV rs)[k] with
   | false=>
    have hH:Pu Tryz.prog 164 [lh rs,i64 (bV rs)[k]] (boo false):=hb▸yz hr;have hK:Pu Tryz.prog 163 [i64 1,boo false,boo false] (boo false):=pb;cases o with
    | nil=>
     repeat' ((conv=>whnf);first|refine Idx.at (k+1) om om ?_|exact kQ|(refine bk ?_ ?_<;>intro _<;>try exact exo)|refine stq ?_|refine cp hH ?_|refine cp iU ?_|refine cp hK ?_|refine Chk.mk (λh=>absurd (List.cons.inj h).1 fX) ?_|fail)
     (conv=>whnf)
     refine⟨k+1,false,[],⟨⟨om,si⟩,λh=>Bool.noConfusion h,by rw[h8,hd,vb hb]⟩,om,?_⟩;exact lq [(0,_),(1,_),(2,_),(3,_)] []
    | cons x xs=>
     repeat' ((conv=>whnf);first|refine Idx.at (k+1) om om ?_|exact kQ|(refine bk ?_ ?_<;>intro _<;>try exact exo)|refine stq ?_|refine cp hH ?_|refine cp iU ?_|refine cp hK ?_|refine Chk.mk (λh=>absurd (List.cons.inj h).1 fX) ?_|fail)
     (conv=>whnf)
     refine⟨k+1,false,x::xs,⟨⟨om,om⟩,λh=>Bool.noConfusion h,by rw[h8,hd,vb hb]⟩,om,?_⟩;exact lq [(0,_),(1,_),(2,_),(3,_),(4,_)] []
   | true=>
    have hH:Pu Tryz.prog 164 [lh rs,i64 (bV rs)[k]] (boo true):=hb▸yz hr;have hK:Pu Tryz.prog 163 [i64 1,boo true,boo false] (boo true):=pb;cases op with
    | false=>
     cases o with
     | nil=>
      repeat' ((conv=>whnf);first|refine Idx.at (k+1) om om ?_|exact kQ|(refine bk ?_ ?_<;>intro _<;>try exact exo)|refine stq ?_|refine cp hH ?_|refine cp iU ?_|refine cp hK ?_|refine Chk.mk (λh=>absurd (List.cons.inj h).1 fX) ?_|refine ac.by (id:=14) aB T0 [0,1,0,0,12,28,0,124,252,511,1023,2047] (by kernel_rfl) ?_|fail)
      (conv=>whnf)
      refine⟨k+1,true,[⟨(bV rs)[k],(bV rs)[k+1]-1⟩],⟨⟨om,si⟩,λ_=>si,by rw[h8,hd,px hb hi];rfl⟩,om,?_⟩;exact lq [(0,_),(1,_),(2,_),(3,_),(4,_)] []
     | cons x xs=>
      have hlen:(x::xs).length<=100:=by omega
      repeat' ((conv=>whnf);first|refine Idx.at (k+1) om om ?_|exact kQ|(refine bk ?_ ?_<;>intro _<;>try exact exo)|refine stq ?_|refine cp hH ?_|refine cp iU ?_|refine cp hK ?_|refine Chk.mk (λh=>absurd (List.cons.inj h).1 fX) ?_|refine ac.by (id:=14) aB T0 [0,1,0,0,12,28,0,124,252,511,1023,2047] (by kernel_rfl) ?_|fail)
      (conv=>whnf)
      refine⟨k+1,true,(x::xs)++[⟨(bV rs)[k],(bV rs)[k+1]-1⟩],⟨⟨om,by rw[kG];simp only[List.length_singleton];omega⟩,λ_=>si,by rw[h8,hd,px hb hi]⟩,om,?_⟩;exact lq [(0,_),(1,_),(2,_),(3,_),(4,_)] []
    | true=>
     cases o with
     | nil=>exact absurd rfl (h9 rfl)
     | cons x xs=>
      have hpos:0<(x::xs).length:=by simp
      have hlen:(x::xs).length<=100:=by omega
      repeat' ((conv=>whnf);first|refine Idx.at (k+1) om om ?_|exact kQ|(refine bk ?_ ?_<;>intro _<;>try exact exo)|refine stq ?_|refine cp hH ?_|refine cp iU ?_|refine cp hK ?_|refine Chk.mk (λh=>absurd (List.cons.inj h).1 fX) ?_|refine bT.at ((x::xs).length-1) om om ?_|refine Put.flat1 bE ((x::xs).length-1) 1 ⟨((x::xs)[(x::xs).length-1]'(by omega)).lo,(bV rs)[k+1]-1⟩ (by dsimp only;omega) om om rfl ?_|fail)
      (conv=>whnf)
      have hj:=yU (p:=λc=>i5 rs c) (l:=(bV rs).drop (k+1)) hb hi hpos;obtain⟨y',ys',he⟩:=iY x xs ((x::xs).length-1) ⟨((x::xs)[(x::xs).length-1]'(by omega)).lo,(bV rs)[k+1]-1⟩;have hle':(y' :: ys').length=(x::xs).length:=by rw[<-he];simp
      refine⟨k+1,true,y' :: ys',⟨⟨om,om⟩,λ_=>si,by rw[h8,hd,hj,he]⟩,om,?_⟩;exact lq [(0,_),(1,_),(2,_),(3,_),(4,_)] []
  .have hi:(1114111:Int)=IW ((bV rs).drop (k+1)):=by rw[List.drop_of_length_le om];rfl
   cases hb:i5 rs (bV rs)[k] with
   | false=>
    have hH:Pu Tryz.prog 164 [lh rs,i64 (bV rs)[k]] (boo false):=hb▸yz hr;have hK:Pu Tryz.prog 163 [i64 1,boo false,boo false] (boo false):=pb;cases o with
    | nil=>
     repeat' ((conv=>whnf);first|refine Idx.at (k+1) om om ?_|exact kQ|(refine bk ?_ ?_<;>intro _<;>try exact exo)|refine stq ?_|refine cp hH ?_|refine cp iU ?_|refine cp hK ?_|refine Chk.mk (λh=>absurd (List.cons.inj h).1 fX) ?_|fail)
     (conv=>whnf)
     refine⟨k+1,false,[],⟨⟨om,si⟩,λh=>Bool.noConfusion h,by rw[h8,hd,vb hb]⟩,om,?_⟩;exact lq [(0,_),(1,_),(2,_),(3,_)] []
    | cons x xs=>
     repeat' ((conv=>whnf);first|refine Idx.at (k+1) om om ?_|exact kQ|(refine bk ?_ ?_<;>intro _<;>try exact exo)|refine stq ?_|refine cp hH ?_|refine cp iU ?_|refine cp hK ?_|refine Chk.mk (λh=>absurd (List.cons.inj h).1 fX) ?_|fail)
     (conv=>whnf)
     refine⟨k+1,false,x::xs,⟨⟨om,om⟩,λh=>Bool.noConfusion h,by rw[h8,hd,vb hb]⟩,om,?_⟩;exact lq [(0,_),(1,_),(2,_),(3,_),(4,_)] []
   | true=>
    have hH:Pu Tryz.prog 164 [lh rs,i64 (bV rs)[k]] (boo true):=hb▸yz hr;have hK:Pu Tryz.prog 163 [i64 1,boo true,boo false] (boo true):=pb;cases op with
    | false=>
     cases o with
     | nil=>
      repeat' ((conv=>whnf);first|refine Idx.at (k+1) om om ?_|exact kQ|(refine bk ?_ ?_<;>intro _<;>try exact exo)|refine stq ?_|refine cp hH ?_|refine cp iU ?_|refine cp hK ?_|refine Chk.mk (λh=>absurd (List.cons.inj h).1 fX) ?_|refine ac.by (id:=14) aB T0 [0,1,0,0,12,28,0,124,252,511,1023,2047] (by kernel_rfl) ?_|fail)
      (conv=>whnf)
      refine⟨k+1,true,[⟨(bV rs)[k],1114111⟩],⟨⟨om,si⟩,λ_=>si,by rw[h8,hd,px hb hi];rfl⟩,om,?_⟩;exact lq [(0,_),(1,_),(2,_),(3,_),(4,_)] []
     | cons x xs=>
      have hlen:(x::xs).length<=100:=by omega
      repeat' ((conv=>whnf);first|refine Idx.at (k+1) om om ?_|exact kQ|(refine bk ?_ ?_<;>intro _<;>try exact exo)|refine stq ?_|refine cp hH ?_|refine cp iU ?_|refine cp hK ?_|refine Chk.mk (λh=>absurd (List.cons.inj h).1 fX) ?_|refine ac.by (id:=14) aB T0 [0,1,0,0,12,28,0,124,252,511,1023,2047] (by kernel_rfl) ?_|fail)
      (conv=>whnf)
      refine⟨k+1,true,(x::xs)++[⟨(bV rs)[k],1114111⟩],⟨⟨om,by rw[kG];simp only[List.length_singleton];omega⟩,λ_=>si,by rw[h8,hd,px hb hi]⟩,om,?_⟩;exact lq [(0,_),(1,_),(2,_),(3,_),(4,_)] []
    | true=>
     cases o with
     | nil=>exact absurd rfl (h9 rfl)
     | cons x xs=>
      have hpos:0<(x::xs).length:=by simp
      have hlen:(x::xs).length<=100:=by omega
      repeat' ((conv=>whnf);first|refine Idx.at (k+1) om om ?_|exact kQ|(refine bk ?_ ?_<;>intro _<;>try exact exo)|refine stq ?_|refine cp hH ?_|refine cp iU ?_|refine cp hK ?_|refine Chk.mk (λh=>absurd (List.cons.inj h).1 fX) ?_|refine bT.at ((x::xs).length-1) om om ?_|refine Put.flat1 bE ((x::xs).length-1) 1 ⟨((x::xs)[(x::xs).length-1]'(by omega)).lo,1114111⟩ (by dsimp only;omega) om om rfl ?_|fail)
      (conv=>whnf)
      have hj:=yU (p:=λc=>i5 rs c) (l:=(bV rs).drop (k+1)) hb hi hpos;obtain⟨y',ys',he⟩:=iY x xs ((x::xs).length-1) ⟨((x::xs)[(x::xs).length-1]'(by omega)).lo,1114111⟩;have hle':(y' :: ys').length=(x::xs).length:=by rw[<-he];simp
      refine⟨k+1,true,y' :: ys',⟨⟨om,om⟩,λ_=>si,by rw[h8,hd,hj,he]⟩,om,?_⟩;exact lq [(0,_),(1,_),(2,_),(3,_),(4,_)] []
 .have he:jm rs=o:=by rw[hend,h8,List.drop_of_length_le om];rfl
  rw[he];cases o with
  | nil=>
   repeat' ((conv=>whnf);first|exact kQ|(refine bk ?_ ?_<;>intro _<;>try exact exo)|refine stq ?_)
   (conv=>whnf)
   exact⟨.agg (.cons .nil .nil)⟩
  | cons y ys=>
   repeat' ((conv=>whnf);first|exact kQ|(refine bk ?_ ?_<;>intro _<;>try exact exo)|refine stq ?_)
   (conv=>whnf)
   exact⟨.agg (.cons (Rd.frzL bE bQ rfl rfl rfl rfl rfl) .nil)⟩
end
section
open Go Go.Am Classical
variable [GT]
theorem Hg {rs:List Rng}(hr:rs.length<=12):Pu Tryz.prog 90 [ax rs] (sK (jm rs)):=by
 refine pv Tryz.func90 ?_;repeat' ((conv=>whnf);first|exact kQ|(refine bk ?_ ?_<;>intro _<;>try exact exo)|refine stq ?_|refine cp (DN sd) ?_|fail)
 (conv=>whnf)
 exact⟨Rd.eqd rfl (by simp[aK,aF,ak])⟩
theorem Same_c {a b:List Rng}(ha:a.length<=9223372036854775807) (hb:b.length<=9223372036854775807):Pu Tryz.prog 89 [sK a,sK b] (boo (decide (a=b))):=by
 refine pv Tryz.func89 ?_;by_cases hl:a.length=b.length
 .repeat' ((conv=>whnf);first|exact kQ|(refine bk ?_ ?_<;>intro _<;>try exact exo)|refine stq ?_)
  (conv=>whnf)
  refine aG.by aB T0 (λk:Nat=>⟨tmp 31 [(2,.ptr 0 0),(3,.ptr 1 0),(5,i64 (k:Int))],⟨2,[(0,.cells [ax a] true),(1,.cells [ax b] true)]⟩⟩)
   (λk=>k<=a.length/\∀ i (h:i<a.length),i<k->a[i]=b[i]'(by omega)) (λk=>a.length-k) 0 ⟨om,λ_ _ h=>om⟩ ?_ ?_
  .exact lq [(0,_),(1,_)] []
  intro k ⟨h3,h4⟩;by_cases hk:k<a.length
  .have hk':k<b.length:=om;by_cases he:a[k]=b[k]
   .repeat' ((conv=>whnf);first|exact kQ|(refine bk ?_ ?_<;>intro _<;>try exact exo)|refine stq ?_|refine ac.by aB T0 [0,1,0,7,15,0,32,0,224,480,1023] (by kernel_rfl) ?_|refine Idx.atS (sz:=2) (c:=bm) (λ_=>rfl) k om om ?_|(split<;>rename_i heq<;>rw[he] at heq<;>first|(obtain rfl:=Option.some.inj (oC.symm.trans heq))|exact absurd (oC.symm.trans heq) si))
    (conv=>whnf)
    refine⟨k+1,⟨om,aj om h4 he⟩,om,?_⟩;exact lq [(0,_),(1,_)] []
   .repeat' ((conv=>whnf);first|exact kQ|(refine bk ?_ ?_<;>intro _<;>try exact exo)|refine stq ?_|refine ac.by aB T0 [0,1,0,7,15,0,32,0,224,480,1023] (by kernel_rfl) ?_|refine Idx.atS (sz:=2) (c:=bm) (λ_=>rfl) k om om ?_|(split<;>rename_i heq<;>first|(obtain rfl:=Option.some.inj ((pW he).symm.trans heq))|exact absurd ((pW he).symm.trans heq) si))
    (conv=>whnf)
    exact aD.no (λhc=>he (by subst hc;rfl))
  .repeat' ((conv=>whnf);first|exact kQ|(refine bk ?_ ?_<;>intro _<;>try exact exo)|refine stq ?_)
   (conv=>whnf)
   exact aD.yes (List.ext_getElem hl λi h1 h2=>h4 i h1 om)
 .repeat' ((conv=>whnf);first|exact kQ|(refine bk ?_ ?_<;>intro _<;>try exact exo)|refine stq ?_)
  (conv=>whnf)
  exact aD.no (λhc=>hl (by rw[hc]))
theorem CR (rs:List Rng) (hr:rs.length<=12):(jm rs).length<=1000:=by
 have h:∀ (p:Int->Bool) (l:List Int) (o:List Rng) (op:Bool),(cmb p o op l).length<=o.length+l.length:=λp l=>by
  induction l with
  | nil=>intro o op;simp[cmb]
  | cons c l ih=>
   intro o op;simp only[cmb,kO];refine Nat.le_trans (ih _ _) ?_;split
   .split
    .split
     .omega
     .rename_i x hx;simp only[kG,List.length_dropLast,kO,List.length_nil]
      have:0<o.length:=List.length_pos_iff.2 (by rintro rfl;simp at hx)
      omega
    .simp only[kG,kO,List.length_nil];omega
   .omega
 have h1:=h (λc=>i5 rs c) (bV rs) [] false;have h2:=t9 rs;have h3:jm rs=cmb (λc=>i5 rs c) [] false (bV rs):=rfl;rw[h3];simp only[List.length_nil] at h1;omega
theorem eN {rs:List Rng}(hr:rs.length<=12):Pu Tryz.prog 61 [sK rs] (boo (decide (dB rs))):=by
 have h1:=CR rs hr;have hS:=Same_c (a:=rs) (b:=jm rs) om om;rw[show decide (rs=jm rs)=decide (dB rs) from by simp only[CS]] at hS;refine pv Tryz.func61 ?_;repeat' ((conv=>whnf);first|exact kQ|(refine bk ?_ ?_<;>intro _<;>try exact exo)|refine stq ?_|refine cp hS ?_|refine cp (Hg sd) ?_|fail)
 (conv=>whnf)
 exact aD.same rfl rfl
end
end Go.Proofs.YtlimkdlhldlolaaGreatDoor
