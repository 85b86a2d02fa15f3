/-
  The rules of kind 1 in the specification: each position is decided as the table decides it.
-/
import Derived.Test.YtpgcjpcenaefpaaGreatDoorLA
import Derived.Test.YtpgcjpcenaefpaaGreatDoorY1
import Derived.Test.YtpgcjpcenaefpaaGreatDoorM1
import Derived.Test.YtpgcjpcenaefpaaGreatDoorV0
import Derived.Test.YtpgcjpcenaefpaaGreatDoorO0
set_option linter.unusedSectionVars false
namespace Go.Proofs.YtpgcjpcenaefpaaGreatDoor
section
open Go Go.Am Classical
set_option maxRecDepth 100000
theorem rk1:RK 1 cl1 rs1 t1:=by
 letI:=gtR;have h1:=Iv;have h2:Pu Tryz.prog 97 [i64 1] (.str Dj):=D8 rfl (by kernel_rfl);have h3:=Gx;have hc:Pu Tryz.prog 99 [.agg [strs cl1,lstS bp rs1]] (i64 0):=D8 (by simp[aF,kT]) (by kernel_rfl);have ho:rs1.all (λr=>okP r.left&&okP r.right)=true:=by kernel_rfl
 refine⟨om,Iv,?_,rfl,by decide,tv1.1,λ{l} hl hx j hj=>?_⟩
 .refine pv Tryz.func70 ?_;repeat' ((conv=>whnf);first|exact kQ|(refine bk ?_ ?_<;>intro _<;>try exact exo)|refine stq ?_|(refine Cll.dec (A7 (k:=1)) (λ_=>?_) (λ_=>?_)<;>(try exact exo))|refine cp h1 ?_|refine cp h2 ?_|refine cp h3 ?_|fail)
  all_goals(conv=>whnf)
  exact aC.same (kT _ _) rfl
 .obtain⟨q,q1,q2,q3⟩:=BM law1 hl hj
  have e:(acts t1 l).getD j 0=vv rs1 q:=by
   rw[aI (by rw[cj];omega)];simp only[acts,List.getElem_map,List.getElem_range];exact q2
  rw[e]
  exact⟨_,s9 hc (λr hr=>by
   have:=List.all_eq_true.1 ho r hr
   simp only[kC] at this
   exact⟨rT _ this.1,rT _ this.2⟩) (by decide) (by decide) hx hl hj q1⟩
end
section
open Go Go.Am Classical
set_option maxRecDepth 100000
theorem xO8.rdX {p:Prop}(h:p:=by first|exact Rd.int om|exact Rd.same rfl|exact Rd.sl' rfl sim sim|fail):p:=h
theorem xO8.rbX {p:Prop}(h:p:=by first|exact Rb.cells (Rds.same (cS _)) rfl|exact Rb.cells (Rds.eqs (aS (by intro _;rfl) (x::xs) _) (aE (by intro _;rfl) _)) rfl|fail):p:=h
open xO8
theorem Eb {text:List Int}{lo:Int}{k:Nat}(h0:0<=lo) (h1:lo<=k) (hk:k<text.length):pce text lo ((k+1:Nat):Int)=pce text lo k++[text[k]]:=by
 unfold pce;rw[show(((k+1:Nat):Int)-lo).toNat=((k:Int)-lo).toNat+1 by omega,List.take_add_one,List.getElem?_drop,show lo.toNat+((k:Int)-lo).toNat=k by omega,List.getElem?_eq_getElem hk];rfl
theorem xB {p:Prp}{text:List Int}{lo:Int}{k:Nat}(h0:0<=lo) (h1:lo<=k) (hk:k<text.length):mxW p (pce text lo ((k+1:Nat):Int))=max (mxW p (pce text lo k)) (ez p text[k]):=by
 rw[Eb h0 h1 hk,xA]
def nD:List Int->Int
 | []=>0
 | x::l=>x+nD l
theorem tV:∀ (l:List Int) (x:Int),nD (l++[x])=nD l+x
 | [],x=>by simp[nD]
 | y::l,x=>by simp only[List.cons_append,nD,tV l x];omega
theorem Cc {l:List Int}{k:Nat}(h:k<l.length):nD (l.take (k+1))=nD (l.take k)+l[k]:=by
 rw[List.take_add_one,List.getElem?_eq_getElem h];exact tV _ _
theorem xZ (p:Prp) (text:List Int):∀ P:List Rng,nD (P.map (eT p text))=cu p text P
 | []=>rfl
 | r::P=>by simp only[List.map_cons,nD,cu,xZ p text P]
theorem qx:∀ {l:List Int},(∀ x∈l,0<=x/\x<=2)->0<=nD l/\nD l<=2*l.length
 | [],_=>by simp[nD]
 | x::l,h=>by
  have h1:=qx λy hy=>h y (List.mem_cons_of_mem _ hy)
  have h2:=h x si;simp only[nD,kO];omega
set_option maxHeartbeats 8000000 in
theorem EL {d:Db}{text:List Int}{P:List Rng}(hcode:∀ c:Int,@Pu gtR Tryz.prog 104 [bV d.wid,i64 c] (i64 (ez d.wid c))) (hP:@Pu gtR Tryz.prog 103 [dbD d,i64 1,aD text] (.tup [aq P,i64 0])) (hc:Chn 0 P text.length) (hx:text.length<=900):@Pu gtR Tryz.prog 74 [dbD d,aD text] (.tup [aq P,aD (P.map (eT d.wid text))]):=by
 letI:=gtR;have hpl:=iL hc;refine pv Tryz.func74 ?_;repeat' ((conv=>whnf);first|exact kQ|(refine bk ?_ ?_<;>intro _<;>try exact exo)|refine stq ?_|refine cp hP ?_|fail)
 refine aG.by2 aB T0 (λ(i:Nat) (o:List Int)=>⟨tmp 53 [(1,aD text),(2,.ptr 0 0),(6,aq P),(8,aP 1 1 o),(9,i64 (i:Int))],⟨2,bK 1 (λx=>[i64 x]) o++[(0,.cells (dbC d) true)]⟩⟩)
  (λi o=>i<=P.length/\o=(P.take i).map (eT d.wid text)) (λi _=>P.length-i) 0 [] ⟨om,rfl⟩ ?_ ?_
 .exact lq [(0,_)] []
 intro i o ⟨h3,h4⟩;have hol:o.length=i:=by rw[h4];simp;omega
 by_cases hi:i<P.length
 .have hat:=vW hi hc;have hle:=(pW i hc).1;have hs2:o++[eT d.wid text P[i]]=(P.take (i+1)).map (eT d.wid text):=by rw[h4,List.take_add_one,List.getElem?_eq_getElem hi,List.map_append];rfl
  have hwr:=jE d.wid text P[i];cases o with
  | nil=>
   repeat' ((conv=>whnf);first|exact kQ|(refine bk ?_ ?_<;>intro _<;>try exact exo)|refine stq ?_|fail)
   refine aG.by2 aB T0 (λ(k:Nat) (m:Int)=>⟨tmp 53 [(1,aD text),(2,.ptr 0 0),(6,aq P),(8,aP 1 1 ([]:List Int)),(9,i64 (i:Int)),(10,i64 m),(11,i64 (k:Int))],⟨2,bK 1 (λx=>[i64 x]) ([]:List Int)++[(0,.cells (dbC d) true)]⟩⟩)
    (λk m=>(P[i].lo<=(k:Int)/\(k:Int)<=P[i].hi)/\m=mxW d.wid (pce text P[i].lo k)) (λk _=>P[i].hi.toNat-k) P[i].lo.toNat 0 ⟨⟨om,om⟩,by rw[show((P[i].lo.toNat:Nat):Int)=P[i].lo by omega];simp[pce,mxW]⟩ ?_ ?_
   .exact lq [(0,_)] []
   intro k m ⟨⟨h5,h6⟩,h7⟩;have hmr:=iq d.wid (pce text P[i].lo k);by_cases hk:(k:Int)<P[i].hi
   .have hkt:k<text.length:=om;have hC:=hcode text[k];have hcr:=fS d.wid text[k];have hms:=xB (p:=d.wid) (text:=text) (lo:=P[i].lo) (k:=k) om om hkt;generalize hcv:ez d.wid text[k]=cv at *;repeat' ((conv=>whnf);first|refine Idx.at (f:=i64) (l:=text) k om om ?_|exact kQ|(refine bk ?_ ?_<;>intro _<;>try exact exo)|refine stq ?_|refine ac.by aB T0 [0,0,2,0,0,24,56,126,255,511] (by kernel_rfl) ?_|refine cp hC ?_|fail)
    all_goals(conv=>whnf)
    all_goals
     refine⟨k+1,_,⟨⟨om,om⟩,by rw[hms,<-h7]<;>omega⟩,om,?_⟩;exact lq [(0,_)] []
   .obtain rfl:m=eT d.wid text P[i]:=by rw[h7,show(k:Int)=P[i].hi by omega];rfl
    repeat' ((conv=>whnf);first|exact kQ|(refine bk ?_ ?_<;>intro _<;>try exact exo)|refine stq ?_|fail)
    all_goals(conv=>whnf)
    refine⟨i+1,_,⟨om,hs2⟩,om,?_⟩;exact lq [(0,_),(1,_)] []
  | cons x xs=>
   have hlen:(x::xs).length<=1001:=by omega
   repeat' ((conv=>whnf);first|exact kQ|(refine bk ?_ ?_<;>intro _<;>try exact exo)|refine stq ?_|fail)
   refine aG.by2 aB T0 (λ(k:Nat) (m:Int)=>⟨tmp 53 [(1,aD text),(2,.ptr 0 0),(6,aq P),(8,aP 1 1 (x::xs)),(9,i64 (i:Int)),(10,i64 m),(11,i64 (k:Int))],⟨2,bK 1 (λx=>[i64 x]) (x::xs)++[(0,.cells (dbC d) true)]⟩⟩)
    (λk m=>(P[i].lo<=(k:Int)/\(k:Int)<=P[i].hi)/\m=mxW d.wid (pce text P[i].lo k)) (λk _=>P[i].hi.toNat-k) P[i].lo.toNat 0 ⟨⟨om,om⟩,by rw[show((P[i].lo.toNat:Nat):Int)=P[i].lo by omega];simp[pce,mxW]⟩ ?_ ?_
   .exact lq [(0,_),(1,_)] []
   intro k m ⟨⟨h5,h6⟩,h7⟩;have hmr:=iq d.wid (pce text P[i].lo k);by_cases hk:(k:Int)<P[i].hi
   .have hkt:k<text.length:=om;have hC:=hcode text[k];have hcr:=fS d.wid text[k];have hms:=xB (p:=d.wid) (text:=text) (lo:=P[i].lo) (k:=k) om om hkt;generalize hcv:ez d.wid text[k]=cv at *;repeat' ((conv=>whnf);first|refine Idx.at (f:=i64) (l:=text) k om om ?_|exact kQ|(refine bk ?_ ?_<;>intro _<;>try exact exo)|refine stq ?_|refine ac.by aB T0 [0,0,2,0,0,24,56,126,255,511] (by kernel_rfl) ?_|refine cp hC ?_|fail)
    all_goals(conv=>whnf)
    all_goals
     refine⟨k+1,_,⟨⟨om,om⟩,by rw[hms,<-h7]<;>omega⟩,om,?_⟩;exact lq [(0,_),(1,_)] []
   .obtain rfl:m=eT d.wid text P[i]:=by rw[h7,show(k:Int)=P[i].hi by omega];rfl
    repeat' ((conv=>whnf);first|exact kQ|(refine bk ?_ ?_<;>intro _<;>try exact exo)|refine stq ?_|fail)
    all_goals(conv=>whnf)
    refine⟨i+1,_,⟨om,hs2⟩,om,?_⟩;exact lq [(0,_),(1,_)] []
 rw[kE om] at h4;rw[<-h4];cases o with
 | nil=>
  repeat' ((conv=>whnf);first|exact kQ|(refine bk ?_ ?_<;>intro _<;>try exact exo)|refine stq ?_)
  all_goals(conv=>whnf)
  exact⟨.tup (.cons (.same (am P)) (.cons .nil .nil))⟩
 | cons x xs=>
  repeat' ((conv=>whnf);first|exact kQ|(refine bk ?_ ?_<;>intro _<;>try exact exo)|refine stq ?_)
  all_goals(conv=>whnf)
  exact⟨.tup (.cons (.same (am P)) (.cons (lb (b:=x::xs) rfl rfl (aN _) rfl) .nil))⟩
theorem zM {d:Db}{text:List Int}{P:List Rng}(g:Good d) (hC:@Pu gtR Tryz.prog 74 [dbD d,aD text] (.tup [aq P,aD (P.map (eT d.wid text))])) (hl:P.length<=1000):@Pu gtR Tryz.prog 56 [dbD d,aD text] (.tup [i64 (cu d.wid text P),i64 0]):=by
 letI:=gtR;obtain⟨e,he,hi⟩:=d6 g.ok g.sm;obtain rfl:=hi.2 g.va
 have hL:∀ x∈P.map (eT d.wid text),0<=x/\x<=2:=λx hx=>by
  obtain⟨r,_,rfl⟩:=List.mem_map.1 hx;exact jE _ _ _
 have hn:(P.map (eT d.wid text)).length=P.length:=by simp
 rw[<-xZ];generalize P.map (eT d.wid text)=L at *;refine pv Tryz.func56 ?_;repeat' ((conv=>whnf);first|exact kQ|(refine bk ?_ ?_<;>intro _<;>try exact exo)|refine stq ?_|refine cp he ?_|refine cp hC ?_|fail)
 refine aG.by2 aB T0 (λ(k:Nat) (s:Int)=>⟨tmp 32 [(7,aD L),(8,i64 s),(9,i64 (k:Int))],⟨0,[]⟩⟩)
  (λk s=>k<=L.length/\s=nD (L.take k)) (λk _=>L.length-k) 0 0 ⟨om,rfl⟩ ?_ ?_
 .exact lq0
 intro k s ⟨h3,h4⟩;have hr:=qx (l:=L.take k) λx hx=>hL x (List.mem_of_mem_take hx)
 have htl:(L.take k).length=k:=by rw[List.length_take];omega
 by_cases hk:k<L.length
 .have hs2:=Cc hk;have hxr:=hL L[k] (kM _);repeat' ((conv=>whnf);first|exact kQ|(refine bk ?_ ?_<;>intro _<;>try exact exo)|refine stq ?_|fail)
  all_goals(conv=>whnf)
  refine⟨k+1,_,⟨om,by rw[hs2,<-h4]⟩,om,?_⟩;exact lq0
 .rw[kE om] at h4;subst h4;repeat' ((conv=>whnf);first|exact kQ|(refine bk ?_ ?_<;>intro _<;>try exact exo)|refine stq ?_|fail)
  all_goals(conv=>whnf)
  exact⟨Rd.eqd rfl rfl⟩
theorem Good.rcode {d:Db}(g:Good d) (c:Int):@Pu gtR Tryz.prog 104 [bV d.wid,i64 c] (i64 (ez d.wid c)):=@G6 gtR _ _ (g.ok.prop 1)
theorem Good.rcells {d:Db}(g:Good d){text:List Int}(hx:text.length<=900):@Pu gtR Tryz.prog 74 [dbD d,aD text] (.tup [aq (gP d text),aD ((gP d text).map (eT d.wid text))]):=
 EL g.rcode (EG (text:=text) (k:=1) g rk1 hx) (rE d text) hx
theorem Good.rwidth {d:Db}(g:Good d){text:List Int}(hx:text.length<=900):@Pu gtR Tryz.prog 56 [dbD d,aD text] (.tup [i64 (cu d.wid text (gP d text)),i64 0]):=
 zM g (g.rcells hx) (by have:=iL (rE d text);omega)
end
end Go.Proofs.YtpgcjpcenaefpaaGreatDoor
