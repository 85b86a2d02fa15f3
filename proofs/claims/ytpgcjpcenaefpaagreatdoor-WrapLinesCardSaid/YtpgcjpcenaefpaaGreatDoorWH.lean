/-
  Contracts of functions over data: the lines of a text, the cost of a division (the program).
-/
import Derived.Test.YtpgcjpcenaefpaaGreatDoorWF
import Derived.Test.YtpgcjpcenaefpaaGreatDoorWV
import Derived.Test.YtpgcjpcenaefpaaGreatDoorWC
set_option linter.unusedSectionVars false
namespace Go.Proofs.YtpgcjpcenaefpaaGreatDoor
open Go Go.Am Classical
set_option maxRecDepth 100000
set_option maxHeartbeats 8000000 in
theorem xWH.rdX {p:Prop}(h:p:=by first|exact Rd.same hnb|exact Rd.sl' rfl sim sim|fail):p:=h
theorem xWH.rbX {p:Prop}(h:p:=by first|exact Rb.cells (Rds.eqs (aS (c:=bm) (sz:=2) (by intro _;rfl) (x::xs) (⟨(lo:Int),(nx:Int)⟩:Rng)) (aE (by intro _;rfl) _)) rfl|fail):p:=h
open xWH
theorem Bl {d:Db}{text:List Int}{m:Int}{L:bU}{O:List Int}{P:List Rng}(H:v8 d text m L O P) (hm:1<=m/\m<=1000):@Pu gtR Tryz.prog 11 [dbD d,aD text,i64 m] (.tup [aq (rgL 0 (L.lin 0)),i64 0]):=by
 letI:=gtR;have hp:=wi H hm;have hok:=H.ok;have hn:=H.n;have hx:=H.len;have hnb:aK (.iptr (sI d text m O P))=true:=by simp[aK,aF,aY,aj,cC,am,aM,ax]
 refine pv Tryz.func11 ?_;repeat' ((conv=>whnf);first|exact kQ|(refine bk ?_ ?_<;>intro _<;>try exact exo)|refine stq ?_|refine cp hp ?_|fail)
 refine aG.by2 aB T0 (λ(lo:Nat) (o:List Rng)=>⟨tmp 38 [(1,aD text),(8,.iptr (sI d text m O P)),(10,aP 0 2 o),(11,i64 (lo:Int))],⟨1,bK 0 bm o⟩⟩)
  (λlo o=>(lo<=text.length/\o.length<=lo/\(lo=0\/L.can lo=true))/\rgL 0 (L.lin 0)=o++rgL lo (L.lin lo)) (λlo _=>text.length-lo) 0 [] ⟨⟨om,si,.inl rfl⟩,rfl⟩ ?_ ?_
 .exact lq0
 intro lo o ⟨⟨h3,h4,h5⟩,h6⟩;by_cases hk:lo<text.length
 .have hq:=long_c H h5 hk;have hm1:=bU.nxt_mem hok (lo:=lo) om;have hm2:=bU.pos_lt hok _ _ hm1;have hm3:=(bU.pos_mem hok hm1).2.2.2;rw[bU.lin_eq hok (lo:=lo) om] at h6;generalize L.nxt lo=nx at *;have h7:rgL 0 (L.lin 0)=(o++[⟨(lo:Int),(nx:Int)⟩])++rgL nx (L.lin nx):=by rw[h6];simp[rgL]
  cases o with
  | nil=>
   repeat' ((conv=>whnf);first|exact kQ|(refine bk ?_ ?_<;>intro _<;>try exact exo)|refine stq ?_|refine cp hq ?_|fail)
   all_goals(conv=>whnf)
   refine⟨nx,_,⟨⟨om,by simp;omega,.inr hm3⟩,h7⟩,om,?_⟩;exact lq [(0,_)] []
  | cons x xs=>
   have hlen:(x::xs).length<=1001:=by omega
   repeat' ((conv=>whnf);first|exact kQ|(refine bk ?_ ?_<;>intro _<;>try exact exo)|refine stq ?_|refine cp hq ?_|fail)
   all_goals(conv=>whnf)
   refine⟨nx,_,⟨⟨om,by simp at h4 ⊢;omega,.inr hm3⟩,h7⟩,om,?_⟩;exact lq [(0,_)] []
 .obtain rfl:lo=text.length:=by omega
  rw[<-hn,bU.lin_end] at h6;simp only[rgL,List.append_nil] at h6;rw[h6];cases o with
  | nil=>
   repeat' ((conv=>whnf);first|exact kQ|(refine bk ?_ ?_<;>intro _<;>try exact exo)|refine stq ?_|fail)
   all_goals(conv=>whnf)
   exact⟨.tup (.cons .nil (.cons (.same rfl) .nil))⟩
  | cons x xs=>
   repeat' ((conv=>whnf);first|exact kQ|(refine bk ?_ ?_<;>intro _<;>try exact exo)|refine stq ?_|fail)
   all_goals(conv=>whnf)
   exact⟨.tup (.cons (FV (b:=x::xs) rfl rfl rfl rfl) (.cons (.same rfl) .nil))⟩
def cosD:Option Int->D
 | some s=>.tup [i64 s,i64 0]
 | none=>.tup [i64 0,i64 1]
set_option maxHeartbeats 8000000 in
theorem GV {d:Db}{text:List Int}{m:Int}{L:bU}{O:List Int}{P:List Rng}(H:v8 d text m L O P) (hm:1<=m/\m<=1000){l:List Int}(hl:l.length<=1000000):@Pu gtR Tryz.prog 21 [dbD d,aD text,i64 m,aD l] (cosD (mO L 0 l)):=by
 letI:=gtR;have hp:=wi H hm;have hok:=H.ok;have hn:=H.n;have hx:=H.len;have hll:=lG text.length P;have hlg:∀ a (h:a<(fC text.length P).length),(fC text.length P)[a]=(L.last a:Int):=λa h=>by rw[H.last];exact n6 h
 have hcl:=re text.length O P;have hcg:∀ k (h:k<(mQ text.length O P).length),(mQ text.length O P)[k]=L.can k:=λk h=>by rw[H.can];exact yI h
 have hcost:=λa b (h0:a=0\/L.can a=true) (h1:L.can b=true) (h2:a<b) (h3:b<=text.length)=>Jo H h0 h1 h2 h3
 have hnb:aK (.iptr (sI d text m O P))=true:=by simp[aK,aF,aY,aj,cC,am,aM,ax]
 unfold sI at hp hcost hnb;generalize fC text.length P=ll at *;generalize mQ text.length O P=cl at *;refine pv Tryz.func21 ?_;repeat' ((conv=>whnf);first|exact kQ|(refine bk ?_ ?_<;>intro _<;>try exact exo)|refine stq ?_|refine cp hp ?_|fail)
 refine aG.by3 aB T0 (λ(k lo:Nat) (s:Int)=>⟨tmp 81 [(1,aD text),(10,.iptr (dbC d++[aD text,i64 m,az cl,aD ll])),(12,i64 s),(13,i64 (lo:Int)),(28,aD l),(29,i64 l.length),(30,i64 (k:Int))],⟨0,[]⟩⟩)
  (λk lo s=>(k<=l.length/\k<=lo/\lo<=text.length/\(lo=0\/L.can lo=true)/\0<=s/\s<=(k:Int)*1000000000)/\mO L 0 l=(mO L lo (l.drop k)).map (s + ·)) (λk _ _=>l.length-k) 0 0 0 ⟨⟨om,om,om,.inl rfl,om,om⟩,by rw[List.drop_zero];cases mO L 0 l<;>simp⟩ ?_ ?_
 .exact lq0
 intro k lo s ⟨⟨h3,h4,h5,h6,h7,h8⟩,h9⟩;by_cases hk:k<l.length
 .rw[kK hk] at h9;by_cases hc:lo<L.n/\(lo:Int)<l[k]/\l[k]<=(L.last lo:Int)/\L.can l[k].toNat=true
  .have h10:=Fm (l:=l.drop (k+1)) hc s;rw[h10] at h9;obtain⟨c1,c2,c3,c4⟩:=hc;have hla:=(hok.last c1).2.1;obtain⟨x,hxx⟩:∃ x:Nat,l[k]=(x:Int):=⟨l[k].toNat,om⟩;rw[hxx] at c2 c3 c4 h9;rw[Int.toNat_natCast] at c4 h9;have hq:=hcost lo x h6 c4 om om;have hr:=bU.cst_range hok (lo:=lo) (hi:=x) om;have hlg2:=hlg lo om;have hcg2:=hcg x om;rw[c4] at hcg2;generalize L.cst lo x=cs at *;repeat' ((conv=>whnf);first|refine Idx.atE (d:=boo true) x om om (by rw[hcg2]) ?_|refine Idx.atE (f:=i64) (l:=l) (d:=i64 (x:Int)) k om om (by rw[hxx]) ?_|refine Idx.at (f:=i64) (l:=ll) lo om om ?_|exact kQ|(refine bk ?_ ?_<;>intro _<;>try exact exo)|refine stq ?_|refine cp hq ?_|fail)
   all_goals(conv=>whnf)
   refine⟨k+1,x,s+cs,⟨⟨om,om,om,.inr c4,om,om⟩,h9⟩,om,?_⟩;exact lq0
  .rw[IF hc] at h9;rw[h9];by_cases hc1:lo<text.length
   .have hlg2:=hlg lo om;have hla:=(hok.last (k:=lo) om).2.1;by_cases hc2:(lo:Int)<l[k]/\l[k]<=(L.last lo:Int)
    .obtain⟨x,hxx⟩:∃ x:Nat,l[k]=(x:Int):=⟨l[k].toNat,om⟩
     have hcf:L.can x=false:=by
      cases hcx:L.can x with
      | false=>rfl
      | true=>exact absurd ⟨om,hc2.1,hc2.2,by rw[hxx,Int.toNat_natCast];exact hcx⟩ hc
     have hcg2:=hcg x om;rw[hcf] at hcg2;repeat' ((conv=>whnf);first|refine Idx.atE (d:=boo false) x om om (by rw[hcg2]) ?_|refine Idx.at (f:=i64) (l:=l) k om om ?_|refine Idx.at (f:=i64) (l:=ll) lo om om ?_|exact kQ|(refine bk ?_ ?_<;>intro _<;>try exact exo)|refine stq ?_|fail)
     all_goals(conv=>whnf)
     all_goals exact⟨Rd.eqd rfl rfl⟩
    .repeat' ((conv=>whnf);first|refine Idx.at (f:=i64) (l:=l) k om om ?_|refine Idx.at (f:=i64) (l:=ll) lo om om ?_|exact kQ|(refine bk ?_ ?_<;>intro _<;>try exact exo)|refine stq ?_|fail)
     all_goals(conv=>whnf)
     all_goals exact⟨Rd.eqd rfl rfl⟩
   .repeat' ((conv=>whnf);first|refine Idx.at (f:=i64) (l:=l) k om om ?_|exact kQ|(refine bk ?_ ?_<;>intro _<;>try exact exo)|refine stq ?_|fail)
    all_goals(conv=>whnf)
    all_goals exact⟨Rd.eqd rfl rfl⟩
 .rw[List.drop_of_length_le om] at h9;simp only[mO] at h9;by_cases he:lo=L.n
  .rw[if_pos he] at h9;rw[h9];repeat' ((conv=>whnf);first|exact kQ|(refine bk ?_ ?_<;>intro _<;>try exact exo)|refine stq ?_|fail)
   all_goals(conv=>whnf)
   exact⟨Rd.eqd (by simp[cosD]) rfl⟩
  .rw[if_neg he] at h9;rw[h9];repeat' ((conv=>whnf);first|exact kQ|(refine bk ?_ ?_<;>intro _<;>try exact exo)|refine stq ?_|fail)
   all_goals(conv=>whnf)
   exact⟨Rd.eqd rfl rfl⟩
end Go.Proofs.YtpgcjpcenaefpaaGreatDoor
