/-
  The specification of layer 36, over data: ends of paragraphs, places where lines can end, lines, costs.
-/
import Derived.Test.YtpgcjpcenaefpaaGreatDoorWC
import Derived.Test.YtpgcjpcenaefpaaGreatDoorLK1
import Derived.Test.YtpgcjpcenaefpaaGreatDoorK5
set_option linter.unusedSectionVars false
namespace Go.Proofs.YtpgcjpcenaefpaaGreatDoor
open Go Go.Am Classical
set_option maxRecDepth 100000
theorem xWK.rdX {p:Prop}(h:p:=by first|exact Rd.int om|exact Rd.sl' rfl sim sim|exact Rd.int (by first|(rw[hlt];done)|fail)|fail):p:=h
theorem xWK.rbX {p:Prop}(h:p:=by first|exact Rb.cells (Rds.eqs (aS (by intro _;rfl) (x::xs) _) (aE (by intro _;rfl) _)) rfl|exact Rb.cells (Rds.eqs (aS (c:=bm) (sz:=2) (by intro _;rfl) (x::xs) (⟨((l.take k).getLastD 0:Nat),(l[k]:Nat)⟩:Rng)) (aE (by intro _;rfl) _)) rfl|fail):p:=h
open xWK
theorem J8 {l:List Int}{k:Nat}{x:Int}(h:k<l.length) (h1:¬x∈l.take k) (h2:¬l[k]=x):¬x∈l.take (k+1):=by
 rw[List.take_add_one,List.getElem?_eq_getElem h,List.mem_append];simp only[Option.toList_some,List.mem_singleton];exact λhc=>hc.elim h1 λe=>h2 e.symm
theorem I1 {l:List Int}{x:Int}(hl:l.length<=100000):@Pu gtR Tryz.prog 42 [aD l,i64 x] (boo (decide (x∈l))):=by
 letI:=gtR;refine pv Tryz.func42 ?_;repeat' ((conv=>whnf);first|exact kQ|(refine bk ?_ ?_<;>intro _<;>try exact exo)|refine stq ?_|fail)
 refine aG.by aB T0 (λk:Nat=>⟨tmp 18 [(0,aD l),(1,i64 x),(5,i64 (k:Int))],⟨0,[]⟩⟩) (λk=>k<=l.length/\¬x∈l.take k) (λk=>l.length-k) 0 ⟨om,si⟩ ?_ ?_
 .exact lq0
 intro k ⟨h3,h4⟩;repeat' ((conv=>whnf);first|exact kQ|(refine bk ?_ ?_<;>intro _<;>try exact exo)|refine stq ?_)
 all_goals(conv=>whnf)
 all_goals first
  | exact aC.yes (by rename_i e;rw[<-e];exact kM _)
  | exact aC.no (by rw[kE om] at h4;exact h4)
  | (refine⟨k+1,⟨om,J8 om h4 asm⟩,om,?_⟩
     exact lq0)
theorem zJ {d:Db}{m:Int}(g:Good d) (hm:1<=m/\m<=1000):@Pu gtR Tryz.prog 28 [dbD d,i64 m] (i64 0):=by
 letI:=gtR;obtain⟨e,he,hi⟩:=d6 g.ok g.sm;obtain rfl:=hi.2 g.va;refine pv Tryz.func28 ?_;repeat' ((conv=>whnf);first|exact kQ|(refine bk ?_ ?_<;>intro _<;>try exact exo)|refine stq ?_|refine cp he ?_|fail)
 all_goals(conv=>whnf)
 all_goals exact aC.same rfl rfl
theorem zK {d:Db}{m:Int}(g:Good d) (hm:¬(1<=m/\m<=1000)):@Pu gtR Tryz.prog 28 [dbD d,i64 m] (i64 1):=by
 letI:=gtR;obtain⟨e,he,hi⟩:=d6 g.ok g.sm;obtain rfl:=hi.2 g.va;refine pv Tryz.func28 ?_;repeat' ((conv=>whnf);first|exact kQ|(refine bk ?_ ?_<;>intro _<;>try exact exo)|refine stq ?_|refine cp he ?_|fail)
 all_goals(conv=>whnf)
 all_goals first
  | exact aC.same rfl rfl
  | (exfalso;omega)
theorem B7 {d:Db}{m:Int}(ho:d.ok) (hs:SmD d) (hv:¬DbV d):@Pu gtR Tryz.prog 28 [dbD d,i64 m] (i64 11):=by
 letI:=gtR;obtain⟨e,he,hi⟩:=d6 ho hs;have h0:e≠0:=λh=>hv (hi.1 h)
 refine pv Tryz.func28 ?_;repeat' ((conv=>whnf);first|exact kQ|(refine bk ?_ ?_<;>intro _<;>try exact exo)|refine stq ?_|refine cp he ?_|fail)
 all_goals(conv=>whnf)
 exact aC.same rfl rfl
theorem B2 {d:Db}{text:List Int}{P:List Rng}(hP:@Pu gtR Tryz.prog 53 [dbD d,aD text] (.tup [aq P,i64 0])) (hl:P.length<=1000):@Pu gtR Tryz.prog 29 [dbD d,aD text] (aD (gz P)):=by
 letI:=gtR;refine pv Tryz.func29 ?_;repeat' ((conv=>whnf);first|exact kQ|(refine bk ?_ ?_<;>intro _<;>try exact exo)|refine stq ?_|refine cp hP ?_|fail)
 refine aG.by2 aB T0 (λ(i:Nat) (o:List Int)=>⟨tmp 30 [(5,aq P),(7,aP 0 1 o),(8,i64 (i:Int))],⟨1,bK 0 (λx=>[i64 x]) o⟩⟩)
  (λi o=>i<=P.length/\o=gz (P.take i)) (λi _=>P.length-i) 0 [] ⟨om,rfl⟩ ?_ ?_
 .exact lq0
 intro i o ⟨h3,h4⟩;have hol:o.length=i:=by rw[h4];simp[gz];omega
 by_cases hi:i<P.length
 .have hs2:o++[P[i].hi]=gz (P.take (i+1)):=by rw[h4,List.take_add_one,List.getElem?_eq_getElem hi,gz,gz,List.map_append];rfl
  cases o with
  | nil=>
   repeat' ((conv=>whnf);first|exact kQ|(refine bk ?_ ?_<;>intro _<;>try exact exo)|refine stq ?_|fail)
   all_goals(conv=>whnf)
   refine⟨i+1,_,⟨om,hs2⟩,om,?_⟩;exact lq [(0,_)] []
  | cons x xs=>
   have hlen:(x::xs).length<=1001:=by omega
   repeat' ((conv=>whnf);first|exact kQ|(refine bk ?_ ?_<;>intro _<;>try exact exo)|refine stq ?_|fail)
   all_goals(conv=>whnf)
   refine⟨i+1,_,⟨om,hs2⟩,om,?_⟩;exact lq [(0,_)] []
 .rw[kE om] at h4;rw[<-h4];cases o with
  | nil=>
   repeat' ((conv=>whnf);first|exact kQ|(refine bk ?_ ?_<;>intro _<;>try exact exo)|refine stq ?_)
   all_goals(conv=>whnf)
   exact⟨Rd.nil⟩
  | cons x xs=>
   repeat' ((conv=>whnf);first|exact kQ|(refine bk ?_ ?_<;>intro _<;>try exact exo)|refine stq ?_)
   all_goals(conv=>whnf)
   exact⟨lb (b:=x::xs) rfl rfl (aN _) rfl⟩
set_option maxHeartbeats 8000000 in
theorem J4 {O:List Int}{P:List Rng}{n lo:Nat}(hO:O.length<=1000) (hc:Chn 0 P n) (hn:n<=1000) (hl:lo<n):@Pu gtR Tryz.prog 31 [aD (gz P),aD O,i64 (lo:Int),i64 (n:Int)] (aD (up (fe (mP O P) lo (cG P lo)))):=by
 letI:=gtR;have hpl:=iL hc;have hel:(gz P).length<=1000:=by simp only[gz,List.length_map];omega
 obtain⟨s1,s2,⟨r,s3,s4⟩,s5⟩:=gk hc (Int.le_refl _) om (show(lo:Int)<(n:Nat) by omega);have hh1:=λx:Int=>I1 (l:=gz P) (x:=x) om
 have hh2:=λx:Int=>I1 (l:=O) (x:=x) om
 refine pv Tryz.func31 ?_;repeat' ((conv=>whnf);first|exact kQ|(refine bk ?_ ?_<;>intro _<;>try exact exo)|refine stq ?_|fail)
 refine aG.by2 aB T0 (λ(k:Nat) (o:List Int)=>⟨tmp 33 [(0,aD (gz P)),(1,aD O),(3,i64 (n:Int)),(9,aP 0 1 o),(10,i64 ((k:Int)+1))],⟨1,bK 0 (λx=>[i64 x]) o⟩⟩)
  (λk o=>(lo<=k/\k<cG P lo)/\o=up (fe (mP O P) lo k)) (λk _=>cG P lo-k) lo [] ⟨⟨om,om⟩,by rw[wj];rfl⟩ ?_ ?_
 .exact lq0
 intro k o ⟨⟨h3,h4⟩,h5⟩
 have hol:o.length<=1000:=by
  rw[h5];simp only[up,fe,List.length_map];exact Nat.le_trans (List.length_filter_le _ _) (by simp;omega)
 have hsn:=CA (can:=mP O P) (lo:=lo) (k:=k) h3;have q1:=hh1 ((k:Int)+1);have q2:=hh2 ((k:Int)+1);by_cases he:(k:Int)+1∈gz P
 .rw[decide_eq_true he] at q1;obtain⟨r',e1,e2⟩:=qm.1 he;have hk1:k+1=cG P lo:=by have:=s5 r' e1 om;omega
  have hcn:mP O P (k+1)=true:=decide_eq_true (.inr ⟨r',e1,om⟩);rw[if_pos hcn,hk1] at hsn;have hfin:up (fe (mP O P) lo (cG P lo))=o++[(k:Int)+1]:=by rw[hsn,h5];simp[up];omega
  rw[hfin];cases o with
  | nil=>
   repeat' ((conv=>whnf);first|exact kQ|(refine bk ?_ ?_<;>intro _<;>try exact exo)|refine stq ?_|refine cp q1 ?_|fail)
   all_goals(conv=>whnf)
   exact⟨lb (b:=[(k:Int)+1]) rfl rfl rfl rfl⟩
  | cons x xs=>
   have hlen:(x::xs).length<=1001:=by omega
   repeat' ((conv=>whnf);first|exact kQ|(refine bk ?_ ?_<;>intro _<;>try exact exo)|refine stq ?_|refine cp q1 ?_|fail)
   all_goals(conv=>whnf)
   exact⟨lb (b:=(x::xs)++[(k:Int)+1]) rfl rfl (Bb (x::xs) _) si⟩
 .rw[decide_eq_false he] at q1
  have hk1:k+1<cG P lo:=by
   by_cases e:k+1=cG P lo
   .exact absurd (qm.2 ⟨r,s3,om⟩) he
   .omega
  by_cases ho:(k:Int)+1∈O
  .rw[decide_eq_true ho] at q2;have hcn:mP O P (k+1)=true:=decide_eq_true (.inl (by simpa using ho));rw[if_pos hcn] at hsn;have hs2:o++[(k:Int)+1]=up (fe (mP O P) lo (k+1)):=by rw[hsn,h5];simp[up]
   cases o with
   | nil=>
    repeat' ((conv=>whnf);first|exact kQ|(refine bk ?_ ?_<;>intro _<;>try exact exo)|refine stq ?_|refine cp q1 ?_|refine cp q2 ?_|fail)
    all_goals(conv=>whnf)
    refine⟨k+1,_,⟨⟨om,om⟩,hs2⟩,om,?_⟩;exact lq [(0,_)] []
   | cons x xs=>
    have hlen:(x::xs).length<=1001:=by omega
    repeat' ((conv=>whnf);first|exact kQ|(refine bk ?_ ?_<;>intro _<;>try exact exo)|refine stq ?_|refine cp q1 ?_|refine cp q2 ?_|fail)
    all_goals(conv=>whnf)
    refine⟨k+1,_,⟨⟨om,om⟩,hs2⟩,om,?_⟩;exact lq [(0,_)] []
  .rw[decide_eq_false ho] at q2
   have hcn:¬mP O P (k+1)=true:=λh=>by
    rcases of_decide_eq_true h with h|⟨r',e1,e2⟩
    .exact ho (by simpa using h)
    .exact he (qm.2 ⟨r',e1,om⟩)
   rw[if_neg hcn,List.append_nil] at hsn;cases o with
   | nil=>
    repeat' ((conv=>whnf);first|exact kQ|(refine bk ?_ ?_<;>intro _<;>try exact exo)|refine stq ?_|refine cp q1 ?_|refine cp q2 ?_|fail)
    all_goals(conv=>whnf)
    refine⟨k+1,[],⟨⟨om,om⟩,by rw[hsn];exact h5⟩,om,?_⟩;exact lq0
   | cons x xs=>
    repeat' ((conv=>whnf);first|exact kQ|(refine bk ?_ ?_<;>intro _<;>try exact exo)|refine stq ?_|refine cp q1 ?_|refine cp q2 ?_|fail)
    all_goals(conv=>whnf)
    refine⟨k+1,x::xs,⟨⟨om,om⟩,by rw[hsn];exact h5⟩,om,?_⟩;exact lq [(0,_)] []
set_option maxHeartbeats 8000000 in
theorem Hh {l:List Nat}(hl:l.length<=1000):@Pu gtR Tryz.prog 33 [aD (up l)] (aq (rgL 0 l)):=by
 letI:=gtR;have hul:(up l).length=l.length:=by simp[up]
 have hug:∀ k (h:k<l.length),(up l)[k]'(by rw[hul];exact h)=(l[k]:Int):=λk h=>by simp[up]
 refine pv Tryz.func33 ?_;generalize up l=ul at *;repeat' ((conv=>whnf);first|exact kQ|(refine bk ?_ ?_<;>intro _<;>try exact exo)|refine stq ?_|fail)
 refine aG.by2 aB T0 (λ(k:Nat) (o:List Rng)=>⟨tmp 26 [(0,aD ul),(3,aP 0 2 o),(4,i64 (((l.take k).getLastD 0:Nat):Int)),(5,i64 (k:Int))],⟨1,bK 0 bm o⟩⟩)
  (λk o=>k<=l.length/\o=rgL 0 (l.take k)) (λk _=>l.length-k) 0 [] ⟨om,rfl⟩ ?_ ?_
 .exact lq0
 intro k o ⟨h3,h4⟩;have hol:o.length=k:=by rw[h4,ug];simp;omega
 by_cases hk:k<l.length
 .have hg:=hug k hk;have hlt:=Ca hk
  have hs2:o++[⟨((l.take k).getLastD 0:Nat),(l[k]:Nat)⟩]=rgL 0 (l.take (k+1)):=by
   rw[h4,List.take_add_one,List.getElem?_eq_getElem hk];exact(wX _ _ _).symm
  cases o with
  | nil=>
   repeat' ((conv=>whnf);first|refine Idx.atE (d:=i64 (l[k]:Int)) k om om (by rw[hg]) ?_|exact kQ|(refine bk ?_ ?_<;>intro _<;>try exact exo)|refine stq ?_|fail)
   all_goals(conv=>whnf)
   refine⟨k+1,_,⟨om,hs2⟩,om,?_⟩;exact lq [(0,_)] []
  | cons x xs=>
   have hlen:(x::xs).length<=1001:=by omega
   repeat' ((conv=>whnf);first|refine Idx.atE (d:=i64 (l[k]:Int)) k om om (by rw[hg]) ?_|exact kQ|(refine bk ?_ ?_<;>intro _<;>try exact exo)|refine stq ?_|fail)
   all_goals(conv=>whnf)
   refine⟨k+1,_,⟨om,hs2⟩,om,?_⟩;exact lq [(0,_)] []
 .rw[kE om] at h4;rw[<-h4];cases o with
  | nil=>
   repeat' ((conv=>whnf);first|exact kQ|(refine bk ?_ ?_<;>intro _<;>try exact exo)|refine stq ?_|fail)
   all_goals(conv=>whnf)
   exact⟨Rd.nil⟩
  | cons x xs=>
   repeat' ((conv=>whnf);first|exact kQ|(refine bk ?_ ?_<;>intro _<;>try exact exo)|refine stq ?_|fail)
   all_goals(conv=>whnf)
   exact⟨FV (b:=x::xs) rfl rfl rfl rfl⟩
end Go.Proofs.YtpgcjpcenaefpaaGreatDoor
