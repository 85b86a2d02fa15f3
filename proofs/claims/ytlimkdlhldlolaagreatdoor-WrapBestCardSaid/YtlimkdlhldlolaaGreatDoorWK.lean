/-
  The specification of layer 36, over data: ends of paragraphs, places where lines can end, lines, costs.
-/
import Derived.Test.YtlimkdlhldlolaaGreatDoorWC
import Derived.Test.YtlimkdlhldlolaaGreatDoorLA
import Derived.Test.YtlimkdlhldlolaaGreatDoorK5
set_option linter.unusedSectionVars false
namespace Go.Proofs.YtlimkdlhldlolaaGreatDoor
open Go Go.Am Classical
set_option maxHeartbeats 8000000
set_option maxRecDepth 100000
section
theorem xWK.rdX {p:Prop}(h:p:=by first|exact Rd.int om|exact Rd.sl' rfl sim sim|exact Rd.int (by first|(rw[hlt];done)|fail)|fail):p:=h
theorem xWK.rbX {p:Prop}(h:p:=by first|exact Rb.cells (Rds.eqs (aQ (by intro _;rfl) (x::xs) _) (aE (by intro _;rfl) _)) rfl|exact Rb.cells (Rds.eqs (aQ (c:=bm) (sz:=2) (by intro _;rfl) (x::xs) (⟨((l.take k).getLastD 0:Nat),(l[k]:Nat)⟩:Rng)) (aE (by intro _;rfl) _)) rfl|fail):p:=h
open xWK
theorem Ji {l:List Int}{k:Nat}{x:Int}(h:k<l.length) (h1:¬x∈l.take k) (h2:¬l[k]=x):¬x∈l.take (k+1):=by
 rw[List.take_add_one,List.getElem?_eq_getElem h,List.mem_append];simp only[Option.toList_some,List.mem_singleton];exact λhc=>hc.elim h1 λe=>h2 e.symm
theorem x7 {l:List Int}{x:Int}(hl:l.length<=100000):@Pu gtR Tryz.prog 19 [aC l,i64 x] (boo (decide (x∈l))):=by
 letI:=gtR;refine pv Tryz.func19 ?_;repeat' ((conv=>whnf);first|exact kQ|(refine bk ?_ ?_<;>intro _<;>try exact exo)|refine stq ?_|fail)
 refine aG.by aB T0 (λk:Nat=>⟨tmp 18 [(0,aC l),(1,i64 x),(5,i64 (k:Int))],⟨0,[]⟩⟩) (λk=>k<=l.length/\¬x∈l.take k) (λk=>l.length-k) 0 ⟨om,si⟩ ?_ ?_
 .exact lq0
 intro k ⟨h3,h4⟩;repeat' ((conv=>whnf);first|exact kQ|(refine bk ?_ ?_<;>intro _<;>try exact exo)|refine stq ?_)
 all_goals(conv=>whnf)
 all_goals first
  | exact aD.yes (by rename_i e;rw[<-e];exact kM _)
  | exact aD.no (by rw[kE om] at h4;exact h4)
  | (refine⟨k+1,⟨om,Ji om h4 asm⟩,om,?_⟩
     exact lq0)
theorem zZ {d:Db}{m:Int}(g:Good d) (hm:1<=m/\m<=1000):@Pu gtR Tryz.prog 16 [dbD d,i64 m] (i64 0):=by
 letI:=gtR;obtain⟨e,he,hi⟩:=eB g.ok g.sm;obtain rfl:=hi.2 g.va;refine pv Tryz.func16 ?_;repeat' ((conv=>whnf);first|exact kQ|(refine bk ?_ ?_<;>intro _<;>try exact exo)|refine stq ?_|refine cp he ?_|fail)
 all_goals(conv=>whnf)
 all_goals exact aD.same rfl rfl
theorem za {d:Db}{m:Int}(g:Good d) (hm:¬(1<=m/\m<=1000)):@Pu gtR Tryz.prog 16 [dbD d,i64 m] (i64 1):=by
 letI:=gtR;obtain⟨e,he,hi⟩:=eB g.ok g.sm;obtain rfl:=hi.2 g.va;refine pv Tryz.func16 ?_;repeat' ((conv=>whnf);first|exact kQ|(refine bk ?_ ?_<;>intro _<;>try exact exo)|refine stq ?_|refine cp he ?_|fail)
 all_goals(conv=>whnf)
 all_goals first
  | exact aD.same rfl rfl
  | (exfalso;omega)
theorem CQ {d:Db}{m:Int}(ho:d.ok) (hs:SmD d) (hv:¬DbV d):@Pu gtR Tryz.prog 16 [dbD d,i64 m] (i64 11):=by
 letI:=gtR;obtain⟨e,he,hi⟩:=eB ho hs;have h0:e≠0:=λh=>hv (hi.1 h)
 refine pv Tryz.func16 ?_;repeat' ((conv=>whnf);first|exact kQ|(refine bk ?_ ?_<;>intro _<;>try exact exo)|refine stq ?_|refine cp he ?_|fail)
 (conv=>whnf)
 exact aD.same rfl rfl
theorem CJ {d:Db}{text:List Int}{P:List Rng}(hP:@Pu gtR Tryz.prog 34 [dbD d,aC text] (.tup [ax P,i64 0])) (hl:P.length<=1000):@Pu gtR Tryz.prog 17 [dbD d,aC text] (aC (cq P)):=by
 letI:=gtR;refine pv Tryz.func17 ?_;repeat' ((conv=>whnf);first|exact kQ|(refine bk ?_ ?_<;>intro _<;>try exact exo)|refine stq ?_|refine cp hP ?_|fail)
 refine aG.by2 aB T0 (λ(i:Nat) (o:List Int)=>⟨tmp 30 [(5,ax P),(7,aP 0 1 o),(8,i64 (i:Int))],⟨1,bS 0 (λx=>[i64 x]) o⟩⟩)
  (λi o=>i<=P.length/\o=cq (P.take i)) (λi _=>P.length-i) 0 [] ⟨om,rfl⟩ ?_ ?_
 .exact lq0
 intro i o ⟨h3,h4⟩;have hol:o.length=i:=by rw[h4];simp[cq];omega
 by_cases hi:i<P.length
 .have hs2:o++[P[i].hi]=cq (P.take (i+1)):=by rw[h4,List.take_add_one,List.getElem?_eq_getElem hi,cq,cq,List.map_append];rfl
  cases o with
  | nil=>
   repeat' ((conv=>whnf);first|exact kQ|(refine bk ?_ ?_<;>intro _<;>try exact exo)|refine stq ?_|fail)
   (conv=>whnf)
   refine⟨i+1,_,⟨om,hs2⟩,om,?_⟩;exact lq [(0,_)] []
  | cons x xs=>
   have hlen:(x::xs).length<=1001:=by omega
   repeat' ((conv=>whnf);first|exact kQ|(refine bk ?_ ?_<;>intro _<;>try exact exo)|refine stq ?_|fail)
   (conv=>whnf)
   refine⟨i+1,_,⟨om,hs2⟩,om,?_⟩;exact lq [(0,_)] []
 .rw[kE om] at h4;rw[<-h4];cases o with
  | nil=>
   repeat' ((conv=>whnf);first|exact kQ|(refine bk ?_ ?_<;>intro _<;>try exact exo)|refine stq ?_)
   (conv=>whnf)
   exact⟨Rd.nil⟩
  | cons x xs=>
   repeat' ((conv=>whnf);first|exact kQ|(refine bk ?_ ?_<;>intro _<;>try exact exo)|refine stq ?_)
   (conv=>whnf)
   exact⟨lv (b:=x::xs) rfl rfl (aN _) rfl⟩
theorem next_c {O:List Int}{P:List Rng}{n lo:Nat}(hO:O.length<=1000) (hc:Chn 0 P n) (hn:n<=1000) (hl:lo<n):@Pu gtR Tryz.prog 20 [aC (cq P),aC O,i64 (lo:Int),i64 (n:Int)] (aC (up (dX (kv O P) lo (bw P lo)))):=by
 letI:=gtR;have hpl:=gD hc;have hel:(cq P).length<=1000:=by simp only[cq,List.length_map];omega
 obtain⟨s1,s2,⟨r,s3,s4⟩,s5⟩:=fT hc (Int.le_refl _) om (show(lo:Int)<(n:Nat) by omega);have hh1:=λx:Int=>x7 (l:=cq P) (x:=x) om
 have hh2:=λx:Int=>x7 (l:=O) (x:=x) om
 refine pv Tryz.func20 ?_;repeat' ((conv=>whnf);first|exact kQ|(refine bk ?_ ?_<;>intro _<;>try exact exo)|refine stq ?_|fail)
 refine aG.by2 aB T0 (λ(k:Nat) (o:List Int)=>⟨tmp 33 [(0,aC (cq P)),(1,aC O),(3,i64 (n:Int)),(9,aP 0 1 o),(10,i64 ((k:Int)+1))],⟨1,bS 0 (λx=>[i64 x]) o⟩⟩)
  (λk o=>(lo<=k/\k<bw P lo)/\o=up (dX (kv O P) lo k)) (λk _=>bw P lo-k) lo [] ⟨⟨om,om⟩,by rw[m6];rfl⟩ ?_ ?_
 .exact lq0
 intro k o ⟨⟨h3,h4⟩,h5⟩
 have hol:o.length<=1000:=by
  rw[h5];simp only[up,dX,List.length_map];exact Nat.le_trans (List.length_filter_le _ _) (by simp;omega)
 have hsn:=tK (can:=kv O P) (lo:=lo) (k:=k) h3;have q1:=hh1 ((k:Int)+1);have q2:=hh2 ((k:Int)+1);by_cases he:(k:Int)+1∈cq P
 .rw[decide_eq_true he] at q1;obtain⟨r',e1,e2⟩:=kd.1 he;have hk1:k+1=bw P lo:=by have:=s5 r' e1 om;omega
  have hcn:kv O P (k+1)=true:=decide_eq_true (.inr ⟨r',e1,om⟩);rw[if_pos hcn,hk1] at hsn;have hfin:up (dX (kv O P) lo (bw P lo))=o++[(k:Int)+1]:=by rw[hsn,h5];simp[up];omega
  rw[hfin];cases o with
  | nil=>
   repeat' ((conv=>whnf);first|exact kQ|(refine bk ?_ ?_<;>intro _<;>try exact exo)|refine stq ?_|refine cp q1 ?_|fail)
   (conv=>whnf)
   exact⟨lv (b:=[(k:Int)+1]) rfl rfl rfl rfl⟩
  | cons x xs=>
   have hlen:(x::xs).length<=1001:=by omega
   repeat' ((conv=>whnf);first|exact kQ|(refine bk ?_ ?_<;>intro _<;>try exact exo)|refine stq ?_|refine cp q1 ?_|fail)
   (conv=>whnf)
   exact⟨lv (b:=(x::xs)++[(k:Int)+1]) rfl rfl (Bs (x::xs) _) si⟩
 .rw[decide_eq_false he] at q1
  have hk1:k+1<bw P lo:=by
   by_cases e:k+1=bw P lo
   .exact absurd (kd.2 ⟨r,s3,om⟩) he
   .omega
  by_cases ho:(k:Int)+1∈O
  .rw[decide_eq_true ho] at q2;have hcn:kv O P (k+1)=true:=decide_eq_true (.inl (by simpa using ho));rw[if_pos hcn] at hsn;have hs2:o++[(k:Int)+1]=up (dX (kv O P) lo (k+1)):=by rw[hsn,h5];simp[up]
   cases o with
   | nil=>
    repeat' ((conv=>whnf);first|exact kQ|(refine bk ?_ ?_<;>intro _<;>try exact exo)|refine stq ?_|refine cp q1 ?_|refine cp q2 ?_|fail)
    (conv=>whnf)
    refine⟨k+1,_,⟨⟨om,om⟩,hs2⟩,om,?_⟩;exact lq [(0,_)] []
   | cons x xs=>
    have hlen:(x::xs).length<=1001:=by omega
    repeat' ((conv=>whnf);first|exact kQ|(refine bk ?_ ?_<;>intro _<;>try exact exo)|refine stq ?_|refine cp q1 ?_|refine cp q2 ?_|fail)
    (conv=>whnf)
    refine⟨k+1,_,⟨⟨om,om⟩,hs2⟩,om,?_⟩;exact lq [(0,_)] []
  .rw[decide_eq_false ho] at q2
   have hcn:¬kv O P (k+1)=true:=λh=>by
    rcases of_decide_eq_true h with h|⟨r',e1,e2⟩
    .exact ho (by simpa using h)
    .exact he (kd.2 ⟨r',e1,om⟩)
   rw[if_neg hcn,List.append_nil] at hsn;cases o with
   | nil=>
    repeat' ((conv=>whnf);first|exact kQ|(refine bk ?_ ?_<;>intro _<;>try exact exo)|refine stq ?_|refine cp q1 ?_|refine cp q2 ?_|fail)
    (conv=>whnf)
    refine⟨k+1,[],⟨⟨om,om⟩,by rw[hsn];exact h5⟩,om,?_⟩;exact lq0
   | cons x xs=>
    repeat' ((conv=>whnf);first|exact kQ|(refine bk ?_ ?_<;>intro _<;>try exact exo)|refine stq ?_|refine cp q1 ?_|refine cp q2 ?_|fail)
    (conv=>whnf)
    refine⟨k+1,x::xs,⟨⟨om,om⟩,by rw[hsn];exact h5⟩,om,?_⟩;exact lq [(0,_)] []
theorem H8 {l:List Nat}(hl:l.length<=1000):@Pu gtR Tryz.prog 22 [aC (up l)] (ax (rgL 0 l)):=by
 letI:=gtR;have hul:(up l).length=l.length:=by simp[up]
 have hug:∀ k (h:k<l.length),(up l)[k]'(by rw[hul];exact h)=(l[k]:Int):=λk h=>by simp[up]
 refine pv Tryz.func22 ?_;generalize up l=ul at *;repeat' ((conv=>whnf);first|exact kQ|(refine bk ?_ ?_<;>intro _<;>try exact exo)|refine stq ?_|fail)
 refine aG.by2 aB T0 (λ(k:Nat) (o:List Rng)=>⟨tmp 26 [(0,aC ul),(3,aP 0 2 o),(4,i64 (((l.take k).getLastD 0:Nat):Int)),(5,i64 (k:Int))],⟨1,bS 0 bm o⟩⟩)
  (λk o=>k<=l.length/\o=rgL 0 (l.take k)) (λk _=>l.length-k) 0 [] ⟨om,rfl⟩ ?_ ?_
 .exact lq0
 intro k o ⟨h3,h4⟩;have hol:o.length=k:=by rw[h4,uo];simp;omega
 by_cases hk:k<l.length
 .have hg:=hug k hk;have hlt:=Cr hk
  have hs2:o++[⟨((l.take k).getLastD 0:Nat),(l[k]:Nat)⟩]=rgL 0 (l.take (k+1)):=by
   rw[h4,List.take_add_one,List.getElem?_eq_getElem hk];exact(wl _ _ _).symm
  cases o with
  | nil=>
   repeat' ((conv=>whnf);first|refine Idx.atE (d:=i64 (l[k]:Int)) k om om (by rw[hg]) ?_|exact kQ|(refine bk ?_ ?_<;>intro _<;>try exact exo)|refine stq ?_|fail)
   (conv=>whnf)
   refine⟨k+1,_,⟨om,hs2⟩,om,?_⟩;exact lq [(0,_)] []
  | cons x xs=>
   have hlen:(x::xs).length<=1001:=by omega
   repeat' ((conv=>whnf);first|refine Idx.atE (d:=i64 (l[k]:Int)) k om om (by rw[hg]) ?_|exact kQ|(refine bk ?_ ?_<;>intro _<;>try exact exo)|refine stq ?_|fail)
   (conv=>whnf)
   refine⟨k+1,_,⟨om,hs2⟩,om,?_⟩;exact lq [(0,_)] []
 .rw[kE om] at h4;rw[<-h4];cases o with
  | nil=>
   repeat' ((conv=>whnf);first|exact kQ|(refine bk ?_ ?_<;>intro _<;>try exact exo)|refine stq ?_|fail)
   (conv=>whnf)
   exact⟨Rd.nil⟩
  | cons x xs=>
   repeat' ((conv=>whnf);first|exact kQ|(refine bk ?_ ?_<;>intro _<;>try exact exo)|refine stq ?_|fail)
   (conv=>whnf)
   exact⟨BU (b:=x::xs) rfl rfl rfl rfl⟩
end
section
theorem rwid_c {d:Db}{text:List Int}(g:Good d) (hx:text.length<=40){a b:Nat}(hab:a<=b) (hb:b<=text.length):@Pu gtR Tryz.prog 36 [dbD d,aC text,dE a b] (i64 (ix d text a b)):=by
 letI:=gtR;have hV:=rvis_c (text:=text) g.ok g.sm g.va hx hab hb;have h1:=pS (nvL d text) a b;have h2:=uZ (nvL d text) a b hab;have hW:Pu Tryz.prog 50 [dbD d,aC (pce text a (cA (nvL d text) a b:Nat))] (.tup [i64 (ix d text a b),i64 0]):=g.rwidth (text:=pce text a (cA (nvL d text) a b:Nat)) (by simp only[List.length_take,List.length_drop];omega);generalize ix d text a b=w at *;generalize cA (nvL d text) a b=e at *
 have hW':Pu Tryz.prog 50 [dbD d,D.imm ((e:Int)-(a:Int)).toNat (((text.map i64).drop ((a:Int).toNat*1)).take (((e:Int)-(a:Int)).toNat*1))] (.tup [i64 w,i64 0]):=by
  rw[uz om om om];exact hW
 refine pv Tryz.func36 ?_;repeat' ((conv=>whnf);first|exact kQ|(refine bk ?_ ?_<;>intro _<;>try exact exo)|refine stq ?_|refine cp hV ?_|refine ac.by aB T0 [0,0,0,4,0,16,62,127,255,511,511,1023,4095] (by kernel_rfl) ?_|refine cp hW' ?_|refine Chk.mk ⟨om,om,om,(by simp:(text.map i64).length=text.length*1)⟩ ?_)
 (conv=>whnf)
 exact aD.int rfl
theorem Ik {d:Db}{text:List Int}{m:Int}{a b:Nat}:(ju d text m).cst a b=if 0<ix d text a b-m then(ix d text a b-m)*(ix d text a b-m)*1000 else if b=bw (dY d text) a then 0 else(ix d text a b-m)*(ix d text a b-m):=rfl
theorem EL {o:Int}(h1:-1000<=o) (h2:o<=1000):IntKind.wrap .i64 (o*o)=o*o:=by
 have:=aZ.sq_range h1 h2
 exact gn (ko om om)
theorem EM {o:Int}(h1:-1000<=o) (h2:o<=1000):IntKind.wrap .i64 (IntKind.wrap .i64 (1000*o)*o)=o*o*1000:=by
 have:=aZ.sq_range h1 h2
 have e:1000*o*o=o*o*1000:=by rw[Int.mul_assoc,Int.mul_comm]
 rw[gn (k:=.i64) (n:=1000*o) (ko om om),e];exact gn (ko om om)
theorem HZ {d:Db}{text:List Int}{m:Int}(g:Good d) (hx:text.length<=40) (hm:1<=m/\m<=1000){a b:Nat}(hab:a<b) (hb:b<=bw (dY d text) a) (han:a<text.length):@Pu gtR Tryz.prog 21 [dbD d,aC text,i64 m,aC (cq (dY d text)),dE a b] (i64 ((ju d text m).cst a b)):=by
 letI:=gtR;have hc:=nB d text;have hpl:=gD hc;obtain⟨s1,s2,⟨r,s3,s4⟩,s5⟩:=fT hc (Int.le_refl _) om (show(a:Int)<(text.length:Nat) by omega);have hw:=rwid_c g hx (a:=a) (b:=b) om om;have hr:=qz d (text:=text) (a:=a) (b:=b) om;have hh:=x7 (l:=cq (dY d text)) (x:=(b:Int)) (by simp only[cq,List.length_map];omega)
 have hiff:(b:Int)∈cq (dY d text)↔b=bw (dY d text) a:=by
  rw[kd];constructor
  .rintro⟨q,q1,q2⟩;have:=s5 q q1 om
   omega
  .intro e;exact⟨r,s3,om⟩
 rw[show decide ((b:Int)∈cq (dY d text))=decide (b=bw (dY d text) a) from by simp only[hiff]] at hh;have hsq:=EL (o:=ix d text a b-m) om om;have hsq2:=EM (o:=ix d text a b-m) om om;rw[Ik];generalize ix d text a b=w at *;generalize bw (dY d text) a=la at *;generalize cq (dY d text)=E at *;refine pv Tryz.func21 ?_;repeat' ((conv=>whnf);first|exact kQ|(refine bk ?_ ?_<;>intro _<;>try exact exo)|refine stq ?_|refine cp hw ?_|refine cd hh (λ_=>?_) (λ_=>?_)|fail)
 all_goals(conv=>whnf)
 all_goals first
  | exact aD.int (by rw[if_pos om,hsq2])
  | exact aD.int (by rw[if_neg om,if_pos asm])
  | exact aD.int (by rw[if_neg om,if_neg asm,hsq])
theorem Hm {L:aZ}(h:L.ok){lo:Nat}:(L.pos lo).length<=L.n:=by
 unfold aZ.pos;split
 .rename_i hl;have h1:=h.last hl;unfold dX;exact Nat.le_trans (List.length_filter_le _ _) (by rw[List.length_range'];omega)
 .simp
end
end Go.Proofs.YtlimkdlhldlolaaGreatDoor
