/-
  The specification of layer 36, over data: the best division.
-/
import Derived.Test.YtlimkdlhldlolaaGreatDoorWK
import Derived.Test.YtlimkdlhldlolaaGreatDoorWJ
import Derived.Test.YtlimkdlhldlolaaGreatDoorWH
set_option linter.unusedSectionVars false
namespace Go.Proofs.YtlimkdlhldlolaaGreatDoor
open Go Go.Am Classical
set_option maxRecDepth 100000
section
theorem xWM.rdX {p:Prop}(h:p:=by first|exact Rd.sl' rfl om om|exact Rd.sl' rfl rfl rfl|exact Rd.nil|exact lv (b:=y::ys) rfl rfl (aN _) rfl|exact Rd.sl' rfl sim sim|fail):p:=h
theorem xWM.rbX {p:Prop}(h:p:=by first|exact Rb.cells (Rds.eqs (a8 om (λi hi=>knV_z2 hnn hi)) (ab (λ_=>rfl))) rfl|exact Rb.cells (Rds.eqs (a8 om (λi hi=>knV_z1 hnn hi)) (ab (λ_=>rfl))) rfl|exact Rb.cells (Rds.same (cV _)) rfl|exact Rb.cells (Rds.same (ab (λ_=>rfl))) rfl|exact Rb.cells (Rds.eqs (aQ (by intro _;rfl) (x::xs) _) (aE (by intro _;rfl) _)) rfl|exact Rb.cells (Rds.eqs (bo (λk _=>by first|(dsimp only;rw[<-II];done)|fail)) (ab (λ_=>rfl))) rfl|exact Rb.cells (Rds.eqs (bG (by first|(dsimp only;rw[if_pos rfl];done)|fail) (λq _ hq=>by first|(dsimp only;rw[if_neg hq,if_neg hq];done)|fail)) (ab (λ_=>rfl))) rfl|exact Rb.cells (Rds.eqs (bo (λk _=>by first|(dsimp only;rw[hko,h8];done)|fail)) (ab (λ_=>rfl))) rfl|exact Rb.cells (Rds.eqs (bo (λk _=>by first|(rw[hsk];done)|fail)) (ab (λ_=>rfl))) rfl|fail):p:=h
open xWM
structure Lat (p:Prop):Prop where
 out:p
theorem later {p q:Prop}(h:p) (k:Lat p->q):q:=k ⟨h⟩
theorem BM {L:aZ}{k:Nat}(hk:k<=L.n):knV L L.n k=(0,0):=by
 unfold knV;split
 .rename_i h;obtain rfl:k=L.n:=by have:=h.1;omega
  exact aZ.B_end
 .rfl
theorem knV_z2 {L:aZ}{n i:Nat}(e:L.n=n) (h:i<n+1):i64 (knV L n i).2=i64 0:=by
 subst e;rw[BM om]
theorem knV_z1 {L:aZ}{n i:Nat}(e:L.n=n) (h:i<n+1):i64 ((knV L n i).1:Int)=i64 0:=by
 subst e;rw[BM om];rfl
theorem IH {L:aZ}{lo:Nat}:knV L (lo+1) lo=(0,0):=by
 unfold knV;rw[if_neg λh=>by have:=h.1;omega]
theorem II {L:aZ}{lo k:Nat}:knV L (lo+1) k=if k=lo then(0,0) else knV L (lo+1) k:=by
 split
 .rename_i h;rw[h,IH]
 .rfl
theorem zz {L:aZ}{s k:Nat}(h:s<=k) (hc:k=0\/L.can k=true):knV L s k=L.B k:=by
 unfold knV;rw[if_pos ⟨h,hc⟩]
theorem C6 {c:Nat->Int}{l:List Nat}{i:Nat}(h:i<l.length){z:Nat×Int}:(l.take (i+1)).foldl (a6 c) z=a6 c ((l.take i).foldl (a6 c) z) l[i]:=by
 rw[List.take_add_one,List.getElem?_eq_getElem h,List.foldl_append];rfl
abbrev bst1 (d:Db) (n:Nat) (f:Nat->Nat×Int):List (Nat×Box):=[(1,.cells (aT (n+1) λk=>i64 (f k).2) true),(2,.cells (aT (n+1) λk=>i64 ((f k).1:Int)) true),(0,.cells (dbC d) true)]
set_option maxHeartbeats 16000000 in
theorem Hh {d:Db}{text:List Int}{m:Int}(g:Good d) (hx:text.length<=40) (hm:1<=m/\m<=1000):@Pu gtR Tryz.prog 7 [dbD d,aC text,i64 m] (.tup [ax (rgL 0 ((ju d text m).bin 0)),i64 ((ju d text m).B 0).2,i64 0]):=by
 letI:=gtR;have H:=g.lay hx hm;have hok:=H.ok;have hck:=zZ g hm;have hc:=nB d text;have hpl:=gD hc;have hE:=CJ (Eg (text:=text) g.ok g.sm g.va om) om;have hO:=Eh (text:=text) g.ok g.sm g.va om;have hpos:∀ lo,lo<text.length->(ju d text m).pos lo=dX (kv (nD d text) (dY d text)) lo (bw (dY d text) lo):=λlo h=>by unfold aZ.pos;rw[if_pos (show lo<(ju d text m).n from h)];rfl
 have hNx:=λlo (h:lo<text.length)=>next_c (O:=nD d text) (P:=dY d text) (n:=text.length) (lo:=lo) H.lenO hc om h
 have hcs:∀ lo,lo<text.length->∀ x∈(ju d text m).pos lo,Pu Tryz.prog 21 [dbD d,aC text,i64 m,aC (cq (dY d text)),dE (lo:Int) (x:Int)] (i64 ((ju d text m).cst lo x)):=λlo h x hx'=>by
  obtain⟨_,p1,p2,_⟩:=aZ.pos_mem hok hx';exact HZ g hx hm p1 p2 h
 have hh1:=λx:Int=>x7 (l:=cq (dY d text)) (x:=x) (by simp only[cq,List.length_map];omega)
 have hh2:=λx:Int=>x7 (l:=nD d text) (x:=x) (by have:=H.lenO;omega)
 have hcan:∀ k:Nat,(ju d text m).can k=true↔((k:Int)∈cq (dY d text)\/(k:Int)∈nD d text):=λk=>by
  show kv (nD d text) (dY d text) k=true↔_;rw[kd,kv,decide_eq_true_eq];exact Or.comm
 have hdl:=vX (L:=ju d text m) hok (lo:=0) (Nat.zero_le _) (aZ.bin_ok hok (Nat.zero_le _)).1;have hnn:(ju d text m).n=text.length:=rfl;have hL:=H8 (l:=(ju d text m).bin 0) om;have hNx':∀ lo,lo<text.length->Pu Tryz.prog 20 [aC (cq (dY d text)),aC (nD d text),i64 (lo:Int),i64 (text.length:Int)] (aC (up ((ju d text m).pos lo))):=λlo h=>by rw[hpos lo h];exact hNx lo h
 clear hNx hpos H hc hpl;generalize ju d text m=L at *;generalize cq (dY d text)=E at *;generalize nD d text=O at *;refine pv Tryz.func7 ?_;repeat' ((conv=>whnf);first|exact kQ|(refine bk ?_ ?_<;>intro _<;>try exact exo)|refine stq ?_|refine cp hck ?_|refine cp hE ?_|refine cp hO ?_|fail)
 refine aG.by aB T0 (λs:Nat=>⟨tmp 137 [(1,aC text),(2,i64 m),(3,.ptr 0 0),(10,aC E),(11,aC O),(13,.sl 1 0 (text.length+1) (text.length+1) 1 true),(14,.sl 2 0 (text.length+1) (text.length+1) 1 true),(15,i64 ((s:Int)-1))],⟨3,bst1 d text.length (knV L s)⟩⟩)
  (λs=>s<=text.length) (λs=>s) text.length (kP _) ?_ ?_
 .exact lq [(0,_),(1,_),(2,_)] []
 intro s h3;by_cases h0:s=0
 .subst h0;repeat' ((conv=>whnf);first|exact kQ|(refine bk ?_ ?_<;>intro _<;>try exact exo)|refine stq ?_|fail)
  refine aG.by2 aB T0 (λ(lo:Nat) (o:List Int)=>⟨tmp 137 [(1,aC text),(13,.sl 0 0 (text.length+1) (text.length+1) 1 true),(14,.sl 1 0 (text.length+1) (text.length+1) 1 true),(19,aP 2 1 o),(20,i64 (lo:Int))],⟨3,bS 2 (λx=>[i64 x]) o++[(0,.cells (aT (text.length+1) λk=>i64 (knV L 0 k).2) true),(1,.cells (aT (text.length+1) λk=>i64 ((knV L 0 k).1:Int)) true)]⟩⟩)
   (λlo o=>(lo<=text.length/\o.length<=lo/\(lo=0\/L.can lo=true))/\up (L.bin 0)=o++up (L.bin lo)) (λlo _=>text.length-lo) 0 [] ⟨⟨om,si,.inl rfl⟩,rfl⟩ ?_ ?_
  .exact lq [(0,1),(1,2)] []
  intro lo o ⟨⟨h4,h5,h6⟩,h7⟩;by_cases hk:lo<text.length
  .have hkn:=zz (L:=L) (Nat.zero_le lo) h6;have hbm:=(aZ.B_spec hok (lo:=lo) om).1;have hlt:=aZ.pos_lt hok _ _ hbm;have hcb:=(aZ.pos_mem hok hbm).2.2.2;rw[aZ.bin_eq hok (lo:=lo) om] at h7;generalize L.B lo=v at *;obtain⟨nx,c⟩:=v;simp only at hlt hcb h7;have h8:up (L.bin 0)=(o++[(nx:Int)])++up (L.bin nx):=by rw[h7];simp[up]
   cases o with
   | nil=>
    repeat' ((conv=>whnf);first|exact kQ|(refine bk ?_ ?_<;>intro _<;>try exact exo)|refine stq ?_|refine bT.at lo rfl om ?_|refine Get.F (d:=i64 (nx:Int)) om (by rw[hkn]) ?_|fail)
    (conv=>whnf)
    refine⟨nx,_,⟨⟨om,by simp;omega,.inr hcb⟩,h8⟩,om,?_⟩;exact lq [(0,_),(1,_),(2,_)] []
   | cons x xs=>
    have hlen:(x::xs).length<=1001:=by omega
    repeat' ((conv=>whnf);first|exact kQ|(refine bk ?_ ?_<;>intro _<;>try exact exo)|refine stq ?_|refine bT.at lo rfl om ?_|refine Get.F (d:=i64 (nx:Int)) om (by rw[hkn]) ?_|fail)
    (conv=>whnf)
    refine⟨nx,_,⟨⟨om,by simp at h5 ⊢;omega,.inr hcb⟩,h8⟩,om,?_⟩;exact lq [(0,_),(1,_),(2,_)] []
  .obtain rfl:lo=text.length:=by omega
   rw[<-hnn,aZ.bin_end] at h7;simp only[up,List.map_nil,List.append_nil] at h7;have hL':Pu Tryz.prog 22 [aC o] (ax (rgL 0 (L.bin 0))):=by rw[<-h7];exact hL
   have hk0:=zz (L:=L) (Nat.zero_le 0) (.inl rfl);generalize rgL 0 (L.bin 0)=R at *;generalize L.B 0=v at *;cases o with
   | nil=>
    repeat' ((conv=>whnf);first|refine bX.weak (x:=Code.seq (Code.region 27 _ true) _) aB T0 (s0:=⟨tmp 137 [(13,.sl 0 0 (text.length+1) (text.length+1) 1 true),(19,aC [])],⟨1,[(0,.cells (aT (text.length+1) λk=>i64 (knV L 0 k).2) true)]⟩⟩) ?_ ?_|exact kQ|(refine bk ?_ ?_<;>intro _<;>try exact exo)|refine stq ?_|refine ac.by aB T0 [0,1,0,4,12,3,63,127] (by kernel_rfl) ?_|refine cp hL' ?_|refine bT.at 0 rfl om ?_|refine Get.F (k:=0) (d:=i64 v.2) om (by rw[hk0]) ?_|fail)
    .exact lq [(0,_)] []
    (conv=>whnf)
    exact⟨Rd.eqd rfl (by simp[aK,aF,ak])⟩
   | cons y ys=>
    repeat' ((conv=>whnf);first|refine bX.weak (x:=Code.seq (Code.region 27 _ true) _) aB T0 (s0:=⟨tmp 137 [(13,.sl 0 0 (text.length+1) (text.length+1) 1 true),(19,aC (y::ys))],⟨1,[(0,.cells (aT (text.length+1) λk=>i64 (knV L 0 k).2) true)]⟩⟩) ?_ ?_|exact kQ|(refine bk ?_ ?_<;>intro _<;>try exact exo)|refine stq ?_|refine ac.by aB T0 [0,1,0,4,12,3,63,127] (by kernel_rfl) ?_|refine cp hL' ?_|refine bT.at 0 rfl om ?_|refine Get.F (k:=0) (d:=i64 v.2) om (by rw[hk0]) ?_|fail)
    .exact lq [(0,_)] [2]
    (conv=>whnf)
    exact⟨Rd.eqd rfl (by simp[aK,aF,ak])⟩
 obtain⟨lo,rfl⟩:∃ lo,s=lo+1:=⟨s-1,om⟩;have e15:(((lo+1:Nat):Int)-1)=(lo:Int):=by omega
 rw[e15];have q1:=hh1 (lo:Int);have q2:=hh2 (lo:Int);have hcl:=hcan lo;by_cases hgo:lo=0\/L.can lo=true
 .have hN:=hNx' lo om;have hcs':=hcs lo om;have hBe:=aZ.B_eq hok (lo:=lo) om;have hpm:=λx=>aZ.pos_mem (x:=x) hok (lo:=lo)
  have hpl':=λx=>aZ.pos_lt hok lo x
  have hcr:=λx (h:x∈L.pos lo)=>aZ.cst_range hok (lo:=lo) (hi:=x) (hpl' x h).2
  have hbr:=λx (h:x∈L.pos lo)=>aZ.B_range hok (f:=L.n) (lo:=x) (hpl' x h).2 om
  have hkx:=λx (h:x∈L.pos lo)=>zz (L:=L) (s:=lo+1) (k:=x) (hpl' x h).1 (.inr (hpm x h).2.2.2)
  have hko:=λk=>IG (L:=L) (s:=lo) (k:=k) hgo
  have hll:=Hm (L:=L) hok (lo:=lo)
  have hb3:lo=0\/(lo≠0/\decide ((lo:Int)∈E)=true)\/(lo≠0/\decide ((lo:Int)∈E)=false/\decide ((lo:Int)∈O)=true):=by
   by_cases h0:lo=0
   .exact .inl h0
   .by_cases he:(lo:Int)∈E
    .exact .inr (.inl ⟨h0,decide_eq_true he⟩)
    .exact .inr (.inr ⟨h0,decide_eq_false he,decide_eq_true ((hcl.1 (hgo.resolve_left h0)).resolve_left he)⟩)
  clear hcl hpm hgo;have hcc:∀ x,L.cc lo x=L.cst lo x+(L.B x).2:=λ_=>rfl
  have hBe':L.B lo=(L.pos lo).foldl (a6 (L.cc lo)) (0,0):=hBe;clear hBe;generalize hplq:L.pos lo=pl at *;have hul:=D2 pl;have hug:∀ k (h:k<pl.length),(up pl)[k]'(by rw[hul];exact h)=(pl[k]:Int):=λk h=>up_get h
  generalize up pl=ul at *;generalize decide ((lo:Int)∈E)=b1 at *;generalize decide ((lo:Int)∈O)=b2 at *;apply later
  case k=>
   intro key;rcases hb3 with hb3|⟨hb3,rfl⟩|⟨hb3,rfl,rfl⟩
   all_goals
    repeat' ((conv=>whnf);first|refine bX.weak (x:=Code.seq (Code.region 14 _ false) _) aB T0 (s0:=⟨tmp 137 [(1,aC text),(2,i64 m),(3,.ptr 0 0),(10,aC E),(11,aC O),(13,.sl 1 0 (text.length+1) (text.length+1) 1 true),(14,.sl 2 0 (text.length+1) (text.length+1) 1 true),(15,i64 (lo:Int))],⟨3,bst1 d text.length (knV L (lo+1))⟩⟩) ?_ key.out|exact kQ|(refine bk ?_ ?_<;>intro _<;>try exact exo)|refine stq ?_|refine cp q1 ?_|refine cp q2 ?_|fail)
    exact lq [(0,_),(1,_),(2,_)] []
  case h=>
   repeat' ((conv=>whnf);first|exact kQ|(refine bk ?_ ?_<;>intro _<;>try exact exo)|refine stq ?_|refine cp hN ?_|fail)
   refine aG.by3 aB T0 (λ(i x:Nat) (c:Int)=>⟨tmp 137 [(1,aC text),(2,i64 m),(3,.ptr 0 0),(10,aC E),(11,aC O),(13,.sl 1 0 (text.length+1) (text.length+1) 1 true),(14,.sl 2 0 (text.length+1) (text.length+1) 1 true),(15,i64 (lo:Int)),(16,aC ul),(17,i64 (i:Int))],⟨3,bst1 d text.length (λk=>if k=lo then(x,c) else knV L (lo+1) k)⟩⟩)
    (λi x c=>(i<=pl.length/\(i=0\/x≠0)/\0<=c/\c<=100000000000000)/\(x,c)=(pl.take i).foldl (a6 (L.cc lo)) (0,0)) (λi _ _=>pl.length-i) 0 0 0 ⟨⟨om,.inl rfl,om,om⟩,rfl⟩ ?_ ?_
   .exact lq [(0,_),(1,_),(2,_)] []
   intro i x c ⟨⟨h4,h5,h6,h7⟩,h8⟩
   have h5':i≠0\/x=0:=by
    by_cases e:i=0
    .subst e;exact .inr (congrArg Prod.fst h8)
    .exact .inl e
   by_cases hi:i<pl.length
   .have hgi:=hug i hi;have hmi:=kM hi;have hq:=hcs' pl[i] hmi;have hr1:=hcr pl[i] hmi;have hr2:=hbr pl[i] hmi;have hr3:=hkx pl[i] hmi;have hr4:=hpl' pl[i] hmi;have hf:=C6 (c:=L.cc lo) hi (z:=(0,0));rw[<-h8] at hf;have hcx:=hcc pl[i];have hbs:a6 (L.cc lo) (x,c) pl[i]=if x=0\/L.cc lo pl[i]<=c then(pl[i],L.cc lo pl[i]) else(x,c):=rfl
    rw[hbs,hcx] at hf;clear hbs hcx;generalize L.cst lo pl[i]=cs at *;generalize L.B pl[i]=v at *;generalize pl[i]=y at *;by_cases hup:x=0\/cs+v.2<=c
    .rw[if_pos hup] at hf;repeat' ((conv=>whnf);first|refine Idx.atE (d:=i64 (y:Int)) i rfl om (by rw[hgi]) ?_|exact kQ|(refine bk ?_ ?_<;>intro _<;>try exact exo)|refine stq ?_|refine ac.by aB T0 [0,0,0,0,0,0,0,96,224,496,1023,0,0,0,12288,28672,63488,129024,262143,524287] (by kernel_rfl) ?_|refine cp hq ?_|refine bT.at y rfl om ?_|refine bT.at lo rfl om ?_|refine Get.F (k:=y) (d:=i64 v.2) om (by dsimp only;rw[if_neg om,hr3]) ?_|refine Get.F (k:=lo) (d:=i64 c) om (by dsimp only;rw[if_pos rfl]) ?_|refine Put.one (by simp;omega) ?_|fail)
     all_goals(conv=>whnf)
     all_goals
      refine⟨i+1,y,cs+v.2,⟨⟨om,.inr om,om,om⟩,hf.symm⟩,om,?_⟩;exact lq [(0,_),(1,_),(2,_)] []
    .rw[if_neg hup] at hf;repeat' ((conv=>whnf);first|refine Idx.atE (d:=i64 (y:Int)) i rfl om (by rw[hgi]) ?_|exact kQ|(refine bk ?_ ?_<;>intro _<;>try exact exo)|refine stq ?_|refine ac.by aB T0 [0,0,0,0,0,0,0,96,224,496,1023,0,0,0,12288,28672,63488,129024,262143,524287] (by kernel_rfl) ?_|refine cp hq ?_|refine bT.at y rfl om ?_|refine bT.at lo rfl om ?_|refine Get.F (k:=y) (d:=i64 v.2) om (by dsimp only;rw[if_neg om,hr3]) ?_|refine Get.F (k:=lo) (d:=i64 c) om (by dsimp only;rw[if_pos rfl]) ?_|refine Put.one (by simp;omega) ?_|fail)
     all_goals(conv=>whnf)
     all_goals
      refine⟨i+1,x,c,⟨⟨om,om,h6,h7⟩,hf.symm⟩,om,?_⟩;exact lq [(0,_),(1,_),(2,_)] []
   .rw[kE om,<-hBe'] at h8;repeat' ((conv=>whnf);first|exact kQ|(refine bk ?_ ?_<;>intro _<;>try exact exo)|refine stq ?_|fail)
    (conv=>whnf)
    refine⟨lo,om,om,?_⟩;exact lq [(0,_),(1,_),(2,_)] []
 .have hz:lo≠0:=λh=>hgo (.inl h)
  have hcn:¬L.can lo=true:=λh=>hgo (.inr h)
  rw[decide_eq_false (λh=>hcn (hcl.2 (.inl h)))] at q1;rw[decide_eq_false (λh=>hcn (hcl.2 (.inr h)))] at q2;have hsk:=λk=>FZ (L:=L) (k:=k) hz hcn
  repeat' ((conv=>whnf);first|exact kQ|(refine bk ?_ ?_<;>intro _<;>try exact exo)|refine stq ?_|refine cp q1 ?_|refine cp q2 ?_|fail)
  (conv=>whnf)
  refine⟨lo,om,om,?_⟩;exact lq [(0,_),(1,_),(2,_)] []
end
section
theorem ws {d:Db}{text:List Int}{m e:Int}(h0:e≠0) (hp:@Pu gtR Tryz.prog 16 [dbD d,i64 m] (i64 e)):@Pu gtR Tryz.prog 7 [dbD d,aC text,i64 m] (.tup [aJ,i64 0,i64 e]):=by
 letI:=gtR;refine pv Tryz.func7 ?_;repeat' ((conv=>whnf);first|exact kQ|(refine bk ?_ ?_<;>intro _<;>try exact exo)|refine stq ?_|refine cp hp ?_|fail)
 (conv=>whnf)
 exact⟨Rd.eqd rfl rfl⟩
theorem Iz {d:Db}{text:List Int}{n:Int}(ho:d.ok) (_hx:text.length<=9223372036854775807) (_hn:-9223372036854775808<=n/\n<=9223372036854775807):@Pu gtR Tryz.prog 3 [dbD d,aC text,i64 n] (boo true):=by
 letI:=gtR;have hal:=I6;have hF:=Ie (text:=text) (k:=10) ho;by_cases hf:SmD d/\(text.length:Int)<=10
 .rw[decide_eq_true hf] at hF;obtain⟨hs,h10⟩:=hf
  obtain⟨x,b,e,h1,h2,h3⟩:∃ (x:D) (b e:Int),Pu Tryz.prog 6 [dbD d,aC text,i64 n] (.tup [x,i64 b,i64 e])/\Pu Tryz.prog 7 [dbD d,aC text,i64 n] (.tup [x,i64 b,i64 e])/\((∃ l:List Rng,l.length<=100/\x=ax l)\/x=aJ):=by
   by_cases hv:DbV d
   .have g:Good d:=⟨ho,hs,hv⟩;by_cases hm:1<=n/\n<=1000
    .have H:=g.lay (text:=text) (m:=n) om hm;refine⟨_,_,_,Best_c H hm,Hh g om hm,.inl ⟨_,?_,rfl⟩⟩;have:=vX (L:=ju d text n) H.ok (Nat.zero_le _) (Iy H.ok)
     have h2:(ju d text n).n=text.length:=rfl;rw[uo];omega
    .exact⟨_,_,_,B4 (by decide) (Eo g om hm),ws (by decide) (za g hm),.inr rfl⟩
   .exact⟨_,_,_,B4 (by decide) (Hl ho hs hv),ws (by decide) (CQ ho hs hv),.inr rfl⟩
  rcases h3 with⟨l,hl,rfl⟩|rfl
  .have hE:=Ap (a:=l) om;refine pv Tryz.func3 ?_;repeat' ((conv=>whnf);first|exact kQ|(refine bk ?_ ?_<;>intro _<;>try exact exo)|refine stq ?_|refine cp hF ?_|refine cp h1 ?_|refine cp h2 ?_|refine cp hE ?_|refine cp hal ?_|fail)
   (conv=>whnf)
   exact aD.same rfl rfl
  .have hE:=sr_nil;refine pv Tryz.func3 ?_;repeat' ((conv=>whnf);first|exact kQ|(refine bk ?_ ?_<;>intro _<;>try exact exo)|refine stq ?_|refine cp hF ?_|refine cp h1 ?_|refine cp h2 ?_|refine cp hE ?_|refine cp hal ?_|fail)
   (conv=>whnf)
   exact aD.same rfl rfl
 .rw[decide_eq_false hf] at hF;refine pv Tryz.func3 ?_;repeat' ((conv=>whnf);first|exact kQ|(refine bk ?_ ?_<;>intro _<;>try exact exo)|refine stq ?_|refine cp hF ?_|refine cp hal ?_|fail)
  (conv=>whnf)
  exact aD.same rfl rfl
end
end Go.Proofs.YtlimkdlhldlolaaGreatDoor
