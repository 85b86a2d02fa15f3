/-
  Contracts of functions over data: the lines of a text, the cost of a division (the program).
-/
import Derived.Test.YtlimkdlhldlolaaGreatDoorWF
import Derived.Test.YtlimkdlhldlolaaGreatDoorWV
import Derived.Test.YtlimkdlhldlolaaGreatDoorLA
set_option linter.unusedSectionVars false
namespace Go.Proofs.YtlimkdlhldlolaaGreatDoor
open Go Go.Am
set_option maxHeartbeats 8000000
set_option maxRecDepth 1000000
section
open Classical
theorem xWH.rdX {p:Prop}(h:p:=by first|exact Rd.same hnb|exact Rd.sl' rfl sim sim|fail):p:=h
theorem xWH.rbX {p:Prop}(h:p:=by first|exact Rb.cells (Rds.eqs (aQ (c:=bm) (sz:=2) (by intro _;rfl) (x::xs) (⟨(lo:Int),(nx:Int)⟩:Rng)) (aE (by intro _;rfl) _)) rfl|fail):p:=h
open xWH
theorem JB {d:Db}{text:List Int}{m:Int}{L:aZ}{O:List Int}{P:List Rng}(H:sB d text m L O P) (hm:1<=m/\m<=1000):@Pu gtR Tryz.prog 10 [dbD d,aC text,i64 m] (.tup [ax (rgL 0 (L.lin 0)),i64 0]):=by
 letI:=gtR;have hp:=qa H hm;have hok:=H.ok;have hn:=H.n;have hx:=H.len;have hnb:aK (.iptr (lZ d text m O P))=true:=by simp[aK,aF,aX,ah,bn,ak,aM,aw]
 refine pv Tryz.func10 ?_;repeat' ((conv=>whnf);first|exact kQ|(refine bk ?_ ?_<;>intro _<;>try exact exo)|refine stq ?_|refine cp hp ?_|fail)
 refine aG.by2 aB T0 (λ(lo:Nat) (o:List Rng)=>⟨tmp 38 [(1,aC text),(8,.iptr (lZ d text m O P)),(10,aP 0 2 o),(11,i64 (lo:Int))],⟨1,bS 0 bm o⟩⟩)
  (λlo o=>(lo<=text.length/\o.length<=lo/\(lo=0\/L.can lo=true))/\rgL 0 (L.lin 0)=o++rgL lo (L.lin lo)) (λlo _=>text.length-lo) 0 [] ⟨⟨om,si,.inl rfl⟩,rfl⟩ ?_ ?_
 .exact lq0
 intro lo o ⟨⟨h3,h4,h5⟩,h6⟩;by_cases hk:lo<text.length
 .have hq:=long_c H h5 hk;have hm1:=aZ.nxt_mem hok (lo:=lo) om;have hm2:=aZ.pos_lt hok _ _ hm1;have hm3:=(aZ.pos_mem hok hm1).2.2.2;rw[aZ.lin_eq hok (lo:=lo) om] at h6;generalize L.nxt lo=nx at *;have h7:rgL 0 (L.lin 0)=(o++[⟨(lo:Int),(nx:Int)⟩])++rgL nx (L.lin nx):=by rw[h6];simp[rgL]
  cases o with
  | nil=>
   repeat' ((conv=>whnf);first|exact kQ|(refine bk ?_ ?_<;>intro _<;>try exact exo)|refine stq ?_|refine cp hq ?_|fail)
   (conv=>whnf)
   refine⟨nx,_,⟨⟨om,by simp;omega,.inr hm3⟩,h7⟩,om,?_⟩;exact lq [(0,_)] []
  | cons x xs=>
   have hlen:(x::xs).length<=1001:=by omega
   repeat' ((conv=>whnf);first|exact kQ|(refine bk ?_ ?_<;>intro _<;>try exact exo)|refine stq ?_|refine cp hq ?_|fail)
   (conv=>whnf)
   refine⟨nx,_,⟨⟨om,by simp at h4 ⊢;omega,.inr hm3⟩,h7⟩,om,?_⟩;exact lq [(0,_)] []
 .obtain rfl:lo=text.length:=by omega
  rw[<-hn,aZ.lin_end] at h6;simp only[rgL,List.append_nil] at h6;rw[h6];cases o with
  | nil=>
   repeat' ((conv=>whnf);first|exact kQ|(refine bk ?_ ?_<;>intro _<;>try exact exo)|refine stq ?_|fail)
   (conv=>whnf)
   exact⟨.tup (.cons .nil (.cons (.same rfl) .nil))⟩
  | cons x xs=>
   repeat' ((conv=>whnf);first|exact kQ|(refine bk ?_ ?_<;>intro _<;>try exact exo)|refine stq ?_|fail)
   (conv=>whnf)
   exact⟨.tup (.cons (BU (b:=x::xs) rfl rfl rfl rfl) (.cons (.same rfl) .nil))⟩
def cosD:Option Int->D
 | some s=>.tup [i64 s,i64 0]
 | none=>.tup [i64 0,i64 1]
theorem Gu {d:Db}{text:List Int}{m:Int}{L:aZ}{O:List Int}{P:List Rng}(H:sB d text m L O P) (hm:1<=m/\m<=1000){l:List Int}(hl:l.length<=1000000):@Pu gtR Tryz.prog 12 [dbD d,aC text,i64 m,aC l] (cosD (mX L 0 l)):=by
 letI:=gtR;have hp:=qa H hm;have hok:=H.ok;have hn:=H.n;have hx:=H.len;have hll:=iy text.length P;have hlg:∀ a (h:a<(dw text.length P).length),(dw text.length P)[a]=(L.last a:Int):=λa h=>by rw[H.last];exact lM h
 have hcl:=nZ text.length O P;have hcg:∀ k (h:k<(jx text.length O P).length),(jx text.length O P)[k]=L.can k:=λk h=>by rw[H.can];exact rt h
 have hcost:=λa b (h0:a=0\/L.can a=true) (h1:L.can b=true) (h2:a<b) (h3:b<=text.length)=>GA H h0 h1 h2 h3
 have hnb:aK (.iptr (lZ d text m O P))=true:=by simp[aK,aF,aX,ah,bn,ak,aM,aw]
 unfold lZ at hp hcost hnb;generalize dw text.length P=ll at *;generalize jx text.length O P=cl at *;refine pv Tryz.func12 ?_;repeat' ((conv=>whnf);first|exact kQ|(refine bk ?_ ?_<;>intro _<;>try exact exo)|refine stq ?_|refine cp hp ?_|fail)
 refine aG.by3 aB T0 (λ(k lo:Nat) (s:Int)=>⟨tmp 81 [(1,aC text),(10,.iptr (dbC d++[aC text,i64 m,ap cl,aC ll])),(12,i64 s),(13,i64 (lo:Int)),(28,aC l),(29,i64 l.length),(30,i64 (k:Int))],⟨0,[]⟩⟩)
  (λk lo s=>(k<=l.length/\k<=lo/\lo<=text.length/\(lo=0\/L.can lo=true)/\0<=s/\s<=(k:Int)*1000000000)/\mX L 0 l=(mX L lo (l.drop k)).map (s + ·)) (λk _ _=>l.length-k) 0 0 0 ⟨⟨om,om,om,.inl rfl,om,om⟩,by rw[List.drop_zero];cases mX L 0 l<;>simp⟩ ?_ ?_
 .exact lq0
 intro k lo s ⟨⟨h3,h4,h5,h6,h7,h8⟩,h9⟩;by_cases hk:k<l.length
 .rw[kK hk] at h9;by_cases hc:lo<L.n/\(lo:Int)<l[k]/\l[k]<=(L.last lo:Int)/\L.can l[k].toNat=true
  .have h10:=GB (l:=l.drop (k+1)) hc s;rw[h10] at h9;obtain⟨c1,c2,c3,c4⟩:=hc;have hla:=(hok.last c1).2.1;obtain⟨x,hxx⟩:∃ x:Nat,l[k]=(x:Int):=⟨l[k].toNat,om⟩;rw[hxx] at c2 c3 c4 h9;rw[Int.toNat_natCast] at c4 h9;have hq:=hcost lo x h6 c4 om om;have hr:=aZ.cst_range hok (lo:=lo) (hi:=x) om;have hlg2:=hlg lo om;have hcg2:=hcg x om;rw[c4] at hcg2;generalize L.cst lo x=cs at *;repeat' ((conv=>whnf);first|refine Idx.atE (d:=boo true) x om om (by rw[hcg2]) ?_|refine Idx.atE (f:=i64) (l:=l) (d:=i64 (x:Int)) k om om (by rw[hxx]) ?_|refine Idx.at (f:=i64) (l:=ll) lo om om ?_|exact kQ|(refine bk ?_ ?_<;>intro _<;>try exact exo)|refine stq ?_|refine cp hq ?_|fail)
   (conv=>whnf)
   refine⟨k+1,x,s+cs,⟨⟨om,om,om,.inr c4,om,om⟩,h9⟩,om,?_⟩;exact lq0
  .rw[Im hc] at h9;rw[h9];by_cases hc1:lo<text.length
   .have hlg2:=hlg lo om;have hla:=(hok.last (k:=lo) om).2.1;by_cases hc2:(lo:Int)<l[k]/\l[k]<=(L.last lo:Int)
    .obtain⟨x,hxx⟩:∃ x:Nat,l[k]=(x:Int):=⟨l[k].toNat,om⟩
     have hcf:L.can x=false:=by
      cases hcx:L.can x with
      | false=>rfl
      | true=>exact absurd ⟨om,hc2.1,hc2.2,by rw[hxx,Int.toNat_natCast];exact hcx⟩ hc
     have hcg2:=hcg x om;rw[hcf] at hcg2;repeat' ((conv=>whnf);first|refine Idx.atE (d:=boo false) x om om (by rw[hcg2]) ?_|refine Idx.at (f:=i64) (l:=l) k om om ?_|refine Idx.at (f:=i64) (l:=ll) lo om om ?_|exact kQ|(refine bk ?_ ?_<;>intro _<;>try exact exo)|refine stq ?_|fail)
     all_goals(conv=>whnf)
     all_goals exact⟨Rd.eqd rfl rfl⟩
    .repeat' ((conv=>whnf);first|refine Idx.at (f:=i64) (l:=l) k om om ?_|refine Idx.at (f:=i64) (l:=ll) lo om om ?_|exact kQ|(refine bk ?_ ?_<;>intro _<;>try exact exo)|refine stq ?_|fail)
     all_goals(conv=>whnf)
     all_goals exact⟨Rd.eqd rfl rfl⟩
   .repeat' ((conv=>whnf);first|refine Idx.at (f:=i64) (l:=l) k om om ?_|exact kQ|(refine bk ?_ ?_<;>intro _<;>try exact exo)|refine stq ?_|fail)
    all_goals(conv=>whnf)
    all_goals exact⟨Rd.eqd rfl rfl⟩
 .rw[List.drop_of_length_le om] at h9;simp only[mX] at h9;by_cases he:lo=L.n
  .rw[if_pos he] at h9;rw[h9];repeat' ((conv=>whnf);first|exact kQ|(refine bk ?_ ?_<;>intro _<;>try exact exo)|refine stq ?_|fail)
   (conv=>whnf)
   exact⟨Rd.eqd (by simp[cosD]) rfl⟩
  .rw[if_neg he] at h9;rw[h9];repeat' ((conv=>whnf);first|exact kQ|(refine bk ?_ ?_<;>intro _<;>try exact exo)|refine stq ?_|fail)
   (conv=>whnf)
   exact⟨Rd.eqd rfl rfl⟩
end
section
abbrev fP:Prp:=⟨[[79,116,104,101,114]],[]⟩
abbrev linE:Prp:=⟨[[79,116,104,101,114],[83,112,97,99,101]],[⟨32,32,1⟩]⟩
abbrev bR:Db:=⟨0,0,fP,fP,fP,fP,fP,fP,linE,[],[],[],[],[],[],[],[],[],[],[],[],[]⟩
theorem HM:@Pu gtR Tryz.prog 11 [] (dbD bR):=by
 letI:=gtR;exact Pu.of_t aB T0 eZ rfl (by kernel_rfl:cK gtR Tryz.prog (ci Tryz.prog) spC 100 (.fn 11) [] .emp 0 (λd1 h1 _=>cQ h1 100000 d1 (dbD bR))=true)
theorem nw:@Pu gtR Tryz.prog 51 [dbD bR] (i64 0):=by
 letI:=gtR;exact Pu.of_t aB T0 eZ (by kernel_rfl) (by kernel_rfl:cK gtR Tryz.prog (ci Tryz.prog) spC 1000 (.fn 51) [dbD bR] .emp 0 (λd1 h1 _=>cQ h1 100000 d1 (i64 0))=true)
theorem tB:∀ k,k<7->(prop bR k).names.length<=30/\(prop bR k).spans.length<=16:=λk hk=>by
 rcases(by omega:k=0\/k=1\/k=2\/k=3\/k=4\/k=5\/k=6) with rfl|rfl|rfl|rfl|rfl|rfl|rfl
 all_goals exact⟨by decide,by decide⟩
theorem A5:PrV fP:=by
 have hw:∀ s∈fP.names,s.all (λb=>wbN b.toNat)=true:=by decide
 refine⟨⟨by decide,by decide,λi h=>⟨⟨?_,?_,λj hj=>?_⟩,?_⟩⟩,λi h=>absurd h si⟩
 .have h3:i<1:=h;obtain rfl:i=0:=by omega
  simp
 .have h3:i<1:=h;obtain rfl:i=0:=by omega
  simp
 .exact pQ.1 (List.all_eq_true.1 (hw _ (kM h)) _ (kM hj))
 .have h3:i<1:=h;obtain rfl:i=0:=by omega
  simp
theorem E0 (c:Int):@Pu gtR Tryz.prog 87 [bY fP,i64 c] (i64 (fB fP c)):=@GG gtR _ _ A5 (by decide)
theorem qg (c:Int):fB fP c=1:=by
 obtain⟨_,h1,h2⟩:=lJ A5 (c:=c) (v:=0) (by simp[dj]);rw[fB,<-h2];rfl
theorem mxS:max (0:Int) 1=1:=by decide
theorem smW {T A:List Int}{P:List Rng}{w:Int}(ha:@Pu gtR Tryz.prog 53 [bY fP,fG,aC T] (aC A)) (hl:A.length<=1001) (hP:ptV A=P) (hc:Chn 0 P T.length) (hx:T.length<=1000) (hw:cw fP T P=w):@Pu gtR Tryz.prog 42 [dbD bR,aC T] (.tup [i64 w,i64 0]):=by
 letI:=gtR;have hd:=yO (d:=bR) (k:=1) (t:=t1) (.inl rfl) tB nw JO;have e:fG=gQ t1:=by rw[t1,<-sw]
 rw[e] at ha;rw[<-hw];exact Bx (d:=bR) E0 tB (hP▸yZ hd (Bz ha hl)) hc hx
theorem sa1:@Pu gtR Tryz.prog 53 [bY fP,fG,aC [97]] (aC [2,2]):=by
 letI:=gtR;exact Pu.of_t aB T0 jJ (by kernel_rfl) (by kernel_rfl:cK gtR Tryz.prog (ci Tryz.prog) ui 1000 (.fn 53) [bY fP,fG,aC [97]] .emp 0 (λd1 h1 _=>cQ h1 100000 d1 (aC [2,2]))=true)
theorem sa2:@Pu gtR Tryz.prog 53 [bY fP,fG,aC [98]] (aC [2,2]):=by
 letI:=gtR;exact Pu.of_t aB T0 jJ (by kernel_rfl) (by kernel_rfl:cK gtR Tryz.prog (ci Tryz.prog) ui 1000 (.fn 53) [bY fP,fG,aC [98]] .emp 0 (λd1 h1 _=>cQ h1 100000 d1 (aC [2,2]))=true)
theorem sa3:@Pu gtR Tryz.prog 53 [bY fP,fG,aC [99]] (aC [2,2]):=by
 letI:=gtR;exact Pu.of_t aB T0 jJ (by kernel_rfl) (by kernel_rfl:cK gtR Tryz.prog (ci Tryz.prog) ui 1000 (.fn 53) [bY fP,fG,aC [99]] .emp 0 (λd1 h1 _=>cQ h1 100000 d1 (aC [2,2]))=true)
theorem sa4:@Pu gtR Tryz.prog 53 [bY fP,fG,aC [97,32,98]] (aC [2,2,2,2]):=by
 letI:=gtR;exact Pu.of_t aB T0 jJ (by kernel_rfl) (by kernel_rfl:cK gtR Tryz.prog (ci Tryz.prog) ui 1000 (.fn 53) [bY fP,fG,aC [97,32,98]] .emp 0 (λd1 h1 _=>cQ h1 100000 d1 (aC [2,2,2,2]))=true)
theorem sa5:@Pu gtR Tryz.prog 53 [bY fP,fG,aC [98,32,99]] (aC [2,2,2,2]):=by
 letI:=gtR;exact Pu.of_t aB T0 jJ (by kernel_rfl) (by kernel_rfl:cK gtR Tryz.prog (ci Tryz.prog) ui 1000 (.fn 53) [bY fP,fG,aC [98,32,99]] .emp 0 (λd1 h1 _=>cQ h1 100000 d1 (aC [2,2,2,2]))=true)
theorem sa6:@Pu gtR Tryz.prog 53 [bY fP,fG,aC [97,32,98,32,99]] (aC [2,2,2,2,2,2]):=by
 letI:=gtR;exact Pu.of_t aB T0 jJ (by kernel_rfl) (by kernel_rfl:cK gtR Tryz.prog (ci Tryz.prog) ui 1000 (.fn 53) [bY fP,fG,aC [97,32,98,32,99]] .emp 0 (λd1 h1 _=>cQ h1 100000 d1 (aC [2,2,2,2,2,2]))=true)
theorem sa7:@Pu gtR Tryz.prog 53 [bY fP,fG,aC [97,98]] (aC [2,2,2]):=by
 letI:=gtR;exact Pu.of_t aB T0 jJ (by kernel_rfl) (by kernel_rfl:cK gtR Tryz.prog (ci Tryz.prog) ui 1000 (.fn 53) [bY fP,fG,aC [97,98]] .emp 0 (λd1 h1 _=>cQ h1 100000 d1 (aC [2,2,2]))=true)
theorem sw1:@Pu gtR Tryz.prog 42 [dbD bR,aC [97]] (.tup [i64 1,i64 0]):=smW sa1 (by decide) (P:=[⟨0,1⟩]) rfl ⟨rfl,by decide,rfl⟩ (by decide) (by simp[cw,eY,mxW,pce,qg,mxS])
theorem sw2:@Pu gtR Tryz.prog 42 [dbD bR,aC [98]] (.tup [i64 1,i64 0]):=smW sa2 (by decide) (P:=[⟨0,1⟩]) rfl ⟨rfl,by decide,rfl⟩ (by decide) (by simp[cw,eY,mxW,pce,qg,mxS])
theorem sw3:@Pu gtR Tryz.prog 42 [dbD bR,aC [99]] (.tup [i64 1,i64 0]):=smW sa3 (by decide) (P:=[⟨0,1⟩]) rfl ⟨rfl,by decide,rfl⟩ (by decide) (by simp[cw,eY,mxW,pce,qg,mxS])
theorem sw4:@Pu gtR Tryz.prog 42 [dbD bR,aC [97,32,98]] (.tup [i64 3,i64 0]):=smW sa4 (by decide) (P:=[⟨0,1⟩,⟨1,2⟩,⟨2,3⟩]) rfl ⟨rfl,by decide,rfl,by decide,rfl,by decide,rfl⟩ (by decide) (by simp[cw,eY,mxW,pce,qg,mxS])
theorem sw5:@Pu gtR Tryz.prog 42 [dbD bR,aC [98,32,99]] (.tup [i64 3,i64 0]):=smW sa5 (by decide) (P:=[⟨0,1⟩,⟨1,2⟩,⟨2,3⟩]) rfl ⟨rfl,by decide,rfl,by decide,rfl,by decide,rfl⟩ (by decide) (by simp[cw,eY,mxW,pce,qg,mxS])
theorem sw6:@Pu gtR Tryz.prog 42 [dbD bR,aC [97,32,98,32,99]] (.tup [i64 5,i64 0]):=smW sa6 (by decide) (P:=[⟨0,1⟩,⟨1,2⟩,⟨2,3⟩,⟨3,4⟩,⟨4,5⟩]) rfl ⟨rfl,by decide,rfl,by decide,rfl,by decide,rfl,by decide,rfl,by decide,rfl⟩ (by decide) (by simp[cw,eY,mxW,pce,qg,mxS])
theorem sw7:@Pu gtR Tryz.prog 42 [dbD bR,aC [97,98]] (.tup [i64 2,i64 0]):=smW sa7 (by decide) (P:=[⟨0,1⟩,⟨1,2⟩]) rfl ⟨rfl,by decide,rfl,by decide,rfl⟩ (by decide) (by simp[cw,eY,mxW,pce,qg,mxS])
theorem so1:@Pu gtR Tryz.prog 30 [dbD bR,aC [97,32,98,32,99]] (.tup [aC [2,4],i64 0]):=by
 letI:=gtR;exact Pu.of_t aB T0 gS (by kernel_rfl) (by kernel_rfl:cK gtR Tryz.prog (ci Tryz.prog) spV 3000 (.fn 30) [dbD bR,aC [97,32,98,32,99]] .emp 0 (λd1 h1 _=>cQ h1 100000 d1 (.tup [aC [2,4],i64 0]))=true)
theorem sp1:@Pu gtR Tryz.prog 31 [dbD bR,aC [97,32,98,32,99]] (.tup [ax [⟨0,5⟩],i64 0]):=by
 letI:=gtR;exact Pu.of_t aB T0 gS (by kernel_rfl) (by kernel_rfl:cK gtR Tryz.prog (ci Tryz.prog) spV 3000 (.fn 31) [dbD bR,aC [97,32,98,32,99]] .emp 0 (λd1 h1 _=>cQ h1 100000 d1 (.tup [ax [⟨0,5⟩],i64 0]))=true)
theorem so2:@Pu gtR Tryz.prog 30 [dbD bR,aC [97,98]] (.tup [aC [],i64 0]):=by
 letI:=gtR;exact Pu.of_t aB T0 gS (by kernel_rfl) (by kernel_rfl:cK gtR Tryz.prog (ci Tryz.prog) spV 3000 (.fn 30) [dbD bR,aC [97,98]] .emp 0 (λd1 h1 _=>cQ h1 100000 d1 (.tup [aC [],i64 0]))=true)
theorem sp2:@Pu gtR Tryz.prog 31 [dbD bR,aC [97,98]] (.tup [ax [⟨0,2⟩],i64 0]):=by
 letI:=gtR;exact Pu.of_t aB T0 gS (by kernel_rfl) (by kernel_rfl:cK gtR Tryz.prog (ci Tryz.prog) spV 3000 (.fn 31) [dbD bR,aC [97,98]] .emp 0 (λd1 h1 _=>cQ h1 100000 d1 (.tup [ax [⟨0,2⟩],i64 0]))=true)
theorem sv1:@Pu gtR Tryz.prog 41 [dbD bR,aC [97,32,98,32,99],dE 0 2] (.tup [dE 0 1,i64 0]):=by
 letI:=gtR;exact Pu.of_t aB T0 gS (by kernel_rfl) (by kernel_rfl:cK gtR Tryz.prog (ci Tryz.prog) spV 3000 (.fn 41) [dbD bR,aC [97,32,98,32,99],dE 0 2] .emp 0 (λd1 h1 _=>cQ h1 100000 d1 (.tup [dE 0 1,i64 0]))=true)
theorem sv2:@Pu gtR Tryz.prog 41 [dbD bR,aC [97,32,98,32,99],dE 0 4] (.tup [dE 0 3,i64 0]):=by
 letI:=gtR;exact Pu.of_t aB T0 gS (by kernel_rfl) (by kernel_rfl:cK gtR Tryz.prog (ci Tryz.prog) spV 3000 (.fn 41) [dbD bR,aC [97,32,98,32,99],dE 0 4] .emp 0 (λd1 h1 _=>cQ h1 100000 d1 (.tup [dE 0 3,i64 0]))=true)
theorem sv3:@Pu gtR Tryz.prog 41 [dbD bR,aC [97,32,98,32,99],dE 0 5] (.tup [dE 0 5,i64 0]):=by
 letI:=gtR;exact Pu.of_t aB T0 gS (by kernel_rfl) (by kernel_rfl:cK gtR Tryz.prog (ci Tryz.prog) spV 3000 (.fn 41) [dbD bR,aC [97,32,98,32,99],dE 0 5] .emp 0 (λd1 h1 _=>cQ h1 100000 d1 (.tup [dE 0 5,i64 0]))=true)
theorem sv4:@Pu gtR Tryz.prog 41 [dbD bR,aC [97,32,98,32,99],dE 2 4] (.tup [dE 2 3,i64 0]):=by
 letI:=gtR;exact Pu.of_t aB T0 gS (by kernel_rfl) (by kernel_rfl:cK gtR Tryz.prog (ci Tryz.prog) spV 3000 (.fn 41) [dbD bR,aC [97,32,98,32,99],dE 2 4] .emp 0 (λd1 h1 _=>cQ h1 100000 d1 (.tup [dE 2 3,i64 0]))=true)
theorem sv5:@Pu gtR Tryz.prog 41 [dbD bR,aC [97,32,98,32,99],dE 2 5] (.tup [dE 2 5,i64 0]):=by
 letI:=gtR;exact Pu.of_t aB T0 gS (by kernel_rfl) (by kernel_rfl:cK gtR Tryz.prog (ci Tryz.prog) spV 3000 (.fn 41) [dbD bR,aC [97,32,98,32,99],dE 2 5] .emp 0 (λd1 h1 _=>cQ h1 100000 d1 (.tup [dE 2 5,i64 0]))=true)
theorem sv6:@Pu gtR Tryz.prog 41 [dbD bR,aC [97,32,98,32,99],dE 4 5] (.tup [dE 4 5,i64 0]):=by
 letI:=gtR;exact Pu.of_t aB T0 gS (by kernel_rfl) (by kernel_rfl:cK gtR Tryz.prog (ci Tryz.prog) spV 3000 (.fn 41) [dbD bR,aC [97,32,98,32,99],dE 4 5] .emp 0 (λd1 h1 _=>cQ h1 100000 d1 (.tup [dE 4 5,i64 0]))=true)
theorem sv7:@Pu gtR Tryz.prog 41 [dbD bR,aC [97,98],dE 0 2] (.tup [dE 0 2,i64 0]):=by
 letI:=gtR;exact Pu.of_t aB T0 gS (by kernel_rfl) (by kernel_rfl:cK gtR Tryz.prog (ci Tryz.prog) spV 3000 (.fn 41) [dbD bR,aC [97,98],dE 0 2] .emp 0 (λd1 h1 _=>cQ h1 100000 d1 (.tup [dE 0 2,i64 0]))=true)
end
section
open Classical
theorem xWU.rdX {p:Prop}(h:p:=by first|exact lv rfl rfl rfl rfl|exact BU (b:=[⟨0,4⟩,⟨4,5⟩]) rfl rfl rfl rfl|fail):p:=h
open xWU
abbrev HD:List Int:=[97,32,98,32,99]
def zx:aZ:=⟨5,λk=>k == 2 || k == 4 || k == 5,λk=>if k<5 then 5 else 0,λa b=>((2*((b+1) / 2)-1-a:Nat):Int),3⟩
def Cq:aZ:=⟨2,λk=>k == 2,λk=>if k<2 then 2 else 0,λa b=>((b-a:Nat):Int),1⟩
theorem ID:zx.ok:=by
 refine⟨λ{k} hk=>?_,λ{k x} hk h1 h2=>?_,λ{a b} hb=>?_,λ{a b c} h=>?_,by decide⟩
 .have h:k<5:=hk;show k<(if k<5 then 5 else 0)/\(if k<5 then 5 else 0)<=5/\(zx.can (if k<5 then 5 else 0))=true;rw[if_pos h];exact⟨h,kP _,rfl⟩
 .have h:k<5:=hk;have h3:x<(if k<5 then 5 else 0):=h2;rw[if_pos h] at h3;show(if x<5 then 5 else 0)=(if k<5 then 5 else 0);rw[if_pos h,if_pos h3]
 .have h:b<=5:=hb;show 0<=((2*((b+1) / 2)-1-a:Nat):Int)/\((2*((b+1) / 2)-1-a:Nat):Int)<=80;omega
 .show((2*((b+1) / 2)-1-a:Nat):Int)<=((2*((c+1) / 2)-1-a:Nat):Int);omega
theorem IC:Cq.ok:=by
 refine⟨λ{k} hk=>?_,λ{k x} hk h1 h2=>?_,λ{a b} hb=>?_,λ{a b c} h=>?_,by decide⟩
 .have h:k<2:=hk;show k<(if k<2 then 2 else 0)/\(if k<2 then 2 else 0)<=2/\(Cq.can (if k<2 then 2 else 0))=true;rw[if_pos h];exact⟨h,kP _,rfl⟩
 .have h:k<2:=hk;have h3:x<(if k<2 then 2 else 0):=h2;rw[if_pos h] at h3;show(if x<2 then 2 else 0)=(if k<2 then 2 else 0);rw[if_pos h,if_pos h3]
 .have h:b<=2:=hb;show 0<=((b-a:Nat):Int)/\((b-a:Nat):Int)<=80;omega
 .show((b-a:Nat):Int)<=((c-a:Nat):Int);omega
theorem xh {k:Nat}:zx.can k=true↔k=2\/k=4\/k=5:=by
 show(k == 2 || k == 4 || k == 5)=true↔_;simp[or_assoc]
theorem xg {k:Nat}:Cq.can k=true↔k=2:=by
 show(k == 2)=true↔_;simp
theorem FX:sB bR HD 3 zx [2,4] [⟨0,5⟩]:=by
 refine⟨rfl,rfl,λk=>?_,λk=>?_,ID,by decide,by decide,nw,so1,sp1,⟨rfl,by decide,rfl⟩,λx hx=>?_,λa b ha hb hab hbn=>?_⟩
 .rw[Bool.eq_iff_iff,xh,kv,decide_eq_true_eq];simp only[kH,List.not_mem_nil,or_false,exists_eq_left];omega
 .show(if k<5 then 5 else 0)=if(k:Int)<5 then 5 else 0
  by_cases h:k<5
  .rw[if_pos h,if_pos om]
  .rw[if_neg h,if_neg om]
 .simp only[kH,List.not_mem_nil,or_false] at hx;show 0<=x/\x<=5;omega
 .rw[xh] at ha hb;have hbn':b<=5:=hbn;rcases(by omega:(a=0/\b=2)\/(a=0/\b=4)\/(a=0/\b=5)\/(a=2/\b=4)\/(a=2/\b=5)\/(a=4/\b=5)) with⟨rfl,rfl⟩|⟨rfl,rfl⟩|⟨rfl,rfl⟩|⟨rfl,rfl⟩|⟨rfl,rfl⟩|⟨rfl,rfl⟩
  .exact⟨1,by decide,by decide,sv1,sw1⟩
  .exact⟨3,by decide,by decide,sv2,sw4⟩
  .exact⟨5,by decide,by decide,sv3,sw6⟩
  .exact⟨3,by decide,by decide,sv4,sw2⟩
  .exact⟨5,by decide,by decide,sv5,sw5⟩
  .exact⟨5,by decide,by decide,sv6,sw3⟩
theorem lay2_H:sB bR [97,98] 1 Cq [] [⟨0,2⟩]:=by
 refine⟨rfl,rfl,λk=>?_,λk=>?_,IC,by decide,by decide,nw,so2,sp2,⟨rfl,by decide,rfl⟩,λx hx=>(by cases hx),λa b ha hb hab hbn=>?_⟩
 .rw[Bool.eq_iff_iff,xg,kv,decide_eq_true_eq];simp only[kH,List.not_mem_nil,or_false,false_or,exists_eq_left];omega
 .show(if k<2 then 2 else 0)=if(k:Int)<2 then 2 else 0
  by_cases h:k<2
  .rw[if_pos h,if_pos om]
  .rw[if_neg h,if_neg om]
 .rw[xg] at ha hb;have hbn':b<=2:=hbn;rcases(by omega:a=0/\b=2) with⟨rfl,rfl⟩
  exact⟨2,by decide,by decide,sv7,sw7⟩
theorem FV:zx.lin 0=[4,5]:=by decide
theorem FW:mX zx 0 [2,5]=some 4:=by simp[mX,zx,aZ.cst]
theorem FU:mX Cq 0 [2]=some 1000:=by simp[mX,Cq,aZ.cst]
theorem ex36_l:@Pu gtR Tryz.prog 10 [dbD bR,aC HD,i64 3] (.tup [ax [⟨0,4⟩,⟨4,5⟩],i64 0]):=by
 have h:=JB FX (by decide);rw[FV] at h;exact h
theorem ex36_1:@Pu gtR Tryz.prog 12 [dbD bR,aC HD,i64 3,aC [2,5]] (.tup [i64 4,i64 0]):=by
 have h:=Gu FX (by decide) (l:=[2,5]) (by decide);rw[FW] at h;exact h
theorem ex36_2:@Pu gtR Tryz.prog 12 [dbD bR,aC [97,98],i64 1,aC [2]] (.tup [i64 1000,i64 0]):=by
 have h:=Gu lay2_H (by decide) (l:=[2]) (by decide);rw[FU] at h;exact h
theorem I6:@Pu gtR Tryz.prog 5 [] (boo true):=by
 letI:=gtR;have hdb:aK (dbD bR)=true:=by kernel_rfl
 have h0:=HM;have h1:=ex36_l;have h2:=ex36_1;have h3:=ex36_2;have hS:=Ap (a:=[⟨0,4⟩,⟨4,5⟩]) (by decide);refine pv Tryz.func5 ?_;repeat' ((conv=>whnf);first|refine bX.weak (x:=Code.seq (Code.region 2 _ false) _) aB T0 (s0:=⟨tmp 54 [(1,aC HD)],⟨0,[]⟩⟩) ?_ ?_|exact kQ|(refine bk ?_ ?_<;>intro _<;>try exact exo)|refine stq ?_|refine cp h0 ?_|refine cp h1 ?_|refine Cll.emb (h2 ⟨0,[]⟩) [] [10] (.tup [i64 4,i64 0]) [] [] rfl cO bxA rdA bxA reA ?_|refine Cll.emb (h3 ⟨0,[]⟩) [] [18,19] (.tup [i64 1000,i64 0]) [] [] rfl cO bxA rdA bxA reA ?_|refine Cll.emb (hS ⟨0,[]⟩) [] [29] (boo true) [] [] rfl cO bxA rdA bxA reA ?_|fail)
 .exact lq [] [1]
 (conv=>whnf)
 exact aD.same rfl rfl
end
end Go.Proofs.YtlimkdlhldlolaaGreatDoor
