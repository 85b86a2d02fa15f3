/-
  The specification of layer 36, over data: the columns and the cost of a line, the lines.
-/
import Derived.Test.YtpgcjpcenaefpaaGreatDoorWK
set_option linter.unusedSectionVars false
namespace Go.Proofs.YtpgcjpcenaefpaaGreatDoor
open Go Go.Am Classical
set_option maxRecDepth 100000
theorem xWL.rdX {p:Prop}(h:p:=by first|exact Rd.same rfl|exact Rd.nil|exact lb (b:=y::ys) rfl rfl (aN _) rfl|exact Rd.sl' rfl sim sim|fail):p:=h
theorem xWL.rbX {p:Prop}(h:p:=by first|exact Rb.cells (Rds.same (cS _)) rfl|exact Rb.cells (Rds.eqs (aS (by intro _;rfl) (y::ys) _) (aE (by intro _;rfl) _)) rfl|fail):p:=h
open xWL
theorem J3 {d:Db}{text:List Int}(g:Good d) (hx:text.length<=40){a b:Nat}(hab:a<=b) (hb:b<=text.length):@Pu gtR Tryz.prog 32 [dbD d,aD text,dK a b] (i64 (mH d text a b)):=by
 letI:=gtR;have hV:=rvis_c (text:=text) g.ok g.sm g.va hx hab hb;have h1:=pH (nvL d text) a b;have h2:=uS (nvL d text) a b hab;have hW:Pu Tryz.prog 56 [dbD d,aD (pce text a (b6 (nvL d text) a b:Nat))] (.tup [i64 (mH d text a b),i64 0]):=g.rwidth (text:=pce text a (b6 (nvL d text) a b:Nat)) (by simp only[List.length_take,List.length_drop];omega);generalize mH d text a b=w at *;generalize b6 (nvL d text) a b=e at *
 have hW':Pu Tryz.prog 56 [dbD d,D.imm ((e:Int)-(a:Int)).toNat (((text.map i64).drop ((a:Int).toNat*1)).take (((e:Int)-(a:Int)).toNat*1))] (.tup [i64 w,i64 0]):=by
  rw[un om om om];exact hW
 refine pv Tryz.func32 ?_;repeat' ((conv=>whnf);first|exact kQ|(refine bk ?_ ?_<;>intro _<;>try exact exo)|refine stq ?_|refine cp hV ?_|refine ac.by aB T0 [0,0,0,4,0,16,62,127,255,511,511,1023,4095] (by kernel_rfl) ?_|refine cp hW' ?_|refine Chk.mk ⟨om,om,om,(by simp:(text.map i64).length=text.length*1)⟩ ?_)
 all_goals(conv=>whnf)
 exact aC.int rfl
theorem qq {w:Nat->Int}{n:Int}{e:Nat}{l:List Nat}{k:Nat}(h:k<l.length):fw w n e (l.drop k)=fw w n (if w l[k]<=n then l[k] else e) (l.drop (k+1)):=by
 rw[kK h];rfl
theorem HI {L:bU}(h:L.ok){lo:Nat}:(L.pos lo).length<=L.n:=by
 unfold bU.pos;split
 .rename_i hl;have h1:=h.last hl;unfold fe;exact Nat.le_trans (List.length_filter_le _ _) (by rw[List.length_range'];omega)
 .simp
set_option maxHeartbeats 16000000 in
theorem EK {d:Db}{text:List Int}{m:Int}(g:Good d) (hx:text.length<=40) (hm:1<=m/\m<=1000):@Pu gtR Tryz.prog 12 [dbD d,aD text,i64 m] (.tup [aq (rgL 0 ((dY d text m).lin 0)),i64 0]):=by
 letI:=gtR;have H:=g.lay hx hm;have hok:=H.ok;have hck:=zJ g hm;have hc:=qX d text;have hpl:=iL hc;have hE:=B2 (EH (text:=text) g.ok g.sm g.va om) om;have hO:=EI (text:=text) g.ok g.sm g.va om;have hNx:=λlo (h:lo<text.length)=>J4 (O:=ut d text) (P:=jL d text) (n:=text.length) (lo:=lo) H.lenO hc om h
 have hW:=λlo (_h:lo<text.length) b (h1:lo<=b) (h2:b<=text.length)=>J3 g hx (a:=lo) (b:=b) h1 h2
 have hnxt:=λlo (h:lo<text.length)=>bU.nxt_mem hok (lo:=lo) h
 have hpm:=λlo x=>bU.pos_mem (x:=x) hok (lo:=lo)
 have hlin:(up ((dY d text m).lin 0)).length<=1000:=by
  have h1:=vP (L:=dY d text m) hok (l:=(dY d text m).lin 0) (lo:=0) (Nat.zero_le _) (bU.lends_ok hok (Nat.zero_le _) (kP _));have h2:(dY d text m).n=text.length:=rfl;rw[uQ];omega
 have hL:=Hh (l:=(dY d text m).lin 0) (by rw[uQ] at hlin;exact hlin);generalize hEe:gz (jL d text)=E at *;generalize hOe:ut d text=O at *;refine pv Tryz.func12 ?_;repeat' ((conv=>whnf);first|exact kQ|(refine bk ?_ ?_<;>intro _<;>try exact exo)|refine stq ?_|refine cp hck ?_|refine cp hE ?_|refine cp hO ?_|fail)
 refine aG.by2 aB T0 (λ(lo:Nat) (o:List Int)=>⟨tmp 73 [(1,aD text),(2,i64 m),(3,.ptr 0 0),(9,aD E),(10,aD O),(12,aP 1 1 o),(13,i64 (lo:Int))],⟨2,bK 1 (λx=>[i64 x]) o++[(0,.cells (dbC d) true)]⟩⟩)
  (λlo o=>(lo<=text.length/\o.length<=lo/\(lo=0\/(dY d text m).can lo=true))/\up ((dY d text m).lin 0)=o++up ((dY d text m).lin lo)) (λlo _=>text.length-lo) 0 [] ⟨⟨om,si,.inl rfl⟩,rfl⟩ ?_ ?_
 .exact lq [(0,_)] []
 intro lo o ⟨⟨h3,h4,h5⟩,h6⟩;by_cases hk:lo<text.length
 .have hN:=hNx lo hk;have hnm:=hnxt lo hk;have hnp:=hpm lo _ hnm;have hla:(dY d text m).last lo<=text.length:=(hok.last (k:=lo) hk).2.1;rw[bU.lin_eq hok hk] at h6;have hp:(dY d text m).pos lo=fe (mP O (jL d text)) lo (cG (jL d text) lo):=by unfold bU.pos;rw[if_pos (show lo<(dY d text m).n from hk),<-hOe];rfl
  have hlw:(dY d text m).nxt lo=gg (mH d text lo) m lo lo ((dY d text m).pos lo):=rfl;have hw:=λx (h:x∈(dY d text m).pos lo)=>hW lo hk x (by have:=(hpm lo x h);omega) (by have:=(hpm lo x h);omega)
  have hpll:((dY d text m).pos lo).length<=text.length:=HI hok;obtain⟨x,l,hxl⟩:=bU.pos_ne hok (lo:=lo) hk
  have hlong:fw (mH d text lo) m x ((dY d text m).pos lo)=(dY d text m).nxt lo:=by
   rw[hlw,hxl];exact(E3 (λa b h=>tT d h) (λy hy=>by rw[<-hxl] at hy;exact(hpm lo y hy).2.1) (by rw[<-hxl];exact bU.pos_asc)).symm
  rw[<-hp] at hN;have hcn:=hnp.2.2.2;have hlt:=hnp.2.1;have hle2:(dY d text m).nxt lo<=text.length:=by have:=hnp.2.2.1;have h':(dY d text m).last lo<=text.length:=hla;omega
  generalize mH d text lo=w at *;generalize(dY d text m).pos lo=pl at *;have hul:=uQ pl;have hug:∀ k (h:k<pl.length),(up pl)[k]'(by rw[hul];exact h)=(pl[k]:Int):=λk h=>J1 h
  generalize up pl=ul at *;have hpx:pl.length=l.length+1:=by rw[hxl];rfl
  have hg0:ul[0]'(by omega)=(x:Int):=by rw[hug 0 om];simp only[hxl];rfl
  generalize(dY d text m).nxt lo=nx at *;have h10:up ((dY d text m).lin 0)=(o++[(nx:Int)])++up ((dY d text m).lin nx):=by rw[h6];simp[up]
  cases o with
  | nil=>
   repeat' ((conv=>whnf);first|refine Idx.atE (d:=i64 (x:Int)) 0 rfl om (by rw[hg0]) ?_|exact kQ|(refine bk ?_ ?_<;>intro _<;>try exact exo)|refine stq ?_|refine cp hN ?_|fail)
   refine aG.by2 aB T0 (λ(i e:Nat)=>⟨tmp 73 [(1,aD text),(2,i64 m),(3,.ptr 0 0),(9,aD E),(10,aD O),(12,aP 1 1 ([]:List Int)),(13,i64 (lo:Int)),(14,aD ul),(15,i64 (e:Int)),(16,i64 (i:Int))],⟨2,bK 1 (λx=>[i64 x]) ([]:List Int)++[(0,.cells (dbC d) true)]⟩⟩)
    (λi e=>(i<=pl.length/\(e=x\/e∈pl))/\fw w m x pl=fw w m e (pl.drop i)) (λi _=>pl.length-i) 0 x ⟨⟨om,.inl rfl⟩,rfl⟩ ?_ ?_
   .exact lq [(0,_)] []
   intro i e ⟨⟨h7,h8⟩,h9⟩;by_cases hi:i<pl.length
   .rw[qq hi] at h9;have hgi:=hug i hi;have hwi:=hw pl[i] (kM hi);by_cases hle:w pl[i]<=m
    .rw[if_pos hle] at h9;repeat' ((conv=>whnf);first|refine Idx.atE (d:=i64 (pl[i]:Int)) i rfl om (by rw[hgi]) ?_|exact kQ|(refine bk ?_ ?_<;>intro _<;>try exact exo)|refine stq ?_|refine ac.by aB T0 [0,0,0,0,0,24,56,124,255,0,1023] (by kernel_rfl) ?_|refine cp hwi ?_|fail)
     all_goals(conv=>whnf)
     refine⟨i+1,pl[i],⟨⟨om,.inr (kM hi)⟩,h9⟩,om,?_⟩;exact lq [(0,_)] []
    .rw[if_neg hle] at h9;repeat' ((conv=>whnf);first|refine Idx.atE (d:=i64 (pl[i]:Int)) i rfl om (by rw[hgi]) ?_|exact kQ|(refine bk ?_ ?_<;>intro _<;>try exact exo)|refine stq ?_|refine ac.by aB T0 [0,0,0,0,0,24,56,124,255,0,1023] (by kernel_rfl) ?_|refine cp hwi ?_|fail)
     all_goals(conv=>whnf)
     refine⟨i+1,e,⟨⟨om,h8⟩,h9⟩,om,?_⟩;exact lq [(0,_)] []
   rw[List.drop_of_length_le om] at h9;simp only[fw] at h9;obtain rfl:e=nx:=by rw[<-h9,<-hlong]
   repeat' ((conv=>whnf);first|exact kQ|(refine bk ?_ ?_<;>intro _<;>try exact exo)|refine stq ?_|fail)
   all_goals(conv=>whnf)
   refine⟨e,_,⟨⟨om,by simp only[kG,List.length_singleton];omega,.inr hcn⟩,h10⟩,om,?_⟩;exact lq [(0,_),(1,_)] []
  | cons y ys=>
   have hlen:(y::ys).length<=1001:=by omega
   repeat' ((conv=>whnf);first|refine Idx.atE (d:=i64 (x:Int)) 0 rfl om (by rw[hg0]) ?_|exact kQ|(refine bk ?_ ?_<;>intro _<;>try exact exo)|refine stq ?_|refine cp hN ?_|fail)
   refine aG.by2 aB T0 (λ(i e:Nat)=>⟨tmp 73 [(1,aD text),(2,i64 m),(3,.ptr 0 0),(9,aD E),(10,aD O),(12,aP 1 1 (y::ys)),(13,i64 (lo:Int)),(14,aD ul),(15,i64 (e:Int)),(16,i64 (i:Int))],⟨2,bK 1 (λx=>[i64 x]) (y::ys)++[(0,.cells (dbC d) true)]⟩⟩)
    (λi e=>(i<=pl.length/\(e=x\/e∈pl))/\fw w m x pl=fw w m e (pl.drop i)) (λi _=>pl.length-i) 0 x ⟨⟨om,.inl rfl⟩,rfl⟩ ?_ ?_
   .exact lq [(0,_),(1,_)] []
   intro i e ⟨⟨h7,h8⟩,h9⟩;by_cases hi:i<pl.length
   .rw[qq hi] at h9;have hgi:=hug i hi;have hwi:=hw pl[i] (kM hi);by_cases hle:w pl[i]<=m
    .rw[if_pos hle] at h9;repeat' ((conv=>whnf);first|refine Idx.atE (d:=i64 (pl[i]:Int)) i rfl om (by rw[hgi]) ?_|exact kQ|(refine bk ?_ ?_<;>intro _<;>try exact exo)|refine stq ?_|refine ac.by aB T0 [0,0,0,0,0,24,56,124,255,0,1023] (by kernel_rfl) ?_|refine cp hwi ?_|fail)
     all_goals(conv=>whnf)
     refine⟨i+1,pl[i],⟨⟨om,.inr (kM hi)⟩,h9⟩,om,?_⟩;exact lq [(0,_),(1,_)] []
    .rw[if_neg hle] at h9;repeat' ((conv=>whnf);first|refine Idx.atE (d:=i64 (pl[i]:Int)) i rfl om (by rw[hgi]) ?_|exact kQ|(refine bk ?_ ?_<;>intro _<;>try exact exo)|refine stq ?_|refine ac.by aB T0 [0,0,0,0,0,24,56,124,255,0,1023] (by kernel_rfl) ?_|refine cp hwi ?_|fail)
     all_goals(conv=>whnf)
     refine⟨i+1,e,⟨⟨om,h8⟩,h9⟩,om,?_⟩;exact lq [(0,_),(1,_)] []
   rw[List.drop_of_length_le om] at h9;simp only[fw] at h9;obtain rfl:e=nx:=by rw[<-h9,<-hlong]
   repeat' ((conv=>whnf);first|exact kQ|(refine bk ?_ ?_<;>intro _<;>try exact exo)|refine stq ?_|fail)
   all_goals(conv=>whnf)
   refine⟨e,_,⟨⟨om,by simp only[kG,List.length_singleton];omega,.inr hcn⟩,h10⟩,om,?_⟩;exact lq [(0,_),(1,_)] []
 .obtain rfl:lo=text.length:=by omega
  have e:(dY d text m).lin text.length=[]:=bU.lin_end (L:=dY d text m);rw[e] at h6;simp only[up,List.map_nil,List.append_nil] at h6;have hL':Pu Tryz.prog 33 [aD o] (aq (rgL 0 ((dY d text m).lin 0))):=by rw[<-h6];exact hL
  cases o with
  | nil=>
   repeat' ((conv=>whnf);first|exact kQ|(refine bk ?_ ?_<;>intro _<;>try exact exo)|refine stq ?_|refine Cll.emb (hL' ⟨0,[]⟩) [] [] (aq (rgL 0 ((dY d text m).lin 0))) [] [(0,.cells (dbC d) true)] rfl cO bxA rdA bxA reA ?_|fail)
   all_goals(conv=>whnf)
   exact⟨Rd.eqd rfl (by simp[aK,aF,am])⟩
  | cons y ys=>
   repeat' ((conv=>whnf);first|exact kQ|(refine bk ?_ ?_<;>intro _<;>try exact exo)|refine stq ?_|refine Cll.emb (hL' ⟨0,[]⟩) [] [1] (aq (rgL 0 ((dY d text m).lin 0))) [] [(0,.cells (dbC d) true)] rfl cO bxA rdA bxA reA ?_|fail)
   all_goals(conv=>whnf)
   exact⟨Rd.eqd rfl (by simp[aK,aF,am])⟩
end Go.Proofs.YtpgcjpcenaefpaaGreatDoor
