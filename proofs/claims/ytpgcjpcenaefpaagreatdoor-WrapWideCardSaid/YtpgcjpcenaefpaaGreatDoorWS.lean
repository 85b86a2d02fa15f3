/-
  Contracts of functions over data: what the statements of layer 36 call.
-/
import Derived.Test.YtpgcjpcenaefpaaGreatDoorWC
set_option linter.unusedSectionVars false
namespace Go.Proofs.YtpgcjpcenaefpaaGreatDoor
section
open Go Go.Am Classical
set_option maxRecDepth 100000
theorem xWS.rdX {p:Prop}(h:p:=by first|exact Rd.int om|exact Rd.sl' rfl sim sim|fail):p:=h
theorem xWS.rbX {p:Prop}(h:p:=by first|exact Rb.cells (Rds.eqs (aU (by intro _;rfl) (x::xs) _) (aE (by intro _;rfl) _)) rfl|fail):p:=h
open xWS
theorem Lo {l:List Int}{k:Nat}{x:Int}(h:k<l.length) (h1:¬x∈l.take k) (h2:¬l[k]=x):¬x∈l.take (k+1):=by
 rw[List.take_add_one,List.getElem?_eq_getElem h,List.mem_append];simp only[Option.toList_some,List.mem_singleton];exact λhc=>hc.elim h1 λe=>h2 e.symm
theorem Ck {l:List Int}{x:Int}(hl:l.length<=100000):@Pu gtR Tryz.prog 18 [aD l,i64 x] (boo (decide (x∈l))):=by
 letI:=gtR;refine pv Tryz.func18 ?_;repeat' ((conv=>whnf);first|exact kQ|(refine bk ?_ ?_<;>intro _<;>try(exfalso;omega))|refine stq ?_|fail)
 refine aH.by aB T0 (λk:Nat=>⟨tmp 18 [(0,aD l),(1,i64 x),(5,i64 (k:Int))],⟨0,[]⟩⟩) (λk=>k<=l.length∧¬x∈l.take k) (λk=>l.length-k) 0 ⟨by omega,by simp⟩ ?_ ?_
 ·exact lq0
 intro k ⟨h3,h4⟩;repeat' ((conv=>whnf);first|exact kQ|(refine bk ?_ ?_<;>intro _<;>try(exfalso;omega))|refine stq ?_)
 all_goals(conv=>whnf)
 all_goals first
  | exact aC.yes (by rename_i e;rw[<-e];exact kM _)
  | exact aC.no (by rw[kE om] at h4;exact h4)
  | (refine⟨k+1,⟨by omega,Lo om h4 asm⟩,by omega,?_⟩
     exact lq0)
theorem j3 {P:List Rng}(hl:P.length<=1000):@Pu gtR Tryz.prog 16 [bB P] (aD (gZ P)):=by
 letI:=gtR;refine pv Tryz.func16 ?_;repeat' ((conv=>whnf);first|exact kQ|(refine bk ?_ ?_<;>intro _<;>try(exfalso;omega))|refine stq ?_|fail)
 refine aH.by2 aB T0 (λ(i:Nat) (o:List Int)=>⟨tmp 20 [(0,bB P),(3,aV 0 1 o),(4,i64 (i:Int))],⟨1,cK 0 (λx=>[i64 x]) o⟩⟩)
  (λi o=>i<=P.length∧o=gZ (P.take i)) (λi _=>P.length-i) 0 [] ⟨by omega,rfl⟩ ?_ ?_
 ·exact lq0
 intro i o ⟨h3,h4⟩;have hol:o.length=i:=by rw[h4];simp[gZ];omega
 by_cases hi:i<P.length
 ·have hs2:o++[P[i].hi]=gZ (P.take (i+1)):=by rw[h4,List.take_add_one,List.getElem?_eq_getElem hi,gZ,gZ,List.map_append];rfl
  cases o with
  | nil=>
   repeat' ((conv=>whnf);first|exact kQ|(refine bk ?_ ?_<;>intro _<;>try(exfalso;omega))|refine stq ?_|fail)
   all_goals(conv=>whnf)
   refine⟨i+1,_,⟨by omega,hs2⟩,by omega,?_⟩;exact lq [(0,_)] []
  | cons x xs=>
   have hlen:(x::xs).length<=1001:=by omega
   repeat' ((conv=>whnf);first|exact kQ|(refine bk ?_ ?_<;>intro _<;>try(exfalso;omega))|refine stq ?_|fail)
   all_goals(conv=>whnf)
   refine⟨i+1,_,⟨by omega,hs2⟩,by omega,?_⟩;exact lq [(0,_)] []
 ·rw[kE om] at h4;rw[<-h4];cases o with
  | nil=>
   repeat' ((conv=>whnf);first|exact kQ|(refine bk ?_ ?_<;>intro _<;>try(exfalso;omega))|refine stq ?_)
   all_goals(conv=>whnf)
   exact⟨Rd.nil⟩
  | cons x xs=>
   repeat' ((conv=>whnf);first|exact kQ|(refine bk ?_ ?_<;>intro _<;>try(exfalso;omega))|refine stq ?_)
   all_goals(conv=>whnf)
   exact⟨tO (b:=x::xs) rfl rfl (aN _) rfl⟩
theorem sR {L:aT}(hok:L.ok){l:List Nat}(hd:L.dvs 0 l) (hn:L.n<=1000):@Pu gtR Tryz.prog 22 [bB (rgL 0 l),i64 L.n] (boo true):=by
 letI:=gtR;have hl:=jH hok (Nat.zero_le _) hd;have hrl:=fH l 0;have he:=An hd
 have hat:∀ k (h:k<l.length) (h':k<(rgL 0 l).length),(rgL 0 l)[k]=⟨((0::l).getD k 0:Nat),((0::l).getD (k+1) 0:Nat)⟩∧(0::l).getD k 0<(0::l).getD (k+1) 0:=λk h h'=>by
  have h1:=uX (l:=l) (s:=0) h;have h2:=(aT.pos_mem hok (rT hok hd h)).2.1;have e0:(0::l).getD (k+1) 0=l[k]:=by rw[List.getD_cons_succ,List.getD,List.getElem?_eq_getElem h];rfl
  rw[e0];exact⟨h1,h2⟩
 have h0:(0::l).getD 0 0=0:=rfl;generalize rgL 0 l=R at *;generalize hg:(λk=>(0::l).getD k 0)=g;have hg':∀ k,(0::l).getD k 0=g k:=λk=>by rw[<-hg]
 rw[hg'] at he h0;simp only[hg'] at hat;refine pv Tryz.func22 ?_;repeat' ((conv=>whnf);first|exact kQ|(refine bk ?_ ?_<;>intro _<;>try(exfalso;omega))|refine stq ?_|fail)
 refine aH.by aB T0 (λk:Nat=>⟨tmp 37 [(0,bB R),(1,i64 L.n),(5,i64 (g k:Int)),(6,i64 (k:Int))],⟨0,[]⟩⟩) (λk=>k<=R.length) (λk=>R.length-k) 0 om ?_ ?_
 ·exact lq0
 intro k h3;by_cases hk:k<R.length
 ·obtain⟨hk1,hk2⟩:=hat k om hk;have hlo:R[k].lo=(g k:Int):=by rw[hk1]
  have hhi:R[k].hi=(g (k+1):Int):=by rw[hk1]
  repeat' ((conv=>whnf);first|exact kQ|(refine bk ?_ ?_<;>intro _<;>try(exfalso;omega))|refine stq ?_)
  all_goals(conv=>whnf)
  all_goals first
   | (exfalso;omega)
   | (refine⟨k+1,by omega,by omega,?_⟩
      exact lq0)
 ·obtain rfl:k=l.length:=by omega
  rw[he];repeat' ((conv=>whnf);first|exact kQ|(refine bk ?_ ?_<;>intro _<;>try(exfalso;omega))|refine stq ?_)
  all_goals(conv=>whnf)
  exact aC.same rfl rfl
theorem BO {d:Db}{text:List Int}{m:Int}{L:aT}{O:List Int}{P:List Rng}(H:oJ d text m L O P){a b:Nat}(ha:a=0∨L.can a=true) (hb:L.can b=true) (hab:a<b) (hbn:b<=text.length):@Pu gtR Tryz.prog 17 [dbD d,aD text,dQ (a:Int) (b:Int)] (i64 (L.w a b)):=by
 letI:=gtR;obtain⟨e,h1,h2,hV,hW⟩:=H.wid a b ha hb hab hbn;have hx:=H.len
 have hW':Pu Tryz.prog 39 [dbD d,D.imm ((e:Int)-(a:Int)).toNat (((text.map i64).drop ((a:Int).toNat*1)).take (((e:Int)-(a:Int)).toNat*1))] (.tup [i64 (L.w a b),i64 0]):=by
  rw[uj om om om];exact hW
 generalize L.w a b=w at *;refine pv Tryz.func17 ?_;repeat' ((conv=>whnf);first|exact kQ|(refine bk ?_ ?_<;>intro _<;>try(exfalso;omega))|refine stq ?_|refine cp hV ?_|refine ac.by aB T0 [0,0,0,4,0,16,62,127,255,511,511,1023,4095] (by kernel_rfl) ?_|refine cp hW' ?_|refine Chk.mk ⟨by omega,by omega,by omega,(by simp:(text.map i64).length=text.length*1)⟩ ?_)
 all_goals(conv=>whnf)
 all_goals first
  | (exfalso;omega)
  | exact aC.int rfl
end
section
open Go Go.Am Classical
set_option maxRecDepth 100000
abbrev D3:D:=.v (.pointer none)
theorem pY {d:Db}{text:List Int}{k:Int}(ho:d.ok):@Pu gtR Tryz.prog 9 [dbD d,aD text,i64 k] (boo (decide (SmD d∧(text.length:Int)<=k))):=by
 letI:=gtR;have h:=E2 ho;refine pv Tryz.func9 ?_;repeat' ((conv=>whnf);first|exact kQ|(refine bk ?_ ?_<;>intro _<;>try(exfalso;omega))|refine stq ?_|refine cd h (λ_=>?_) (λ_=>?_)|fail)
 all_goals(conv=>whnf)
 all_goals first
  | exact aC.yes ⟨by assumption,by omega⟩
  | exact aC.no (λhc=>by have:=hc.2;omega)
  | exact aC.no (λhc=>by have:=hc.1;contradiction)
theorem Dn {d:Db}{text:List Int}{m:Int}(g:Good d) (hx:text.length<=900) (hm:¬(1<=m∧m<=1000)):@Pu gtR Tryz.prog 26 [dbD d,aD text,i64 m] (.tup [D3,i64 1]):=by
 letI:=gtR;have hO:=AH (text:=text) g.ok g.sm g.va om;refine pv Tryz.func26 ?_;repeat' ((conv=>whnf);first|exact kQ|(refine bk ?_ ?_<;>intro _<;>try(exfalso;omega))|refine stq ?_|refine cp hO ?_|fail)
 all_goals(conv=>whnf)
 all_goals first
  | exact⟨Rd.eqd rfl rfl⟩
  | (exfalso;omega)
theorem Gb {d:Db}{text:List Int}{m:Int}(ho:d.ok) (hs:SmD d) (hv:¬DbV d):@Pu gtR Tryz.prog 26 [dbD d,aD text,i64 m] (.tup [D3,i64 11]):=by
 letI:=gtR;have hO:=opp_no (text:=text) ho hs hv;refine pv Tryz.func26 ?_;repeat' ((conv=>whnf);first|exact kQ|(refine bk ?_ ?_<;>intro _<;>try(exfalso;omega))|refine stq ?_|refine cp hO ?_|fail)
 all_goals(conv=>whnf)
 exact⟨Rd.eqd rfl rfl⟩
theorem yB {d:Db}{text:List Int}{m e:Int}(h0:e≠0) (hp:@Pu gtR Tryz.prog 26 [dbD d,aD text,i64 m] (.tup [D3,i64 e])):@Pu gtR Tryz.prog 11 [dbD d,aD text,i64 m] (.tup [aM,i64 e]):=by
 letI:=gtR;refine pv Tryz.func11 ?_;repeat' ((conv=>whnf);first|exact kQ|(refine bk ?_ ?_<;>intro _<;>try(exfalso;omega))|refine stq ?_|refine cp hp ?_|fail)
 all_goals(conv=>whnf)
 exact⟨Rd.eqd rfl rfl⟩
theorem BG {d:Db}{text:List Int}{m e:Int}(h0:e≠0) (hp:@Pu gtR Tryz.prog 26 [dbD d,aD text,i64 m] (.tup [D3,i64 e])):@Pu gtR Tryz.prog 19 [dbD d,aD text,i64 m] (.tup [aM,i64 0,i64 e]):=by
 letI:=gtR;refine pv Tryz.func19 ?_;repeat' ((conv=>whnf);first|exact kQ|(refine bk ?_ ?_<;>intro _<;>try(exfalso;omega))|refine stq ?_|refine cp hp ?_|fail)
 all_goals(conv=>whnf)
 exact⟨Rd.eqd rfl rfl⟩
theorem BF {d:Db}{text:List Int}{x:D}{m e:Int}(hx:(∃ l,x=aD l)∨x=aM) (h0:e≠0) (hp:@Pu gtR Tryz.prog 26 [dbD d,aD text,i64 m] (.tup [D3,i64 e])):@Pu gtR Tryz.prog 21 [dbD d,aD text,i64 m,x] (.tup [i64 0,i64 e]):=by
 letI:=gtR;rcases hx with⟨l,rfl⟩|rfl
 all_goals
  refine pv Tryz.func21 ?_;repeat' ((conv=>whnf);first|exact kQ|(refine bk ?_ ?_<;>intro _<;>try(exfalso;omega))|refine stq ?_|refine cp hp ?_|fail)
  all_goals(conv=>whnf)
  exact⟨Rd.eqd rfl rfl⟩
end
end Go.Proofs.YtpgcjpcenaefpaaGreatDoor
