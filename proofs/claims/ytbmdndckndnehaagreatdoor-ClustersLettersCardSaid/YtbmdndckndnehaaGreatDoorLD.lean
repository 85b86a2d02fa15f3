/-
  Letters of the program over data, and the statement ClustersWords.
-/
import Derived.Test.YtbmdndckndnehaaGreatDoorL6
import Derived.Test.YtbmdndckndnehaaGreatDoorHM2
set_option linter.unusedSectionVars false
namespace Go.Proofs.YtbmdndckndnehaaGreatDoor
open Go Go.Am Classical
set_option maxRecDepth 100000
theorem xLD.rdX {p:Prop}(h:p:=by first|exact Rd.same (by first|(simp[aK,aD,hn];done)|fail)|exact Rd.fn .nil (.cons (.frzp rfl rfl (Rds.eqs rfl (by first|(simp[aD,aM,aW,d7];done)|fail:aD (Co t)=true))) .nil)|exact Rd.same (by first|(simp[aK,aD,aM,aW,d7];done)|fail)|exact Rd.sl' rfl sim sim|fail):p:=h
theorem xLD.rbX {p:Prop}(h:p:=by first|exact Rb.cells (Rds.eqs (ad (c:=b7) (sz:=2) (by intro _;rfl) (x::xs) P[k]) (aE (by intro _;rfl) _)) rfl|fail):p:=h
open xLD
theorem frz_s [GT] {h:aA}{fz:Nat->Bool}{σ:Nat->Option Nat}{id n cap:Nat}{b:List Rng}{cs:List D}{ex bx:Bool}(hf:fz id=true) (hg:h.get id=some (.cells cs bx)) (ec:cs=b.flatMap b7) (e:n=b.length):Rd h fz σ (.sl id 0 n cap 2 ex) (ay b):=by
 subst e;subst ec;refine .frz hf hg (by rw[aV (sz:=2) (λ_=>rfl)];omega) (.eqs ?_ (aE (λ_=>rfl) _));rw[List.drop_zero,kE (by rw[aV (sz:=2) (λ_=>rfl)];exact kP _)]
def D8 (s:Str):Prop:=s=[75,97,116,97,107,97,110,97]∨s=[76,101,116,116,101,114]∨s=[72,101,98,114,101,119]∨s=[78,117,109,101,114,105,99]
noncomputable def ee (cl:List Str) (c:Int):Prop:=D8 (cl.getD c.toNat [])
abbrev Co (t:Tbl):List D:=[strs t.classes,aF t.actions,bP t.left.next,bP t.left.marks,bP t.right.next,bP t.right.marks]
theorem isL_c {t:Tbl}{c:Int}(h0:0<=c) (h1:c<t.classes.length):@Pu gtR Tryz.prog 46 [i64 c,.iptr (Co t)] (boo (decide (ee t.classes c))):=by
 letI:=gtR;obtain⟨n,rfl⟩:∃ n:Nat,c=(n:Int):=⟨c.toNat,by omega⟩;have hn:n<t.classes.length:=by omega
 have e:ee t.classes (n:Int)=D8 t.classes[n]:=by rw[ee,Int.toNat_natCast,aJ hn]
 rw[show decide (ee t.classes (n:Int))=decide (D8 t.classes[n]) by simp only[e]];refine pv Tryz.func46 ?_;repeat' ((conv=>whnf);first|refine Idx.at (f:=D.str) (l:=t.classes) n om om ?_|exact kQ|(refine bk ?_ ?_<;>intro _<;>try(exfalso;omega))|refine stq ?_)
 all_goals(conv=>whnf)
 all_goals first
  | exact aC.yes (.inl asm)
  | exact aC.yes (.inr (.inl asm))
  | exact aC.yes (.inr (.inr (.inl asm)))
  | exact aC.yes (.inr (.inr (.inr asm)))
  | exact aC.no (λhc=>by rcases hc with h|h|h|h<;>contradiction)
theorem EN {l:List Int}{g:FuncId}{cap:List D}{p:Int->Prop}(hl:l.length<=1000) (hn:aD cap=true) (hf:∀ i (h:i<l.length),@Pu gtR Tryz.prog g ([i64 l[i]]++cap) (boo (decide (p l[i])))):∃ k:Int,@Pu gtR Tryz.prog 83 [aF l,.fn (.func g) [] cap] (i64 k)∧(0<=k↔∃ x∈l,p x):=by
 letI:=gtR;by_cases hx:∃ x∈l,p x
 ·obtain⟨x,hm,hp⟩:=hx;have hs1:l.findIdx (λy=>decide (p y))<l.length:=List.findIdx_lt_length_of_exists ⟨x,hm,by simpa using hp⟩;have hs2:p l[l.findIdx (λy=>decide (p y))]:=by have:=List.findIdx_getElem (w:=hs1);simpa using this
  have hmin:∀ j (h:j<l.length),j<l.findIdx (λy=>decide (p y))->¬p l[j]:=λj h hj=>by have:=List.not_of_lt_findIdx hj;simpa using this
  refine⟨((l.findIdx λy=>decide (p y):Nat):Int),?_,⟨λ_=>⟨x,hm,hp⟩,λ_=>by omega⟩⟩;generalize l.findIdx (λy=>decide (p y))=s at *;refine Pu.of_v aB T0 Tryz.func83 rfl rfl (by simp[aK,aD,aM,hn]) ?_;repeat' ((conv=>whnf);first|exact kQ|(refine bk ?_ ?_<;>intro _<;>try(exfalso;omega))|refine stq ?_)
  refine aH.by aB T0 (λk:Nat=>⟨tmp 19 [(0,aF l),(1,.fn (.func g) [] cap),(7,i64 l.length),(8,i64 (k:Int))],⟨0,[]⟩⟩)
   (λk=>k<=s) (λk=>l.length-k) 0 om ?_ ?_
  ·exact lq0
  intro k h3;have hk:k<l.length:=by omega
  have hq:=hf k hk;by_cases hs:k=s
  ·subst hs;rw[decide_eq_true hs2] at hq;repeat' ((conv=>whnf);first|exact kQ|(refine bk ?_ ?_<;>intro _<;>try(exfalso;omega))|refine stq ?_|refine cp hq ?_|fail)
   all_goals(conv=>whnf)
   exact aC.same rfl rfl
  ·rw[decide_eq_false (hmin k hk om)] at hq;repeat' ((conv=>whnf);first|exact kQ|(refine bk ?_ ?_<;>intro _<;>try(exfalso;omega))|refine stq ?_|refine cp hq ?_|fail)
   all_goals(conv=>whnf)
   refine⟨k+1,by omega,by omega,?_⟩;exact lq0
 ·refine⟨-1,?_,⟨λh=>by omega,λh=>absurd h hx⟩⟩;refine Pu.of_v aB T0 Tryz.func83 rfl rfl (by simp[aK,aD,aM,hn]) ?_;repeat' ((conv=>whnf);first|exact kQ|(refine bk ?_ ?_<;>intro _<;>try(exfalso;omega))|refine stq ?_)
  refine aH.by aB T0 (λk:Nat=>⟨tmp 19 [(0,aF l),(1,.fn (.func g) [] cap),(7,i64 l.length),(8,i64 (k:Int))],⟨0,[]⟩⟩)
   (λk=>k<=l.length) (λk=>l.length-k) 0 om ?_ ?_
  ·exact lq0
  intro k h3;by_cases hk:k<l.length
  ·have hq:=hf k hk;rw[decide_eq_false (λh=>hx ⟨_,kM hk,h⟩)] at hq;repeat' ((conv=>whnf);first|exact kQ|(refine bk ?_ ?_<;>intro _<;>try(exfalso;omega))|refine stq ?_|refine cp hq ?_|fail)
   all_goals(conv=>whnf)
   refine⟨k+1,by omega,by omega,?_⟩;exact lq0
  ·repeat' ((conv=>whnf);first|exact kQ|(refine bk ?_ ?_<;>intro _<;>try(exfalso;omega))|refine stq ?_)
   all_goals(conv=>whnf)
   exact aC.same rfl rfl
def exP (p:Int->Prop) (l:List Int):Prop:=∃ x∈l,p x
theorem HC {l:List Int}{g:FuncId}{cap:List D}{p:Int->Prop}(hl:l.length<=1000) (hn:aD cap=true) (hf:∀ i (h:i<l.length),@Pu gtR Tryz.prog g ([i64 l[i]]++cap) (boo (decide (p l[i])))):@Pu gtR Tryz.prog 47 [aF l,.fn (.func g) [] cap] (boo (decide (exP p l))):=by
 letI:=gtR;obtain⟨k,hk,hi⟩:=EN hl hn hf;refine Pu.of_v aB T0 Tryz.func47 rfl rfl (by simp[aK,aD,aM,hn]) ?_;repeat' ((conv=>whnf);first|exact kQ|(refine bk ?_ ?_<;>intro _<;>try(exfalso;omega))|refine stq ?_|refine cp hk ?_|fail)
 all_goals(conv=>whnf)
 all_goals first
  | exact aC.yes (hi.1 om)
  | exact aC.no (λh=>by have:=hi.2 h;omega)
def sD (cl:List Str) (cs:List Int) (r:Rng):Prop:=exP (ee cl) (pce cs r.lo r.hi)
noncomputable def D9 (p:Prp) (t:Tbl) (text:List Int):List Rng:=(l8 p t text).filter λr=>decide (sD t.classes (ao p t.classes text) r)
theorem o8 {P:List Rng}{q:Rng->Bool}{k:Nat}(h:k<P.length):(P.take (k+1)).filter q=(P.take k).filter q++(if q P[k] then [P[k]] else []):=by
 rw[List.take_add_one,List.getElem?_eq_getElem h,List.filter_append];cases hq:q P[k]<;>simp[hq]
set_option maxHeartbeats 8000000 in
theorem xa {d:Db}{t:Tbl}{text:List Int}(g:Good d) (ht:TV t∧t.ok) (hT:@Pu gtR Tryz.prog 66 [i64 2] (dU t)) (hx:text.length<=900):@Pu gtR Tryz.prog 20 [dbD d,aF text] (.tup [ay (D9 (prop d 4) t text),i64 0]):=by
 letI:=gtR;have hs:=g.sm.2.1 4 om;have hd:Pu Tryz.prog 37 [dbD d,i64 2] (.tup [cm (prop d 4),dU t,i64 0]):=g.data (k:=2) om hT;have hC:=tw (text:=text) (g.ok.prop 4) ht.2 om om om;rw[if_pos ht.1] at hC;have hP:=At (text:=text) (g.ok.prop 4) ht.2 om om om;have hc:Chn 0 (l8 (prop d 4) t text) text.length:=uU ht.1;have hCL:=qr (p:=prop d 4) (text:=text) ht.1;have hnl:(ao (prop d 4) t.classes text).length=text.length:=by simp[ao]
 have hpl:=jR hc;unfold D9;generalize l8 (prop d 4) t text=P at *;generalize ao (prop d 4) t.classes text=cs at *
 have hF:∀ k (h:k<P.length),Pu Tryz.prog 47 [.imm (P[k].hi-P[k].lo).toNat (((cs.map i64).drop (P[k].lo.toNat*1)).take ((P[k].hi-P[k].lo).toNat*1)),.fn (.func 46) [] [.iptr (Co t)]] (boo (decide (sD t.classes cs P[k]))):=λk h=>by
  have hat:=mP h hc;have hle:=(fj k hc).1
  have e:(D.imm (P[k].hi-P[k].lo).toNat (((cs.map i64).drop (P[k].lo.toNat*1)).take ((P[k].hi-P[k].lo).toNat*1)))=aF (pce cs P[k].lo P[k].hi):=by
   simp only[Nat.mul_one,lst,pce,List.map_take,List.map_drop,List.length_take,List.length_drop];congr 1;omega
  rw[e];refine HC (l:=pce cs P[k].lo P[k].hi) (cap:=[.iptr (Co t)]) (p:=ee t.classes) (by rw[List.length_take,List.length_drop];omega) (by simp[aK,aD,aM,aW,d7]) λi hi=>?_
  have hm:(pce cs P[k].lo P[k].hi)[i]∈cs:=List.mem_of_mem_drop (List.mem_of_mem_take (kM hi));obtain⟨j,hj,ej⟩:=List.mem_iff_getElem.1 hm;have:=hCL j hj
  rw[ej] at this;exact isL_c this.1 this.2
 refine pv Tryz.func20 ?_;repeat' ((conv=>whnf);first|exact kQ|(refine bk ?_ ?_<;>intro _<;>try(exfalso;omega))|refine stq ?_|refine cp hd ?_|refine cp hC ?_|refine cp hP ?_|fail)
 refine aH.by2 aB T0 (λ(k:Nat) (o:List Rng)=>⟨tmp 51 [(9,aF cs),(10,.fn (.func 46) [] [.iptr (Co t)]),(11,aS 0 2 o),(31,ay P),(32,i64 (P.length:Int)),(33,i64 (k:Int))],⟨1,bq 0 b7 o⟩⟩)
  (λk o=>k<=P.length∧o=(P.take k).filter λr=>decide (sD t.classes cs r)) (λk _=>P.length-k) 0 [] ⟨by omega,rfl⟩ ?_ ?_
 ·exact lq [] [10]
 intro k o ⟨h3,h4⟩;have hol:o.length<=k:=by rw[h4];refine Nat.le_trans (List.length_filter_le _ _) (by simp;omega)
 by_cases hk:k<P.length
 ·have hq:=hF k hk;have hat:=mP hk hc;have hle:=(fj k hc).1;have hs2:=o8 (q:=λr=>decide (sD t.classes cs r)) hk;rw[<-h4] at hs2;by_cases hb:sD t.classes cs P[k]
  ·rw[decide_eq_true hb] at hq;simp only[decide_eq_true hb,if_true] at hs2;cases o with
   | nil=>
    repeat' ((conv=>whnf);first|exact kQ|(refine bk ?_ ?_<;>intro _<;>try(exfalso;omega))|refine stq ?_|refine cp hq ?_|refine Chk.mk ⟨by omega,by omega,by omega,(by simp:(cs.map i64).length=cs.length*1)⟩ ?_)
    all_goals(conv=>whnf)
    refine⟨k+1,_,⟨by omega,hs2.symm⟩,by omega,?_⟩;exact lq [(0,_)] []
   | cons x xs=>
    have hlen:(x::xs).length<=1001:=by omega
    repeat' ((conv=>whnf);first|exact kQ|(refine bk ?_ ?_<;>intro _<;>try(exfalso;omega))|refine stq ?_|refine cp hq ?_|refine Chk.mk ⟨by omega,by omega,by omega,(by simp:(cs.map i64).length=cs.length*1)⟩ ?_)
    all_goals(conv=>whnf)
    refine⟨k+1,_,⟨by omega,hs2.symm⟩,by omega,?_⟩;exact lq [(0,_)] []
  ·rw[decide_eq_false hb] at hq;simp only[decide_eq_false hb,if_false,List.append_nil,Bool.false_eq_true] at hs2;cases o with
   | nil=>
    repeat' ((conv=>whnf);first|exact kQ|(refine bk ?_ ?_<;>intro _<;>try(exfalso;omega))|refine stq ?_|refine cp hq ?_|refine Chk.mk ⟨by omega,by omega,by omega,(by simp:(cs.map i64).length=cs.length*1)⟩ ?_)
    all_goals(conv=>whnf)
    refine⟨k+1,[],⟨by omega,hs2.symm⟩,by omega,?_⟩;exact lq0
   | cons x xs=>
    repeat' ((conv=>whnf);first|exact kQ|(refine bk ?_ ?_<;>intro _<;>try(exfalso;omega))|refine stq ?_|refine cp hq ?_|refine Chk.mk ⟨by omega,by omega,by omega,(by simp:(cs.map i64).length=cs.length*1)⟩ ?_)
    all_goals(conv=>whnf)
    refine⟨k+1,x::xs,⟨by omega,hs2.symm⟩,by omega,?_⟩;exact lq [(0,_)] []
 rw[kE om] at h4;rw[<-h4];cases o with
 | nil=>
  repeat' ((conv=>whnf);first|exact kQ|(refine bk ?_ ?_<;>intro _<;>try(exfalso;omega))|refine stq ?_)
  all_goals(conv=>whnf)
  exact⟨.tup (.cons .nil (.cons (.same rfl) .nil))⟩
 | cons x xs=>
  repeat' ((conv=>whnf);first|exact kQ|(refine bk ?_ ?_<;>intro _<;>try(exfalso;omega))|refine stq ?_)
  all_goals(conv=>whnf)
  exact⟨.tup (.cons (frz_s (b:=x::xs) rfl rfl rfl rfl) (.cons (.same rfl) .nil))⟩
theorem zM {d:Db}{e:Int}{text:List Int}(h0:e≠0) (hd:@Pu gtR Tryz.prog 37 [dbD d,i64 2] (.tup [yQ,xx,i64 e])):@Pu gtR Tryz.prog 20 [dbD d,aF text] (.tup [aI,i64 e]):=by
 letI:=gtR;refine pv Tryz.func20 ?_;repeat' ((conv=>whnf);first|exact kQ|(refine bk ?_ ?_<;>intro _<;>try(exfalso;omega))|refine stq ?_|refine cp hd ?_|fail)
 all_goals(conv=>whnf)
 exact⟨Rd.eqd rfl rfl⟩
end Go.Proofs.YtbmdndckndnehaaGreatDoor
