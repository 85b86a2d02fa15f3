/-
  Letters of the program over data, and the statement ClustersWords.
-/
import Derived.Test.YtjpgpihbhicinaaGreatDoorL6
import Derived.Test.YtjpgpihbhicinaaGreatDoorHM2
set_option linter.unusedSectionVars false
namespace Go.Proofs.YtjpgpihbhicinaaGreatDoor
section
open Go Go.Am Classical
set_option maxRecDepth 100000
theorem frz_s [GT] {h:aB}{fz:Nat→Bool}{σ:Nat→Option Nat}{id n cap:Nat}{b:List Rng}{cs:List D}{ex bx:Bool}(hf:fz id=true) (hg:h.get id=some (.cells cs bx)) (ec:cs=b.flatMap cO) (e:n=b.length):Rd h fz σ (.sl id 0 n cap 2 ex) (bQ b):=by
 subst e;subst ec;refine .frz hf hg (by rw[av (sz:=2) (fun _=>rfl)];omega) (.eqs ?_ (aM (fun _=>rfl) _));rw[List.drop_zero,kE (by rw[av (sz:=2) (fun _=>rfl)];exact kP _)]
def DM (s:Str):Prop:=s=[75,97,116,97,107,97,110,97]∨s=[76,101,116,116,101,114]∨s=[72,101,98,114,101,119]∨s=[78,117,109,101,114,105,99]
noncomputable def pz (cl:List Str) (c:Int):Prop:=DM (cl.getD c.toNat [])
abbrev yY (t:Tbl):List D:=[strs t.classes,aQ t.actions,bO t.left.next,bO t.left.marks,bO t.right.next,bO t.right.marks]
theorem isL_c {t:Tbl}{c:Int}(h0:0≤c) (h1:c<t.classes.length):@Pu gtR Tryz.prog 40 [i64 c,.iptr (yY t)] (boo (decide (pz t.classes c))):=by
 letI:=gtR;obtain⟨n,rfl⟩:∃ n:Nat,c=(n:Int):=⟨c.toNat,by omega⟩;have hn:n<t.classes.length:=by omega
 have e:pz t.classes (n:Int)=DM t.classes[n]:=by rw[pz,Int.toNat_natCast,ac hn]
 rw[show decide (pz t.classes (n:Int))=decide (DM t.classes[n]) by simp only[e]];refine Pu.of_v aA T0 Tryz.func40 rfl rfl (by simp[aH,aC,aD,aG,ah]) ?_;repeat' ((conv=>whnf)<;>(first|refine Idx.at (f:=D.str) (l:=t.classes) n (by omega) (by omega) ?_|refine aE.go aA T0 ?_|exact kQ|(refine Br.mk (fun _=>?_) (fun _=>?_)<;>(try(exfalso;omega)))|refine stq ?_))
 all_goals(conv=>whnf)
 all_goals first
  | exact aN.yes (.inl (by assumption))
  | exact aN.yes (.inr (.inl (by assumption)))
  | exact aN.yes (.inr (.inr (.inl (by assumption))))
  | exact aN.yes (.inr (.inr (.inr (by assumption))))
  | exact aN.no (fun hc=>by rcases hc with h|h|h|h<;>contradiction)
theorem BM {l:List Int}{g:FuncId}{cap:List D}{p:Int→Prop}(hl:l.length≤1000) (hn:aC cap=true) (hf:∀ i (h:i<l.length),@Pu gtR Tryz.prog g ([i64 l[i]]++cap) (boo (decide (p l[i])))):∃ k:Int,@Pu gtR Tryz.prog 70 [aQ l,.fn (.func g) [] cap] (i64 k)∧(0≤k↔∃ x∈l,p x):=by
 letI:=gtR;by_cases hx:∃ x∈l,p x
 ·obtain⟨x,hm,hp⟩:=hx;have hs1:l.findIdx (fun y=>decide (p y))<l.length:=List.findIdx_lt_length_of_exists ⟨x,hm,by simpa using hp⟩;have hs2:p l[l.findIdx (fun y=>decide (p y))]:=by have:=List.findIdx_getElem (w:=hs1);simpa using this
  have hmin:∀ j (h:j<l.length),j<l.findIdx (fun y=>decide (p y))→¬p l[j]:=fun j h hj=>by have:=List.not_of_lt_findIdx hj;simpa using this
  refine⟨((l.findIdx fun y=>decide (p y):Nat):Int),?_,⟨fun _=>⟨x,hm,hp⟩,fun _=>by omega⟩⟩;generalize l.findIdx (fun y=>decide (p y))=s at *;refine Pu.of_v aA T0 Tryz.func70 rfl rfl (by simp[aH,aC,aD,hn]) ?_;repeat' ((conv=>whnf)<;>(first|refine aE.go aA T0 ?_|exact kQ|(refine Br.mk (fun _=>?_) (fun _=>?_)<;>(try(exfalso;omega)))|refine stq ?_))
  refine aT.by aA T0 (fun k:Nat=>⟨tmp 19 [(0,aQ l),(1,.fn (.func g) [] cap),(7,i64 l.length),(8,i64 (k:Int))],⟨0,[]⟩⟩)
   (fun k=>k≤s) (fun k=>l.length-k) 0 (by omega) ?_ ?_
  ·exact Lf.of2 [] [] (by repeat(first|exact aI.nil|refine aI.cons rfl (by first|exact Rd.same (by simp[aH,aC,hn])|exact rdA|fail) ?_)) (by repeat(first|exact Bxs.nil|refine Bxs.cons rfl rfl rfl (by first|exact rbB|exact Rb.cells (by(repeat(first|exact Rds.nil|refine Rds.cons (by first|exact Rd.same (by simp[aH,aC,hn])|exact rdA|fail) ?_|fail));(first|done|fail)) rfl|exact rbC|fail) ?_)) rfl rfl
  intro k h3;have hk:k<l.length:=by omega
  have hq:=hf k hk;by_cases hs:k=s
  ·subst hs;rw[decide_eq_true hs2] at hq;repeat' ((conv=>whnf)<;>(first|refine aE.go aA T0 ?_|exact kQ|(refine Br.mk (fun _=>?_) (fun _=>?_)<;>(try(exfalso;omega)))|refine stq ?_|refine Cll.pu (hq) ?_|refine aW.pu (hq) ?_))
   all_goals(conv=>whnf)
   exact aN.same rfl rfl
  ·rw[decide_eq_false (hmin k hk (by omega))] at hq;repeat' ((conv=>whnf)<;>(first|refine aE.go aA T0 ?_|exact kQ|(refine Br.mk (fun _=>?_) (fun _=>?_)<;>(try(exfalso;omega)))|refine stq ?_|refine Cll.pu (hq) ?_|refine aW.pu (hq) ?_))
   all_goals(conv=>whnf)
   refine⟨k+1,by omega,by omega,?_⟩;exact Lf.of2 [] [] (by repeat(first|exact aI.nil|refine aI.cons rfl (by first|exact Rd.same (by simp[aH,aC,hn])|exact rdA|fail) ?_)) (by repeat(first|exact Bxs.nil|refine Bxs.cons rfl rfl rfl (by first|exact rbB|exact Rb.cells (by(repeat(first|exact Rds.nil|refine Rds.cons (by first|exact Rd.same (by simp[aH,aC,hn])|exact rdA|fail) ?_|fail));(first|done|fail)) rfl|exact rbC|fail) ?_)) rfl rfl
 ·refine⟨-1,?_,⟨fun h=>by omega,fun h=>absurd h hx⟩⟩;refine Pu.of_v aA T0 Tryz.func70 rfl rfl (by simp[aH,aC,aD,hn]) ?_;repeat' ((conv=>whnf)<;>(first|refine aE.go aA T0 ?_|exact kQ|(refine Br.mk (fun _=>?_) (fun _=>?_)<;>(try(exfalso;omega)))|refine stq ?_))
  refine aT.by aA T0 (fun k:Nat=>⟨tmp 19 [(0,aQ l),(1,.fn (.func g) [] cap),(7,i64 l.length),(8,i64 (k:Int))],⟨0,[]⟩⟩)
   (fun k=>k≤l.length) (fun k=>l.length-k) 0 (by omega) ?_ ?_
  ·exact Lf.of2 [] [] (by repeat(first|exact aI.nil|refine aI.cons rfl (by first|exact Rd.same (by simp[aH,aC,hn])|exact rdA|fail) ?_)) (by repeat(first|exact Bxs.nil|refine Bxs.cons rfl rfl rfl (by first|exact rbB|exact Rb.cells (by(repeat(first|exact Rds.nil|refine Rds.cons (by first|exact Rd.same (by simp[aH,aC,hn])|exact rdA|fail) ?_|fail));(first|done|fail)) rfl|exact rbC|fail) ?_)) rfl rfl
  intro k h3;by_cases hk:k<l.length
  ·have hq:=hf k hk;rw[decide_eq_false (fun h=>hx ⟨_,kM hk,h⟩)] at hq;repeat' ((conv=>whnf)<;>(first|refine aE.go aA T0 ?_|exact kQ|(refine Br.mk (fun _=>?_) (fun _=>?_)<;>(try(exfalso;omega)))|refine stq ?_|refine Cll.pu (hq) ?_|refine aW.pu (hq) ?_))
   all_goals(conv=>whnf)
   refine⟨k+1,by omega,by omega,?_⟩;exact Lf.of2 [] [] (by repeat(first|exact aI.nil|refine aI.cons rfl (by first|exact Rd.same (by simp[aH,aC,hn])|exact rdA|fail) ?_)) (by repeat(first|exact Bxs.nil|refine Bxs.cons rfl rfl rfl (by first|exact rbB|exact Rb.cells (by(repeat(first|exact Rds.nil|refine Rds.cons (by first|exact Rd.same (by simp[aH,aC,hn])|exact rdA|fail) ?_|fail));(first|done|fail)) rfl|exact rbC|fail) ?_)) rfl rfl
  ·repeat' ((conv=>whnf)<;>(first|refine aE.go aA T0 ?_|exact kQ|(refine Br.mk (fun _=>?_) (fun _=>?_)<;>(try(exfalso;omega)))|refine stq ?_))
   all_goals(conv=>whnf)
   exact aN.same rfl rfl
def exP (p:Int→Prop) (l:List Int):Prop:=∃ x∈l,p x
theorem Dp {l:List Int}{g:FuncId}{cap:List D}{p:Int→Prop}(hl:l.length≤1000) (hn:aC cap=true) (hf:∀ i (h:i<l.length),@Pu gtR Tryz.prog g ([i64 l[i]]++cap) (boo (decide (p l[i])))):@Pu gtR Tryz.prog 41 [aQ l,.fn (.func g) [] cap] (boo (decide (exP p l))):=by
 letI:=gtR;obtain⟨k,hk,hi⟩:=BM hl hn hf;refine Pu.of_v aA T0 Tryz.func41 rfl rfl (by simp[aH,aC,aD,hn]) ?_;repeat' ((conv=>whnf)<;>(first|refine aE.go aA T0 ?_|exact kQ|(refine Br.mk (fun _=>?_) (fun _=>?_)<;>(try(exfalso;omega)))|refine stq ?_|refine Cll.pu (hk) ?_|refine aW.pu (hk) ?_))
 all_goals(conv=>whnf)
 all_goals first
  | exact aN.yes (hi.1 (by omega))
  | exact aN.no (fun h=>by have:=hi.2 h;omega)
def zA (cl:List Str) (cs:List Int) (r:Rng):Prop:=exP (pz cl) (pce cs r.lo r.hi)
noncomputable def DN (p:Prp) (t:Tbl) (text:List Int):List Rng:=(fC p t text).filter fun r=>decide (zA t.classes (bD p t.classes text) r)
theorem jf {P:List Rng}{q:Rng→Bool}{k:Nat}(h:k<P.length):(P.take (k+1)).filter q=(P.take k).filter q++(if q P[k] then [P[k]] else []):=by
 rw[List.take_add_one,List.getElem?_eq_getElem h,List.filter_append];cases hq:q P[k]<;>simp[hq]
set_option maxHeartbeats 8000000 in
theorem oH {d:Db}{t:Tbl}{text:List Int}(g:Good d) (ht:TV t∧t.ok) (hT:@Pu gtR Tryz.prog 51 [i64 2] (d7 t)) (hx:text.length≤900):@Pu gtR Tryz.prog 26 [dbD d,aQ text] (.tup [bQ (DN (prop d 4) t text),i64 0]):=by
 letI:=gtR;have hs:=g.sm.2.1 4 (by omega);have hd:Pu Tryz.prog 30 [dbD d,i64 2] (.tup [fF (prop d 4),d7 t,i64 0]):=g.data (k:=2) (by omega) hT;have hC:=sH (text:=text) (g.ok.prop 4) ht.2 (by omega) (by omega) (by omega);rw[if_pos ht.1] at hC;have hP:=yH (text:=text) (g.ok.prop 4) ht.2 (by omega) (by omega) (by omega);have hc:Chn 0 (fC (prop d 4) t text) text.length:=ly ht.1;have hCL:=ph (p:=prop d 4) (text:=text) ht.1;have hnl:(bD (prop d 4) t.classes text).length=text.length:=by simp[bD]
 have hpl:=fR hc;unfold DN;generalize fC (prop d 4) t text=P at *;generalize bD (prop d 4) t.classes text=cs at *
 have hF:∀ k (h:k<P.length),Pu Tryz.prog 41 [.imm (P[k].hi-P[k].lo).toNat (((cs.map i64).drop (P[k].lo.toNat*1)).take ((P[k].hi-P[k].lo).toNat*1)),.fn (.func 40) [] [.iptr (yY t)]] (boo (decide (zA t.classes cs P[k]))):=fun k h=>by
  have hat:=gu h hc;have hle:=(cQ k hc).1
  have e:(D.imm (P[k].hi-P[k].lo).toNat (((cs.map i64).drop (P[k].lo.toNat*1)).take ((P[k].hi-P[k].lo).toNat*1)))=aQ (pce cs P[k].lo P[k].hi):=by
   simp only[Nat.mul_one,lst,pce,List.map_take,List.map_drop,List.length_take,List.length_drop];congr 1;omega
  rw[e];refine Dp (l:=pce cs P[k].lo P[k].hi) (cap:=[.iptr (yY t)]) (p:=pz t.classes) (by rw[List.length_take,List.length_drop];omega) (by simp[aH,aC,aD,aG,ah]) fun i hi=>?_
  have hm:(pce cs P[k].lo P[k].hi)[i]∈cs:=List.mem_of_mem_drop (List.mem_of_mem_take (kM hi));obtain⟨j,hj,ej⟩:=List.mem_iff_getElem.1 hm;have:=hCL j hj
  rw[ej] at this;exact isL_c this.1 this.2
 refine Pu.of_v aA T0 Tryz.func26 rfl rfl (by simp[aH,aC,aG,aJ,aP,aO,aD]) ?_;repeat' ((conv=>whnf)<;>(first|refine aE.go aA T0 ?_|exact kQ|(refine Br.mk (fun _=>?_) (fun _=>?_)<;>(try(exfalso;omega)))|refine stq ?_|refine Cll.pu (hd) ?_|refine aW.pu (hd) ?_|refine Cll.pu (hC) ?_|refine aW.pu (hC) ?_|refine Cll.pu (hP) ?_|refine aW.pu (hP) ?_|fail))
 refine aT.by2 aA T0 (fun(k:Nat) (o:List Rng)=>⟨tmp 51 [(9,aQ cs),(10,.fn (.func 40) [] [.iptr (yY t)]),(11,aj 0 2 o),(31,bQ P),(32,i64 (P.length:Int)),(33,i64 (k:Int))],⟨1,cx 0 cO o⟩⟩)
  (fun k o=>k≤P.length∧o=(P.take k).filter fun r=>decide (zA t.classes cs r)) (fun k _=>P.length-k) 0 [] ⟨by omega,rfl⟩ ?_ ?_
 ·exact Lf.of2 [] [10] (by repeat(first|exact aI.nil|refine aI.cons rfl (by first|exact Rd.fn .nil (.cons (.frzp rfl rfl (Rds.eqs rfl (by simp[aC,aD,aG,ah]:aC (yY t)=true))) .nil)|exact rdA|fail) ?_)) (by repeat(first|exact Bxs.nil|refine Bxs.cons rfl rfl rfl (by first|exact rbB|exact Rb.cells (by(repeat(first|exact Rds.nil|refine Rds.cons (by first|exact Rd.fn .nil (.cons (.frzp rfl rfl (Rds.eqs rfl (by simp[aC,aD,aG,ah]:aC (yY t)=true))) .nil)|exact rdA|fail) ?_|fail));(first|done|fail)) rfl|exact rbC|fail) ?_)) rfl rfl
 intro k o ⟨h3,h4⟩;have hol:o.length≤k:=by rw[h4];refine Nat.le_trans (List.length_filter_le _ _) (by simp;omega)
 by_cases hk:k<P.length
 ·have hq:=hF k hk;have hat:=gu hk hc;have hle:=(cQ k hc).1;have hs2:=jf (q:=fun r=>decide (zA t.classes cs r)) hk;rw[←h4] at hs2;by_cases hb:zA t.classes cs P[k]
  ·rw[decide_eq_true hb] at hq;simp only[decide_eq_true hb,if_true] at hs2;cases o with
   | nil=>
    repeat' ((conv=>whnf)<;>(first|refine aE.go aA T0 ?_|exact kQ|(refine Br.mk (fun _=>?_) (fun _=>?_)<;>(try(exfalso;omega)))|refine stq ?_|refine Cll.pu (hq) ?_|refine aW.pu (hq) ?_|refine Chk.mk ⟨by omega,by omega,by omega,(by simp:(cs.map i64).length=cs.length*1)⟩ ?_))
    all_goals(conv=>whnf)
    refine⟨k+1,_,⟨by omega,hs2.symm⟩,by omega,?_⟩;exact Lf.of2 [(0,_)] [] (by repeat(first|exact aI.nil|refine aI.cons rfl (by first|exact Rd.same (by simp[aH,aC,aD,aG,ah])|exact rdA|fail) ?_)) (by repeat(first|exact Bxs.nil|refine Bxs.cons rfl rfl rfl (by first|exact rbB|exact Rb.cells (by(repeat(first|exact Rds.nil|refine Rds.cons (by first|exact Rd.same (by simp[aH,aC,aD,aG,ah])|exact rdA|fail) ?_|fail));(first|done|fail)) rfl|exact rbC|fail) ?_)) rfl rfl
   | cons x xs=>
    have hlen:(x::xs).length≤1001:=by omega
    repeat' ((conv=>whnf)<;>(first|refine aE.go aA T0 ?_|exact kQ|(refine Br.mk (fun _=>?_) (fun _=>?_)<;>(try(exfalso;omega)))|refine stq ?_|refine Cll.pu (hq) ?_|refine aW.pu (hq) ?_|refine Chk.mk ⟨by omega,by omega,by omega,(by simp:(cs.map i64).length=cs.length*1)⟩ ?_))
    all_goals(conv=>whnf)
    refine⟨k+1,_,⟨by omega,hs2.symm⟩,by omega,?_⟩;exact Lf.of2 [(0,_)] [] (by repeat(first|exact aI.nil|refine aI.cons rfl (by first|exact Rd.sl' rfl (by simp) (by simp)|exact Rd.same (by simp[aH,aC,aD,aG,ah])|exact rdA|fail) ?_)) (by repeat(first|exact Bxs.nil|refine Bxs.cons rfl rfl rfl (by first|exact Rb.cells (Rds.eqs (bA (c:=cO) (sz:=2) (by intro _;rfl) (x::xs) P[k]) (aM (by intro _;rfl) _)) rfl|exact rbB|exact Rb.cells (by(repeat(first|exact Rds.nil|refine Rds.cons (by first|exact Rd.sl' rfl (by simp) (by simp)|exact Rd.same (by simp[aH,aC,aD,aG,ah])|exact rdA|fail) ?_|fail));(first|done|fail)) rfl|exact rbC|fail) ?_)) rfl rfl
  ·rw[decide_eq_false hb] at hq;simp only[decide_eq_false hb,if_false,List.append_nil,Bool.false_eq_true] at hs2;cases o with
   | nil=>
    repeat' ((conv=>whnf)<;>(first|refine aE.go aA T0 ?_|exact kQ|(refine Br.mk (fun _=>?_) (fun _=>?_)<;>(try(exfalso;omega)))|refine stq ?_|refine Cll.pu (hq) ?_|refine aW.pu (hq) ?_|refine Chk.mk ⟨by omega,by omega,by omega,(by simp:(cs.map i64).length=cs.length*1)⟩ ?_))
    all_goals(conv=>whnf)
    refine⟨k+1,[],⟨by omega,hs2.symm⟩,by omega,?_⟩;exact Lf.of2 [] [] (by repeat(first|exact aI.nil|refine aI.cons rfl (by first|exact Rd.same (by simp[aH,aC,aD,aG,ah])|exact rdA|fail) ?_)) (by repeat(first|exact Bxs.nil|refine Bxs.cons rfl rfl rfl (by first|exact rbB|exact Rb.cells (by(repeat(first|exact Rds.nil|refine Rds.cons (by first|exact Rd.same (by simp[aH,aC,aD,aG,ah])|exact rdA|fail) ?_|fail));(first|done|fail)) rfl|exact rbC|fail) ?_)) rfl rfl
   | cons x xs=>
    repeat' ((conv=>whnf)<;>(first|refine aE.go aA T0 ?_|exact kQ|(refine Br.mk (fun _=>?_) (fun _=>?_)<;>(try(exfalso;omega)))|refine stq ?_|refine Cll.pu (hq) ?_|refine aW.pu (hq) ?_|refine Chk.mk ⟨by omega,by omega,by omega,(by simp:(cs.map i64).length=cs.length*1)⟩ ?_))
    all_goals(conv=>whnf)
    refine⟨k+1,x::xs,⟨by omega,hs2.symm⟩,by omega,?_⟩;exact Lf.of2 [(0,_)] [] (by repeat(first|exact aI.nil|refine aI.cons rfl (by first|exact Rd.same (by simp[aH,aC,aD,aG,ah])|exact rdA|fail) ?_)) (by repeat(first|exact Bxs.nil|refine Bxs.cons rfl rfl rfl (by first|exact rbB|exact Rb.cells (by(repeat(first|exact Rds.nil|refine Rds.cons (by first|exact Rd.same (by simp[aH,aC,aD,aG,ah])|exact rdA|fail) ?_|fail));(first|done|fail)) rfl|exact rbC|fail) ?_)) rfl rfl
 rw[kE (by omega)] at h4;rw[←h4];cases o with
 | nil=>
  repeat' ((conv=>whnf)<;>(first|refine aE.go aA T0 ?_|exact kQ|(refine Br.mk (fun _=>?_) (fun _=>?_)<;>(try(exfalso;omega)))|refine stq ?_))
  all_goals(conv=>whnf)
  exact⟨.tup (.cons .nil (.cons (.same rfl) .nil))⟩
 | cons x xs=>
  repeat' ((conv=>whnf)<;>(first|refine aE.go aA T0 ?_|exact kQ|(refine Br.mk (fun _=>?_) (fun _=>?_)<;>(try(exfalso;omega)))|refine stq ?_))
  all_goals(conv=>whnf)
  exact⟨.tup (.cons (frz_s (b:=x::xs) rfl rfl rfl rfl) (.cons (.same rfl) .nil))⟩
theorem qg {d:Db}{e:Int}{text:List Int}(h0:e≠0) (hd:@Pu gtR Tryz.prog 30 [dbD d,i64 2] (.tup [yl,yZ,i64 e])):@Pu gtR Tryz.prog 26 [dbD d,aQ text] (.tup [aU,i64 e]):=by
 letI:=gtR;refine Pu.of_v aA T0 Tryz.func26 rfl rfl (by simp[aH,aC,aG,aJ,aP,aO,aD]) ?_;repeat' ((conv=>whnf)<;>(first|refine aE.go aA T0 ?_|exact kQ|(refine Br.mk (fun _=>?_) (fun _=>?_)<;>(try(exfalso;omega)))|refine stq ?_|refine Cll.pu (hd) ?_|refine aW.pu (hd) ?_))
 all_goals(conv=>whnf)
 exact⟨Rd.eqd rfl rfl⟩
end
section
open Go Go.Am Classical
set_option maxRecDepth 100000
abbrev noW (d:Db):Db:={ d with wor:=qn }
theorem Cz:PrV qn:=by
 refine⟨⟨by decide,by decide,fun i h=>?_⟩,fun i h=>absurd h (by simp)⟩;obtain rfl:i=0:=by simp at h;omega
 exact⟨(nv1.2.2 0 (by decide)).1.1,by simp⟩
theorem uR (d:Db) (k:Nat):prop (noW d) k=prop d k∨prop (noW d) k=qn:=by
 unfold prop;split
 all_goals first
  | exact .inl rfl
  | exact .inr rfl
theorem Ao {d:Db}(h:d.ok):(noW d).ok:=by
 refine⟨fun k=>?_,fun k=>h.sets k,fun k=>h.maps k,h.classes⟩;rcases uR d k with e|e
 ·rw[e];exact h.prop k
 ·rw[e];exact⟨by decide,fun i hi=>by obtain rfl:i=0:=by { simp at hi;omega };exact(by decide:([79,116,104,101,114]:Str).length≤9223372036854775807),by decide⟩
theorem An {d:Db}(h:SmD d):SmD (noW d):=by
 refine⟨h.1,fun k hk=>?_,h.2.2⟩;rcases uR d k with e|e
 ·rw[e];exact h.2.1 k hk
 ·rw[e];exact⟨by decide,by decide⟩
theorem noW_va {d:Db}(h:DbV d):DbV (noW d):=fun k hk=>by
 have h1:=h k hk;rcases(by omega:k=0∨k=1∨k=2∨k=3∨k=4∨k=5∨k=6∨k=7∨k=8∨k=9∨k=10∨k=11∨k=12∨k=13∨k=14∨k=15∨k=16∨k=17∨k=18∨k=19∨k=20) with rfl|rfl|rfl|rfl|rfl|rfl|rfl|rfl|rfl|rfl|rfl|rfl|rfl|rfl|rfl|rfl|rfl|rfl|rfl|rfl|rfl
 all_goals first
  | exact h1
  | exact Cz
theorem DD (d:Db) (text:List Int):DN (prop (noW d) 4) t2 text=[]:=by
 refine List.filter_eq_nil_iff.2 fun r _=>?_
 rw[decide_eq_true_eq];rintro⟨x,hx,hl⟩;have hm:=List.mem_of_mem_drop (List.mem_of_mem_take hx);simp only[bD,List.mem_map] at hm;obtain⟨c,_,rfl⟩:=hm
 have e:rT (prop (noW d) 4) c=[79,116,104,101,114]:=by
  have hc:cnt (prop (noW d) 4)=qn:=by unfold cnt;split<;>rfl
  unfold rT;simp only[hc];rfl
 have e2:ki t2.classes (rT (prop (noW d) 4) c)=0:=by rw[e];exact(by kernel_rfl:ki cl2 [79,116,104,101,114]=0)
 rw[e2] at hl;have e3:t2.classes.getD (0:Int).toNat []=[79,116,104,101,114]:=by kernel_rfl
 rw[pz,e3] at hl;exact absurd hl (by unfold DM;decide)
theorem zw {P:List Rng}{q:Rng→Bool}(k:Nat):(P.take k).filter q <+: P.filter q:=by
 have h:=List.take_append_drop k P
 conv=>rhs;rw[←h]
 rw[List.filter_append];exact List.prefix_append _ _
theorem zn {P:List Rng}{q:Rng→Bool}{i k:Nat}(hk:k<P.length) (hi:i<(P.filter q).length) (h:(P.take k).filter q=(P.filter q).take i):(q P[k]=true→P[k]=(P.filter q)[i]):=fun hq=>by
 have h2:=zw (P:=P) (q:=q) (k+1);rw[jf hk,hq,if_pos rfl,h] at h2;have h3:=(List.prefix_iff_eq_take.1 h2);have hl:((P.filter q).take i++[P[k]]).length=i+1:=by simp;omega
 rw[hl,List.take_add_one,List.getElem?_eq_getElem hi] at h3;simpa using List.append_cancel_left h3
set_option maxHeartbeats 8000000 in
theorem wor_c {d:Db}{text:List Int}(ho:d.ok) (hx:text.length≤9223372036854775807):@Pu gtR Tryz.prog 11 [dbD d,aQ text] (boo true):=by
 letI:=gtR;have hal:=kg;by_cases hf:SmD d∧text.length≤12
 ·obtain⟨hs,h12⟩:=hf;have hF:=mP (text:=text) ho hs h12
  obtain⟨x,e,hL,hx0,he0⟩:∃ (x:D) (e:Int),Pu Tryz.prog 26 [dbD (noW d),aQ text] (.tup [x,i64 e])∧(x=.imm 0 []∨x=aU)∧(DbV d→e=0):=by
   by_cases hw:DbV (noW d)
   ·have h:=oH (d:=noW d) (text:=text) ⟨Ao ho,An hs,hw⟩ tv2 wx (by omega);rw[DD] at h;exact⟨.imm 0 [],_,h,.inl rfl,fun _=>rfl⟩
   ·exact⟨_,_,qg (by decide) (jk (Ao ho) (An hs) hw),.inr rfl,fun hv=>absurd (noW_va hv) hw⟩
  by_cases hv:DbV d
  ·have g:Good d:=⟨ho,hs,hv⟩;obtain rfl:=he0 hv;have hP:=g.prt (k:=2) (text:=text) (by omega) tv2.2 wx (by omega);have hA:=oH (d:=d) (text:=text) g tv2 wx (by omega);have hc:Chn 0 (fC (prop d 4) t2 text) text.length:=ly tv2.1;have hpl:=fR hc;unfold DN at hA;have hP:Pu Tryz.prog 17 [dbD d,i64 2,aQ text] (.tup [bQ (fC (prop d 4) t2 text),i64 0]):=hP;generalize fC (prop d 4) t2 text=P at *;generalize(fun r=>decide (zA t2.classes (bD (prop d 4) t2.classes text) r))=q at *;have hlf:(P.filter q).length≤P.length:=List.length_filter_le _ _;have hwa:=fun i k hk hi h=>zn (P:=P) (q:=q) (i:=i) (k:=k) hk hi h
   have hfl:=fun k=>jf (P:=P) (q:=q) (k:=k)
   have hLe:∀ r∈P.filter q,q r=true:=fun r hr=>(List.mem_filter.1 hr).2
   have hall:(P.take P.length).filter q=P.filter q:=by rw[List.take_length]
   generalize P.filter q=L at *;refine Pu.of_v aA T0 Tryz.func11 rfl rfl (by simp[aH,aC,aG,aJ,aP,aO,aD]) ?_;repeat' ((conv=>whnf)<;>(first|refine aE.go aA T0 ?_|exact kQ|(refine Br.mk (fun _=>?_) (fun _=>?_)<;>(try(exfalso;omega)))|refine stq ?_|refine Cll.pu (hF) ?_|refine aW.pu (hF) ?_|refine Cll.pu (hA) ?_|refine aW.pu (hA) ?_|refine Cll.pu (hP) ?_|refine aW.pu (hP) ?_|fail))
   refine aT.by2 aA T0 (fun(i k:Nat)=>⟨tmp 85 [(1,aQ text),(2,.ptr 0 0),(5,bQ L),(6,i64 0),(7,bQ P),(9,i64 (k:Int)),(10,i64 (i:Int))],⟨1,[(0,.cells (dbC d) true)]⟩⟩)
    (fun i k=>i≤L.length∧k≤P.length∧(P.take k).filter q=L.take i) (fun i _=>L.length-i) 0 0 ⟨by omega,by omega,by simp⟩ ?_ ?_
   ·exact Lf.of2 [(0,_)] [] enA (by repeat(first|exact Bxs.nil|refine Bxs.cons rfl rfl rfl (by first|exact Rb.cells (Rds.same (aa d)) rfl|exact rbB|exact Rb.cells bk rfl|exact rbC|fail) ?_)) rfl rfl
   intro i k ⟨h3,h4,h5⟩;by_cases hi:i<L.length
   ·repeat' ((conv=>whnf)<;>(first|refine aE.go aA T0 ?_|exact kQ|(refine Br.mk (fun _=>?_) (fun _=>?_)<;>(try(exfalso;omega)))|refine stq ?_|fail))
    refine aT.by aA T0 (fun k:Nat=>⟨tmp 85 [(1,aQ text),(2,.ptr 0 0),(5,bQ L),(6,i64 0),(7,bQ P),(9,i64 (k:Int)),(10,i64 (i:Int))],⟨1,[(0,.cells (dbC d) true)]⟩⟩)
     (fun k=>k≤P.length∧(P.take k).filter q=L.take i) (fun k=>P.length-k) k ⟨by omega,h5⟩ ?_ ?_
    ·exact Lf.of2 [(0,_)] [] enA (by repeat(first|exact Bxs.nil|refine Bxs.cons rfl rfl rfl (by first|exact Rb.cells (Rds.same (aa d)) rfl|exact rbB|exact Rb.cells bk rfl|exact rbC|fail) ?_)) rfl rfl
    intro m ⟨h8,h9⟩;by_cases hk:m<P.length
    ·by_cases he:P[m]=L[i]
     ·have hq:q P[m]=true:=by rw[he];exact hLe _ (kM hi)
      have h6:=hfl m hk;rw[hq,if_pos rfl,h9,he] at h6;have h7:(P.take (m+1)).filter q=L.take (i+1):=by rw[h6,List.take_add_one,List.getElem?_eq_getElem hi];rfl
      repeat' ((conv=>whnf)<;>(first|refine aE.go aA T0 ?_|exact kQ|(refine Br.mk (fun _=>?_) (fun _=>?_)<;>(try(exfalso;omega)))|refine stq ?_|refine bS.by aA T0 [0,0,2,7,15,31,31,127,255,31,31,1567,3615,8191,16383] (by kernel_rfl) ?_|refine Idx.atS (sz:=2) (c:=cO) (fun _=>rfl) (l:=P) m (by omega) (by omega) ?_|refine Idx.atS (sz:=2) (c:=cO) (fun _=>rfl) (l:=L) i (by omega) (by omega) ?_|(split<;>rename_i heq<;>rw[he] at heq<;>first|(obtain rfl:=Option.some.inj (s6.symm.trans heq))|exact absurd (s6.symm.trans heq) (by simp))))
      all_goals(conv=>whnf)
      refine⟨i+1,m+1,⟨by omega,by omega,h7⟩,by omega,?_⟩;exact Lf.of2 [(0,_)] [] enA (by repeat(first|exact Bxs.nil|refine Bxs.cons rfl rfl rfl (by first|exact Rb.cells (Rds.same (aa d)) rfl|exact rbB|exact Rb.cells bk rfl|exact rbC|fail) ?_)) rfl rfl
     ·have hq:q P[m]=false:=by
       cases h:q P[m] with
       | false=>rfl
       | true=>exact absurd (hwa i m hk hi h9 h) he
      have h6:=hfl m hk;rw[hq] at h6;have h7:(P.take (m+1)).filter q=L.take i:=by rw[h6,h9];simp
      repeat' ((conv=>whnf)<;>(first|refine aE.go aA T0 ?_|exact kQ|(refine Br.mk (fun _=>?_) (fun _=>?_)<;>(try(exfalso;omega)))|refine stq ?_|refine bS.by aA T0 [0,0,2,7,15,31,31,127,255,31,31,1567,3615,8191,16383] (by kernel_rfl) ?_|refine Idx.atS (sz:=2) (c:=cO) (fun _=>rfl) (l:=P) m (by omega) (by omega) ?_|refine Idx.atS (sz:=2) (c:=cO) (fun _=>rfl) (l:=L) i (by omega) (by omega) ?_|(split<;>rename_i heq<;>first|(obtain rfl:=Option.some.inj ((ob he).symm.trans heq))|exact absurd ((ob he).symm.trans heq) (by simp))))
      all_goals(conv=>whnf)
      refine⟨m+1,⟨by omega,h7⟩,by omega,?_⟩;exact Lf.of2 [(0,_)] [] enA (by repeat(first|exact Bxs.nil|refine Bxs.cons rfl rfl rfl (by first|exact Rb.cells (Rds.same (aa d)) rfl|exact rbB|exact Rb.cells bk rfl|exact rbC|fail) ?_)) rfl rfl
    ·exfalso;obtain rfl:m=P.length:=by omega
     rw[hall] at h9;have:=congrArg List.length h9
     simp at this;omega
   repeat' ((conv=>whnf)<;>(first|exact kQ|(refine Br.mk (fun _=>?_) (fun _=>?_)<;>(try(exfalso;omega)))|refine stq ?_))
   refine aE.go aA T0 ?_;repeat' ((conv=>whnf)<;>(first|exact kQ|(refine Br.mk (fun _=>?_) (fun _=>?_)<;>(try(exfalso;omega)))|refine stq ?_))
   refine aE.go aA T0 ?_;repeat' ((conv=>whnf)<;>(first|exact kQ|(refine Br.mk (fun _=>?_) (fun _=>?_)<;>(try(exfalso;omega)))|refine stq ?_))
   refine aE.weak aA T0 (s0:=⟨tmp 85 [(1,aQ text),(2,.ptr 0 0),(6,i64 0)],⟨1,[(0,.cells (dbC (noW d)) true)]⟩⟩) ?_ ?_
   ·exact Lf.of2 [(0,_)] [5] enA (by repeat(first|exact Bxs.nil|refine Bxs.cons rfl rfl rfl (by first|exact Rb.cells (by(repeat(first|exact Rds.nil|refine Rds.cons (by first|exact Rd.same rfl|exact Rd.same (aG _)|exact Rd.same (aJ _)|exact Rd.same (aP _)|exact Rd.same (aO _)|exact Rd.frzT rfl rfl rfl rfl rfl|exact Rd.nil|fail) ?_|fail));(first|done|fail)) rfl|exact rbB|exact Rb.cells bk rfl|exact rbC|fail) ?_)) rfl rfl
   rcases hx0 with rfl|rfl
   all_goals
    repeat' ((conv=>whnf)<;>(first|refine aE.go aA T0 ?_|exact kQ|(refine Br.mk (fun _=>?_) (fun _=>?_)<;>(try(exfalso;omega)))|refine stq ?_|refine Cll.pu (hL) ?_|refine aW.pu (hL) ?_|refine Cll.pu (hal) ?_|refine aW.pu (hal) ?_))
    all_goals(conv=>whnf)
    exact aN.same rfl rfl
  ·have hP:=tR (k:=2) (aD text) (by decide) (jk ho hs hv);have hA:=qg (text:=text) (by decide) (jk ho hs hv);refine Pu.of_v aA T0 Tryz.func11 rfl rfl (by simp[aH,aC,aG,aJ,aP,aO,aD]) ?_;repeat' ((conv=>whnf)<;>(first|refine aE.go aA T0 ?_|exact kQ|(refine Br.mk (fun _=>?_) (fun _=>?_)<;>(try(exfalso;omega)))|refine stq ?_|refine Cll.pu (hF) ?_|refine aW.pu (hF) ?_|refine Cll.pu (hA) ?_|refine aW.pu (hA) ?_|refine Cll.pu (hP) ?_|refine aW.pu (hP) ?_|fail))
   refine aT.by aA T0 (fun _:Nat=>⟨tmp 85 [(1,aQ text),(2,.ptr 0 0),(5,aU),(6,i64 11),(9,i64 0),(10,i64 0)],⟨1,[(0,.cells (dbC d) true)]⟩⟩) (fun _=>True) (fun _=>0) 0 trivial ?_ ?_
   ·exact Lf.of2 [(0,_)] [] enA (by repeat(first|exact Bxs.nil|refine Bxs.cons rfl rfl rfl (by first|exact Rb.cells (Rds.same (aa d)) rfl|exact rbB|exact Rb.cells bk rfl|exact rbC|fail) ?_)) rfl rfl
   intro k _;repeat' ((conv=>whnf)<;>(first|exact kQ|(refine Br.mk (fun _=>?_) (fun _=>?_)<;>(try(exfalso;omega)))|refine stq ?_))
   refine aE.go aA T0 ?_;repeat' ((conv=>whnf)<;>(first|exact kQ|(refine Br.mk (fun _=>?_) (fun _=>?_)<;>(try(exfalso;omega)))|refine stq ?_))
   refine aE.go aA T0 ?_;repeat' ((conv=>whnf)<;>(first|exact kQ|(refine Br.mk (fun _=>?_) (fun _=>?_)<;>(try(exfalso;omega)))|refine stq ?_))
   refine aE.weak aA T0 (s0:=⟨tmp 85 [(1,aQ text),(2,.ptr 0 0),(6,i64 11)],⟨1,[(0,.cells (dbC (noW d)) true)]⟩⟩) ?_ ?_
   ·exact Lf.of2 [(0,_)] [5] enA (by repeat(first|exact Bxs.nil|refine Bxs.cons rfl rfl rfl (by first|exact Rb.cells (by(repeat(first|exact Rds.nil|refine Rds.cons (by first|exact Rd.same rfl|exact Rd.same (aG _)|exact Rd.same (aJ _)|exact Rd.same (aP _)|exact Rd.same (aO _)|exact Rd.frzT rfl rfl rfl rfl rfl|exact Rd.nil|fail) ?_|fail));(first|done|fail)) rfl|exact rbB|exact Rb.cells bk rfl|exact rbC|fail) ?_)) rfl rfl
   rcases hx0 with rfl|rfl
   all_goals
    repeat' ((conv=>whnf)<;>(first|refine aE.go aA T0 ?_|exact kQ|(refine Br.mk (fun _=>?_) (fun _=>?_)<;>(try(exfalso;omega)))|refine stq ?_|refine Cll.pu (hL) ?_|refine aW.pu (hL) ?_|refine Cll.pu (hal) ?_|refine aW.pu (hal) ?_))
    all_goals(conv=>whnf)
    exact aN.same rfl rfl
 ·have hF:=tG (text:=text) ho hf;refine Pu.of_v aA T0 Tryz.func11 rfl rfl (by simp[aH,aC,aG,aJ,aP,aO,aD]) ?_;repeat' ((conv=>whnf)<;>(first|refine aE.go aA T0 ?_|exact kQ|(refine Br.mk (fun _=>?_) (fun _=>?_)<;>(try(exfalso;omega)))|refine stq ?_|refine Cll.pu (hF) ?_|refine aW.pu (hF) ?_|refine Cll.pu (hal) ?_|refine aW.pu (hal) ?_))
  all_goals(conv=>whnf)
  exact aN.same rfl rfl
end
end Go.Proofs.YtjpgpihbhicinaaGreatDoor
