/-
  The specification of layer 33, over data: classes, boundaries and ranges by the rules are the program's.
-/
import Derived.Test.YtjpgpihbhicinaaGreatDoorL6
import Derived.Test.YtjpgpihbhicinaaGreatDoorV0
import Derived.Test.YtjpgpihbhicinaaGreatDoorX1
set_option linter.unusedSectionVars false
namespace Go.Proofs.YtjpgpihbhicinaaGreatDoor
section
open Go Go.Am Classical
set_option maxRecDepth 100000
theorem oQ (cl:List Str) (rs:List Rul):aJ (.agg [strs cl,lstS cX rs])=true:=by
 letI:=gtR;simp[aJ,aB,aE,bG]
theorem yU {g:FuncId}{ds:List D}{d:D}(hn:aB ds=true) (h:iy gtR Tryz.prog (iB Tryz.prog) spC 1000 (.fn g) ds .emp 0 (fun d1 h1 _=>fD h1 100000 d1 d)=true):@Pu gtR Tryz.prog g ds d:=by
 letI:=gtR;exact Pu.of_t aA T0 jD hn h
structure RK (k:Nat) (cl:List Str) (rs:List Rul) (t:Tbl):Prop where
 kind:k=1∨k=2∨k=3∨k=4
 rcls:@Pu gtR Tryz.prog 56 [i64 (k:Int)] (strs cl)
 rpa:@Pu gtR Tryz.prog 33 [i64 (k:Int)] (.agg [strs cl,lstS cX rs])
 cls:t.classes=cl
 len:cl.length<=100
 tv:TV t
 dec:∀ {l:List Int},CL l cl.length->l.length<=1000->∀ j:Nat,j<=l.length->∃ i:Int,@Pu gtR Tryz.prog 35 [.agg [strs cl,lstS cX rs],aQ l,i64 (j:Int)] (.tup [i64 ((acts t l).getD j 0),i64 i])
theorem Ba {d:Db}{k:Int}(ho:d.ok) (hs:SmD d) (hv:DbV d) (hk:1<=k∧k<=4):@Pu gtR Tryz.prog 32 [dbD d,i64 k] (i64 0):=by
  letI:=gtR;obtain⟨e,he,hi⟩:=px ho hs;obtain rfl:=hi.2 hv;refine Pu.of_v aA T0 Tryz.func32 rfl rfl (by simp[aJ,aB,aE,aG,aN,aK]) ?_;repeat' ((conv=>whnf)<;>(first|refine sg ?_|exact kQ|(refine Br.mk ?_ ?_<;>intro _<;>try(exfalso;omega))|refine stq ?_|refine Cll.pu (he) ?_))
  all_goals(conv=>whnf)
  all_goals exact aI.same rfl rfl
theorem u3 {d:Db}{k:Int}(ho:d.ok) (hs:SmD d) (hv:¬DbV d):@Pu gtR Tryz.prog 32 [dbD d,i64 k] (i64 11):=by
  letI:=gtR;obtain⟨e,he,hi⟩:=px ho hs;have h0:e≠0:=fun h=>hv (hi.1 h)
  refine Pu.of_v aA T0 Tryz.func32 rfl rfl (by simp[aJ,aB,aE,aG,aN,aK]) ?_;repeat' ((conv=>whnf)<;>(first|refine sg ?_|exact kQ|(refine Br.mk ?_ ?_<;>intro _<;>try(exfalso;omega))|refine stq ?_|refine Cll.pu (he) ?_))
  all_goals(conv=>whnf)
  all_goals exact aI.same rfl rfl
theorem BW {d:Db}{k:Nat}(hk:k=1∨k=2∨k=3∨k=4):@Pu gtR Tryz.prog 59 [dbD d,i64 (k:Int)] (du (prop d (k+2))):=by
 letI:=gtR;have hn:=lB (prop d (k+2));rcases hk with rfl|rfl|rfl|rfl
 all_goals
  refine Pu.of_v aA T0 Tryz.func59 rfl rfl (by simp[aJ,aB,aE,aG,aN,aK]) ?_;repeat' ((conv=>whnf)<;>(first|refine sg ?_|exact kQ|(refine Br.mk ?_ ?_<;>intro _<;>try(exfalso;omega))|refine stq ?_))
  all_goals(conv=>whnf)
  exact⟨Rd.eqd rfl hn⟩
theorem ED {d:Db}{k:Nat}{cl:List Str}{rs:List Rul}{t:Tbl}{c:Int}(R:RK k cl rs t) (ho:d.ok):@Pu gtR Tryz.prog 34 [dbD d,i64 (k:Int),i64 c] (i64 (iK cl (mw (prop d (k+2)) c))):=by
 letI:=gtR;have hp:=BW (d:=d) R.kind;have hn:=name_c (c:=c) (ho.prop (k+2));have hc:=R.rcls;have hl:=R.len;generalize mw (prop d (k+2)) c=s at *;generalize cl=l at *;refine Pu.of_v aA T0 Tryz.func34 rfl rfl (by simp[aJ,aB,aE,aG,aN,aK]) ?_;repeat' ((conv=>whnf)<;>(first|refine sg ?_|exact kQ|(refine Br.mk ?_ ?_<;>intro _<;>try(exfalso;omega))|refine stq ?_|refine Cll.pu (hp) ?_|refine aO.pu (hp) ?_|refine Cll.pu (hn) ?_|refine aO.pu (hn) ?_|refine Cll.pu (hc) ?_|refine aO.pu (hc) ?_|fail))
 refine aU.by aA T0 (fun j:Nat=>⟨tmp 30 [(7,.str s),(8,strs l),(9,i64 (j:Int))],⟨0,[]⟩⟩)
  (fun j=>j<=l.length∧¬s∈l.take j) (fun j=>l.length-j) 0 ⟨by omega,by simp⟩ ?_ ?_
 ·exact Lf.of2 [] [] enA bxA rfl rfl
 intro j ⟨h3,h4⟩;repeat' ((conv=>whnf)<;>(first|refine sg ?_|exact kQ|(refine Br.mk ?_ ?_<;>intro _<;>try(exfalso;omega))|refine stq ?_))
 all_goals(conv=>whnf)
 all_goals first
  | exact aI.int (CX (by omega) (by assumption) h4).symm
  | exact aI.int (by rw[kE (by omega)] at h4;simp[iK,h4])
  | (refine⟨j+1,⟨by omega,by rw[ba (by omega)];simp only[List.mem_append,List.mem_singleton,not_or];exact⟨h4,fun e=>by simp_all⟩⟩,by omega,?_⟩
     exact Lf.of2 [] [] enA bxA rfl rfl)
set_option maxHeartbeats 8000000 in
theorem Be {d:Db}{k:Nat}{cl:List Str}{rs:List Rul}{t:Tbl}{text:List Int}(g:Good d) (R:RK k cl rs t) (hx:text.length<=900):@Pk gtR Tryz.prog 15 [dbD d,i64 (k:Int),aQ text] 1 (fun n=>.tup [ai n 1 (xq (prop d (k+2)) t text),i64 0]) (fun n=>cW n (fun x=>[i64 x]) (xq (prop d (k+2)) t text)):=by
 letI:=gtR;have hchk:=Ba g.ok g.sm g.va (k:=(k:Int)) (by have:=R.kind;omega);have hR:=R.rpa;have hC:∀ j (h:j<text.length),Pu Tryz.prog 34 [dbD d,i64 (k:Int),i64 text[j]] (i64 (iK cl (mw (prop d (k+2)) text[j]))):=fun j h=>ED R g.ok
 have hCL:CL (bm (prop d (k+2)) cl text) cl.length:=by have:=vM (p:=prop d (k+2)) (text:=text) R.tv;rwa [R.cls] at this
 have hnl:(bm (prop d (k+2)) cl text).length=text.length:=by simp[bm]
 have hD:=fun j (hj:j<=text.length)=>R.dec hCL (by omega) j (by omega)
 have hE:kn (prop d (k+2)) t text=acts t (bm (prop d (k+2)) cl text):=by rw[kn,if_pos R.tv,R.cls]
 have hAl:(acts t (bm (prop d (k+2)) cl text)).length=text.length+1:=by rw[ge,hnl]
 unfold xq;rw[hE];clear hE;generalize hAe:acts t (bm (prop d (k+2)) cl text)=A at *;have hE:=hAe;have hns:∀ j (h:j<text.length),bm (prop d (k+2)) cl (text.take (j+1))=bm (prop d (k+2)) cl (text.take j)++[iK cl (mw (prop d (k+2)) text[j])]:=fun j h=>vN h
 refine Pk.of_v aA T0 Tryz.func15 rfl rfl (by simp[aJ,aB,aE,aG,aN,aK,aF]) ?_;repeat' ((conv=>whnf)<;>(first|refine sg ?_|exact kQ|(refine Br.mk ?_ ?_<;>intro _<;>try(exfalso;omega))|refine stq ?_|refine Cll.pu (hchk) ?_|refine aO.pu (hchk) ?_|refine Cll.pu (hR) ?_|refine aO.pu (hR) ?_|fail))
 refine aU.by2 aA T0 (fun(j:Nat) (o:List Int)=>⟨tmp 60 [(1,i64 (k:Int)),(2,aQ text),(3,.ptr 0 0),(9,.ptr 1 0),(10,ai 2 1 o),(11,aT),(12,i64 (j:Int))],⟨3,cW 2 (fun x=>[i64 x]) o++[(1,.cells [strs cl,lstS cX rs] true),(0,.cells (dbC d) true)]⟩⟩)
  (fun j o=>j<=text.length∧o=bm (prop d (k+2)) cl (text.take j)) (fun j _=>text.length-j) 0 [] ⟨by omega,rfl⟩ ?_ ?_
 ·exact Lf.of2 [(0,_),(1,_)] [] enA (by repeat(first|exact Bxs.nil|refine Bxs.cons rfl rfl rfl (by first|exact Rb.cells (Rds.same (bv _ _)) rfl|exact Rb.cells (Rds.same (ae d)) rfl|exact rbB|exact Rb.cells bK rfl|exact rbC|fail) ?_)) rfl rfl
 intro j o ⟨h3,h4⟩;have hol:o.length=j:=by rw[h4];simp[bm];omega
 by_cases hj:j<text.length
 ·have hc:=hC j hj;have hs2:=hns j hj;rw[<-h4] at hs2;cases o with
  | nil=>
   repeat' ((conv=>whnf)<;>(first|refine sg ?_|exact kQ|(refine Br.mk ?_ ?_<;>intro _<;>try(exfalso;omega))|refine stq ?_|refine bJ.by aA T0 [0,0,0,0,0,24,56,126,254,511,1023] (by kernel_rfl) ?_|refine aO.pu hc ?_|fail))
   all_goals(conv=>whnf)
   refine⟨j+1,_,⟨by omega,hs2.symm⟩,by omega,?_⟩;exact Lf.of2 [(0,_),(1,_),(2,_)] [] enA (by repeat(first|exact Bxs.nil|refine Bxs.cons rfl rfl rfl (by first|exact Rb.cells (Rds.same (bv _ _)) rfl|exact Rb.cells (Rds.same (ae d)) rfl|exact rbB|exact Rb.cells bK rfl|exact rbC|fail) ?_)) rfl rfl
  | cons x xs=>
   have hlen:(x::xs).length<=1001:=by omega
   repeat' ((conv=>whnf)<;>(first|refine sg ?_|exact kQ|(refine Br.mk ?_ ?_<;>intro _<;>try(exfalso;omega))|refine stq ?_|refine bJ.by aA T0 [0,0,0,0,0,24,56,126,254,511,1023] (by kernel_rfl) ?_|refine aO.pu hc ?_|fail))
   all_goals(conv=>whnf)
   refine⟨j+1,_,⟨by omega,hs2.symm⟩,by omega,?_⟩;exact Lf.of2 [(0,_),(1,_),(2,_)] [] (by repeat(first|exact aM.nil|refine aM.cons rfl (by first|exact Rd.sl' rfl (by simp) (by simp)|exact rdA|fail) ?_)) (by repeat(first|exact Bxs.nil|refine Bxs.cons rfl rfl rfl (by first|exact Rb.cells (Rds.eqs (ak (by intro _;rfl) (x::xs) _) (aD (by intro _;rfl) _)) rfl|exact Rb.cells (Rds.same (bv _ _)) rfl|exact Rb.cells (Rds.same (ae d)) rfl|exact rbB|exact Rb.cells (by(repeat(first|exact Rds.nil|refine Rds.cons (by first|exact Rd.sl' rfl (by simp) (by simp)|exact rdA|fail) ?_|fail));(first|done|fail)) rfl|exact rbC|fail) ?_)) rfl rfl
 cases o with
 | nil=>
  repeat' ((conv=>whnf)<;>(first|refine sg ?_|exact kQ|(refine Br.mk ?_ ?_<;>intro _<;>try(exfalso;omega))|refine stq ?_|fail))
  rw[show bm (prop d (k+2)) cl text=([]:List Int) from by rw[h4,kE (by omega)]] at hD
  refine aU.by2 aA T0 (fun(j:Nat) (u:List Int)=>⟨tmp 60 [(9,.ptr 0 0),(10,aQ (([]:List Int))),(11,ai 1 1 u),(13,i64 (j:Int))],⟨2,cW 1 (fun x=>[i64 x]) u++[(0,.cells [strs cl,lstS cX rs] true)]⟩⟩)
   (fun j u=>j<=A.length∧u=ends A j) (fun j _=>A.length-j) 0 [] ⟨by omega,rfl⟩ ?_ ?_
  ·exact Lf.of2 [(0,_)] [2] (by repeat(first|exact aM.nil|refine aM.cons rfl (by first|exact Rd.nil|exact rdA|fail) ?_)) (by repeat(first|exact Bxs.nil|refine Bxs.cons rfl rfl rfl (by first|exact Rb.cells (Rds.same (bv _ _)) rfl|exact rbB|exact Rb.cells (by(repeat(first|exact Rds.nil|refine Rds.cons (by first|exact Rd.nil|exact rdA|fail) ?_|fail));(first|done|fail)) rfl|exact rbC|fail) ?_)) rfl rfl
  intro j u ⟨h5,h6⟩;have hul:u.length<=j:=by rw[h6];exact qi
  by_cases hj:j<A.length
  ·obtain⟨i,hq⟩:=hD j (by omega);rw[aX hj] at hq;cases u with
   | nil=>
    repeat' ((conv=>whnf)<;>(first|refine sg ?_|exact kQ|(refine Br.mk ?_ ?_<;>intro _<;>try(exfalso;omega))|refine stq ?_|refine Cll.pu hq ?_|fail))
    all_goals(conv=>whnf)
    all_goals first
     | (refine⟨j+1,[],⟨by omega,by rw[pI hj (by omega)];exact h6⟩,by omega,?_⟩
        exact Lf.of2 [(0,_)] [] enA (by(repeat(first|exact Bxs.nil|refine Bxs.cons rfl rfl rfl (by first|exact Rb.cells (Rds.same (bv _ _)) rfl|exact rbB|exact Rb.cells bK rfl|exact rbC|fail) ?_|fail));(first|done|fail)) rfl rfl)
     | (refine⟨j+1,_,⟨by omega,by rw[nI hj (by omega),<-h6]⟩,by omega,?_⟩
        exact Lf.of2 [(0,_),(1,_)] [] enA (by(repeat(first|exact Bxs.nil|refine Bxs.cons rfl rfl rfl (by first|exact Rb.cells (Rds.same (bv _ _)) rfl|exact rbB|exact Rb.cells bK rfl|exact rbC|fail) ?_|fail));(first|done|fail)) rfl rfl)
   | cons y ys=>
    have hlen2:(y::ys).length<=1001:=by omega
    repeat' ((conv=>whnf)<;>(first|refine sg ?_|exact kQ|(refine Br.mk ?_ ?_<;>intro _<;>try(exfalso;omega))|refine stq ?_|refine Cll.pu hq ?_|fail))
    all_goals(conv=>whnf)
    all_goals first
     | (refine⟨j+1,y::ys,⟨by omega,by rw[pI hj (by omega)];exact h6⟩,by omega,?_⟩
        exact Lf.of2 [(0,_),(1,_)] [] enA (by(repeat(first|exact Bxs.nil|refine Bxs.cons rfl rfl rfl (by first|exact Rb.cells (Rds.same (bv _ _)) rfl|exact rbB|exact Rb.cells bK rfl|exact rbC|fail) ?_|fail));(first|done|fail)) rfl rfl)
     | (refine⟨j+1,_,⟨by omega,by rw[nI hj (by omega),<-h6]⟩,by omega,?_⟩
        exact Lf.of2 [(0,_),(1,_)] [] (by(repeat(first|exact aM.nil|refine aM.cons rfl (by first|exact Rd.sl' rfl (by simp) (by simp)|exact rdA|fail) ?_|fail));(first|done|fail)) (by(repeat(first|exact Bxs.nil|refine Bxs.cons rfl rfl rfl (by first|exact Rb.cells (Rds.eqs (ak (by intro _;rfl) (y::ys) _) (aD (by intro _;rfl) _)) rfl|exact Rb.cells (Rds.same (bv _ _)) rfl|exact rbB|exact Rb.cells (by(repeat(first|exact Rds.nil|refine Rds.cons (by first|exact Rd.sl' rfl (by simp) (by simp)|exact rdA|fail) ?_|fail));(first|done|fail)) rfl|exact rbC|fail) ?_|fail));(first|done|fail)) rfl rfl)
  obtain rfl:j=A.length:=by omega
  rw[<-h6];cases u with
  | nil=>
   repeat' ((conv=>whnf)<;>(first|refine sg ?_|exact kQ|(refine Br.mk ?_ ?_<;>intro _<;>try(exfalso;omega))|refine stq ?_))
   all_goals(conv=>whnf)
   exact⟨[0],rfl,⟨by simp,fun n=>.tup (.cons (.same rfl) (.cons (.same rfl) .nil)),fun n=>.nil⟩⟩
  | cons y ys=>
   repeat' ((conv=>whnf)<;>(first|refine sg ?_|exact kQ|(refine Br.mk ?_ ?_<;>intro _<;>try(exfalso;omega))|refine stq ?_))
   all_goals(conv=>whnf)
   exact⟨[1],rfl,⟨by simp,fun n=>.tup (.cons (Rd.own (by simp) (by simp[sgn]) rfl rfl) (.cons (.same rfl) .nil)),fun n=>.cons (id:=1) (by simp[sgn]) rfl rfl (Rb.cells (Rds.same (aD (fun _=>rfl) _)) rfl) .nil⟩⟩
 | cons x xs=>
  repeat' ((conv=>whnf)<;>(first|refine sg ?_|exact kQ|(refine Br.mk ?_ ?_<;>intro _<;>try(exfalso;omega))|refine stq ?_|fail))
  rw[show bm (prop d (k+2)) cl text=x::xs from by rw[h4,kE (by omega)]] at hD
  refine aU.by2 aA T0 (fun(j:Nat) (u:List Int)=>⟨tmp 60 [(9,.ptr 0 0),(10,aQ (x::xs)),(11,ai 1 1 u),(13,i64 (j:Int))],⟨2,cW 1 (fun x=>[i64 x]) u++[(0,.cells [strs cl,lstS cX rs] true)]⟩⟩)
   (fun j u=>j<=A.length∧u=ends A j) (fun j _=>A.length-j) 0 [] ⟨by omega,rfl⟩ ?_ ?_
  ·exact Lf.of2 [(0,_)] [2] (by repeat(first|exact aM.nil|refine aM.cons rfl (by first|exact cz (b:=x::xs) rfl rfl (ac _) rfl|exact rdA|fail) ?_)) (by repeat(first|exact Bxs.nil|refine Bxs.cons rfl rfl rfl (by first|exact Rb.cells (Rds.same (bv _ _)) rfl|exact rbB|exact Rb.cells (by(repeat(first|exact Rds.nil|refine Rds.cons (by first|exact cz (b:=x::xs) rfl rfl (ac _) rfl|exact rdA|fail) ?_|fail));(first|done|fail)) rfl|exact rbC|fail) ?_)) rfl rfl
  intro j u ⟨h5,h6⟩;have hul:u.length<=j:=by rw[h6];exact qi
  by_cases hj:j<A.length
  ·obtain⟨i,hq⟩:=hD j (by omega);rw[aX hj] at hq;cases u with
   | nil=>
    repeat' ((conv=>whnf)<;>(first|refine sg ?_|exact kQ|(refine Br.mk ?_ ?_<;>intro _<;>try(exfalso;omega))|refine stq ?_|refine Cll.pu hq ?_|fail))
    all_goals(conv=>whnf)
    all_goals first
     | (refine⟨j+1,[],⟨by omega,by rw[pI hj (by omega)];exact h6⟩,by omega,?_⟩
        exact Lf.of2 [(0,_)] [] enA (by(repeat(first|exact Bxs.nil|refine Bxs.cons rfl rfl rfl (by first|exact Rb.cells (Rds.same (bv _ _)) rfl|exact rbB|exact Rb.cells bK rfl|exact rbC|fail) ?_|fail));(first|done|fail)) rfl rfl)
     | (refine⟨j+1,_,⟨by omega,by rw[nI hj (by omega),<-h6]⟩,by omega,?_⟩
        exact Lf.of2 [(0,_),(1,_)] [] enA (by(repeat(first|exact Bxs.nil|refine Bxs.cons rfl rfl rfl (by first|exact Rb.cells (Rds.same (bv _ _)) rfl|exact rbB|exact Rb.cells bK rfl|exact rbC|fail) ?_|fail));(first|done|fail)) rfl rfl)
   | cons y ys=>
    have hlen2:(y::ys).length<=1001:=by omega
    repeat' ((conv=>whnf)<;>(first|refine sg ?_|exact kQ|(refine Br.mk ?_ ?_<;>intro _<;>try(exfalso;omega))|refine stq ?_|refine Cll.pu hq ?_|fail))
    all_goals(conv=>whnf)
    all_goals first
     | (refine⟨j+1,y::ys,⟨by omega,by rw[pI hj (by omega)];exact h6⟩,by omega,?_⟩
        exact Lf.of2 [(0,_),(1,_)] [] enA (by(repeat(first|exact Bxs.nil|refine Bxs.cons rfl rfl rfl (by first|exact Rb.cells (Rds.same (bv _ _)) rfl|exact rbB|exact Rb.cells bK rfl|exact rbC|fail) ?_|fail));(first|done|fail)) rfl rfl)
     | (refine⟨j+1,_,⟨by omega,by rw[nI hj (by omega),<-h6]⟩,by omega,?_⟩
        exact Lf.of2 [(0,_),(1,_)] [] (by(repeat(first|exact aM.nil|refine aM.cons rfl (by first|exact Rd.sl' rfl (by simp) (by simp)|exact rdA|fail) ?_|fail));(first|done|fail)) (by(repeat(first|exact Bxs.nil|refine Bxs.cons rfl rfl rfl (by first|exact Rb.cells (Rds.eqs (ak (by intro _;rfl) (y::ys) _) (aD (by intro _;rfl) _)) rfl|exact Rb.cells (Rds.same (bv _ _)) rfl|exact rbB|exact Rb.cells (by(repeat(first|exact Rds.nil|refine Rds.cons (by first|exact Rd.sl' rfl (by simp) (by simp)|exact rdA|fail) ?_|fail));(first|done|fail)) rfl|exact rbC|fail) ?_|fail));(first|done|fail)) rfl rfl)
  obtain rfl:j=A.length:=by omega
  rw[<-h6];cases u with
  | nil=>
   repeat' ((conv=>whnf)<;>(first|refine sg ?_|exact kQ|(refine Br.mk ?_ ?_<;>intro _<;>try(exfalso;omega))|refine stq ?_))
   all_goals(conv=>whnf)
   exact⟨[0],rfl,⟨by simp,fun n=>.tup (.cons (.same rfl) (.cons (.same rfl) .nil)),fun n=>.nil⟩⟩
  | cons y ys=>
   repeat' ((conv=>whnf)<;>(first|refine sg ?_|exact kQ|(refine Br.mk ?_ ?_<;>intro _<;>try(exfalso;omega))|refine stq ?_))
   all_goals(conv=>whnf)
   exact⟨[1],rfl,⟨by simp,fun n=>.tup (.cons (Rd.own (by simp) (by simp[sgn]) rfl rfl) (.cons (.same rfl) .nil)),fun n=>.cons (id:=1) (by simp[sgn]) rfl rfl (Rb.cells (Rds.same (aD (fun _=>rfl) _)) rfl) .nil⟩⟩
end
section
open Go Go.Am Classical
set_option maxRecDepth 100000
theorem Fi [GT] {h:aC}{fz:Nat->Bool}{σ:Nat->Option Nat}{id n cap:Nat}{b:List Rng}{cs:List D}{ex bx:Bool}(hf:fz id=true) (hg:h.get id=some (.cells cs bx)) (ec:cs=b.flatMap cU) (e:n=b.length):Rd h fz σ (.sl id 0 n cap 2 ex) (bc b):=by
 subst e;subst ec;refine .frz hf hg (by rw[aq (sz:=2) (fun _=>rfl)];omega) (.eqs ?_ (aD (fun _=>rfl) _));rw[List.drop_zero,kE (by rw[aq (sz:=2) (fun _=>rfl)];exact kP _)]
theorem qu (l m:List Int):((l.flatMap fun x=>[i64 x]).drop 0).take (l.length*1)++m.map i64=(l++m).map i64:=by
 rw[ac,List.drop_zero,Nat.mul_one,kE (by simp),List.map_append]
set_option maxHeartbeats 8000000 in
theorem EH {d:Db}{k:Int}{E text:List Int}(hB:@Pk gtR Tryz.prog 15 [dbD d,i64 k,aQ text] 1 (fun n=>.tup [ai n 1 E,i64 0]) (fun n=>cW n (fun x=>[i64 x]) E)) (_hx:text.length<=900) (hE:E.length<=1001):@Pu gtR Tryz.prog 18 [dbD d,i64 k,aQ text] (.tup [bc (btw 0 (E++[(text.length:Int)])),i64 0]):=by
 letI:=gtR;obtain⟨F,hFe⟩:∃ F,F=E++[(text.length:Int)]:=⟨_,rfl⟩;have hFl:F.length=E.length+1:=by rw[hFe];simp
 rw[<-hFe];refine Pu.of_v aA T0 Tryz.func18 rfl rfl (by simp[aJ,aB,aE,aG,aN,aK,aF]) ?_;cases E with
 | nil=>
  repeat' ((conv=>whnf)<;>(first|refine sg ?_|exact kQ|(refine Br.mk ?_ ?_<;>intro _<;>try(exfalso;omega))|refine stq ?_|refine Cll.pk hB ?_|fail))
  refine aU.by3 aA T0 (fun(j:Nat) (s:Int) (o:List Rng)=>⟨tmp 54 [(8,aQ F),(10,ai 0 2 o),(11,i64 s),(12,i64 (j:Int))],⟨1,cW 0 cU o⟩⟩)
   (fun j s o=>(j<=F.length∧o.length<=j)∧btw 0 F=o++btw s (F.drop j)) (fun j _ _=>F.length-j) 0 0 [] ⟨⟨by omega,by simp⟩,rfl⟩ ?_ ?_
  ·exact Lf.of2 [] [19] (by repeat(first|exact aM.nil|refine aM.cons rfl (by first|exact cz rfl rfl (by rw[hFe];rfl) (by rw[hFe];simp)|exact rdA|fail) ?_)) (by repeat(first|exact Bxs.nil|refine Bxs.cons rfl rfl rfl (by first|exact rbB|exact Rb.cells (by(repeat(first|exact Rds.nil|refine Rds.cons (by first|exact cz rfl rfl (by rw[hFe];rfl) (by rw[hFe];simp)|exact rdA|fail) ?_|fail));(first|done|fail)) rfl|exact rbC|fail) ?_)) rfl rfl
  intro j s o ⟨⟨h3,h5⟩,h4⟩;by_cases hj:j<F.length
  ·have hd:F.drop j=F[j]::F.drop (j+1):=kK hj;cases o with
   | nil=>
    repeat' ((conv=>whnf)<;>(first|refine sg ?_|exact kQ|(refine Br.mk ?_ ?_<;>intro _<;>try(exfalso;omega))|refine stq ?_))
    all_goals(conv=>whnf)
    all_goals first
     | (refine⟨j+1,s,[],⟨⟨by omega,by simp⟩,by rw[h4,hd,nz (by omega)]⟩,by omega,?_⟩
        exact Lf.of2 [] [] enA bxA rfl rfl)
     | (refine⟨j+1,F[j],[⟨s,F[j]⟩],⟨⟨by omega,by simp⟩,by rw[h4,hd,lO (by omega)];rfl⟩,by omega,?_⟩
        exact Lf.of2 [(0,_)] [] enA bxA rfl rfl)
   | cons x xs=>
    have hlen:(x::xs).length<=1001:=by omega
    repeat' ((conv=>whnf)<;>(first|refine sg ?_|exact kQ|(refine Br.mk ?_ ?_<;>intro _<;>try(exfalso;omega))|refine stq ?_))
    all_goals(conv=>whnf)
    all_goals first
     | (refine⟨j+1,s,x::xs,⟨⟨by omega,by omega⟩,by rw[h4,hd,nz (by omega)]⟩,by omega,?_⟩
        exact Lf.of2 [(0,_)] [] enA bxA rfl rfl)
     | (refine⟨j+1,F[j],(x::xs)++[⟨s,F[j]⟩],⟨⟨by omega,by simp at h5 ⊢;omega⟩,by rw[h4,hd,lO (by omega),List.append_assoc];rfl⟩,by omega,?_⟩
        exact Lf.of2 [(0,_)] [] (by(repeat(first|exact aM.nil|refine aM.cons rfl (by first|exact Rd.sl' rfl (by simp) (by simp)|exact rdA|fail) ?_|fail));(first|done|fail)) (by(repeat(first|exact Bxs.nil|refine Bxs.cons rfl rfl rfl (by first|exact Rb.cells (Rds.eqs (ak (c:=cU) (sz:=2) (by intro _;rfl) (x::xs) (⟨s,F[j]⟩:Rng)) (aD (by intro _;rfl) _)) rfl|exact rbB|exact Rb.cells (by(repeat(first|exact Rds.nil|refine Rds.cons (by first|exact Rd.sl' rfl (by simp) (by simp)|exact rdA|fail) ?_|fail));(first|done|fail)) rfl|exact rbC|fail) ?_|fail));(first|done|fail)) rfl rfl)
  have h6:btw 0 F=o:=by rw[h4,List.drop_of_length_le (by omega)];simp[btw]
  rw[h6];cases o with
  | nil=>
   repeat' ((conv=>whnf)<;>(first|refine sg ?_|exact kQ|(refine Br.mk ?_ ?_<;>intro _<;>try(exfalso;omega))|refine stq ?_))
   all_goals(conv=>whnf)
   exact⟨.tup (.cons .nil (.cons (.same rfl) .nil))⟩
  | cons x xs=>
   repeat' ((conv=>whnf)<;>(first|refine sg ?_|exact kQ|(refine Br.mk ?_ ?_<;>intro _<;>try(exfalso;omega))|refine stq ?_))
   all_goals(conv=>whnf)
   exact⟨.tup (.cons (Fi (b:=x::xs) rfl rfl rfl rfl) (.cons (.same rfl) .nil))⟩
 | cons x xs=>
  have hlen:(x::xs).length<=1001:=by omega
  repeat' ((conv=>whnf)<;>(first|refine sg ?_|exact kQ|(refine Br.mk ?_ ?_<;>intro _<;>try(exfalso;omega))|refine stq ?_|refine Cll.pk hB ?_|fail))
  refine aU.by3 aA T0 (fun(j:Nat) (s:Int) (o:List Rng)=>⟨tmp 54 [(8,aQ F),(10,ai 0 2 o),(11,i64 s),(12,i64 (j:Int))],⟨1,cW 0 cU o⟩⟩)
   (fun j s o=>(j<=F.length∧o.length<=j)∧btw 0 F=o++btw s (F.drop j)) (fun j _ _=>F.length-j) 0 0 [] ⟨⟨by omega,by simp⟩,rfl⟩ ?_ ?_
  ·exact Lf.of2 [] [19] (by repeat(first|exact aM.nil|refine aM.cons rfl (by first|exact cz rfl rfl (by rw[hFe];exact qu (x::xs) [_]) (by rw[hFe];simp)|exact rdA|fail) ?_)) (by repeat(first|exact Bxs.nil|refine Bxs.cons rfl rfl rfl (by first|exact rbB|exact Rb.cells (by(repeat(first|exact Rds.nil|refine Rds.cons (by first|exact cz rfl rfl (by rw[hFe];exact qu (x::xs) [_]) (by rw[hFe];simp)|exact rdA|fail) ?_|fail));(first|done|fail)) rfl|exact rbC|fail) ?_)) rfl rfl
  intro j s o ⟨⟨h3,h5⟩,h4⟩;by_cases hj:j<F.length
  ·have hd:F.drop j=F[j]::F.drop (j+1):=kK hj;cases o with
   | nil=>
    repeat' ((conv=>whnf)<;>(first|refine sg ?_|exact kQ|(refine Br.mk ?_ ?_<;>intro _<;>try(exfalso;omega))|refine stq ?_))
    all_goals(conv=>whnf)
    all_goals first
     | (refine⟨j+1,s,[],⟨⟨by omega,by simp⟩,by rw[h4,hd,nz (by omega)]⟩,by omega,?_⟩
        exact Lf.of2 [] [] enA bxA rfl rfl)
     | (refine⟨j+1,F[j],[⟨s,F[j]⟩],⟨⟨by omega,by simp⟩,by rw[h4,hd,lO (by omega)];rfl⟩,by omega,?_⟩
        exact Lf.of2 [(0,_)] [] enA bxA rfl rfl)
   | cons x xs=>
    have hlen:(x::xs).length<=1001:=by omega
    repeat' ((conv=>whnf)<;>(first|refine sg ?_|exact kQ|(refine Br.mk ?_ ?_<;>intro _<;>try(exfalso;omega))|refine stq ?_))
    all_goals(conv=>whnf)
    all_goals first
     | (refine⟨j+1,s,x::xs,⟨⟨by omega,by omega⟩,by rw[h4,hd,nz (by omega)]⟩,by omega,?_⟩
        exact Lf.of2 [(0,_)] [] enA bxA rfl rfl)
     | (refine⟨j+1,F[j],(x::xs)++[⟨s,F[j]⟩],⟨⟨by omega,by simp at h5 ⊢;omega⟩,by rw[h4,hd,lO (by omega),List.append_assoc];rfl⟩,by omega,?_⟩
        exact Lf.of2 [(0,_)] [] (by(repeat(first|exact aM.nil|refine aM.cons rfl (by first|exact Rd.sl' rfl (by simp) (by simp)|exact rdA|fail) ?_|fail));(first|done|fail)) (by(repeat(first|exact Bxs.nil|refine Bxs.cons rfl rfl rfl (by first|exact Rb.cells (Rds.eqs (ak (c:=cU) (sz:=2) (by intro _;rfl) (x::xs) (⟨s,F[j]⟩:Rng)) (aD (by intro _;rfl) _)) rfl|exact rbB|exact Rb.cells (by(repeat(first|exact Rds.nil|refine Rds.cons (by first|exact Rd.sl' rfl (by simp) (by simp)|exact rdA|fail) ?_|fail));(first|done|fail)) rfl|exact rbC|fail) ?_|fail));(first|done|fail)) rfl rfl)
  have h6:btw 0 F=o:=by rw[h4,List.drop_of_length_le (by omega)];simp[btw]
  rw[h6];cases o with
  | nil=>
   repeat' ((conv=>whnf)<;>(first|refine sg ?_|exact kQ|(refine Br.mk ?_ ?_<;>intro _<;>try(exfalso;omega))|refine stq ?_))
   all_goals(conv=>whnf)
   exact⟨.tup (.cons .nil (.cons (.same rfl) .nil))⟩
  | cons x xs=>
   repeat' ((conv=>whnf)<;>(first|refine sg ?_|exact kQ|(refine Br.mk ?_ ?_<;>intro _<;>try(exfalso;omega))|refine stq ?_))
   all_goals(conv=>whnf)
   exact⟨.tup (.cons (Fi (b:=x::xs) rfl rfl rfl rfl) (.cons (.same rfl) .nil))⟩
theorem u4 {d:Db}{k:Nat}{cl:List Str}{rs:List Rul}{t:Tbl}{text:List Int}(g:Good d) (R:RK k cl rs t) (hx:text.length<=900):@Pu gtR Tryz.prog 18 [dbD d,i64 (k:Int),aQ text] (.tup [bc (tQ (prop d (k+2)) t text),i64 0]):=by
 have h:=EH (Be g R hx) hx (@E9 gtR (prop d (k+2)) t text (by omega));rw[tQ,if_pos R.tv];exact h
theorem EI {d:Db}{k e:Int}{text:List Int}(h0:e≠0) (hc:@Pu gtR Tryz.prog 32 [dbD d,i64 k] (i64 e)):@Pu gtR Tryz.prog 15 [dbD d,i64 k,aQ text] (.tup [aT,i64 e]):=by
 letI:=gtR;refine Pu.of_v aA T0 Tryz.func15 rfl rfl (by simp[aJ,aB,aE,aG,aN,aK,aF]) ?_;repeat' ((conv=>whnf)<;>(first|refine sg ?_|exact kQ|(refine Br.mk ?_ ?_<;>intro _<;>try(exfalso;omega))|refine stq ?_|refine Cll.pu (hc) ?_|refine aO.pu (hc) ?_))
 all_goals(conv=>whnf)
 exact⟨Rd.eqd rfl rfl⟩
theorem yX {d:Db}{k e:Int}{text:List Int}(h0:e≠0) (hc:@Pu gtR Tryz.prog 32 [dbD d,i64 k] (i64 e)):@Pu gtR Tryz.prog 18 [dbD d,i64 k,aQ text] (.tup [aT,i64 e]):=by
 letI:=gtR;have hB:=EI (text:=text) h0 hc;refine Pu.of_v aA T0 Tryz.func18 rfl rfl (by simp[aJ,aB,aE,aG,aN,aK,aF]) ?_;repeat' ((conv=>whnf)<;>(first|refine sg ?_|exact kQ|(refine Br.mk ?_ ?_<;>intro _<;>try(exfalso;omega))|refine stq ?_|refine Cll.pu (hB) ?_|refine aO.pu (hB) ?_))
 all_goals(conv=>whnf)
 exact⟨Rd.eqd rfl rfl⟩
end
end Go.Proofs.YtjpgpihbhicinaaGreatDoor
