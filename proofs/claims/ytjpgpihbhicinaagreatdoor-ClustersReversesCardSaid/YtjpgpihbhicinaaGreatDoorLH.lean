/-
  The statement ClustersReverses over data.
-/
import Derived.Test.YtjpgpihbhicinaaGreatDoorLA
import Derived.Test.YtjpgpihbhicinaaGreatDoorLK1
set_option linter.unusedSectionVars false
namespace Go.Proofs.YtjpgpihbhicinaaGreatDoor
open Go Go.Am Classical
set_option maxRecDepth 100000
theorem EG {d:Db}{e:Int}{text:List Int}(hP:@Pu gtR Tryz.prog 18 [dbD d,i64 1,aQ text] (.tup [aT,i64 e])):@Pu gtR Tryz.prog 23 [dbD d,aQ text] (.tup [aT,i64 e]):=by
 letI:=gtR;refine Pu.of_v aA T0 Tryz.func23 rfl rfl (by simp[aJ,aB,aE,aG,aN,aK,aF]) ?_;repeat' ((conv=>whnf)<;>(first|refine sg ?_|exact kQ|(refine Br.mk ?_ ?_<;>intro _<;>try(exfalso;omega))|refine stq ?_|refine Cll.pu (hP) ?_|refine aO.pu (hP) ?_|fail))
 refine aU.by aA T0 (fun _:Nat=>⟨tmp 39 [(6,aT),(7,i64 e),(8,aT),(9,i64 (-1))],⟨0,[]⟩⟩) (fun _=>True) (fun _=>0) 0 trivial ?_ ?_
 ·exact Lf.of2 [] [] enA bxA rfl rfl
 intro k _;repeat' ((conv=>whnf)<;>(first|refine sg ?_|exact kQ|(refine Br.mk ?_ ?_<;>intro _<;>try(exfalso;omega))|refine stq ?_))
 all_goals(conv=>whnf)
 exact⟨Rd.eqd rfl rfl⟩
set_option maxHeartbeats 8000000 in
theorem Bd {d:Db}{text:List Int}{P:List Rng}(hP:@Pu gtR Tryz.prog 18 [dbD d,i64 1,aQ text] (.tup [bc P,i64 0])) (hc:Chn 0 P text.length) (hx:text.length<=900):@Pu gtR Tryz.prog 23 [dbD d,aQ text] (.tup [aQ (iF text P),i64 0]):=by
 letI:=gtR;have hl:=nK hc;refine Pu.of_v aA T0 Tryz.func23 rfl rfl (by simp[aJ,aB,aE,aG,aN,aK,aF]) ?_;repeat' ((conv=>whnf)<;>(first|refine sg ?_|exact kQ|(refine Br.mk ?_ ?_<;>intro _<;>try(exfalso;omega))|refine stq ?_|refine Cll.pu (hP) ?_|refine aO.pu (hP) ?_|fail))
 refine aU.by2 aA T0 (fun(j:Nat) (o:List Int)=>⟨tmp 39 [(1,aQ text),(6,bc P),(7,i64 0),(8,ai 0 1 o),(9,i64 ((P.length:Int)-1-(j:Int)))],⟨1,cW 0 (fun x=>[i64 x]) o⟩⟩)
  (fun j o=>(j<=P.length∧o.length<=900)∧o=iF text (P.drop (P.length-j))) (fun j _=>P.length-j) 0 [] ⟨⟨by omega,by simp⟩,by simp[iF]⟩ ?_ ?_
 ·exact Lf.of2 [] [] enA bxA rfl rfl
 intro j o ⟨⟨h3,h5⟩,h4⟩;by_cases hj:j<P.length
 ·have hi:P.length-1-j<P.length:=by omega
  have hat:=ny hi hc;have hle:=(fP (P.length-1-j) hc).1
  have hs2:o++pce text P[P.length-1-j].lo P[P.length-1-j].hi=iF text (P.drop (P.length-(j+1))):=by
   rw[show P.length-(j+1)=P.length-1-j by omega,kK hi,iF,h4,show P.length-1-j+1=P.length-j by omega]
  have hcd:Chn (dv 0 P (P.length-(j+1))) (P.drop (P.length-(j+1))) text.length:=wI hc _;have hsl:=iU (text:=text) hcd (fP _ hc).1 (Int.le_refl _);rw[<-hs2] at hsl;have hsl2:(o++pce text P[P.length-1-j].lo P[P.length-1-j].hi).length<=900:=by have:=(fP (P.length-(j+1)) hc).1;omega
  have hpl:(pce text P[P.length-1-j].lo P[P.length-1-j].hi).length=(P[P.length-1-j].hi-P[P.length-1-j].lo).toNat:=by rw[List.length_take,List.length_drop];omega
  obtain⟨y,ys,hy⟩:∃ y ys,pce text P[P.length-1-j].lo P[P.length-1-j].hi=y::ys:=kI (by rw[hpl];omega)
  have hsrc:∀ h:aC,cG h 1 (.imm (P[P.length-1-j].hi-P[P.length-1-j].lo).toNat (((text.map i64).drop (P[P.length-1-j].lo.toNat*1)).take ((P[P.length-1-j].hi-P[P.length-1-j].lo).toNat*1)))=some ((y::ys).length,(y::ys).map i64):=fun h=>by
   rw[tH (by omega) (by omega) (by omega),hpl.symm,hy]
  rw[hy] at hs2 hsl2;clear hpl hy hsl;have hyl:(y::ys).length=ys.length+1:=rfl;have hyb:(y::ys).length<=900:=by rw[kG] at hsl2;omega
  cases o with
  | nil=>
   repeat' ((conv=>whnf)<;>(first|refine Idx.atS (c:=cU) (fun _=>rfl) (l:=P) (P.length-1-j) (by omega) (by omega) ?_|refine sg ?_|exact kQ|(refine Br.mk ?_ ?_<;>intro _<;>try(exfalso;omega))|refine stq ?_|refine bJ.by aA T0 [0,0,0,0,12,28,60,0,0,384,896,1920,4094,8191,16383] (by kernel_rfl) ?_|refine Chk.mk ⟨by omega,by omega,by omega,(by simp:(text.map i64).length=text.length*1)⟩ ?_|refine dP.exp (hsrc _) ?_|refine Chk.mk (gO (fun _=>rfl) _) ?_|fail))
   all_goals(conv=>whnf)
   refine⟨j+1,_,⟨⟨by omega,hsl2⟩,hs2⟩,by omega,?_⟩;exact Lf.of2 [(0,_)] [] (by repeat(first|exact aM.nil|refine aM.cons rfl (by first|exact Rd.sl' rfl (by simp<;>omega) (by simp<;>omega)|exact rdA|fail) ?_)) (by repeat(first|exact Bxs.nil|refine Bxs.cons rfl rfl rfl (by first|exact Rb.cells (Rds.eqs (ac _).symm (aD (by intro _;rfl) _)) rfl|exact rbB|exact Rb.cells (by(repeat(first|exact Rds.nil|refine Rds.cons (by first|exact Rd.sl' rfl (by simp<;>omega) (by simp<;>omega)|exact rdA|fail) ?_|fail));(first|done|fail)) rfl|exact rbC|fail) ?_)) rfl rfl
  | cons x xs=>
   have hlen:(x::xs).length<=1001:=by omega
   have hap:((x::xs)++(y::ys)).length=(x::xs).length+(y::ys).length:=kG;repeat' ((conv=>whnf)<;>(first|refine Idx.atS (c:=cU) (fun _=>rfl) (l:=P) (P.length-1-j) (by omega) (by omega) ?_|refine sg ?_|exact kQ|(refine Br.mk ?_ ?_<;>intro _<;>try(exfalso;omega))|refine stq ?_|refine bJ.by aA T0 [0,0,0,0,12,28,60,0,0,384,896,1920,4094,8191,16383] (by kernel_rfl) ?_|refine Chk.mk ⟨by omega,by omega,by omega,(by simp:(text.map i64).length=text.length*1)⟩ ?_|refine dP.exp (hsrc _) ?_|refine Chk.mk (gO (fun _=>rfl) _) ?_|fail))
   all_goals(conv=>whnf)
   refine⟨j+1,_,⟨⟨by omega,hsl2⟩,hs2⟩,by omega,?_⟩;exact Lf.of2 [(0,_)] [] (by repeat(first|exact aM.nil|refine aM.cons rfl (by first|exact Rd.sl' rfl (by simp<;>omega) (by simp<;>omega)|exact rdA|fail) ?_)) (by repeat(first|exact Bxs.nil|refine Bxs.cons rfl rfl rfl (by first|exact Rb.cells (Rds.eqs ((qu (x::xs) (y::ys)).trans (ac _).symm) (aD (by intro _;rfl) _)) rfl|exact rbB|exact Rb.cells (by(repeat(first|exact Rds.nil|refine Rds.cons (by first|exact Rd.sl' rfl (by simp<;>omega) (by simp<;>omega)|exact rdA|fail) ?_|fail));(first|done|fail)) rfl|exact rbC|fail) ?_)) rfl rfl
 obtain rfl:j=P.length:=by omega
 rw[show P.length-P.length=0 by omega,List.drop_zero] at h4;rw[<-h4];cases o with
 | nil=>
  repeat' ((conv=>whnf)<;>(first|refine sg ?_|exact kQ|(refine Br.mk ?_ ?_<;>intro _<;>try(exfalso;omega))|refine stq ?_))
  all_goals(conv=>whnf)
  exact⟨.tup (.cons .nil (.cons (.same rfl) .nil))⟩
 | cons x xs=>
  repeat' ((conv=>whnf)<;>(first|refine sg ?_|exact kQ|(refine Br.mk ?_ ?_<;>intro _<;>try(exfalso;omega))|refine stq ?_))
  all_goals(conv=>whnf)
  exact⟨.tup (.cons (cz (b:=x::xs) rfl rfl (ac _) rfl) (.cons (.same rfl) .nil))⟩
theorem rev_c {d:Db}{text:List Int}(ho:d.ok) (hx:text.length<=9223372036854775807):@Pu gtR Tryz.prog 6 [dbD d,aQ text] (boo true):=by
  letI:=gtR;have hal:=zS;have hE0:Pu Tryz.prog 16 [aT,aT] (boo true):=yU rfl (by kernel_rfl);by_cases hf:SmD d∧text.length<=12
  ·obtain⟨hs,h12⟩:=hf;have hF:=y8 (text:=text) ho hs h12;by_cases hv:DbV d
   ·have g:Good d:=⟨ho,hs,hv⟩;have hP:=g.p1 (text:=text) (by omega);have hc:=Cd d text;have hrP:=u4 (text:=text) g rk1 (by omega);have hA:=sq hP hc (by omega);have hB:=Bd hrP hc (by omega);have hE:=pH (l:=iF text (gP d text)) (by have:=iU (text:=text) hc (Int.le_refl _) (Int.le_refl _);omega);refine Pu.of_v aA T0 Tryz.func6 rfl rfl (by simp[aJ,aB,aE,aG,aN,aK,aF]) ?_;repeat' ((conv=>whnf)<;>(first|refine sg ?_|exact kQ|(refine Br.mk ?_ ?_<;>intro _<;>try(exfalso;omega))|refine stq ?_|refine Cll.pu (hF) ?_|refine aO.pu (hF) ?_|refine Cll.pu (hA) ?_|refine aO.pu (hA) ?_|refine Cll.pu (hB) ?_|refine aO.pu (hB) ?_|refine Cll.pu (hE) ?_|refine aO.pu (hE) ?_|refine Cll.pu (hal) ?_|refine aO.pu (hal) ?_))
    all_goals(conv=>whnf)
    exact aI.same rfl rfl
   ·have hP:=bad1 (k:=1) (x:=aQ text) ho hs hv (aF _);have hrP:=yX (text:=text) (by decide) (u3 (k:=1) ho hs hv);have hA:=x8 (.inl ⟨text,rfl⟩) (by decide) hP;have hB:=EG hrP;refine Pu.of_v aA T0 Tryz.func6 rfl rfl (by simp[aJ,aB,aE,aG,aN,aK,aF]) ?_;repeat' ((conv=>whnf)<;>(first|refine sg ?_|exact kQ|(refine Br.mk ?_ ?_<;>intro _<;>try(exfalso;omega))|refine stq ?_|refine Cll.pu (hF) ?_|refine aO.pu (hF) ?_|refine Cll.pu (hA) ?_|refine aO.pu (hA) ?_|refine Cll.pu (hB) ?_|refine aO.pu (hB) ?_|refine Cll.pu (hE0) ?_|refine aO.pu (hE0) ?_|refine Cll.pu (hal) ?_|refine aO.pu (hal) ?_))
    all_goals(conv=>whnf)
    exact aI.same rfl rfl
  ·have hF:=Cf (text:=text) ho hf;refine Pu.of_v aA T0 Tryz.func6 rfl rfl (by simp[aJ,aB,aE,aG,aN,aK,aF]) ?_;repeat' ((conv=>whnf)<;>(first|refine sg ?_|exact kQ|(refine Br.mk ?_ ?_<;>intro _<;>try(exfalso;omega))|refine stq ?_|refine Cll.pu (hF) ?_|refine aO.pu (hF) ?_|refine Cll.pu (hal) ?_|refine aO.pu (hal) ?_))
   all_goals(conv=>whnf)
   exact aI.same rfl rfl
end Go.Proofs.YtjpgpihbhicinaaGreatDoor
