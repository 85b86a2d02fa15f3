/-
  The statement ClustersTruncates over data.
-/
import Derived.Test.YtjpgpihbhicinaaGreatDoorLA
import Derived.Test.YtjpgpihbhicinaaGreatDoorLK1
set_option linter.unusedSectionVars false
namespace Go.Proofs.YtjpgpihbhicinaaGreatDoor
open Go Go.Am Classical
set_option maxRecDepth 100000
theorem EF {d:Db}{e n:Int}{text:List Int}(h0:e≠0) (hP:@Pu gtR Tryz.prog 18 [dbD d,i64 1,aQ text] (.tup [aT,i64 e])):@Pu gtR Tryz.prog 21 [dbD d,aQ text,i64 n] (.tup [aT,i64 e]):=by
 letI:=gtR;refine Pu.of_v aA T0 Tryz.func21 rfl rfl (by simp[aJ,aB,aE,aG,aN,aK,aF]) ?_;repeat' ((conv=>whnf)<;>(first|refine sg ?_|exact kQ|(refine Br.mk ?_ ?_<;>intro _<;>try(exfalso;omega))|refine stq ?_|refine Cll.pu (hP) ?_|refine aO.pu (hP) ?_))
 all_goals(conv=>whnf)
 exact⟨Rd.eqd rfl rfl⟩
set_option maxHeartbeats 8000000 in
theorem Bc {d:Db}{n:Int}{text:List Int}{P:List Rng}(hP:@Pu gtR Tryz.prog 18 [dbD d,i64 1,aQ text] (.tup [bc P,i64 0])) (hc:Chn 0 P text.length) (hx:text.length<=1000) (hn:n<=9223372036854775807):@Pu gtR Tryz.prog 21 [dbD d,aQ text,i64 n] (.tup [aQ (text.take (dv 0 P n.toNat).toNat),i64 0]):=by
 letI:=gtR;have hl:=nK hc;by_cases h0:n<=0∨P.length=0
 ·have e:(dv 0 P n.toNat).toNat=0:=by
   rcases h0 with h|h
   ·rw[show n.toNat=0 by omega];cases P<;>rfl
   ·rw[List.eq_nil_of_length_eq_zero h];cases n.toNat<;>rfl
  rw[e];refine Pu.of_v aA T0 Tryz.func21 rfl rfl (by simp[aJ,aB,aE,aG,aN,aK,aF]) ?_;repeat' ((conv=>whnf)<;>(first|refine sg ?_|exact kQ|(refine Br.mk ?_ ?_<;>intro _<;>try(exfalso;omega))|refine stq ?_|refine Cll.pu (hP) ?_|refine aO.pu (hP) ?_))
  all_goals(conv=>whnf)
  all_goals exact⟨.tup (.cons .nil (.cons (.same rfl) .nil))⟩
 ·obtain⟨j,hj⟩:∃ j,min n.toNat P.length=j+1:=⟨min n.toNat P.length-1,by omega⟩;have hjl:j<P.length:=by omega
  have hat:=ny hjl hc;have hle:=(fP j hc).1;have he:dv 0 P n.toNat=P[j].hi:=by rw[<-v9,hj];exact kY hjl
  rw[he];have hp:text.take P[j].hi.toNat=pce text 0 P[j].hi:=by simp[pce]
  have hpl:(pce text 0 P[j].hi).length=P[j].hi.toNat:=by rw[List.length_take,List.length_drop];omega
  rw[hp];refine Pu.of_v aA T0 Tryz.func21 rfl rfl (by simp[aJ,aB,aE,aG,aN,aK,aF]) ?_;repeat' ((conv=>whnf)<;>(first|refine Idx.atS (c:=cU) (fun _=>rfl) (l:=P) j (by omega) (by omega) ?_|refine sg ?_|exact kQ|(refine Br.mk ?_ ?_<;>intro _<;>try(exfalso;omega))|refine stq ?_|refine Cll.pu (hP) ?_|refine aO.pu (hP) ?_|refine Chk.mk ⟨by omega,by omega,by omega,(by simp:(text.map i64).length=text.length*1)⟩ ?_|refine dP.exp (tH (text:=text) (lo:=0) (by omega) (by omega) (by omega)) ?_|refine Chk.mk (gO (fun _=>rfl) _) ?_|refine Chk.growX 8 1 rfl rfl (by omega) (by omega) (by simp) ?_))
  all_goals(conv=>whnf)
  all_goals exact⟨.tup (.cons (cz (b:=pce text 0 P[j].hi) rfl rfl (by simp) (by omega)) (.cons (.same rfl) .nil))⟩
theorem tru_c {d:Db}{text:List Int}{n:Int}(ho:d.ok) (hx:text.length<=9223372036854775807) (hn:-9223372036854775808<=n∧n<=9223372036854775807):@Pu gtR Tryz.prog 5 [dbD d,aQ text,i64 n] (boo true):=by
  letI:=gtR;have hal:=zS;have hE0:Pu Tryz.prog 16 [aT,aT] (boo true):=yU rfl (by kernel_rfl);by_cases hf:SmD d∧text.length<=12
  ·obtain⟨hs,h12⟩:=hf;have hF:=y8 (text:=text) ho hs h12;by_cases hv:DbV d
   ·have g:Good d:=⟨ho,hs,hv⟩;have hP:=g.p1 (text:=text) (by omega);have hc:=Cd d text;have hrP:=u4 (text:=text) g rk1 (by omega);have hA:=q9 (n:=n) hP hc (by omega) hn.2;have hB:=Bc (n:=n) hrP hc (by omega) hn.2;have hE:=pH (l:=text.take (dv 0 (gP d text) n.toNat).toNat) (by rw[List.length_take];omega);refine Pu.of_v aA T0 Tryz.func5 rfl rfl (by simp[aJ,aB,aE,aG,aN,aK,aF]) ?_;repeat' ((conv=>whnf)<;>(first|refine sg ?_|exact kQ|(refine Br.mk ?_ ?_<;>intro _<;>try(exfalso;omega))|refine stq ?_|refine Cll.pu (hF) ?_|refine aO.pu (hF) ?_|refine Cll.pu (hA) ?_|refine aO.pu (hA) ?_|refine Cll.pu (hB) ?_|refine aO.pu (hB) ?_|refine Cll.pu (hE) ?_|refine aO.pu (hE) ?_|refine Cll.pu (hal) ?_|refine aO.pu (hal) ?_))
    all_goals(conv=>whnf)
    exact aI.same rfl rfl
   ·have hP:=bad1 (k:=1) (x:=aQ text) ho hs hv (aF _);have hrP:=yX (text:=text) (by decide) (u3 (k:=1) ho hs hv);have hA:=wa (n:=n) (.inl ⟨text,rfl⟩) (by decide) hP;have hB:=EF (n:=n) (by decide) hrP;refine Pu.of_v aA T0 Tryz.func5 rfl rfl (by simp[aJ,aB,aE,aG,aN,aK,aF]) ?_;repeat' ((conv=>whnf)<;>(first|refine sg ?_|exact kQ|(refine Br.mk ?_ ?_<;>intro _<;>try(exfalso;omega))|refine stq ?_|refine Cll.pu (hF) ?_|refine aO.pu (hF) ?_|refine Cll.pu (hA) ?_|refine aO.pu (hA) ?_|refine Cll.pu (hB) ?_|refine aO.pu (hB) ?_|refine Cll.pu (hE0) ?_|refine aO.pu (hE0) ?_|refine Cll.pu (hal) ?_|refine aO.pu (hal) ?_))
    all_goals(conv=>whnf)
    exact aI.same rfl rfl
  ·have hF:=Cf (text:=text) ho hf;refine Pu.of_v aA T0 Tryz.func5 rfl rfl (by simp[aJ,aB,aE,aG,aN,aK,aF]) ?_;repeat' ((conv=>whnf)<;>(first|refine sg ?_|exact kQ|(refine Br.mk ?_ ?_<;>intro _<;>try(exfalso;omega))|refine stq ?_|refine Cll.pu (hF) ?_|refine aO.pu (hF) ?_|refine Cll.pu (hal) ?_|refine aO.pu (hal) ?_))
   all_goals(conv=>whnf)
   exact aI.same rfl rfl
end Go.Proofs.YtjpgpihbhicinaaGreatDoor
