/-
  The statements ClustersBoundaries and ClustersParts over data.
-/
import Derived.Test.YtbmdndckndnehaaGreatDoorLA
import Derived.Test.YtbmdndckndnehaaGreatDoorLK1
import Derived.Test.YtbmdndckndnehaaGreatDoorLK2
set_option linter.unusedSectionVars false
namespace Go.Proofs.YtbmdndckndnehaaGreatDoor
open Go Go.Am Classical
set_option maxRecDepth 100000
theorem xLG.rdX {p:Prop}(h:p:=by first|exact rH (b:=x::xs) rfl rfl (aO _) rfl|fail):p:=h
open xLG
theorem Ak {d:Db}{k:Nat}{cl:List Str}{rs:List Rul}{t:Tbl}{text:List Int}(g:Good d) (h12:text.length<=12) (R:RK k cl rs t) (ht:t.ok) (hT:@Pu gtR Tryz.prog 66 [i64 (k:Int)] (dU t)):@Pu gtR Tryz.prog 3 [dbD d,i64 (k:Int),aF text] (boo true):=by
 letI:=gtR;have hal:=jU;have hF:=nH (text:=text) g.ok g.sm h12;have hs:=g.sm.2.1 (k+2) (by have:=R.kind;omega);have hA:=E9 (g.data R.kind hT) (r4 (text:=text) (g.ok.prop (k+2)) ht om om om);have hB:=v3 (text:=text) g R om;have hl:=Aj (p:=prop d (k+2)) (t:=t) (text:=text) om;generalize sJ (prop d (k+2)) t text=E at *;cases E with
 | nil=>
  have hE:Pu Tryz.prog 16 [aF [],aI] (boo true):=ja rfl (by kernel_rfl);refine pv Tryz.func3 ?_;repeat' ((conv=>whnf);first|exact kQ|(refine bk ?_ ?_<;>intro _<;>try(exfalso;omega))|refine stq ?_|refine cp hF ?_|refine cp hA ?_|refine cp hE ?_|refine cp hal ?_|refine Cll.pk hB ?_|fail)
  all_goals(conv=>whnf)
  exact aC.same rfl rfl
 | cons x xs=>
  have hE:Pu Tryz.prog 16 [aF (x::xs),aF (x::xs)] (boo true):=by
   have:=Ax (a:=x::xs) (b:=x::xs) om
   rwa [decide_eq_true rfl] at this
  refine pv Tryz.func3 ?_;repeat' ((conv=>whnf);first|exact kQ|(refine bk ?_ ?_<;>intro _<;>try(exfalso;omega))|refine stq ?_|refine cp hF ?_|refine cp hA ?_|refine cp hal ?_|refine Cll.pk hB ?_|refine Cll.emb (hE ⟨0,[]⟩) [] [19] (boo true) [] [(0,.cells (dbC d) true)] rfl cI bxA rdA bxA reA ?_|fail)
  all_goals(conv=>whnf)
  exact aC.same rfl rfl
theorem zt {d:Db}{k:Nat}{cl:List Str}{rs:List Rul}{t:Tbl}{text:List Int}(g:Good d) (h12:text.length<=12) (R:RK k cl rs t) (ht:t.ok) (hT:@Pu gtR Tryz.prog 66 [i64 (k:Int)] (dU t)):@Pu gtR Tryz.prog 4 [dbD d,i64 (k:Int),aF text] (boo true):=by
 letI:=gtR;have hal:=jU;have hF:=nH (text:=text) g.ok g.sm h12;have hA:=g.prt (text:=text) R.kind ht hT om;have hB:=vz (text:=text) g R om;have hpl:=jR (uU (p:=prop d (k+2)) (text:=text) R.tv);have hE:=zc (a:=l8 (prop d (k+2)) t text) om;refine pv Tryz.func4 ?_;repeat' ((conv=>whnf);first|exact kQ|(refine bk ?_ ?_<;>intro _<;>try(exfalso;omega))|refine stq ?_|refine cp hF ?_|refine cp hA ?_|refine cp hB ?_|refine cp hE ?_|refine cp hal ?_|fail)
 all_goals(conv=>whnf)
 exact aC.same rfl rfl
theorem FF {d:Db}{k e:Int}{text:List Int}(ho:d.ok) (hs:SmD d) (h12:text.length<=12) (h0:e≠0) (hd:@Pu gtR Tryz.prog 37 [dbD d,i64 k] (.tup [yQ,xx,i64 e])) (hc:@Pu gtR Tryz.prog 39 [dbD d,i64 k] (i64 e)):@Pu gtR Tryz.prog 3 [dbD d,i64 k,aF text] (boo true):=by
 letI:=gtR;have hal:=jU;have hF:=nH (text:=text) ho hs h12;have hA:=Ag (aM text) h0 hd;have hB:=zr (text:=text) h0 hc;have hE:Pu Tryz.prog 16 [aI,aI] (boo true):=ja rfl (by kernel_rfl);refine pv Tryz.func3 ?_;repeat' ((conv=>whnf);first|exact kQ|(refine bk ?_ ?_<;>intro _<;>try(exfalso;omega))|refine stq ?_|refine cp hF ?_|refine cp hA ?_|refine cp hB ?_|refine cp hE ?_|refine cp hal ?_|fail)
 all_goals(conv=>whnf)
 exact aC.same rfl rfl
theorem bnd_c {d:Db}{k:Int}{text:List Int}(ho:d.ok) (_hx:text.length<=9223372036854775807):@Pu gtR Tryz.prog 3 [dbD d,i64 k,aF text] (boo true):=by
 letI:=gtR;by_cases hf:SmD d∧text.length<=12
 ·by_cases hv:DbV d
  ·have g:Good d:=⟨ho,hf.1,hv⟩;by_cases hr:1<=k∧k<=4
   ·rcases(by omega:k=1∨k=2∨k=3∨k=4) with rfl|rfl|rfl|rfl
    ·exact Ak (k:=1) g hf.2 rk1 tv1.2 Ct
    ·exact Ak (k:=2) g hf.2 rk2 tv2.2 Cr
    ·exact Ak (k:=3) g hf.2 rk3 tv3.2 Hj
    ·exact Ak (k:=4) g hf.2 rk4 tv4.2 Hi
   ·exact FF ho hf.1 hf.2 (by decide) (oD g.chk hr) (sk ho hf.1 hv hr)
  ·exact FF ho hf.1 hf.2 (by decide) (rW ho hf.1 hv) (qY ho hf.1 hv)
 ·have hal:=jU;have hF:=yu (text:=text) ho hf;refine pv Tryz.func3 ?_;repeat' ((conv=>whnf);first|exact kQ|(refine bk ?_ ?_<;>intro _<;>try(exfalso;omega))|refine stq ?_|refine cp hF ?_|refine cp hal ?_|fail)
  all_goals(conv=>whnf)
  exact aC.same rfl rfl
theorem DZ {d:Db}{k e:Int}{text:List Int}(ho:d.ok) (hs:SmD d) (h12:text.length<=12) (h0:e≠0) (hd:@Pu gtR Tryz.prog 37 [dbD d,i64 k] (.tup [yQ,xx,i64 e])) (hc:@Pu gtR Tryz.prog 39 [dbD d,i64 k] (i64 e)):@Pu gtR Tryz.prog 4 [dbD d,i64 k,aF text] (boo true):=by
 letI:=gtR;have hal:=jU;have hF:=nH (text:=text) ho hs h12;have hA:=HI (aM text) h0 hd;have hB:=zq (text:=text) h0 hc;have hE:Pu Tryz.prog 19 [aI,aI] (boo true):=ja rfl (by kernel_rfl);refine pv Tryz.func4 ?_;repeat' ((conv=>whnf);first|exact kQ|(refine bk ?_ ?_<;>intro _<;>try(exfalso;omega))|refine stq ?_|refine cp hF ?_|refine cp hA ?_|refine cp hB ?_|refine cp hE ?_|refine cp hal ?_|fail)
 all_goals(conv=>whnf)
 exact aC.same rfl rfl
theorem prt_c {d:Db}{k:Int}{text:List Int}(ho:d.ok) (_hx:text.length<=9223372036854775807):@Pu gtR Tryz.prog 4 [dbD d,i64 k,aF text] (boo true):=by
 letI:=gtR;by_cases hf:SmD d∧text.length<=12
 ·by_cases hv:DbV d
  ·have g:Good d:=⟨ho,hf.1,hv⟩;by_cases hr:1<=k∧k<=4
   ·rcases(by omega:k=1∨k=2∨k=3∨k=4) with rfl|rfl|rfl|rfl
    ·exact zt (k:=1) g hf.2 rk1 tv1.2 Ct
    ·exact zt (k:=2) g hf.2 rk2 tv2.2 Cr
    ·exact zt (k:=3) g hf.2 rk3 tv3.2 Hj
    ·exact zt (k:=4) g hf.2 rk4 tv4.2 Hi
   ·exact DZ ho hf.1 hf.2 (by decide) (oD g.chk hr) (sk ho hf.1 hv hr)
  ·exact DZ ho hf.1 hf.2 (by decide) (rW ho hf.1 hv) (qY ho hf.1 hv)
 ·have hal:=jU;have hF:=yu (text:=text) ho hf;refine pv Tryz.func4 ?_;repeat' ((conv=>whnf);first|exact kQ|(refine bk ?_ ?_<;>intro _<;>try(exfalso;omega))|refine stq ?_|refine cp hF ?_|refine cp hal ?_|fail)
  all_goals(conv=>whnf)
  exact aC.same rfl rfl
end Go.Proofs.YtbmdndckndnehaaGreatDoor
