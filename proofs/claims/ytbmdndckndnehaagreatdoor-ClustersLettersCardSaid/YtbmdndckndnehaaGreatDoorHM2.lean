/-
  The table of a kind.
-/
import Derived.Test.YtbmdndckndnehaaGreatDoorT2
import Derived.Test.YtbmdndckndnehaaGreatDoorV0
set_option linter.unusedSectionVars false
namespace Go.Proofs.YtbmdndckndnehaaGreatDoor
open Go Go.Am
set_option maxRecDepth 1000000
def t2:Tbl:=tbl cl2 (rs2.map (·.act)) LN2 LM2 RN2 RM2
theorem Cr:@Pu gtR Tryz.prog 66 [i64 2] (dU t2):=by
 letI:=gtR;rw[t2,<-sV];exact pT (.inr (.inl ⟨rfl,rfl⟩)) GJ (F:=3000) om (by decide) (by decide) (by decide) (by decide) comp2
theorem nv2:NV cl2:=@z9 gtR _ (by kernel_rfl)
theorem tv2:TV t2∧t2.ok:=by
 letI:=gtR;exact zU (LN:=LN2) (LM:=LM2) (RN:=RN2) (RM:=RM2) nv2 (acts:=rs2.map (·.act)) (by kernel_rfl) (by kernel_rfl) (by kernel_rfl)
theorem Hr:@Pu gtR Tryz.prog 70 [i64 2] (strs cl2):=by
 letI:=gtR;exact Pu.of_t aB T0 dV rfl (by kernel_rfl:ef gtR Tryz.prog (ek Tryz.prog) spC 100 (.fn 70) [i64 2] .emp 0 (λd1 h1 _=>dW h1 100000 d1 (strs cl2))=true)
end Go.Proofs.YtbmdndckndnehaaGreatDoor
