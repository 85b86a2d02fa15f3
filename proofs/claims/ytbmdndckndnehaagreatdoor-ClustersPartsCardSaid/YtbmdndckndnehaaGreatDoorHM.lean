/-
  The table of the kind Lines; the example at the head of the statements.
-/
import Derived.Test.YtbmdndckndnehaaGreatDoorT4
import Derived.Test.YtbmdndckndnehaaGreatDoorV0
import Derived.Test.YtbmdndckndnehaaGreatDoorT3
set_option linter.unusedSectionVars false
namespace Go.Proofs.YtbmdndckndnehaaGreatDoor
section
open Go Go.Am
set_option maxRecDepth 1000000
def t4:Tbl:=tbl cl4 (rs4.map (·.act)) LN4 LM4 RN4 RM4
theorem Hi:@Pu gtR Tryz.prog 66 [i64 4] (dU t4):=by
 letI:=gtR;rw[t4,<-sV];exact pT (.inr (.inr (.inr ⟨rfl,rfl⟩))) GH (F:=3000) om (by decide) (by decide) (by decide) (by decide) comp4
theorem nv4:NV cl4:=@z9 gtR _ (by kernel_rfl)
theorem tv4:TV t4∧t4.ok:=by
 letI:=gtR;exact zU (LN:=LN4) (LM:=LM4) (RN:=RN4) (RM:=RM4) nv4 (acts:=rs4.map (·.act)) (by kernel_rfl) (by kernel_rfl) (by kernel_rfl)
theorem Hp:@Pu gtR Tryz.prog 70 [i64 4] (strs cl4):=by
 letI:=gtR;exact Pu.of_t aB T0 dV rfl (by kernel_rfl:ef gtR Tryz.prog (ek Tryz.prog) spC 100 (.fn 70) [i64 4] .emp 0 (λd1 h1 _=>dW h1 100000 d1 (strs cl4))=true)
end
section
open Go Go.Am
set_option maxRecDepth 1000000
def t3:Tbl:=tbl cl3 (rs3.map (·.act)) LN3 LM3 RN3 RM3
theorem Hj:@Pu gtR Tryz.prog 66 [i64 3] (dU t3):=by
 letI:=gtR;rw[t3,<-sV];exact pT (.inr (.inr (.inl ⟨rfl,rfl⟩))) GI (F:=3000) om (by decide) (by decide) (by decide) (by decide) comp3
theorem nv3:NV cl3:=@z9 gtR _ (by kernel_rfl)
theorem tv3:TV t3∧t3.ok:=by
 letI:=gtR;exact zU (LN:=LN3) (LM:=LM3) (RN:=RN3) (RM:=RM3) nv3 (acts:=rs3.map (·.act)) (by kernel_rfl) (by kernel_rfl) (by kernel_rfl)
theorem Hq:@Pu gtR Tryz.prog 70 [i64 3] (strs cl3):=by
 letI:=gtR;exact Pu.of_t aB T0 dV rfl (by kernel_rfl:ef gtR Tryz.prog (ek Tryz.prog) spC 100 (.fn 70) [i64 3] .emp 0 (λd1 h1 _=>dW h1 100000 d1 (strs cl3))=true)
end
end Go.Proofs.YtbmdndckndnehaaGreatDoor
