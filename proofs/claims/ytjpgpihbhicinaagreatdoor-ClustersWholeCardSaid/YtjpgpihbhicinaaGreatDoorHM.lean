/-
  The table of the kind Lines; the example at the head of the statements.
-/
import Derived.Test.YtjpgpihbhicinaaGreatDoorT4
import Derived.Test.YtjpgpihbhicinaaGreatDoorV0
set_option linter.unusedSectionVars false
namespace Go.Proofs.YtjpgpihbhicinaaGreatDoor
open Go Go.Am
set_option maxRecDepth 1000000
def t4:Tbl:=tbl cl4 (rs4.map (·.act)) LN4 LM4 RN4 RM4
theorem tabk4:@Pu gtR Tryz.prog 51 [i64 4] (d7 t4):=by
 letI:=gtR;rw[t4,←rC];exact oX (.inr (.inr (.inr ⟨rfl,rfl⟩))) C1 (F:=3000) (by omega) (by decide) (by decide) (by decide) (by decide) comp4
theorem nv4:NV cl4:=@xN gtR _ (by kernel_rfl)
theorem tv4:TV t4∧t4.ok:=by
 letI:=gtR;exact wu (LN:=LN4) (LM:=LM4) (RN:=RN4) (RM:=RM4) nv4 (acts:=rs4.map (·.act)) (by kernel_rfl) (by kernel_rfl) (by kernel_rfl)
end Go.Proofs.YtjpgpihbhicinaaGreatDoor
