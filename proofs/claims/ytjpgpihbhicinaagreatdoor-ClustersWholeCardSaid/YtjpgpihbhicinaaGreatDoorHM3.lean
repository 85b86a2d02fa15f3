/-
  The table of a kind.
-/
import Derived.Test.YtjpgpihbhicinaaGreatDoorT3
import Derived.Test.YtjpgpihbhicinaaGreatDoorV0
set_option linter.unusedSectionVars false
namespace Go.Proofs.YtjpgpihbhicinaaGreatDoor
open Go Go.Am
set_option maxRecDepth 1000000
def t3:Tbl:=tbl cl3 (rs3.map (·.act)) LN3 LM3 RN3 RM3
theorem tabk3:@Pu gtR Tryz.prog 51 [i64 3] (d7 t3):=by
 letI:=gtR;rw[t3,←rC];exact oX (.inr (.inr (.inl ⟨rfl,rfl⟩))) C3 (F:=3000) (by omega) (by decide) (by decide) (by decide) (by decide) comp3
theorem nv3:NV cl3:=@xN gtR _ (by kernel_rfl)
theorem tv3:TV t3∧t3.ok:=by
 letI:=gtR;exact wu (LN:=LN3) (LM:=LM3) (RN:=RN3) (RM:=RM3) nv3 (acts:=rs3.map (·.act)) (by kernel_rfl) (by kernel_rfl) (by kernel_rfl)
end Go.Proofs.YtjpgpihbhicinaaGreatDoor
