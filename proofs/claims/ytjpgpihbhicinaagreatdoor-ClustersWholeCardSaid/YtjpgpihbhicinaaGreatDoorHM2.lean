/-
  The table of a kind.
-/
import Derived.Test.YtjpgpihbhicinaaGreatDoorT2
import Derived.Test.YtjpgpihbhicinaaGreatDoorV0
set_option linter.unusedSectionVars false
namespace Go.Proofs.YtjpgpihbhicinaaGreatDoor
open Go Go.Am
set_option maxRecDepth 1000000
def t2:Tbl:=tbl cl2 (rs2.map (·.act)) LN2 LM2 RN2 RM2
theorem wx:@Pu gtR Tryz.prog 51 [i64 2] (d7 t2):=by
 letI:=gtR;rw[t2,←rC];exact oX (.inr (.inl ⟨rfl,rfl⟩)) C4 (F:=3000) (by omega) (by decide) (by decide) (by decide) (by decide) comp2
theorem nv2:NV cl2:=@xN gtR _ (by kernel_rfl)
theorem tv2:TV t2∧t2.ok:=by
 letI:=gtR;exact wu (LN:=LN2) (LM:=LM2) (RN:=RN2) (RM:=RM2) nv2 (acts:=rs2.map (·.act)) (by kernel_rfl) (by kernel_rfl) (by kernel_rfl)
end Go.Proofs.YtjpgpihbhicinaaGreatDoor
