/-
  LinebreakOpportunities: what the row says of the code, checked by the kernel.
-/
import Derived.Test.YtjjbmnacobnfeaaGreatDoorF0
set_option linter.unusedSectionVars false
namespace Go.Proofs.YtjjbmnacobnfeaaGreatDoor
open Go
set_option maxRecDepth 100000
theorem F2:(Rows.linebreakOpportunitiesRow.inPlace == Tryz.prog.inPlace 8)=true:=by kernel_rfl
theorem F1:(Rows.linebreakOpportunitiesRow.unfollowed == Tryz.prog.unfollowed 8)=true:=by kernel_rfl
theorem F0:(Rows.linebreakOpportunitiesRow.recurses == Tryz.prog.recurses 8)=true:=by kernel_rfl
theorem Fz:(Rows.linebreakOpportunitiesRow.named == Tryz.prog.varsNamed 8)=true:=by kernel_rfl
theorem Fw:joinedFacts Tryz.prog 8 Tryz.f8 Rows.linebreakOpportunitiesSpec Rows.linebreakOpportunitiesRow=true:=by
 unfold joinedFacts;rw[F2,F1,F0,Fz]
 kernel_rfl
theorem Fy:false=Rows.linebreakOpportunitiesRow.goesBy Tryz.prog:=by kernel_rfl
end Go.Proofs.YtjjbmnacobnfeaaGreatDoor
