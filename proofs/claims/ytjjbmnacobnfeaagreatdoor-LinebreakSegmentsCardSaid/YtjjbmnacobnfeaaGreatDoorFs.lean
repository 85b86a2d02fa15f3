/-
  LinebreakSegments: what the row says of the code, checked by the kernel.
-/
import Derived.Test.YtjjbmnacobnfeaaGreatDoorF0
set_option linter.unusedSectionVars false
namespace Go.Proofs.YtjjbmnacobnfeaaGreatDoor
open Go
set_option maxRecDepth 100000
theorem ju:(Rows.linebreakSegmentsRow.inPlace == Tryz.prog.inPlace 6)=true:=by kernel_rfl
theorem jt:(Rows.linebreakSegmentsRow.unfollowed == Tryz.prog.unfollowed 6)=true:=by kernel_rfl
theorem js:(Rows.linebreakSegmentsRow.recurses == Tryz.prog.recurses 6)=true:=by kernel_rfl
theorem jr:(Rows.linebreakSegmentsRow.named == Tryz.prog.varsNamed 6)=true:=by kernel_rfl
theorem g9:joinedFacts Tryz.prog 6 Tryz.f6 Rows.linebreakSegmentsSpec Rows.linebreakSegmentsRow=true:=by
 unfold joinedFacts
 rw[ju,jt,js,jr]
 kernel_rfl
theorem i6:false=Rows.linebreakSegmentsRow.goesBy Tryz.prog:=by kernel_rfl
end Go.Proofs.YtjjbmnacobnfeaaGreatDoor
