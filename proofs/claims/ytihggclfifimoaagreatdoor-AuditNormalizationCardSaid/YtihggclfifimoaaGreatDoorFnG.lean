/-
  AuditNormalization: the call starts no goroutine: no body of the whole program has a go statement.
-/
import Derived.Test.YtihggclfifimoaaGreatDoorF0
set_option linter.unusedSectionVars false
namespace Go.Proofs.YtihggclfifimoaaGreatDoor
open Go
set_option maxRecDepth 100000
theorem noGo {P:Program}(h:P.funcs.any Func.goes=false) (f:FuncId):P.goes f=false:=by
 have key:∀ g:FuncId,(P.funcs[g]?).any Func.goes=false:=λg=>by
  cases hg:P.funcs[g]? with
  | none=>rfl
  | some fn=>
   obtain⟨hlt,e⟩:=Array.getElem?_eq_some_iff.1 hg;have:=Array.any_eq_false.1 h g hlt
   rw[e] at this;simpa using this
 unfold Program.goes;rw[h,Bool.and_false,Bool.or_false];simp only[key];simp
theorem noGoAt {P:Program}(h:P.funcs.any Func.goes=false) (s:Start) (fn:String):P.goesAt s fn=false:=by
 have h1:P.goesFrom fn=false:=by
  unfold Program.goesFrom;cases P.funcNamed fn with
  | none=>rfl
  | some f=>exact noGo h f
 have h2:P.inits.toList.any P.goes=false:=by
  rw[List.any_eq_false];intro f _;rw[noGo h f];simp
 unfold Program.goesAt;rw[h1];cases s<;>first|rfl|exact h2
theorem i4:false=Rows.auditNormalizationRow.goesBy Tryz.prog:=(noGoAt (by kernel_rfl) _ _).symm
end Go.Proofs.YtihggclfifimoaaGreatDoor
