/-
  Contracts of functions over data: the part of a text that is seen, by the program and by the reference.
-/
import Derived.Test.YtnjmcdmjmaopdaaGreatDoorJ1
set_option linter.unusedSectionVars false
namespace Go.Proofs.YtnjmcdmjmaopdaaGreatDoor
open Go Go.Am Classical
set_option maxRecDepth 100000
section
variable [GT]
theorem EB {a b:Int}{ox oy:Operand}:ci Tryz.prog .neq 52 ox oy (.agg [i64 a,i64 b]) (.agg [i64 a,i64 b])=some (.v (.bool false)):=by
 rw[og];simp
theorem j6 {a b c e:Int}{ox oy:Operand}(h:¬(a=c∧b=e)):ci Tryz.prog .neq 52 ox oy (.agg [i64 a,i64 b]) (.agg [i64 c,i64 e])=some (.v (.bool true)):=by
 rw[og];simp only[kA,D.v.injEq,Value.bool.injEq,Bool.not_eq_true',Bool.and_eq_false_imp,beq_iff_eq,beq_eq_false_iff_ne];exact fun h1 h2=>h ⟨h1,h2⟩
end
end Go.Proofs.YtnjmcdmjmaopdaaGreatDoor
