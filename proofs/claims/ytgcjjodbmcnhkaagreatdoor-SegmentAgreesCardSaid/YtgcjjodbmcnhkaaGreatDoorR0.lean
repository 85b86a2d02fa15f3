/-
  What the statements' arguments read as; a start that meets the rows' condition.
-/
import Derived.Test.YtgcjjodbmcnhkaaGreatDoorRows
import Derived.Test.YtgcjjodbmcnhkaaGreatDoorS6
import Derived.Test.YtgcjjodbmcnhkaaGreatDoorAmD
import Derived.ProofKit
import Derived.LaidMore
import Derived.Stop.Joined
namespace Go.Proofs.YtgcjjodbmcnhkaaGreatDoor
open Go Go.Am Go.ChangeShapes Go.WideShapes Go.ChangeAt Go.RowKit
set_option maxRecDepth 100000

theorem own : ownKnob Tryz.prog.godebug = Option.none := by kernel_rfl
theorem laidOut : laidOutB Tryz.prog = true := by kernel_rfl

theorem r_int : Reads Tryz.prog 3 (fun n : Int => [i64 n]) (fun n => -9223372036854775808 ≤ n ∧ n ≤ 9223372036854775807) := Reads.i64 (by kernel_rfl)
theorem r_ints : Reads Tryz.prog 26 (fun l : List Int => [ints l]) (fun l => l.length ≤ 9223372036854775807) :=
  (Reads.slice (e := 3) (by kernel_rfl) r_int (sz := 1) (by kernel_rfl) (by omega)).map id (fun l => by simp only [id, flat_one]; rfl) (fun _ h => h.1)
theorem r_intss : Reads Tryz.prog 27 (fun l : List (List Int) => [intss l]) (fun l => l.length ≤ 9223372036854775807 ∧ ∀ i (h : i < l.length), l[i].length ≤ 9223372036854775807) :=
  (Reads.slice (e := 26) (by kernel_rfl) r_ints (sz := 1) (by kernel_rfl) (by omega)).map id (fun l => by simp only [id, flat_one]; rfl) (fun _ h => h)
theorem r_strs : Reads Tryz.prog 22 (fun l : List Str => [Am.strs l]) (fun l => l.length ≤ 9223372036854775807 ∧ long l) :=
  (Reads.slice (e := 9) (by kernel_rfl) (Reads.str (by kernel_rfl)) (sz := 1) (by kernel_rfl) (by omega)).map id (fun l => by simp only [id, flat_one]; rfl) (fun _ h => h)
theorem r_spn : Reads Tryz.prog 99 spnC (fun _ => True) :=
  (Reads.struct (tot := 3) (Tryz.underlying99) (by kernel_rfl) (ReadsF.cons (off := 0) (sz := 1) r_int rfl (by kernel_rfl) (ReadsF.cons (sz := 1) r_int rfl (by kernel_rfl) (ReadsF.cons (sz := 1) r_int rfl (by kernel_rfl) ReadsF.nil)))).map (fun x => ⟨x.1, x.2.1, x.2.2.1⟩) (fun _ => rfl) (fun _ _ => trivial)
theorem r_spns : Reads Tryz.prog 23 (fun l : List Spn => [spns l]) (fun l => l.length ≤ 9223372036854775807) :=
  (Reads.slice (e := 99) (by kernel_rfl) r_spn (sz := 3) (by kernel_rfl) (by omega)).map id (fun _ => rfl) (fun _ h => h.1)
theorem r_prp : Reads Tryz.prog 25 (fun p : Prp => [Am.strs p.names, spns p.spans]) Prp.ok :=
  (Reads.struct (tot := 2) (Tryz.underlying25) (by kernel_rfl) (ReadsF.cons (off := 0) (sz := 1) r_strs rfl (by kernel_rfl) (ReadsF.cons (sz := 1) r_spns rfl (by kernel_rfl) ReadsF.nil))).map (fun x => ⟨x.1, x.2.1⟩) (fun _ => rfl) (fun _ h => ⟨h.1.1, h.1.2, h.2.1⟩)
theorem r_aut : Reads Tryz.prog 29 (fun a : Aut => [intss a.next, intss a.marks]) Aut.ok :=
  (Reads.struct (tot := 2) (Tryz.underlying29) (by kernel_rfl) (ReadsF.cons (off := 0) (sz := 1) r_intss rfl (by kernel_rfl) (ReadsF.cons (sz := 1) r_intss rfl (by kernel_rfl) ReadsF.nil))).map (fun x => ⟨x.1, x.2.1⟩) (fun _ => rfl) (fun _ h => ⟨h.1.1, h.2.1.1, h.1.2, h.2.1.2⟩)
theorem r_tab : Reads Tryz.prog 31 (fun t : Tbl => [Am.strs t.classes, ints t.actions, intss t.left.next, intss t.left.marks, intss t.right.next, intss t.right.marks]) Tbl.ok :=
  (Reads.struct (tot := 6) (Tryz.underlying31) (by kernel_rfl) (ReadsF.cons (off := 0) (sz := 1) r_strs rfl (by kernel_rfl) (ReadsF.cons (sz := 1) r_ints rfl (by kernel_rfl) (ReadsF.cons (sz := 2) r_aut rfl (by kernel_rfl) (ReadsF.cons (sz := 2) r_aut rfl (by kernel_rfl) ReadsF.nil))))).map (fun x => ⟨x.1, x.2.1, x.2.2.1, x.2.2.2.1⟩) (fun _ => rfl) (fun _ h => ⟨h.1.1, h.1.2, h.2.1, h.2.2.1, h.2.2.2.1⟩)

/-! ### A start -/
def firstCells : Array Value := match Rows.laid_unicode_utf8_first with | .agg l => (l.map fun | .lit (.int k n) => Value.int k n | _ => .int .u8 0).toArray | _ => #[]
noncomputable def laidWorld (os : Os) : World :=
  let w0 := World.doorLaid Tryz.prog 34 os
  { w0 with heap := w0.heap.modify 2 fun
      | .cells _ t frozen => .cells firstCells t frozen
      | o => o }
abbrev laidL : List (String × DataW Unit) := Rows.segmentClassesRow.laid
theorem laidWorld_met (os : Os) (args : Array Value) : laidMetH Tryz.prog laidL ((laidWorld os).forCall (fun _ _ => 0) ⟨#[], args, []⟩).memory :=
  laidMetH_of_parts3 (fuel := 8) (laidMet_of_run' 8 (by kernel_rfl) (by kernel_rfl)) (by kernel_rfl) (by kernel_rfl)
theorem laidWorld_shaped (os : Os) (args : Array Value) : ((laidWorld os).forCall (fun _ _ => 0) ⟨#[], args, []⟩).Shaped Tryz.prog := World.shaped_of_RefB (by kernel_rfl) (by kernel_rfl)
end Go.Proofs.YtgcjjodbmcnhkaaGreatDoor
