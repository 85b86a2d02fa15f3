/-
  Contracts of functions over data: boundaries; the decision at one position.
-/
import Derived.Test.YtgcjjodbmcnhkaaGreatDoorS9
namespace Go.Proofs.YtgcjjodbmcnhkaaGreatDoor
open Go Go.Am Classical
set_option maxRecDepth 100000

/-- The first positions whose action is not to keep. -/
def ends (l : List Int) (k : Nat) : List Int := ((List.range k).filter fun i => decide (l.getD i 0 ≠ 1)).map fun (i : Nat) => (i : Int)
theorem ends_yes {l : List Int} {k : Nat} (h : k < l.length) (e : ¬ l[k] = 1) : ends l (k + 1) = ends l k ++ [(k : Int)] := by
  have this : l.getD k 0 ≠ 1 := by rw [getD_get h]; exact e
  unfold ends
  rw [List.range_succ, List.filter_append, List.map_append, List.filter_cons_of_pos (p := fun i => decide (l.getD i 0 ≠ 1)) (a := k) (decide_eq_true this)]
  rfl
theorem ends_no {l : List Int} {k : Nat} (h : k < l.length) (e : l[k] = 1) : ends l (k + 1) = ends l k := by
  have this : l.getD k 0 = 1 := by rw [getD_get h]; exact e
  unfold ends
  rw [List.range_succ, List.filter_append, List.map_append, List.filter_cons_of_neg (p := fun i => decide (l.getD i 0 ≠ 1)) (a := k) (fun h => absurd this (of_decide_eq_true h)), List.filter_nil, List.map_nil, List.append_nil]
theorem ends_len {l : List Int} {k : Nat} : (ends l k).length ≤ k := by
  simp only [ends, List.length_map]
  refine Nat.le_trans (List.length_filter_le _ _) (by simp)

theorem Ends_c {l : List Int} (hx : l.length ≤ 1001) : Pu Tryz.prog 28 [ints l] (ints (ends l l.length)) := by
  refine Pu.of_v mixed T0 Tryz.func28 rfl rfl (by simp [noBoxs, noBox_ints]) ?_
  repeat' ((conv => whnf) <;> (first
    | refine SeqV.go mixed T0 ?_
    | exact True.intro
    | (refine Br.mk (fun _ => ?_) (fun _ => ?_) <;> (try (exfalso; omega)))
    | refine Get.exp rfl ?_
    | refine Idx.lst (by first | omega | assumption | exact hl _ _ | exact inK64 (by omega) (by omega) | (simp; omega) | (simp; done)) ?_
    | refine Idx.lstS (by intro _; rfl) (by first | omega | assumption | exact hl _ _ | exact inK64 (by omega) (by omega) | (simp; omega) | (simp; done)) ?_
    | refine IdxS.nat (by first | omega | assumption | exact hl _ _ | exact inK64 (by omega) (by omega) | (simp; omega) | (simp; done)) ?_
    | refine IdxO.nat (by first | omega | assumption | exact hl _ _ | exact inK64 (by omega) (by omega) | (simp; omega) | (simp; done)) ?_
    | refine QuietV.mk (by kernel_rfl) ?_
    | refine Put.exp rfl ?_
    | refine SrcV.exp rfl ?_
    | refine Chk.mk (by first | rfl | exact inK64 (by omega) (by omega) | omega | assumption) ?_
    | refine Chk.mk ⟨Nat.le_of_ble_eq_true rfl, Nat.le_of_ble_eq_true rfl⟩ ?_
    | refine Chk.grow (by intro _; rfl) 8 rfl (by omega) (by omega) ?_
    | refine Chk.room 8 rfl (by omega) (by omega) ?_
    | refine Chk.made 8 rfl (by omega) (by omega) (by omega) ?_))
  refine LoopV.by2 mixed T0 (fun (k : Nat) (o : List Int) => ⟨tmp 21 [(0, ints l), (3, ownD 0 1 o), (4, i64 (k : Int))], ⟨1, ownB 0 (fun x => [i64 x]) o⟩⟩)
    (fun k o => k ≤ l.length ∧ o = ends l k) (fun k _ => l.length - k) 0 [] ⟨by omega, rfl⟩ ?_ ?_
  · exact Lf.of2 [] [] (by (repeat (first | exact Ents.nil | refine Ents.cons rfl (by first | exact Rd.any | exact Rd.ptr rfl | exact Rd.map rfl | exact Rd.sl rfl | exact Rd.same rfl | exact Rd.int (by omega) | assumption | exact Rd.same (noBox_ints _) | exact Rd.same (noBox_strs _) | exact Rd.same (noBox_intss _) | exact Rd.same (noBox_spns _)) ?_ | fail)); done) (by (repeat (first | exact Bxs.nil | refine Bxs.cons rfl rfl rfl (by first | exact Rb.cells (Rds.same rfl) rfl | exact Rb.cells (Rds.same (noBoxs_map (fun _ => rfl) _)) rfl | exact Rb.cells (Rds.same (noBoxs_fill (fun _ => rfl) rfl)) rfl | exact Rb.cells (Rds.same (noBoxs_flat (fun _ => rfl) _)) rfl | exact Rb.map (Res.same (noBox_set rfl _)) | exact Rb.map (Res.same (noBox_pos _ _)) | exact Rb.map (Res.same (by simp)) | exact Rb.cells (by (repeat (first | exact Rds.nil | refine Rds.cons (by first | exact Rd.any | exact Rd.ptr rfl | exact Rd.map rfl | exact Rd.sl rfl | exact Rd.same rfl | exact Rd.int (by omega) | assumption | exact Rd.same (noBox_ints _) | exact Rd.same (noBox_strs _) | exact Rd.same (noBox_intss _) | exact Rd.same (noBox_spns _)) ?_ | fail)); done) rfl | exact Rb.map (Res.eqs (map_succ (by omega)) (noBox_set rfl _)) | exact Rb.map (Res.eqs (pos_succ (by omega)) (noBox_pos _ _)) | exact Rb.cells (Rds.eqs (map_succ (by omega)) (noBoxs_map (fun _ => rfl) _)) rfl | assumption) ?_ | fail)); done) rfl rfl
  intro k o ⟨h3, h4⟩
  cases o with
  | nil =>
    repeat' ((conv => whnf) <;> (first
      | refine SeqV.go mixed T0 ?_
      | exact True.intro
      | (refine Br.mk (fun _ => ?_) (fun _ => ?_) <;> (try (exfalso; omega)))
      | refine Get.exp rfl ?_
      | refine Idx.lst (by first | omega | assumption | exact hl _ _ | exact inK64 (by omega) (by omega) | (simp; omega) | (simp; done)) ?_
      | refine Idx.lstS (by intro _; rfl) (by first | omega | assumption | exact hl _ _ | exact inK64 (by omega) (by omega) | (simp; omega) | (simp; done)) ?_
      | refine IdxS.nat (by first | omega | assumption | exact hl _ _ | exact inK64 (by omega) (by omega) | (simp; omega) | (simp; done)) ?_
      | refine IdxO.nat (by first | omega | assumption | exact hl _ _ | exact inK64 (by omega) (by omega) | (simp; omega) | (simp; done)) ?_
      | refine QuietV.mk (by kernel_rfl) ?_
      | refine Put.exp rfl ?_
      | refine SrcV.exp rfl ?_
      | refine Chk.mk (by first | rfl | exact inK64 (by omega) (by omega) | omega | assumption) ?_
      | refine Chk.mk ⟨Nat.le_of_ble_eq_true rfl, Nat.le_of_ble_eq_true rfl⟩ ?_
      | refine Chk.grow (by intro _; rfl) 8 rfl (by omega) (by omega) ?_
      | refine Chk.room 8 rfl (by omega) (by omega) ?_
      | refine Chk.made 8 rfl (by omega) (by omega) (by omega) ?_))
    all_goals (conv => whnf)
    all_goals first
      | (refine ⟨k + 1, [], ⟨by omega, by rw [ends_no (by omega) (by omega)]; exact h4⟩, by omega, ?_⟩
         exact Lf.of2 [] [] (by (repeat (first | exact Ents.nil | refine Ents.cons rfl (by first | exact Rd.any | exact Rd.ptr rfl | exact Rd.map rfl | exact Rd.sl rfl | exact Rd.same rfl | exact Rd.int (by omega) | assumption | exact Rd.same (noBox_ints _) | exact Rd.same (noBox_strs _) | exact Rd.same (noBox_intss _) | exact Rd.same (noBox_spns _)) ?_ | fail)); done) (by (repeat (first | exact Bxs.nil | refine Bxs.cons rfl rfl rfl (by first | exact Rb.cells (Rds.same rfl) rfl | exact Rb.cells (Rds.same (noBoxs_map (fun _ => rfl) _)) rfl | exact Rb.cells (Rds.same (noBoxs_fill (fun _ => rfl) rfl)) rfl | exact Rb.cells (Rds.same (noBoxs_flat (fun _ => rfl) _)) rfl | exact Rb.map (Res.same (noBox_set rfl _)) | exact Rb.map (Res.same (noBox_pos _ _)) | exact Rb.map (Res.same (by simp)) | exact Rb.cells (by (repeat (first | exact Rds.nil | refine Rds.cons (by first | exact Rd.any | exact Rd.ptr rfl | exact Rd.map rfl | exact Rd.sl rfl | exact Rd.same rfl | exact Rd.int (by omega) | assumption | exact Rd.same (noBox_ints _) | exact Rd.same (noBox_strs _) | exact Rd.same (noBox_intss _) | exact Rd.same (noBox_spns _)) ?_ | fail)); done) rfl | exact Rb.map (Res.eqs (map_succ (by omega)) (noBox_set rfl _)) | exact Rb.map (Res.eqs (pos_succ (by omega)) (noBox_pos _ _)) | exact Rb.cells (Rds.eqs (map_succ (by omega)) (noBoxs_map (fun _ => rfl) _)) rfl | assumption) ?_ | fail)); done) rfl rfl)
      | (refine ⟨k + 1, _, ⟨by omega, by rw [ends_yes (by omega) (by omega), ← h4]⟩, by omega, ?_⟩
         exact Lf.of2 [(0, _)] [] (by (repeat (first | exact Ents.nil | refine Ents.cons rfl (by first | exact Rd.any | exact Rd.ptr rfl | exact Rd.map rfl | exact Rd.sl rfl | exact Rd.same rfl | exact Rd.int (by omega) | assumption | exact Rd.same (noBox_ints _) | exact Rd.same (noBox_strs _) | exact Rd.same (noBox_intss _) | exact Rd.same (noBox_spns _)) ?_ | fail)); done) (by (repeat (first | exact Bxs.nil | refine Bxs.cons rfl rfl rfl (by first | exact Rb.cells (Rds.same rfl) rfl | exact Rb.cells (Rds.same (noBoxs_map (fun _ => rfl) _)) rfl | exact Rb.cells (Rds.same (noBoxs_fill (fun _ => rfl) rfl)) rfl | exact Rb.cells (Rds.same (noBoxs_flat (fun _ => rfl) _)) rfl | exact Rb.map (Res.same (noBox_set rfl _)) | exact Rb.map (Res.same (noBox_pos _ _)) | exact Rb.map (Res.same (by simp)) | exact Rb.cells (by (repeat (first | exact Rds.nil | refine Rds.cons (by first | exact Rd.any | exact Rd.ptr rfl | exact Rd.map rfl | exact Rd.sl rfl | exact Rd.same rfl | exact Rd.int (by omega) | assumption | exact Rd.same (noBox_ints _) | exact Rd.same (noBox_strs _) | exact Rd.same (noBox_intss _) | exact Rd.same (noBox_spns _)) ?_ | fail)); done) rfl | exact Rb.map (Res.eqs (map_succ (by omega)) (noBox_set rfl _)) | exact Rb.map (Res.eqs (pos_succ (by omega)) (noBox_pos _ _)) | exact Rb.cells (Rds.eqs (map_succ (by omega)) (noBoxs_map (fun _ => rfl) _)) rfl | assumption) ?_ | fail)); done) rfl rfl)
      | (rw [show l.length = k by omega, ← h4]
         exact ⟨.nil⟩)
  | cons x xs =>
    have hlen : (x :: xs).length ≤ 1001 := by have := ends_len (l := l) (k := k); rw [h4]; omega
    repeat' ((conv => whnf) <;> (first
      | refine SeqV.go mixed T0 ?_
      | exact True.intro
      | (refine Br.mk (fun _ => ?_) (fun _ => ?_) <;> (try (exfalso; omega)))
      | refine Get.exp rfl ?_
      | refine Idx.lst (by first | omega | assumption | exact hl _ _ | exact inK64 (by omega) (by omega) | (simp; omega) | (simp; done)) ?_
      | refine Idx.lstS (by intro _; rfl) (by first | omega | assumption | exact hl _ _ | exact inK64 (by omega) (by omega) | (simp; omega) | (simp; done)) ?_
      | refine IdxS.nat (by first | omega | assumption | exact hl _ _ | exact inK64 (by omega) (by omega) | (simp; omega) | (simp; done)) ?_
      | refine IdxO.nat (by first | omega | assumption | exact hl _ _ | exact inK64 (by omega) (by omega) | (simp; omega) | (simp; done)) ?_
      | refine QuietV.mk (by kernel_rfl) ?_
      | refine Put.exp rfl ?_
      | refine SrcV.exp rfl ?_
      | refine Chk.mk (by first | rfl | exact inK64 (by omega) (by omega) | omega | assumption) ?_
      | refine Chk.mk ⟨Nat.le_of_ble_eq_true rfl, Nat.le_of_ble_eq_true rfl⟩ ?_
      | refine Chk.grow (by intro _; rfl) 8 rfl (by omega) (by omega) ?_
      | refine Chk.room 8 rfl (by omega) (by omega) ?_
      | refine Chk.made 8 rfl (by omega) (by omega) (by omega) ?_))
    all_goals (conv => whnf)
    all_goals first
      | (refine ⟨k + 1, x :: xs, ⟨by omega, by rw [ends_no (by omega) (by omega)]; exact h4⟩, by omega, ?_⟩
         exact Lf.of2 [(0, _)] [] (by (repeat (first | exact Ents.nil | refine Ents.cons rfl (by first | exact Rd.any | exact Rd.ptr rfl | exact Rd.map rfl | exact Rd.sl rfl | exact Rd.same rfl | exact Rd.int (by omega) | assumption | exact Rd.same (noBox_ints _) | exact Rd.same (noBox_strs _) | exact Rd.same (noBox_intss _) | exact Rd.same (noBox_spns _)) ?_ | fail)); done) (by (repeat (first | exact Bxs.nil | refine Bxs.cons rfl rfl rfl (by first | exact Rb.cells (Rds.same rfl) rfl | exact Rb.cells (Rds.same (noBoxs_map (fun _ => rfl) _)) rfl | exact Rb.cells (Rds.same (noBoxs_fill (fun _ => rfl) rfl)) rfl | exact Rb.cells (Rds.same (noBoxs_flat (fun _ => rfl) _)) rfl | exact Rb.map (Res.same (noBox_set rfl _)) | exact Rb.map (Res.same (noBox_pos _ _)) | exact Rb.map (Res.same (by simp)) | exact Rb.cells (by (repeat (first | exact Rds.nil | refine Rds.cons (by first | exact Rd.any | exact Rd.ptr rfl | exact Rd.map rfl | exact Rd.sl rfl | exact Rd.same rfl | exact Rd.int (by omega) | assumption | exact Rd.same (noBox_ints _) | exact Rd.same (noBox_strs _) | exact Rd.same (noBox_intss _) | exact Rd.same (noBox_spns _)) ?_ | fail)); done) rfl | exact Rb.map (Res.eqs (map_succ (by omega)) (noBox_set rfl _)) | exact Rb.map (Res.eqs (pos_succ (by omega)) (noBox_pos _ _)) | exact Rb.cells (Rds.eqs (map_succ (by omega)) (noBoxs_map (fun _ => rfl) _)) rfl | assumption) ?_ | fail)); done) rfl rfl)
      | (refine ⟨k + 1, _, ⟨by omega, by rw [ends_yes (by omega) (by omega), ← h4]⟩, by omega, ?_⟩
         exact Lf.of2 [(0, _)] [] (by (repeat (first | exact Ents.nil | refine Ents.cons rfl (by first | exact Rd.sl' rfl (by simp) (by simp) | (first | exact Rd.any | exact Rd.ptr rfl | exact Rd.map rfl | exact Rd.sl rfl | exact Rd.same rfl | exact Rd.int (by omega) | assumption | exact Rd.same (noBox_ints _) | exact Rd.same (noBox_strs _) | exact Rd.same (noBox_intss _) | exact Rd.same (noBox_spns _))) ?_ | fail)); done) (by (repeat (first | exact Bxs.nil | refine Bxs.cons rfl rfl rfl (by first | exact Rb.cells (Rds.eqs (app_cells (by intro _; rfl) (x :: xs) _) (noBoxs_flat (by intro _; rfl) _)) rfl | exact Rb.cells (Rds.same rfl) rfl | exact Rb.cells (Rds.same (noBoxs_map (fun _ => rfl) _)) rfl | exact Rb.cells (Rds.same (noBoxs_fill (fun _ => rfl) rfl)) rfl | exact Rb.cells (Rds.same (noBoxs_flat (fun _ => rfl) _)) rfl | exact Rb.map (Res.same (noBox_set rfl _)) | exact Rb.map (Res.same (noBox_pos _ _)) | exact Rb.map (Res.same (by simp)) | exact Rb.cells (by (repeat (first | exact Rds.nil | refine Rds.cons (by first | exact Rd.sl' rfl (by simp) (by simp) | (first | exact Rd.any | exact Rd.ptr rfl | exact Rd.map rfl | exact Rd.sl rfl | exact Rd.same rfl | exact Rd.int (by omega) | assumption | exact Rd.same (noBox_ints _) | exact Rd.same (noBox_strs _) | exact Rd.same (noBox_intss _) | exact Rd.same (noBox_spns _))) ?_ | fail)); done) rfl | exact Rb.map (Res.eqs (map_succ (by omega)) (noBox_set rfl _)) | exact Rb.map (Res.eqs (pos_succ (by omega)) (noBox_pos _ _)) | exact Rb.cells (Rds.eqs (map_succ (by omega)) (noBoxs_map (fun _ => rfl) _)) rfl | assumption) ?_ | fail)); done) rfl rfl)
      | (rw [show l.length = k by omega, ← h4]
         exact RetV.own1 (id := 0) (l := x :: xs) (rest := []) (fun _ => rfl))

theorem act_le {p : Prp} {t : Tbl} {text : List Int} (h : text.length ≤ 1000) : (actV p t text).length ≤ 1001 := by
  unfold actV
  split
  · rw [acts_len]; simp [namedV]; omega
  · simp
/-- The boundaries of a text. -/
noncomputable def bndV (p : Prp) (t : Tbl) (text : List Int) : List Int := ends (actV p t text) (actV p t text).length
theorem bnd_len {p : Prp} {t : Tbl} {text : List Int} (h : text.length ≤ 1000) : (bndV p t text).length ≤ 1001 := by
  have := ends_len (l := actV p t text) (k := (actV p t text).length)
  have := act_le (p := p) (t := t) h
  unfold bndV; omega

theorem sBoundaries_c {p : Prp} {t : Tbl} {text : List Int} (hp : p.ok) (ht : t.ok) (h1 : p.names.length ≤ 1000) (h2 : p.spans.length ≤ 1000) (hx : text.length ≤ 1000) : Pu Tryz.prog 18 [prpD p, tabD t, ints text] (ints (bndV p t text)) := by
  have ha := sActions_c (text := text) hp ht h1 h2 hx
  have hl := act_le (p := p) (t := t) hx
  unfold bndV
  refine Pu.of_v mixed T0 Tryz.func18 rfl rfl (by simp [noBox, noBoxs, noBox_strs, noBox_spns, noBox_ints, noBox_intss]) ?_
  generalize actV p t text = l at ha hl ⊢
  repeat' ((conv => whnf) <;> (first
    | refine SeqV.go mixed T0 ?_
    | exact True.intro
    | (refine Br.mk (fun _ => ?_) (fun _ => ?_) <;> (try (exfalso; omega)))
    | refine Get.exp rfl ?_
    | refine Idx.lst (by first | omega | assumption | exact hl _ _ | exact inK64 (by omega) (by omega) | (simp; omega) | (simp; done)) ?_
    | refine Idx.lstS (by intro _; rfl) (by first | omega | assumption | exact hl _ _ | exact inK64 (by omega) (by omega) | (simp; omega) | (simp; done)) ?_
    | refine IdxS.nat (by first | omega | assumption | exact hl _ _ | exact inK64 (by omega) (by omega) | (simp; omega) | (simp; done)) ?_
    | refine IdxO.nat (by first | omega | assumption | exact hl _ _ | exact inK64 (by omega) (by omega) | (simp; omega) | (simp; done)) ?_
    | refine QuietV.mk (by kernel_rfl) ?_
    | refine Put.exp rfl ?_
    | refine SrcV.exp rfl ?_
    | refine Chk.mk (by first | rfl | exact inK64 (by omega) (by omega) | omega | assumption) ?_
    | refine Chk.mk ⟨Nat.le_of_ble_eq_true rfl, Nat.le_of_ble_eq_true rfl⟩ ?_
    | refine Chk.grow (by intro _; rfl) 8 rfl (by omega) (by omega) ?_
    | refine Chk.room 8 rfl (by omega) (by omega) ?_
    | refine Chk.made 8 rfl (by omega) (by omega) (by omega) ?_
    | refine Cll.pu ha ?_))
  all_goals (conv => whnf)
  refine LoopV.by2 mixed T0 (fun (k : Nat) (o : List Int) => ⟨tmp 28 [(7, ownD 0 1 o), (13, ints l), (14, i64 l.length), (15, i64 (k : Int))], ⟨1, ownB 0 (fun x => [i64 x]) o⟩⟩)
    (fun k o => k ≤ l.length ∧ o = ends l k) (fun k _ => l.length - k) 0 [] ⟨by omega, rfl⟩ ?_ ?_
  · exact Lf.of2 [] [] (by (repeat (first | exact Ents.nil | refine Ents.cons rfl (by first | exact Rd.any | exact Rd.ptr rfl | exact Rd.map rfl | exact Rd.sl rfl | exact Rd.same rfl | exact Rd.int (by omega) | assumption | exact Rd.same (noBox_ints _) | exact Rd.same (noBox_strs _) | exact Rd.same (noBox_intss _) | exact Rd.same (noBox_spns _)) ?_ | fail)); done) (by (repeat (first | exact Bxs.nil | refine Bxs.cons rfl rfl rfl (by first | exact Rb.cells (Rds.same rfl) rfl | exact Rb.cells (Rds.same (noBoxs_map (fun _ => rfl) _)) rfl | exact Rb.cells (Rds.same (noBoxs_fill (fun _ => rfl) rfl)) rfl | exact Rb.cells (Rds.same (noBoxs_flat (fun _ => rfl) _)) rfl | exact Rb.map (Res.same (noBox_set rfl _)) | exact Rb.map (Res.same (noBox_pos _ _)) | exact Rb.map (Res.same (by simp)) | exact Rb.cells (by (repeat (first | exact Rds.nil | refine Rds.cons (by first | exact Rd.any | exact Rd.ptr rfl | exact Rd.map rfl | exact Rd.sl rfl | exact Rd.same rfl | exact Rd.int (by omega) | assumption | exact Rd.same (noBox_ints _) | exact Rd.same (noBox_strs _) | exact Rd.same (noBox_intss _) | exact Rd.same (noBox_spns _)) ?_ | fail)); done) rfl | exact Rb.map (Res.eqs (map_succ (by omega)) (noBox_set rfl _)) | exact Rb.map (Res.eqs (pos_succ (by omega)) (noBox_pos _ _)) | exact Rb.cells (Rds.eqs (map_succ (by omega)) (noBoxs_map (fun _ => rfl) _)) rfl | assumption) ?_ | fail)); done) rfl rfl
  intro k o ⟨h3, h4⟩
  cases o with
  | nil =>
    repeat' ((conv => whnf) <;> (first
      | refine SeqV.go mixed T0 ?_
      | exact True.intro
      | (refine Br.mk (fun _ => ?_) (fun _ => ?_) <;> (try (exfalso; omega)))
      | refine Get.exp rfl ?_
      | refine Idx.lst (by first | omega | assumption | exact hl _ _ | exact inK64 (by omega) (by omega) | (simp; omega) | (simp; done)) ?_
      | refine Idx.lstS (by intro _; rfl) (by first | omega | assumption | exact hl _ _ | exact inK64 (by omega) (by omega) | (simp; omega) | (simp; done)) ?_
      | refine IdxS.nat (by first | omega | assumption | exact hl _ _ | exact inK64 (by omega) (by omega) | (simp; omega) | (simp; done)) ?_
      | refine IdxO.nat (by first | omega | assumption | exact hl _ _ | exact inK64 (by omega) (by omega) | (simp; omega) | (simp; done)) ?_
      | refine QuietV.mk (by kernel_rfl) ?_
      | refine Put.exp rfl ?_
      | refine SrcV.exp rfl ?_
      | refine Chk.mk (by first | rfl | exact inK64 (by omega) (by omega) | omega | assumption) ?_
      | refine Chk.mk ⟨Nat.le_of_ble_eq_true rfl, Nat.le_of_ble_eq_true rfl⟩ ?_
      | refine Chk.grow (by intro _; rfl) 8 rfl (by omega) (by omega) ?_
      | refine Chk.room 8 rfl (by omega) (by omega) ?_
      | refine Chk.made 8 rfl (by omega) (by omega) (by omega) ?_))
    all_goals (conv => whnf)
    all_goals first
      | (refine ⟨k + 1, [], ⟨by omega, by rw [ends_no (by omega) (by omega)]; exact h4⟩, by omega, ?_⟩
         exact Lf.of2 [] [] (by (repeat (first | exact Ents.nil | refine Ents.cons rfl (by first | exact Rd.any | exact Rd.ptr rfl | exact Rd.map rfl | exact Rd.sl rfl | exact Rd.same rfl | exact Rd.int (by omega) | assumption | exact Rd.same (noBox_ints _) | exact Rd.same (noBox_strs _) | exact Rd.same (noBox_intss _) | exact Rd.same (noBox_spns _)) ?_ | fail)); done) (by (repeat (first | exact Bxs.nil | refine Bxs.cons rfl rfl rfl (by first | exact Rb.cells (Rds.same rfl) rfl | exact Rb.cells (Rds.same (noBoxs_map (fun _ => rfl) _)) rfl | exact Rb.cells (Rds.same (noBoxs_fill (fun _ => rfl) rfl)) rfl | exact Rb.cells (Rds.same (noBoxs_flat (fun _ => rfl) _)) rfl | exact Rb.map (Res.same (noBox_set rfl _)) | exact Rb.map (Res.same (noBox_pos _ _)) | exact Rb.map (Res.same (by simp)) | exact Rb.cells (by (repeat (first | exact Rds.nil | refine Rds.cons (by first | exact Rd.any | exact Rd.ptr rfl | exact Rd.map rfl | exact Rd.sl rfl | exact Rd.same rfl | exact Rd.int (by omega) | assumption | exact Rd.same (noBox_ints _) | exact Rd.same (noBox_strs _) | exact Rd.same (noBox_intss _) | exact Rd.same (noBox_spns _)) ?_ | fail)); done) rfl | exact Rb.map (Res.eqs (map_succ (by omega)) (noBox_set rfl _)) | exact Rb.map (Res.eqs (pos_succ (by omega)) (noBox_pos _ _)) | exact Rb.cells (Rds.eqs (map_succ (by omega)) (noBoxs_map (fun _ => rfl) _)) rfl | assumption) ?_ | fail)); done) rfl rfl)
      | (refine ⟨k + 1, _, ⟨by omega, by rw [ends_yes (by omega) (by omega), ← h4]⟩, by omega, ?_⟩
         exact Lf.of2 [(0, _)] [] (by (repeat (first | exact Ents.nil | refine Ents.cons rfl (by first | exact Rd.any | exact Rd.ptr rfl | exact Rd.map rfl | exact Rd.sl rfl | exact Rd.same rfl | exact Rd.int (by omega) | assumption | exact Rd.same (noBox_ints _) | exact Rd.same (noBox_strs _) | exact Rd.same (noBox_intss _) | exact Rd.same (noBox_spns _)) ?_ | fail)); done) (by (repeat (first | exact Bxs.nil | refine Bxs.cons rfl rfl rfl (by first | exact Rb.cells (Rds.same rfl) rfl | exact Rb.cells (Rds.same (noBoxs_map (fun _ => rfl) _)) rfl | exact Rb.cells (Rds.same (noBoxs_fill (fun _ => rfl) rfl)) rfl | exact Rb.cells (Rds.same (noBoxs_flat (fun _ => rfl) _)) rfl | exact Rb.map (Res.same (noBox_set rfl _)) | exact Rb.map (Res.same (noBox_pos _ _)) | exact Rb.map (Res.same (by simp)) | exact Rb.cells (by (repeat (first | exact Rds.nil | refine Rds.cons (by first | exact Rd.any | exact Rd.ptr rfl | exact Rd.map rfl | exact Rd.sl rfl | exact Rd.same rfl | exact Rd.int (by omega) | assumption | exact Rd.same (noBox_ints _) | exact Rd.same (noBox_strs _) | exact Rd.same (noBox_intss _) | exact Rd.same (noBox_spns _)) ?_ | fail)); done) rfl | exact Rb.map (Res.eqs (map_succ (by omega)) (noBox_set rfl _)) | exact Rb.map (Res.eqs (pos_succ (by omega)) (noBox_pos _ _)) | exact Rb.cells (Rds.eqs (map_succ (by omega)) (noBoxs_map (fun _ => rfl) _)) rfl | assumption) ?_ | fail)); done) rfl rfl)
      | (rw [show l.length = k by omega, ← h4]
         exact ⟨.nil⟩)
  | cons x xs =>
    have hlen : (x :: xs).length ≤ 1001 := by have := ends_len (l := l) (k := k); rw [h4]; omega
    repeat' ((conv => whnf) <;> (first
      | refine SeqV.go mixed T0 ?_
      | exact True.intro
      | (refine Br.mk (fun _ => ?_) (fun _ => ?_) <;> (try (exfalso; omega)))
      | refine Get.exp rfl ?_
      | refine Idx.lst (by first | omega | assumption | exact hl _ _ | exact inK64 (by omega) (by omega) | (simp; omega) | (simp; done)) ?_
      | refine Idx.lstS (by intro _; rfl) (by first | omega | assumption | exact hl _ _ | exact inK64 (by omega) (by omega) | (simp; omega) | (simp; done)) ?_
      | refine IdxS.nat (by first | omega | assumption | exact hl _ _ | exact inK64 (by omega) (by omega) | (simp; omega) | (simp; done)) ?_
      | refine IdxO.nat (by first | omega | assumption | exact hl _ _ | exact inK64 (by omega) (by omega) | (simp; omega) | (simp; done)) ?_
      | refine QuietV.mk (by kernel_rfl) ?_
      | refine Put.exp rfl ?_
      | refine SrcV.exp rfl ?_
      | refine Chk.mk (by first | rfl | exact inK64 (by omega) (by omega) | omega | assumption) ?_
      | refine Chk.mk ⟨Nat.le_of_ble_eq_true rfl, Nat.le_of_ble_eq_true rfl⟩ ?_
      | refine Chk.grow (by intro _; rfl) 8 rfl (by omega) (by omega) ?_
      | refine Chk.room 8 rfl (by omega) (by omega) ?_
      | refine Chk.made 8 rfl (by omega) (by omega) (by omega) ?_))
    all_goals (conv => whnf)
    all_goals first
      | (refine ⟨k + 1, x :: xs, ⟨by omega, by rw [ends_no (by omega) (by omega)]; exact h4⟩, by omega, ?_⟩
         exact Lf.of2 [(0, _)] [] (by (repeat (first | exact Ents.nil | refine Ents.cons rfl (by first | exact Rd.any | exact Rd.ptr rfl | exact Rd.map rfl | exact Rd.sl rfl | exact Rd.same rfl | exact Rd.int (by omega) | assumption | exact Rd.same (noBox_ints _) | exact Rd.same (noBox_strs _) | exact Rd.same (noBox_intss _) | exact Rd.same (noBox_spns _)) ?_ | fail)); done) (by (repeat (first | exact Bxs.nil | refine Bxs.cons rfl rfl rfl (by first | exact Rb.cells (Rds.same rfl) rfl | exact Rb.cells (Rds.same (noBoxs_map (fun _ => rfl) _)) rfl | exact Rb.cells (Rds.same (noBoxs_fill (fun _ => rfl) rfl)) rfl | exact Rb.cells (Rds.same (noBoxs_flat (fun _ => rfl) _)) rfl | exact Rb.map (Res.same (noBox_set rfl _)) | exact Rb.map (Res.same (noBox_pos _ _)) | exact Rb.map (Res.same (by simp)) | exact Rb.cells (by (repeat (first | exact Rds.nil | refine Rds.cons (by first | exact Rd.any | exact Rd.ptr rfl | exact Rd.map rfl | exact Rd.sl rfl | exact Rd.same rfl | exact Rd.int (by omega) | assumption | exact Rd.same (noBox_ints _) | exact Rd.same (noBox_strs _) | exact Rd.same (noBox_intss _) | exact Rd.same (noBox_spns _)) ?_ | fail)); done) rfl | exact Rb.map (Res.eqs (map_succ (by omega)) (noBox_set rfl _)) | exact Rb.map (Res.eqs (pos_succ (by omega)) (noBox_pos _ _)) | exact Rb.cells (Rds.eqs (map_succ (by omega)) (noBoxs_map (fun _ => rfl) _)) rfl | assumption) ?_ | fail)); done) rfl rfl)
      | (refine ⟨k + 1, _, ⟨by omega, by rw [ends_yes (by omega) (by omega), ← h4]⟩, by omega, ?_⟩
         exact Lf.of2 [(0, _)] [] (by (repeat (first | exact Ents.nil | refine Ents.cons rfl (by first | exact Rd.sl' rfl (by simp) (by simp) | (first | exact Rd.any | exact Rd.ptr rfl | exact Rd.map rfl | exact Rd.sl rfl | exact Rd.same rfl | exact Rd.int (by omega) | assumption | exact Rd.same (noBox_ints _) | exact Rd.same (noBox_strs _) | exact Rd.same (noBox_intss _) | exact Rd.same (noBox_spns _))) ?_ | fail)); done) (by (repeat (first | exact Bxs.nil | refine Bxs.cons rfl rfl rfl (by first | exact Rb.cells (Rds.eqs (app_cells (by intro _; rfl) (x :: xs) _) (noBoxs_flat (by intro _; rfl) _)) rfl | exact Rb.cells (Rds.same rfl) rfl | exact Rb.cells (Rds.same (noBoxs_map (fun _ => rfl) _)) rfl | exact Rb.cells (Rds.same (noBoxs_fill (fun _ => rfl) rfl)) rfl | exact Rb.cells (Rds.same (noBoxs_flat (fun _ => rfl) _)) rfl | exact Rb.map (Res.same (noBox_set rfl _)) | exact Rb.map (Res.same (noBox_pos _ _)) | exact Rb.map (Res.same (by simp)) | exact Rb.cells (by (repeat (first | exact Rds.nil | refine Rds.cons (by first | exact Rd.sl' rfl (by simp) (by simp) | (first | exact Rd.any | exact Rd.ptr rfl | exact Rd.map rfl | exact Rd.sl rfl | exact Rd.same rfl | exact Rd.int (by omega) | assumption | exact Rd.same (noBox_ints _) | exact Rd.same (noBox_strs _) | exact Rd.same (noBox_intss _) | exact Rd.same (noBox_spns _))) ?_ | fail)); done) rfl | exact Rb.map (Res.eqs (map_succ (by omega)) (noBox_set rfl _)) | exact Rb.map (Res.eqs (pos_succ (by omega)) (noBox_pos _ _)) | exact Rb.cells (Rds.eqs (map_succ (by omega)) (noBoxs_map (fun _ => rfl) _)) rfl | assumption) ?_ | fail)); done) rfl rfl)
      | (rw [show l.length = k by omega, ← h4]
         exact RetV.own1 (id := 0) (l := x :: xs) (rest := []) (fun _ => rfl))

theorem rsBoundaries_c {p : Prp} {t : Tbl} {text : List Int} (hp : p.ok) (ht : t.ok) (hx : text.length ≤ 1000) : Pu Tryz.prog 19 [prpD p, tabD t, ints text] (ints (bndV p t text)) := by
  have ha := rsActions_c (text := text) hp ht hx
  have he := Ends_c (act_le (p := p) (t := t) hx)
  refine Pu.of_v mixed T0 Tryz.func19 rfl rfl (by simp [noBox, noBoxs, noBox_strs, noBox_spns, noBox_ints, noBox_intss]) ?_
  repeat' ((conv => whnf) <;> (first
    | refine SeqV.go mixed T0 ?_
    | exact True.intro
    | (refine Br.mk (fun _ => ?_) (fun _ => ?_) <;> (try (exfalso; omega)))
    | refine Get.exp rfl ?_
    | refine Idx.lst (by first | omega | assumption | exact hl _ _ | exact inK64 (by omega) (by omega) | (simp; omega) | (simp; done)) ?_
    | refine Idx.lstS (by intro _; rfl) (by first | omega | assumption | exact hl _ _ | exact inK64 (by omega) (by omega) | (simp; omega) | (simp; done)) ?_
    | refine IdxS.nat (by first | omega | assumption | exact hl _ _ | exact inK64 (by omega) (by omega) | (simp; omega) | (simp; done)) ?_
    | refine IdxO.nat (by first | omega | assumption | exact hl _ _ | exact inK64 (by omega) (by omega) | (simp; omega) | (simp; done)) ?_
    | refine QuietV.mk (by kernel_rfl) ?_
    | refine Put.exp rfl ?_
    | refine SrcV.exp rfl ?_
    | refine Chk.mk (by first | rfl | exact inK64 (by omega) (by omega) | omega | assumption) ?_
    | refine Chk.mk ⟨Nat.le_of_ble_eq_true rfl, Nat.le_of_ble_eq_true rfl⟩ ?_
    | refine Chk.grow (by intro _; rfl) 8 rfl (by omega) (by omega) ?_
    | refine Chk.room 8 rfl (by omega) (by omega) ?_
    | refine Chk.made 8 rfl (by omega) (by omega) (by omega) ?_
    | refine Cll.pu ha ?_
    | refine Cll.pu he ?_))
  all_goals (conv => whnf)
  exact RetV.same (noBox_ints _) rfl

theorem bDecide_c {t : Tbl} {l : List Int} {k : Nat} (ht : t.ok) (hx : l.length ≤ 1000) (hok : okL t l) (hk : k ≤ l.length) : Pu Tryz.prog 27 [tabD t, ints l, i64 (k : Int)] (.tup [i64 (decA t (decO t (stL t.left.next l k) (stR t.right.next l (l.length - k)))), i64 (decI (decO t (stL t.left.next l k) (stR t.right.next l (l.length - k))))]) := by
  have hL := Left_c ht hx
  have hR := Right_c ht hx
  rw [if_pos hok] at hL hR
  have hl := hok.2.2.2.2.1
  have hr := hok.2.2.2.2.2
  have nL := SL_len (nx := t.left.next) (l := l)
  have nR := SR_len (nx := t.right.next) (l := l)
  have hd := decide_c hok.2 (stL_range hl hok.1 k (by omega)) (stR_range hr hok.1 (l.length - k) (by omega))
  rw [← SL_get (nx := t.left.next) (l := l) (k := k) (by omega), ← SR_get (nx := t.right.next) (l := l) (k := k) (by omega)] at hd ⊢
  refine Pu.of_v mixed T0 Tryz.func27 rfl rfl (by simp [noBox, noBoxs, noBox_intss, noBox_ints, noBox_strs]) ?_
  repeat' ((conv => whnf) <;> (first
    | refine SeqV.go mixed T0 ?_
    | exact True.intro
    | (refine Br.mk (fun _ => ?_) (fun _ => ?_) <;> (try (exfalso; omega)))
    | refine Get.exp rfl ?_
    | refine Idx.lst (by first | omega | assumption | exact hl _ _ | exact inK64 (by omega) (by omega) | (simp; omega) | (simp; done)) ?_
    | refine Idx.lstS (by intro _; rfl) (by first | omega | assumption | exact hl _ _ | exact inK64 (by omega) (by omega) | (simp; omega) | (simp; done)) ?_
    | refine IdxS.nat (by first | omega | assumption | exact hl _ _ | exact inK64 (by omega) (by omega) | (simp; omega) | (simp; done)) ?_
    | refine IdxO.nat (by first | omega | assumption | exact hl _ _ | exact inK64 (by omega) (by omega) | (simp; omega) | (simp; done)) ?_
    | refine QuietV.mk (by kernel_rfl) ?_
    | refine Put.exp rfl ?_
    | refine SrcV.exp rfl ?_
    | refine Chk.mk (by first | rfl | exact inK64 (by omega) (by omega) | omega | assumption) ?_
    | refine Chk.mk ⟨Nat.le_of_ble_eq_true rfl, Nat.le_of_ble_eq_true rfl⟩ ?_
    | refine Chk.grow (by intro _; rfl) 8 rfl (by omega) (by omega) ?_
    | refine Chk.room 8 rfl (by omega) (by omega) ?_
    | refine Chk.made 8 rfl (by omega) (by omega) (by omega) ?_
    | refine DrawV.by mixed T0 [0, 0, 3, 0, 0, 31, 63, 127] (by kernel_rfl) ?_
    | refine DrawV.by mixed T0 [0, 0, 0, 6, 14, 0, 0, 96, 224, 511, 1023, 1023, 4095, 8191] (by kernel_rfl) ?_
    | refine Cal0.pu hL ?_
    | refine Cal0.pu hR ?_
    | refine Cal0.pu hd ?_
    | refine Idx.at k (by omega) (by omega) ?_))
  all_goals (conv => whnf)
  exact RetV.same rfl rfl
end Go.Proofs.YtgcjjodbmcnhkaaGreatDoor
