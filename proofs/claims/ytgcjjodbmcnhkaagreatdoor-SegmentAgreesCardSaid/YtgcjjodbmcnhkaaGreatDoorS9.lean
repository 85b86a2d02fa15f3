/-
  Contracts of functions over data: actions of tables and of texts.
-/
import Derived.Test.YtgcjjodbmcnhkaaGreatDoorS8
namespace Go.Proofs.YtgcjjodbmcnhkaaGreatDoor
open Go Go.Am Classical
set_option maxRecDepth 100000

theorem rActions_c {t : Tbl} {l : List Int} (ht : t.ok) (hx : l.length ≤ 1000) : Pu Tryz.prog 40 [tabD t, ints l] (ints (if okL t l then acts t l else [])) := by
  refine Pu.of_v mixed T0 Tryz.func40 rfl rfl (by simp [noBox, noBoxs, noBox_intss, noBox_ints, noBox_strs]) ?_
  repeat' ((conv => whnf) <;> (first
    | refine SeqV.go mixed T0 ?_
    | exact True.intro
    | (refine Br.mk (fun _ => ?_) (fun _ => ?_) <;> (try (exfalso; omega)))
    | refine Get.exp rfl ?_
    | refine Idx.lst (by first | omega | assumption | exact hl _ _ | exact inK64 (by omega) (by omega) | (simp; omega) | (simp; done)) ?_
    | refine Idx.lstS (by intro _; rfl) (by first | omega | assumption | exact hl _ _ | exact inK64 (by omega) (by omega) | (simp; omega) | (simp; done)) ?_
    | refine IdxS.nat (by first | omega | assumption | exact hl _ _ | exact inK64 (by omega) (by omega) | (simp; omega) | (simp; done)) ?_
    | refine IdxO.nat (by first | omega | assumption | exact hl _ _ | exact inK64 (by omega) (by omega) | (simp; omega) | (simp; done)) ?_
    | refine QuietV.mk (by kernel_rfl) ?_
    | refine Put.exp rfl ?_
    | refine SrcV.exp rfl ?_
    | refine Chk.mk (by first | rfl | exact inK64 (by omega) (by omega) | omega | assumption) ?_
    | refine Chk.mk ⟨Nat.le_of_ble_eq_true rfl, Nat.le_of_ble_eq_true rfl⟩ ?_
    | refine Chk.grow (by intro _; rfl) 8 rfl (by omega) (by omega) ?_
    | refine Chk.room 8 rfl (by omega) (by omega) ?_
    | refine Chk.made 8 rfl (by omega) (by omega) (by omega) ?_
    | refine Cll.dec (usable_c (by first | omega | assumption | exact hl _ _ | exact inK64 (by omega) (by omega) | (simp; omega) | (simp; done)) (by first | omega | assumption | exact hl _ _ | exact inK64 (by omega) (by omega) | (simp; omega) | (simp; done))) (fun _ => ?_) (fun _ => ?_)
    | refine Cal0.dec (usable_c (by first | omega | assumption | exact hl _ _ | exact inK64 (by omega) (by omega) | (simp; omega) | (simp; done)) (by first | omega | assumption | exact hl _ _ | exact inK64 (by omega) (by omega) | (simp; omega) | (simp; done))) (fun _ => ?_) (fun _ => ?_)))
  all_goals (conv => whnf)
  · rename_i hv
    have hok : okL t l := hv
    rw [if_pos hok]
    refine LoopV.by2 mixed T0 (fun (k : Nat) (o : List Int) => ⟨tmp 31 [(1, ints l), (2, .ptr 0 0), (5, ownD 1 1 o), (6, i64 (k : Int))], ⟨2, ownB 1 (fun x => [i64 x]) o ++ [(0, .cells [strs t.classes, ints t.actions, intss t.left.next, intss t.left.marks, intss t.right.next, intss t.right.marks] true)]⟩⟩)
      (fun k o => k ≤ l.length + 1 ∧ o = (acts t l).take k) (fun k _ => l.length + 1 - k) 0 [] ⟨by omega, rfl⟩ ?_ ?_
    · exact Lf.of2 [(0, _)] [] (by (repeat (first | exact Ents.nil | refine Ents.cons rfl (by first | exact Rd.any | exact Rd.ptr rfl | exact Rd.map rfl | exact Rd.sl rfl | exact Rd.same rfl | exact Rd.int (by omega) | assumption | exact Rd.same (noBox_ints _) | exact Rd.same (noBox_strs _) | exact Rd.same (noBox_intss _) | exact Rd.same (noBox_spns _)) ?_ | fail)); done) (by (repeat (first | exact Bxs.nil | refine Bxs.cons rfl rfl rfl (by first | exact Rb.cells (Rds.same rfl) rfl | exact Rb.cells (Rds.same (noBoxs_map (fun _ => rfl) _)) rfl | exact Rb.cells (Rds.same (noBoxs_fill (fun _ => rfl) rfl)) rfl | exact Rb.cells (Rds.same (noBoxs_flat (fun _ => rfl) _)) rfl | exact Rb.map (Res.same (noBox_set rfl _)) | exact Rb.map (Res.same (noBox_pos _ _)) | exact Rb.map (Res.same (by simp)) | exact Rb.cells (by (repeat (first | exact Rds.nil | refine Rds.cons (by first | exact Rd.any | exact Rd.ptr rfl | exact Rd.map rfl | exact Rd.sl rfl | exact Rd.same rfl | exact Rd.int (by omega) | assumption | exact Rd.same (noBox_ints _) | exact Rd.same (noBox_strs _) | exact Rd.same (noBox_intss _) | exact Rd.same (noBox_spns _)) ?_ | fail)); done) rfl | exact Rb.map (Res.eqs (map_succ (by omega)) (noBox_set rfl _)) | exact Rb.map (Res.eqs (pos_succ (by omega)) (noBox_pos _ _)) | exact Rb.cells (Rds.eqs (map_succ (by omega)) (noBoxs_map (fun _ => rfl) _)) rfl | assumption) ?_ | fail)); done) rfl rfl
    intro k o ⟨h3, h4⟩
    by_cases hk : k < l.length + 1
    · have hd := rDecide_c (k := k) ht hx hok (by omega)
      have hs := acts_succ (t := t) (l := l) hk
      rw [← h4] at hs
      cases o with
      | nil =>
        repeat' ((conv => whnf) <;> (first
          | refine SeqV.go mixed T0 ?_
          | exact True.intro
          | (refine Br.mk (fun _ => ?_) (fun _ => ?_) <;> (try (exfalso; omega)))
          | refine Get.exp rfl ?_
          | refine Idx.lst (by first | omega | assumption | exact hl _ _ | exact inK64 (by omega) (by omega) | (simp; omega) | (simp; done)) ?_
          | refine Idx.lstS (by intro _; rfl) (by first | omega | assumption | exact hl _ _ | exact inK64 (by omega) (by omega) | (simp; omega) | (simp; done)) ?_
          | refine IdxS.nat (by first | omega | assumption | exact hl _ _ | exact inK64 (by omega) (by omega) | (simp; omega) | (simp; done)) ?_
          | refine IdxO.nat (by first | omega | assumption | exact hl _ _ | exact inK64 (by omega) (by omega) | (simp; omega) | (simp; done)) ?_
          | refine QuietV.mk (by kernel_rfl) ?_
          | refine Put.exp rfl ?_
          | refine SrcV.exp rfl ?_
          | refine Chk.mk (by first | rfl | exact inK64 (by omega) (by omega) | omega | assumption) ?_
          | refine Chk.mk ⟨Nat.le_of_ble_eq_true rfl, Nat.le_of_ble_eq_true rfl⟩ ?_
          | refine Chk.grow (by intro _; rfl) 8 rfl (by omega) (by omega) ?_
          | refine Chk.room 8 rfl (by omega) (by omega) ?_
          | refine Chk.made 8 rfl (by omega) (by omega) (by omega) ?_
          | refine Cll.pu hd ?_))
        all_goals (conv => whnf)
        refine ⟨k + 1, _, ⟨by omega, hs.symm⟩, by omega, ?_⟩
        exact Lf.of2 [(0, _), (1, _)] [] (by (repeat (first | exact Ents.nil | refine Ents.cons rfl (by first | exact Rd.any | exact Rd.ptr rfl | exact Rd.map rfl | exact Rd.sl rfl | exact Rd.same rfl | exact Rd.int (by omega) | assumption | exact Rd.same (noBox_ints _) | exact Rd.same (noBox_strs _) | exact Rd.same (noBox_intss _) | exact Rd.same (noBox_spns _)) ?_ | fail)); done) (by (repeat (first | exact Bxs.nil | refine Bxs.cons rfl rfl rfl (by first | exact Rb.cells (Rds.same rfl) rfl | exact Rb.cells (Rds.same (noBoxs_map (fun _ => rfl) _)) rfl | exact Rb.cells (Rds.same (noBoxs_fill (fun _ => rfl) rfl)) rfl | exact Rb.cells (Rds.same (noBoxs_flat (fun _ => rfl) _)) rfl | exact Rb.map (Res.same (noBox_set rfl _)) | exact Rb.map (Res.same (noBox_pos _ _)) | exact Rb.map (Res.same (by simp)) | exact Rb.cells (by (repeat (first | exact Rds.nil | refine Rds.cons (by first | exact Rd.any | exact Rd.ptr rfl | exact Rd.map rfl | exact Rd.sl rfl | exact Rd.same rfl | exact Rd.int (by omega) | assumption | exact Rd.same (noBox_ints _) | exact Rd.same (noBox_strs _) | exact Rd.same (noBox_intss _) | exact Rd.same (noBox_spns _)) ?_ | fail)); done) rfl | exact Rb.map (Res.eqs (map_succ (by omega)) (noBox_set rfl _)) | exact Rb.map (Res.eqs (pos_succ (by omega)) (noBox_pos _ _)) | exact Rb.cells (Rds.eqs (map_succ (by omega)) (noBoxs_map (fun _ => rfl) _)) rfl | assumption) ?_ | fail)); done) rfl rfl
      | cons x xs =>
        have hlen : (x :: xs).length ≤ 1001 := by rw [h4]; simp [acts]; omega
        repeat' ((conv => whnf) <;> (first
          | refine SeqV.go mixed T0 ?_
          | exact True.intro
          | (refine Br.mk (fun _ => ?_) (fun _ => ?_) <;> (try (exfalso; omega)))
          | refine Get.exp rfl ?_
          | refine Idx.lst (by first | omega | assumption | exact hl _ _ | exact inK64 (by omega) (by omega) | (simp; omega) | (simp; done)) ?_
          | refine Idx.lstS (by intro _; rfl) (by first | omega | assumption | exact hl _ _ | exact inK64 (by omega) (by omega) | (simp; omega) | (simp; done)) ?_
          | refine IdxS.nat (by first | omega | assumption | exact hl _ _ | exact inK64 (by omega) (by omega) | (simp; omega) | (simp; done)) ?_
          | refine IdxO.nat (by first | omega | assumption | exact hl _ _ | exact inK64 (by omega) (by omega) | (simp; omega) | (simp; done)) ?_
          | refine QuietV.mk (by kernel_rfl) ?_
          | refine Put.exp rfl ?_
          | refine SrcV.exp rfl ?_
          | refine Chk.mk (by first | rfl | exact inK64 (by omega) (by omega) | omega | assumption) ?_
          | refine Chk.mk ⟨Nat.le_of_ble_eq_true rfl, Nat.le_of_ble_eq_true rfl⟩ ?_
          | refine Chk.grow (by intro _; rfl) 8 rfl (by omega) (by omega) ?_
          | refine Chk.room 8 rfl (by omega) (by omega) ?_
          | refine Chk.made 8 rfl (by omega) (by omega) (by omega) ?_
          | refine Cll.pu hd ?_))
        all_goals (conv => whnf)
        refine ⟨k + 1, _, ⟨by omega, hs.symm⟩, by omega, ?_⟩
        exact Lf.of2 [(0, _), (1, _)] [] (by (repeat (first | exact Ents.nil | refine Ents.cons rfl (by first | exact Rd.sl' rfl (by simp) (by simp) | (first | exact Rd.any | exact Rd.ptr rfl | exact Rd.map rfl | exact Rd.sl rfl | exact Rd.same rfl | exact Rd.int (by omega) | assumption | exact Rd.same (noBox_ints _) | exact Rd.same (noBox_strs _) | exact Rd.same (noBox_intss _) | exact Rd.same (noBox_spns _))) ?_ | fail)); done) (by (repeat (first | exact Bxs.nil | refine Bxs.cons rfl rfl rfl (by first | exact Rb.cells (Rds.eqs (app_cells (by intro _; rfl) (x :: xs) _) (noBoxs_flat (by intro _; rfl) _)) rfl | exact Rb.cells (Rds.same rfl) rfl | exact Rb.cells (Rds.same (noBoxs_map (fun _ => rfl) _)) rfl | exact Rb.cells (Rds.same (noBoxs_fill (fun _ => rfl) rfl)) rfl | exact Rb.cells (Rds.same (noBoxs_flat (fun _ => rfl) _)) rfl | exact Rb.map (Res.same (noBox_set rfl _)) | exact Rb.map (Res.same (noBox_pos _ _)) | exact Rb.map (Res.same (by simp)) | exact Rb.cells (by (repeat (first | exact Rds.nil | refine Rds.cons (by first | exact Rd.sl' rfl (by simp) (by simp) | (first | exact Rd.any | exact Rd.ptr rfl | exact Rd.map rfl | exact Rd.sl rfl | exact Rd.same rfl | exact Rd.int (by omega) | assumption | exact Rd.same (noBox_ints _) | exact Rd.same (noBox_strs _) | exact Rd.same (noBox_intss _) | exact Rd.same (noBox_spns _))) ?_ | fail)); done) rfl | exact Rb.map (Res.eqs (map_succ (by omega)) (noBox_set rfl _)) | exact Rb.map (Res.eqs (pos_succ (by omega)) (noBox_pos _ _)) | exact Rb.cells (Rds.eqs (map_succ (by omega)) (noBoxs_map (fun _ => rfl) _)) rfl | assumption) ?_ | fail)); done) rfl rfl
    · have hall : (acts t l).take k = acts t l := List.take_of_length_le (by rw [acts_len]; omega)
      rw [hall] at h4
      cases o with
      | nil => exact absurd h4.symm (by intro h; have := acts_len (t := t) (l := l); rw [h] at this; simp at this)
      | cons x xs =>
        repeat' ((conv => whnf) <;> (first
          | refine SeqV.go mixed T0 ?_
          | exact True.intro
          | (refine Br.mk (fun _ => ?_) (fun _ => ?_) <;> (try (exfalso; omega)))
          | refine Get.exp rfl ?_
          | refine Idx.lst (by first | omega | assumption | exact hl _ _ | exact inK64 (by omega) (by omega) | (simp; omega) | (simp; done)) ?_
          | refine Idx.lstS (by intro _; rfl) (by first | omega | assumption | exact hl _ _ | exact inK64 (by omega) (by omega) | (simp; omega) | (simp; done)) ?_
          | refine IdxS.nat (by first | omega | assumption | exact hl _ _ | exact inK64 (by omega) (by omega) | (simp; omega) | (simp; done)) ?_
          | refine IdxO.nat (by first | omega | assumption | exact hl _ _ | exact inK64 (by omega) (by omega) | (simp; omega) | (simp; done)) ?_
          | refine QuietV.mk (by kernel_rfl) ?_
          | refine Put.exp rfl ?_
          | refine SrcV.exp rfl ?_
          | refine Chk.mk (by first | rfl | exact inK64 (by omega) (by omega) | omega | assumption) ?_
          | refine Chk.mk ⟨Nat.le_of_ble_eq_true rfl, Nat.le_of_ble_eq_true rfl⟩ ?_
          | refine Chk.grow (by intro _; rfl) 8 rfl (by omega) (by omega) ?_
          | refine Chk.room 8 rfl (by omega) (by omega) ?_
          | refine Chk.made 8 rfl (by omega) (by omega) (by omega) ?_))
        rw [← h4]
        exact RetV.own1 (id := 1) (l := x :: xs) (fun _ => rfl)
  · rename_i hv
    rw [if_neg (show ¬ okL t l from hv)]
    exact ⟨.nil⟩

theorem idxI_range {l : List Str} {s : Str} (h : 1 ≤ l.length) : 0 ≤ idxI l s ∧ idxI l s < l.length := by
  unfold idxI
  split
  · rename_i hm
    have := List.idxOf_lt_length_of_mem hm
    omega
  · omega
theorem named_CL {p : Prp} {t : Tbl} {text : List Int} (hv : TV t) : CL (namedV p t.classes text) t.classes.length := by
  intro i h
  simp only [namedV, List.getElem_map]
  exact idxI_range hv.1.1
theorem named_ok {p : Prp} {t : Tbl} {text : List Int} (hv : TV t) : okL t (namedV p t.classes text) := ⟨named_CL hv, hv⟩

/-- The actions at all positions of a text. -/
noncomputable def actV (p : Prp) (t : Tbl) (text : List Int) : List Int := if TV t then acts t (namedV p t.classes text) else []

theorem sActions_c {p : Prp} {t : Tbl} {text : List Int} (hp : p.ok) (ht : t.ok) (h1 : p.names.length ≤ 1000) (h2 : p.spans.length ≤ 1000) (hx : text.length ≤ 1000) : Pu Tryz.prog 16 [prpD p, tabD t, ints text] (ints (actV p t text)) := by
  refine Pu.of_v mixed T0 Tryz.func16 rfl rfl (by simp [noBox, noBoxs, noBox_strs, noBox_spns, noBox_ints, noBox_intss]) ?_
  by_cases hv : TV t
  · have hc := Classes_c (text := text) hp ht (by omega) (by omega) (by omega)
    rw [if_pos hv] at hc
    have ha := bActions_c ht (show (namedV p t.classes text).length ≤ 1000 by simp [namedV]; omega) (named_ok hv)
    rw [actV, if_pos hv]
    repeat' ((conv => whnf) <;> (first
      | refine SeqV.go mixed T0 ?_
      | exact True.intro
      | (refine Br.mk (fun _ => ?_) (fun _ => ?_) <;> (try (exfalso; omega)))
      | refine Get.exp rfl ?_
      | refine Idx.lst (by first | omega | assumption | exact hl _ _ | exact inK64 (by omega) (by omega) | (simp; omega) | (simp; done)) ?_
      | refine Idx.lstS (by intro _; rfl) (by first | omega | assumption | exact hl _ _ | exact inK64 (by omega) (by omega) | (simp; omega) | (simp; done)) ?_
      | refine IdxS.nat (by first | omega | assumption | exact hl _ _ | exact inK64 (by omega) (by omega) | (simp; omega) | (simp; done)) ?_
      | refine IdxO.nat (by first | omega | assumption | exact hl _ _ | exact inK64 (by omega) (by omega) | (simp; omega) | (simp; done)) ?_
      | refine QuietV.mk (by kernel_rfl) ?_
      | refine Put.exp rfl ?_
      | refine SrcV.exp rfl ?_
      | refine Chk.mk (by first | rfl | exact inK64 (by omega) (by omega) | omega | assumption) ?_
      | refine Chk.mk ⟨Nat.le_of_ble_eq_true rfl, Nat.le_of_ble_eq_true rfl⟩ ?_
      | refine Chk.grow (by intro _; rfl) 8 rfl (by omega) (by omega) ?_
      | refine Chk.room 8 rfl (by omega) (by omega) ?_
      | refine Chk.made 8 rfl (by omega) (by omega) (by omega) ?_
      | (refine Cll.dec (valid_c ht) (fun _ => ?_) (fun _ => ?_) <;> (try contradiction))
      | refine DrawV.by mixed T0 [0, 0, 0, 0, 14, 31, 63] (by kernel_rfl) ?_
      | refine Cal0.pu hc ?_
      | refine Cal0.pu ha ?_))
    all_goals (conv => whnf)
    exact RetV.same (noBox_ints _) rfl
  · rw [actV, if_neg hv]
    repeat' ((conv => whnf) <;> (first
      | refine SeqV.go mixed T0 ?_
      | exact True.intro
      | (refine Br.mk (fun _ => ?_) (fun _ => ?_) <;> (try (exfalso; omega)))
      | refine Get.exp rfl ?_
      | refine Idx.lst (by first | omega | assumption | exact hl _ _ | exact inK64 (by omega) (by omega) | (simp; omega) | (simp; done)) ?_
      | refine Idx.lstS (by intro _; rfl) (by first | omega | assumption | exact hl _ _ | exact inK64 (by omega) (by omega) | (simp; omega) | (simp; done)) ?_
      | refine IdxS.nat (by first | omega | assumption | exact hl _ _ | exact inK64 (by omega) (by omega) | (simp; omega) | (simp; done)) ?_
      | refine IdxO.nat (by first | omega | assumption | exact hl _ _ | exact inK64 (by omega) (by omega) | (simp; omega) | (simp; done)) ?_
      | refine QuietV.mk (by kernel_rfl) ?_
      | refine Put.exp rfl ?_
      | refine SrcV.exp rfl ?_
      | refine Chk.mk (by first | rfl | exact inK64 (by omega) (by omega) | omega | assumption) ?_
      | refine Chk.mk ⟨Nat.le_of_ble_eq_true rfl, Nat.le_of_ble_eq_true rfl⟩ ?_
      | refine Chk.grow (by intro _; rfl) 8 rfl (by omega) (by omega) ?_
      | refine Chk.room 8 rfl (by omega) (by omega) ?_
      | refine Chk.made 8 rfl (by omega) (by omega) (by omega) ?_
      | (refine Cll.dec (valid_c ht) (fun _ => ?_) (fun _ => ?_) <;> (try contradiction))))
    all_goals (conv => whnf)
    exact ⟨.nil⟩

theorem rsActions_c {p : Prp} {t : Tbl} {text : List Int} (hp : p.ok) (ht : t.ok) (hx : text.length ≤ 1000) : Pu Tryz.prog 17 [prpD p, tabD t, ints text] (ints (actV p t text)) := by
  refine Pu.of_v mixed T0 Tryz.func17 rfl rfl (by simp [noBox, noBoxs, noBox_strs, noBox_spns, noBox_ints, noBox_intss]) ?_
  have hc := rClasses_c (text := text) hp ht hx
  by_cases hv : TV t
  · rw [if_pos hv] at hc
    have ha := rActions_c ht (show (namedV p t.classes text).length ≤ 1000 by simp [namedV]; omega)
    rw [if_pos (named_ok hv)] at ha
    rw [actV, if_pos hv]
    repeat' ((conv => whnf) <;> (first
      | refine SeqV.go mixed T0 ?_
      | exact True.intro
      | (refine Br.mk (fun _ => ?_) (fun _ => ?_) <;> (try (exfalso; omega)))
      | refine Get.exp rfl ?_
      | refine Idx.lst (by first | omega | assumption | exact hl _ _ | exact inK64 (by omega) (by omega) | (simp; omega) | (simp; done)) ?_
      | refine Idx.lstS (by intro _; rfl) (by first | omega | assumption | exact hl _ _ | exact inK64 (by omega) (by omega) | (simp; omega) | (simp; done)) ?_
      | refine IdxS.nat (by first | omega | assumption | exact hl _ _ | exact inK64 (by omega) (by omega) | (simp; omega) | (simp; done)) ?_
      | refine IdxO.nat (by first | omega | assumption | exact hl _ _ | exact inK64 (by omega) (by omega) | (simp; omega) | (simp; done)) ?_
      | refine QuietV.mk (by kernel_rfl) ?_
      | refine Put.exp rfl ?_
      | refine SrcV.exp rfl ?_
      | refine Chk.mk (by first | rfl | exact inK64 (by omega) (by omega) | omega | assumption) ?_
      | refine Chk.mk ⟨Nat.le_of_ble_eq_true rfl, Nat.le_of_ble_eq_true rfl⟩ ?_
      | refine Chk.grow (by intro _; rfl) 8 rfl (by omega) (by omega) ?_
      | refine Chk.room 8 rfl (by omega) (by omega) ?_
      | refine Chk.made 8 rfl (by omega) (by omega) (by omega) ?_
      | refine DrawV.by mixed T0 [0, 0, 0, 0, 14, 31, 63] (by kernel_rfl) ?_
      | refine Cal0.pu hc ?_
      | refine Cal0.pu ha ?_))
    all_goals (conv => whnf)
    exact RetV.same (noBox_ints _) rfl
  · rw [if_neg hv] at hc
    have ha := rActions_c (l := []) ht (by simp)
    rw [if_neg (fun h => hv h.2)] at ha
    rw [actV, if_neg hv]
    repeat' ((conv => whnf) <;> (first
      | refine SeqV.go mixed T0 ?_
      | exact True.intro
      | (refine Br.mk (fun _ => ?_) (fun _ => ?_) <;> (try (exfalso; omega)))
      | refine Get.exp rfl ?_
      | refine Idx.lst (by first | omega | assumption | exact hl _ _ | exact inK64 (by omega) (by omega) | (simp; omega) | (simp; done)) ?_
      | refine Idx.lstS (by intro _; rfl) (by first | omega | assumption | exact hl _ _ | exact inK64 (by omega) (by omega) | (simp; omega) | (simp; done)) ?_
      | refine IdxS.nat (by first | omega | assumption | exact hl _ _ | exact inK64 (by omega) (by omega) | (simp; omega) | (simp; done)) ?_
      | refine IdxO.nat (by first | omega | assumption | exact hl _ _ | exact inK64 (by omega) (by omega) | (simp; omega) | (simp; done)) ?_
      | refine QuietV.mk (by kernel_rfl) ?_
      | refine Put.exp rfl ?_
      | refine SrcV.exp rfl ?_
      | refine Chk.mk (by first | rfl | exact inK64 (by omega) (by omega) | omega | assumption) ?_
      | refine Chk.mk ⟨Nat.le_of_ble_eq_true rfl, Nat.le_of_ble_eq_true rfl⟩ ?_
      | refine Chk.grow (by intro _; rfl) 8 rfl (by omega) (by omega) ?_
      | refine Chk.room 8 rfl (by omega) (by omega) ?_
      | refine Chk.made 8 rfl (by omega) (by omega) (by omega) ?_
      | refine DrawV.by mixed T0 [0, 0, 0, 0, 14, 31, 63] (by kernel_rfl) ?_
      | refine Cal0.pu hc ?_
      | refine Cal0.pu ha ?_))
    all_goals (conv => whnf)
    exact RetV.same (noBox_ints _) rfl
end Go.Proofs.YtgcjjodbmcnhkaaGreatDoor
