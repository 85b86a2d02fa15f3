/-
  Contracts of functions over data: classes.
-/
import Derived.Test.YtgcjjodbmcnhkaaGreatDoorS3
namespace Go.Proofs.YtgcjjodbmcnhkaaGreatDoor
open Go Go.Am Classical
set_option maxRecDepth 100000

def other : Str := [79, 116, 104, 101, 114]
/-- A valid property, and for another one that with the one name Other. -/
noncomputable def cnt (p : Prp) : Prp := if PrV p then p else ⟨[other], []⟩
def getV : List Spn → Int → Int
  | [], _ => 0
  | s :: l, c => if s.lo ≤ c ∧ c ≤ s.hi then s.val else getV l c
theorem getV_drop {l : List Spn} {k : Nat} (h : k < l.length) (c : Int) : getV (l.drop k) c = if l[k].lo ≤ c ∧ c ≤ l[k].hi then l[k].val else getV (l.drop (k + 1)) c := by
  rw [List.drop_eq_getElem_cons h]; rfl

theorem counted_c {p : Prp} (hp : p.ok) : Pu Tryz.prog 90 [prpD p] (prpD (cnt p)) := by
  refine Pu.of_v mixed T0 Tryz.func90 rfl rfl (by simp [noBox, noBoxs, noBox_strs, noBox_spns]) ?_
  repeat' ((conv => whnf) <;> (first
    | refine SeqV.go mixed T0 ?_
    | exact True.intro
    | (refine Br.mk (fun _ => ?_) (fun _ => ?_) <;> (try (exfalso; omega)))
    | refine Get.exp rfl ?_
    | refine Idx.lst (by first | omega | assumption | exact hl _ _ | exact inK64 (by omega) (by omega) | (simp; omega) | (simp; done)) ?_
    | refine Idx.lstS (by intro _; rfl) (by first | omega | assumption | exact hl _ _ | exact inK64 (by omega) (by omega) | (simp; omega) | (simp; done)) ?_
    | refine IdxS.nat (by first | omega | assumption | exact hl _ _ | exact inK64 (by omega) (by omega) | (simp; omega) | (simp; done)) ?_
    | refine IdxO.nat (by first | omega | assumption | exact hl _ _ | exact inK64 (by omega) (by omega) | (simp; omega) | (simp; done)) ?_
    | refine QuietV.mk (by kernel_rfl) ?_
    | refine Put.exp rfl ?_
    | refine SrcV.exp rfl ?_
    | refine Chk.mk (by first | rfl | exact inK64 (by omega) (by omega) | omega | assumption) ?_
    | refine Chk.mk ⟨Nat.le_of_ble_eq_true rfl, Nat.le_of_ble_eq_true rfl⟩ ?_
    | refine Chk.grow (by intro _; rfl) 8 rfl (by omega) (by omega) ?_
    | refine Chk.room 8 rfl (by omega) (by omega) ?_
    | refine Chk.made 8 rfl (by omega) (by omega) (by omega) ?_
    | refine Cll.dec (rpvalid_c (by first | omega | assumption | exact hl _ _ | exact inK64 (by omega) (by omega) | (simp; omega) | (simp; done))) (fun _ => ?_) (fun _ => ?_)
    | refine Cal0.dec (rpvalid_c (by first | omega | assumption | exact hl _ _ | exact inK64 (by omega) (by omega) | (simp; omega) | (simp; done))) (fun _ => ?_) (fun _ => ?_)))
  all_goals (conv => whnf)
  · rename_i hv
    rw [show cnt p = p from by simp [cnt, hv]]
    exact RetV.same (noBox_prp p) rfl
  · rename_i hv
    rw [show cnt p = ⟨[other], []⟩ from by simp [cnt, hv]]
    exact ⟨.agg (.cons (.frz rfl rfl (Nat.le_of_ble_eq_true rfl) (.cons (.same rfl) .nil)) (.cons .nil .nil))⟩

theorem get_c {p : Prp} {c : Int} (hp : p.ok) : Pu Tryz.prog 91 [prpD p, i64 c] (i64 (getV (cnt p).spans c)) := by
  have hs : (cnt p).spans.length ≤ 9223372036854775807 := by
    unfold cnt
    split
    · exact hp.spans
    · simp
  refine Pu.of_v mixed T0 Tryz.func91 rfl rfl (by simp [noBox, noBoxs, noBox_strs, noBox_spns]) ?_
  repeat' ((conv => whnf) <;> (first
    | refine SeqV.go mixed T0 ?_
    | exact True.intro
    | (refine Br.mk (fun _ => ?_) (fun _ => ?_) <;> (try (exfalso; omega)))
    | refine Get.exp rfl ?_
    | refine Idx.lst (by first | omega | assumption | exact hl _ _ | exact inK64 (by omega) (by omega) | (simp; omega) | (simp; done)) ?_
    | refine Idx.lstS (by intro _; rfl) (by first | omega | assumption | exact hl _ _ | exact inK64 (by omega) (by omega) | (simp; omega) | (simp; done)) ?_
    | refine IdxS.nat (by first | omega | assumption | exact hl _ _ | exact inK64 (by omega) (by omega) | (simp; omega) | (simp; done)) ?_
    | refine IdxO.nat (by first | omega | assumption | exact hl _ _ | exact inK64 (by omega) (by omega) | (simp; omega) | (simp; done)) ?_
    | refine QuietV.mk (by kernel_rfl) ?_
    | refine Put.exp rfl ?_
    | refine SrcV.exp rfl ?_
    | refine Chk.mk (by first | rfl | exact inK64 (by omega) (by omega) | omega | assumption) ?_
    | refine Chk.mk ⟨Nat.le_of_ble_eq_true rfl, Nat.le_of_ble_eq_true rfl⟩ ?_
    | refine Chk.grow (by intro _; rfl) 8 rfl (by omega) (by omega) ?_
    | refine Chk.room 8 rfl (by omega) (by omega) ?_
    | refine Chk.made 8 rfl (by omega) (by omega) (by omega) ?_
    | refine Cll.pu (counted_c (by first | omega | assumption | exact hl _ _ | exact inK64 (by omega) (by omega) | (simp; omega) | (simp; done))) ?_
    | refine Cal0.pu (counted_c (by first | omega | assumption | exact hl _ _ | exact inK64 (by omega) (by omega) | (simp; omega) | (simp; done))) ?_))
  all_goals (conv => whnf)
  generalize cnt p = q at *
  refine LoopV.by mixed T0 (fun k : Nat => ⟨tmp 40 [(1, i64 c), (5, .ptr 0 0), (6, i64 (k : Int))], ⟨1, [(0, .cells [strs q.names, spns q.spans] true)]⟩⟩)
    (fun k => k ≤ q.spans.length ∧ getV (q.spans.drop k) c = getV q.spans c) (fun k => q.spans.length - k) 0 ⟨by omega, rfl⟩ ?_ ?_
  · exact Lf.of2 [(0, _)] [] (by (repeat (first | exact Ents.nil | refine Ents.cons rfl (by first | exact Rd.same (noBox_spns _) | (first | exact Rd.any | exact Rd.ptr rfl | exact Rd.map rfl | exact Rd.sl rfl | exact Rd.same rfl | exact Rd.int (by omega) | assumption | exact Rd.same (noBox_ints _) | exact Rd.same (noBox_strs _) | exact Rd.same (noBox_intss _) | exact Rd.same (noBox_spns _))) ?_ | fail)); done) (by (repeat (first | exact Bxs.nil | refine Bxs.cons rfl rfl rfl (by first | exact Rb.cells (Rds.cons (Rd.same (noBox_strs _)) (Rds.cons (Rd.same (noBox_spns _)) Rds.nil)) rfl | exact Rb.cells (Rds.same rfl) rfl | exact Rb.cells (Rds.same (noBoxs_map (fun _ => rfl) _)) rfl | exact Rb.cells (Rds.same (noBoxs_fill (fun _ => rfl) rfl)) rfl | exact Rb.cells (Rds.same (noBoxs_flat (fun _ => rfl) _)) rfl | exact Rb.map (Res.same (noBox_set rfl _)) | exact Rb.map (Res.same (noBox_pos _ _)) | exact Rb.map (Res.same (by simp)) | exact Rb.cells (by (repeat (first | exact Rds.nil | refine Rds.cons (by first | exact Rd.same (noBox_spns _) | (first | exact Rd.any | exact Rd.ptr rfl | exact Rd.map rfl | exact Rd.sl rfl | exact Rd.same rfl | exact Rd.int (by omega) | assumption | exact Rd.same (noBox_ints _) | exact Rd.same (noBox_strs _) | exact Rd.same (noBox_intss _) | exact Rd.same (noBox_spns _))) ?_ | fail)); done) rfl | exact Rb.map (Res.eqs (map_succ (by omega)) (noBox_set rfl _)) | exact Rb.map (Res.eqs (pos_succ (by omega)) (noBox_pos _ _)) | exact Rb.cells (Rds.eqs (map_succ (by omega)) (noBoxs_map (fun _ => rfl) _)) rfl | assumption) ?_ | fail)); done) rfl rfl
  intro k ⟨h3, h4⟩
  repeat' ((conv => whnf) <;> (first
    | refine SeqV.go mixed T0 ?_
    | exact True.intro
    | (refine Br.mk (fun _ => ?_) (fun _ => ?_) <;> (try (exfalso; omega)))
    | refine Get.exp rfl ?_
    | refine Idx.lst (by first | omega | assumption | exact hl _ _ | exact inK64 (by omega) (by omega) | (simp; omega) | (simp; done)) ?_
    | refine Idx.lstS (by intro _; rfl) (by first | omega | assumption | exact hl _ _ | exact inK64 (by omega) (by omega) | (simp; omega) | (simp; done)) ?_
    | refine IdxS.nat (by first | omega | assumption | exact hl _ _ | exact inK64 (by omega) (by omega) | (simp; omega) | (simp; done)) ?_
    | refine IdxO.nat (by first | omega | assumption | exact hl _ _ | exact inK64 (by omega) (by omega) | (simp; omega) | (simp; done)) ?_
    | refine QuietV.mk (by kernel_rfl) ?_
    | refine Put.exp rfl ?_
    | refine SrcV.exp rfl ?_
    | refine Chk.mk (by first | rfl | exact inK64 (by omega) (by omega) | omega | assumption) ?_
    | refine Chk.mk ⟨Nat.le_of_ble_eq_true rfl, Nat.le_of_ble_eq_true rfl⟩ ?_
    | refine Chk.grow (by intro _; rfl) 8 rfl (by omega) (by omega) ?_
    | refine Chk.room 8 rfl (by omega) (by omega) ?_
    | refine Chk.made 8 rfl (by omega) (by omega) (by omega) ?_))
  all_goals (conv => whnf)
  all_goals first
    | exact RetV.int (by rw [← h4, getV_drop (by omega), if_pos (by omega)])
    | exact RetV.int (by rw [← h4, List.drop_eq_nil_of_le (by omega)]; rfl)
    | (refine ⟨k + 1, ⟨by omega, by rw [← h4, getV_drop (k := k) (by omega), if_neg (by omega)]⟩, by omega, ?_⟩
       exact Lf.of2 [(0, _)] [] (by (repeat (first | exact Ents.nil | refine Ents.cons rfl (by first | exact Rd.any | exact Rd.ptr rfl | exact Rd.map rfl | exact Rd.sl rfl | exact Rd.same rfl | exact Rd.int (by omega) | assumption | exact Rd.same (noBox_ints _) | exact Rd.same (noBox_strs _) | exact Rd.same (noBox_intss _) | exact Rd.same (noBox_spns _)) ?_ | fail)); done) (by (repeat (first | exact Bxs.nil | refine Bxs.cons rfl rfl rfl (by first | exact Rb.cells (Rds.same rfl) rfl | exact Rb.cells (Rds.same (noBoxs_map (fun _ => rfl) _)) rfl | exact Rb.cells (Rds.same (noBoxs_fill (fun _ => rfl) rfl)) rfl | exact Rb.cells (Rds.same (noBoxs_flat (fun _ => rfl) _)) rfl | exact Rb.map (Res.same (noBox_set rfl _)) | exact Rb.map (Res.same (noBox_pos _ _)) | exact Rb.map (Res.same (by simp)) | exact Rb.cells (by (repeat (first | exact Rds.nil | refine Rds.cons (by first | exact Rd.any | exact Rd.ptr rfl | exact Rd.map rfl | exact Rd.sl rfl | exact Rd.same rfl | exact Rd.int (by omega) | assumption | exact Rd.same (noBox_ints _) | exact Rd.same (noBox_strs _) | exact Rd.same (noBox_intss _) | exact Rd.same (noBox_spns _)) ?_ | fail)); done) rfl | exact Rb.map (Res.eqs (map_succ (by omega)) (noBox_set rfl _)) | exact Rb.map (Res.eqs (pos_succ (by omega)) (noBox_pos _ _)) | exact Rb.cells (Rds.eqs (map_succ (by omega)) (noBoxs_map (fun _ => rfl) _)) rfl | assumption) ?_ | fail)); done) rfl rfl)

theorem getV_range {l : List Spn} {n : Int} (hn : 1 ≤ n) (h : ∀ i (h : i < l.length), 1 ≤ l[i].val ∧ l[i].val < n) (c : Int) : 0 ≤ getV l c ∧ getV l c < n := by
  induction l with
  | nil => simp only [getV]; omega
  | cons s l ih =>
    simp only [getV]
    split
    · have := h 0 (by simp); simp at this; omega
    · exact ih fun i hi => by have := h (i + 1) (by simp; omega); simpa using this
theorem cnt_range {p : Prp} (c : Int) : 0 ≤ getV (cnt p).spans c ∧ getV (cnt p).spans c < (cnt p).names.length := by
  unfold cnt
  split
  · rename_i hv
    exact getV_range (by have := hv.1.1; omega) (fun i h => by have := (hv.2 i h).1; omega) c
  · simp [getV]
theorem cnt_get {p : Prp} (c : Int) : (getV (cnt p).spans c).toNat < (cnt p).names.length := by have := cnt_range (p := p) c; omega
/-- The name of an element's value. -/
noncomputable def nameV (p : Prp) (c : Int) : Str := (cnt p).names[(getV (cnt p).spans c).toNat]'(cnt_get c)

theorem name_c {p : Prp} {c : Int} (hp : p.ok) : Pu Tryz.prog 52 [prpD p, i64 c] (.str (nameV p c)) := by
  have hr := cnt_range (p := p) c
  refine Pu.of_v mixed T0 Tryz.func52 rfl rfl (by simp [noBox, noBoxs, noBox_strs, noBox_spns]) ?_
  repeat' ((conv => whnf) <;> (first
    | refine SeqV.go mixed T0 ?_
    | exact True.intro
    | (refine Br.mk (fun _ => ?_) (fun _ => ?_) <;> (try (exfalso; omega)))
    | refine Get.exp rfl ?_
    | refine Idx.lst (by first | omega | assumption | exact hl _ _ | exact inK64 (by omega) (by omega) | (simp; omega) | (simp; done)) ?_
    | refine Idx.lstS (by intro _; rfl) (by first | omega | assumption | exact hl _ _ | exact inK64 (by omega) (by omega) | (simp; omega) | (simp; done)) ?_
    | refine IdxS.nat (by first | omega | assumption | exact hl _ _ | exact inK64 (by omega) (by omega) | (simp; omega) | (simp; done)) ?_
    | refine IdxO.nat (by first | omega | assumption | exact hl _ _ | exact inK64 (by omega) (by omega) | (simp; omega) | (simp; done)) ?_
    | refine QuietV.mk (by kernel_rfl) ?_
    | refine Put.exp rfl ?_
    | refine SrcV.exp rfl ?_
    | refine Chk.mk (by first | rfl | exact inK64 (by omega) (by omega) | omega | assumption) ?_
    | refine Chk.mk ⟨Nat.le_of_ble_eq_true rfl, Nat.le_of_ble_eq_true rfl⟩ ?_
    | refine Chk.grow (by intro _; rfl) 8 rfl (by omega) (by omega) ?_
    | refine Chk.room 8 rfl (by omega) (by omega) ?_
    | refine Chk.made 8 rfl (by omega) (by omega) (by omega) ?_
    | refine Cll.pu (counted_c (by first | omega | assumption | exact hl _ _ | exact inK64 (by omega) (by omega) | (simp; omega) | (simp; done))) ?_
    | refine Cal0.pu (counted_c (by first | omega | assumption | exact hl _ _ | exact inK64 (by omega) (by omega) | (simp; omega) | (simp; done))) ?_
    | refine Cll.pu (get_c (by first | omega | assumption | exact hl _ _ | exact inK64 (by omega) (by omega) | (simp; omega) | (simp; done))) ?_
    | refine Cal0.pu (get_c (by first | omega | assumption | exact hl _ _ | exact inK64 (by omega) (by omega) | (simp; omega) | (simp; done))) ?_
    | refine Idx.at (getV (cnt p).spans c).toNat (by omega) (by omega) ?_))
  all_goals (conv => whnf)
  exact RetV.same rfl rfl

/-- The place of a name, 0 for another one. -/
def idxI (l : List Str) (s : Str) : Int := if s ∈ l then l.idxOf s else 0
theorem idxOf_at {l : List Str} {s : Str} {k : Nat} (h : k < l.length) (e : l[k] = s) (hn : ¬ s ∈ l.take k) : idxI l s = k := by
  have hm : s ∈ l := e ▸ List.getElem_mem h
  unfold idxI
  rw [if_pos hm]
  have h1 : l.idxOf s ≤ k := by
    refine Nat.le_of_not_lt fun hlt => ?_
    have := List.not_of_lt_findIdx hlt
    simp [e] at this
  have h2 : ¬ l.idxOf s < k := fun hlt => hn (mem_take_iff.2 ⟨l.idxOf s, by omega, hlt, by simp⟩)
  congr 1
  omega

theorem Index_c {l : List Str} {s : Str} (hn : l.length ≤ 9223372036854775807) : Pu Tryz.prog 51 [strs l, .str s] (i64 (idxI l s)) := by
  refine Pu.of_v mixed T0 Tryz.func51 rfl rfl (by simp [noBox, noBoxs, noBox_strs]) ?_
  repeat' ((conv => whnf) <;> (first
    | refine SeqV.go mixed T0 ?_
    | exact True.intro
    | (refine Br.mk (fun _ => ?_) (fun _ => ?_) <;> (try (exfalso; omega)))
    | refine Get.exp rfl ?_
    | refine Idx.lst (by first | omega | assumption | exact hl _ _ | exact inK64 (by omega) (by omega) | (simp; omega) | (simp; done)) ?_
    | refine Idx.lstS (by intro _; rfl) (by first | omega | assumption | exact hl _ _ | exact inK64 (by omega) (by omega) | (simp; omega) | (simp; done)) ?_
    | refine IdxS.nat (by first | omega | assumption | exact hl _ _ | exact inK64 (by omega) (by omega) | (simp; omega) | (simp; done)) ?_
    | refine IdxO.nat (by first | omega | assumption | exact hl _ _ | exact inK64 (by omega) (by omega) | (simp; omega) | (simp; done)) ?_
    | refine QuietV.mk (by kernel_rfl) ?_
    | refine Put.exp rfl ?_
    | refine SrcV.exp rfl ?_
    | refine Chk.mk (by first | rfl | exact inK64 (by omega) (by omega) | omega | assumption) ?_
    | refine Chk.mk ⟨Nat.le_of_ble_eq_true rfl, Nat.le_of_ble_eq_true rfl⟩ ?_
    | refine Chk.grow (by intro _; rfl) 8 rfl (by omega) (by omega) ?_
    | refine Chk.room 8 rfl (by omega) (by omega) ?_
    | refine Chk.made 8 rfl (by omega) (by omega) (by omega) ?_))
  refine LoopV.by mixed T0 (fun k : Nat => ⟨tmp 19 [(0, strs l), (1, .str s), (5, i64 (k : Int))], ⟨0, []⟩⟩)
    (fun k => k ≤ l.length ∧ ¬ s ∈ l.take k) (fun k => l.length - k) 0 ⟨by omega, by simp⟩ ?_ ?_
  · exact Lf.of2 [] [] (by (repeat (first | exact Ents.nil | refine Ents.cons rfl (by first | exact Rd.any | exact Rd.ptr rfl | exact Rd.map rfl | exact Rd.sl rfl | exact Rd.same rfl | exact Rd.int (by omega) | assumption | exact Rd.same (noBox_ints _) | exact Rd.same (noBox_strs _) | exact Rd.same (noBox_intss _) | exact Rd.same (noBox_spns _)) ?_ | fail)); done) (by (repeat (first | exact Bxs.nil | refine Bxs.cons rfl rfl rfl (by first | exact Rb.cells (Rds.same rfl) rfl | exact Rb.cells (Rds.same (noBoxs_map (fun _ => rfl) _)) rfl | exact Rb.cells (Rds.same (noBoxs_fill (fun _ => rfl) rfl)) rfl | exact Rb.cells (Rds.same (noBoxs_flat (fun _ => rfl) _)) rfl | exact Rb.map (Res.same (noBox_set rfl _)) | exact Rb.map (Res.same (noBox_pos _ _)) | exact Rb.map (Res.same (by simp)) | exact Rb.cells (by (repeat (first | exact Rds.nil | refine Rds.cons (by first | exact Rd.any | exact Rd.ptr rfl | exact Rd.map rfl | exact Rd.sl rfl | exact Rd.same rfl | exact Rd.int (by omega) | assumption | exact Rd.same (noBox_ints _) | exact Rd.same (noBox_strs _) | exact Rd.same (noBox_intss _) | exact Rd.same (noBox_spns _)) ?_ | fail)); done) rfl | exact Rb.map (Res.eqs (map_succ (by omega)) (noBox_set rfl _)) | exact Rb.map (Res.eqs (pos_succ (by omega)) (noBox_pos _ _)) | exact Rb.cells (Rds.eqs (map_succ (by omega)) (noBoxs_map (fun _ => rfl) _)) rfl | assumption) ?_ | fail)); done) rfl rfl
  intro k ⟨h3, h4⟩
  repeat' ((conv => whnf) <;> (first
    | refine SeqV.go mixed T0 ?_
    | exact True.intro
    | (refine Br.mk (fun _ => ?_) (fun _ => ?_) <;> (try (exfalso; omega)))
    | refine Get.exp rfl ?_
    | refine Idx.lst (by first | omega | assumption | exact hl _ _ | exact inK64 (by omega) (by omega) | (simp; omega) | (simp; done)) ?_
    | refine Idx.lstS (by intro _; rfl) (by first | omega | assumption | exact hl _ _ | exact inK64 (by omega) (by omega) | (simp; omega) | (simp; done)) ?_
    | refine IdxS.nat (by first | omega | assumption | exact hl _ _ | exact inK64 (by omega) (by omega) | (simp; omega) | (simp; done)) ?_
    | refine IdxO.nat (by first | omega | assumption | exact hl _ _ | exact inK64 (by omega) (by omega) | (simp; omega) | (simp; done)) ?_
    | refine QuietV.mk (by kernel_rfl) ?_
    | refine Put.exp rfl ?_
    | refine SrcV.exp rfl ?_
    | refine Chk.mk (by first | rfl | exact inK64 (by omega) (by omega) | omega | assumption) ?_
    | refine Chk.mk ⟨Nat.le_of_ble_eq_true rfl, Nat.le_of_ble_eq_true rfl⟩ ?_
    | refine Chk.grow (by intro _; rfl) 8 rfl (by omega) (by omega) ?_
    | refine Chk.room 8 rfl (by omega) (by omega) ?_
    | refine Chk.made 8 rfl (by omega) (by omega) (by omega) ?_))
  all_goals (conv => whnf)
  all_goals first
    | exact RetV.int (idxOf_at (by omega) (by assumption) h4).symm
    | exact RetV.int (by rw [List.take_of_length_le (by omega)] at h4; simp [idxI, h4])
    | (refine ⟨k + 1, ⟨by omega, by rw [take_succ_eq (by omega)]; simp only [List.mem_append, List.mem_singleton, not_or]; exact ⟨h4, fun e => by simp_all⟩⟩, by omega, ?_⟩
       exact Lf.of2 [] [] (by (repeat (first | exact Ents.nil | refine Ents.cons rfl (by first | exact Rd.any | exact Rd.ptr rfl | exact Rd.map rfl | exact Rd.sl rfl | exact Rd.same rfl | exact Rd.int (by omega) | assumption | exact Rd.same (noBox_ints _) | exact Rd.same (noBox_strs _) | exact Rd.same (noBox_intss _) | exact Rd.same (noBox_spns _)) ?_ | fail)); done) (by (repeat (first | exact Bxs.nil | refine Bxs.cons rfl rfl rfl (by first | exact Rb.cells (Rds.same rfl) rfl | exact Rb.cells (Rds.same (noBoxs_map (fun _ => rfl) _)) rfl | exact Rb.cells (Rds.same (noBoxs_fill (fun _ => rfl) rfl)) rfl | exact Rb.cells (Rds.same (noBoxs_flat (fun _ => rfl) _)) rfl | exact Rb.map (Res.same (noBox_set rfl _)) | exact Rb.map (Res.same (noBox_pos _ _)) | exact Rb.map (Res.same (by simp)) | exact Rb.cells (by (repeat (first | exact Rds.nil | refine Rds.cons (by first | exact Rd.any | exact Rd.ptr rfl | exact Rd.map rfl | exact Rd.sl rfl | exact Rd.same rfl | exact Rd.int (by omega) | assumption | exact Rd.same (noBox_ints _) | exact Rd.same (noBox_strs _) | exact Rd.same (noBox_intss _) | exact Rd.same (noBox_spns _)) ?_ | fail)); done) rfl | exact Rb.map (Res.eqs (map_succ (by omega)) (noBox_set rfl _)) | exact Rb.map (Res.eqs (pos_succ (by omega)) (noBox_pos _ _)) | exact Rb.cells (Rds.eqs (map_succ (by omega)) (noBoxs_map (fun _ => rfl) _)) rfl | assumption) ?_ | fail)); done) rfl rfl)

noncomputable def namedV (p : Prp) (l : List Str) (text : List Int) : List Int := text.map fun c => idxI l (nameV p c)

theorem namedV_succ {p : Prp} {l : List Str} {text : List Int} {k : Nat} (h : k < text.length) : namedV p l (text.take (k + 1)) = namedV p l (text.take k) ++ [idxI l (nameV p text[k])] := (map_succ h).symm
theorem Named_c {p : Prp} {l : List Str} {text : List Int} (hp : p.ok) (hl : l.length ≤ 9223372036854775807) (ht : text.length ≤ 1000) : Pu Tryz.prog 24 [prpD p, strs l, ints text] (ints (namedV p l text)) := by
  refine Pu.of_v mixed T0 Tryz.func24 rfl rfl (by simp [noBox, noBoxs, noBox_strs, noBox_spns, noBox_ints]) ?_
  repeat' ((conv => whnf) <;> (first
    | refine SeqV.go mixed T0 ?_
    | exact True.intro
    | (refine Br.mk (fun _ => ?_) (fun _ => ?_) <;> (try (exfalso; omega)))
    | refine Get.exp rfl ?_
    | refine Idx.lst (by first | omega | assumption | exact hl _ _ | exact inK64 (by omega) (by omega) | (simp; omega) | (simp; done)) ?_
    | refine Idx.lstS (by intro _; rfl) (by first | omega | assumption | exact hl _ _ | exact inK64 (by omega) (by omega) | (simp; omega) | (simp; done)) ?_
    | refine IdxS.nat (by first | omega | assumption | exact hl _ _ | exact inK64 (by omega) (by omega) | (simp; omega) | (simp; done)) ?_
    | refine IdxO.nat (by first | omega | assumption | exact hl _ _ | exact inK64 (by omega) (by omega) | (simp; omega) | (simp; done)) ?_
    | refine QuietV.mk (by kernel_rfl) ?_
    | refine Put.exp rfl ?_
    | refine SrcV.exp rfl ?_
    | refine Chk.mk (by first | rfl | exact inK64 (by omega) (by omega) | omega | assumption) ?_
    | refine Chk.mk ⟨Nat.le_of_ble_eq_true rfl, Nat.le_of_ble_eq_true rfl⟩ ?_
    | refine Chk.grow (by intro _; rfl) 8 rfl (by omega) (by omega) ?_
    | refine Chk.room 8 rfl (by omega) (by omega) ?_
    | refine Chk.made 8 rfl (by omega) (by omega) (by omega) ?_))
  refine LoopV.by2 mixed T0 (fun (k : Nat) (o : List Int) => ⟨tmp 27 [(1, strs l), (2, ints text), (3, .ptr 0 0), (7, ownD 1 1 o), (8, i64 (k : Int))], ⟨2, ownB 1 (fun x => [i64 x]) o ++ [(0, .cells [strs p.names, spns p.spans] true)]⟩⟩)
    (fun k o => k ≤ text.length ∧ o = namedV p l (text.take k)) (fun k _ => text.length - k) 0 [] ⟨by omega, rfl⟩ ?_ ?_
  · exact Lf.of2 [(0, _)] [] (by (repeat (first | exact Ents.nil | refine Ents.cons rfl (by first | exact Rd.any | exact Rd.ptr rfl | exact Rd.map rfl | exact Rd.sl rfl | exact Rd.same rfl | exact Rd.int (by omega) | assumption | exact Rd.same (noBox_ints _) | exact Rd.same (noBox_strs _) | exact Rd.same (noBox_intss _) | exact Rd.same (noBox_spns _)) ?_ | fail)); done) (by (repeat (first | exact Bxs.nil | refine Bxs.cons rfl rfl rfl (by first | exact Rb.cells (Rds.same rfl) rfl | exact Rb.cells (Rds.same (noBoxs_map (fun _ => rfl) _)) rfl | exact Rb.cells (Rds.same (noBoxs_fill (fun _ => rfl) rfl)) rfl | exact Rb.cells (Rds.same (noBoxs_flat (fun _ => rfl) _)) rfl | exact Rb.map (Res.same (noBox_set rfl _)) | exact Rb.map (Res.same (noBox_pos _ _)) | exact Rb.map (Res.same (by simp)) | exact Rb.cells (by (repeat (first | exact Rds.nil | refine Rds.cons (by first | exact Rd.any | exact Rd.ptr rfl | exact Rd.map rfl | exact Rd.sl rfl | exact Rd.same rfl | exact Rd.int (by omega) | assumption | exact Rd.same (noBox_ints _) | exact Rd.same (noBox_strs _) | exact Rd.same (noBox_intss _) | exact Rd.same (noBox_spns _)) ?_ | fail)); done) rfl | exact Rb.map (Res.eqs (map_succ (by omega)) (noBox_set rfl _)) | exact Rb.map (Res.eqs (pos_succ (by omega)) (noBox_pos _ _)) | exact Rb.cells (Rds.eqs (map_succ (by omega)) (noBoxs_map (fun _ => rfl) _)) rfl | assumption) ?_ | fail)); done) rfl rfl
  intro k o ⟨h3, h4⟩
  cases o with
  | nil =>
    repeat' ((conv => whnf) <;> (first
      | refine SeqV.go mixed T0 ?_
      | exact True.intro
      | (refine Br.mk (fun _ => ?_) (fun _ => ?_) <;> (try (exfalso; omega)))
      | refine Get.exp rfl ?_
      | refine Idx.lst (by first | omega | assumption | exact hl _ _ | exact inK64 (by omega) (by omega) | (simp; omega) | (simp; done)) ?_
      | refine Idx.lstS (by intro _; rfl) (by first | omega | assumption | exact hl _ _ | exact inK64 (by omega) (by omega) | (simp; omega) | (simp; done)) ?_
      | refine IdxS.nat (by first | omega | assumption | exact hl _ _ | exact inK64 (by omega) (by omega) | (simp; omega) | (simp; done)) ?_
      | refine IdxO.nat (by first | omega | assumption | exact hl _ _ | exact inK64 (by omega) (by omega) | (simp; omega) | (simp; done)) ?_
      | refine QuietV.mk (by kernel_rfl) ?_
      | refine Put.exp rfl ?_
      | refine SrcV.exp rfl ?_
      | refine Chk.mk (by first | rfl | exact inK64 (by omega) (by omega) | omega | assumption) ?_
      | refine Chk.mk ⟨Nat.le_of_ble_eq_true rfl, Nat.le_of_ble_eq_true rfl⟩ ?_
      | refine Chk.grow (by intro _; rfl) 8 rfl (by omega) (by omega) ?_
      | refine Chk.room 8 rfl (by omega) (by omega) ?_
      | refine Chk.made 8 rfl (by omega) (by omega) (by omega) ?_
      | refine Cll.pu (name_c (by first | omega | assumption | exact hl _ _ | exact inK64 (by omega) (by omega) | (simp; omega) | (simp; done))) ?_
      | refine Cal0.pu (name_c (by first | omega | assumption | exact hl _ _ | exact inK64 (by omega) (by omega) | (simp; omega) | (simp; done))) ?_
      | refine Cll.pu (Index_c (by first | omega | assumption | exact hl _ _ | exact inK64 (by omega) (by omega) | (simp; omega) | (simp; done))) ?_
      | refine Cal0.pu (Index_c (by first | omega | assumption | exact hl _ _ | exact inK64 (by omega) (by omega) | (simp; omega) | (simp; done))) ?_
      | refine DrawV.by mixed T0 [0, 0, 0, 0, 0, 24, 56, 124, 254, 510, 1023, 2047] (by kernel_rfl) ?_))
    all_goals (conv => whnf)
    · refine ⟨k + 1, ([] : List Int) ++ [idxI l (nameV p text[k])], ⟨by omega, by simp only [namedV_succ (show k < text.length by omega), ← h4]⟩, by omega, ?_⟩
      exact Lf.of2 [(0, _), (1, _)] [] (by (repeat (first | exact Ents.nil | refine Ents.cons rfl (by first | exact Rd.any | exact Rd.ptr rfl | exact Rd.map rfl | exact Rd.sl rfl | exact Rd.same rfl | exact Rd.int (by omega) | assumption | exact Rd.same (noBox_ints _) | exact Rd.same (noBox_strs _) | exact Rd.same (noBox_intss _) | exact Rd.same (noBox_spns _)) ?_ | fail)); done) (by (repeat (first | exact Bxs.nil | refine Bxs.cons rfl rfl rfl (by first | exact Rb.cells (Rds.same rfl) rfl | exact Rb.cells (Rds.same (noBoxs_map (fun _ => rfl) _)) rfl | exact Rb.cells (Rds.same (noBoxs_fill (fun _ => rfl) rfl)) rfl | exact Rb.cells (Rds.same (noBoxs_flat (fun _ => rfl) _)) rfl | exact Rb.map (Res.same (noBox_set rfl _)) | exact Rb.map (Res.same (noBox_pos _ _)) | exact Rb.map (Res.same (by simp)) | exact Rb.cells (by (repeat (first | exact Rds.nil | refine Rds.cons (by first | exact Rd.any | exact Rd.ptr rfl | exact Rd.map rfl | exact Rd.sl rfl | exact Rd.same rfl | exact Rd.int (by omega) | assumption | exact Rd.same (noBox_ints _) | exact Rd.same (noBox_strs _) | exact Rd.same (noBox_intss _) | exact Rd.same (noBox_spns _)) ?_ | fail)); done) rfl | exact Rb.map (Res.eqs (map_succ (by omega)) (noBox_set rfl _)) | exact Rb.map (Res.eqs (pos_succ (by omega)) (noBox_pos _ _)) | exact Rb.cells (Rds.eqs (map_succ (by omega)) (noBoxs_map (fun _ => rfl) _)) rfl | assumption) ?_ | fail)); done) rfl rfl
    · rw [show namedV p l text = [] from by rw [h4, List.take_of_length_le (by omega)]]
      exact ⟨.nil⟩
  | cons x xs =>
    have hk : (x :: xs).length ≤ 1000 := by rw [h4]; simp [namedV]; omega
    repeat' ((conv => whnf) <;> (first
      | refine SeqV.go mixed T0 ?_
      | exact True.intro
      | (refine Br.mk (fun _ => ?_) (fun _ => ?_) <;> (try (exfalso; omega)))
      | refine Get.exp rfl ?_
      | refine Idx.lst (by first | omega | assumption | exact hl _ _ | exact inK64 (by omega) (by omega) | (simp; omega) | (simp; done)) ?_
      | refine Idx.lstS (by intro _; rfl) (by first | omega | assumption | exact hl _ _ | exact inK64 (by omega) (by omega) | (simp; omega) | (simp; done)) ?_
      | refine IdxS.nat (by first | omega | assumption | exact hl _ _ | exact inK64 (by omega) (by omega) | (simp; omega) | (simp; done)) ?_
      | refine IdxO.nat (by first | omega | assumption | exact hl _ _ | exact inK64 (by omega) (by omega) | (simp; omega) | (simp; done)) ?_
      | refine QuietV.mk (by kernel_rfl) ?_
      | refine Put.exp rfl ?_
      | refine SrcV.exp rfl ?_
      | refine Chk.mk (by first | rfl | exact inK64 (by omega) (by omega) | omega | assumption) ?_
      | refine Chk.mk ⟨Nat.le_of_ble_eq_true rfl, Nat.le_of_ble_eq_true rfl⟩ ?_
      | refine Chk.grow (by intro _; rfl) 8 rfl (by omega) (by omega) ?_
      | refine Chk.room 8 rfl (by omega) (by omega) ?_
      | refine Chk.made 8 rfl (by omega) (by omega) (by omega) ?_
      | refine Cll.pu (name_c (by first | omega | assumption | exact hl _ _ | exact inK64 (by omega) (by omega) | (simp; omega) | (simp; done))) ?_
      | refine Cal0.pu (name_c (by first | omega | assumption | exact hl _ _ | exact inK64 (by omega) (by omega) | (simp; omega) | (simp; done))) ?_
      | refine Cll.pu (Index_c (by first | omega | assumption | exact hl _ _ | exact inK64 (by omega) (by omega) | (simp; omega) | (simp; done))) ?_
      | refine Cal0.pu (Index_c (by first | omega | assumption | exact hl _ _ | exact inK64 (by omega) (by omega) | (simp; omega) | (simp; done))) ?_
      | refine DrawV.by mixed T0 [0, 0, 0, 0, 0, 24, 56, 124, 254, 510, 1023, 2047] (by kernel_rfl) ?_))
    all_goals (conv => whnf)
    · refine ⟨k + 1, (x :: xs) ++ [idxI l (nameV p text[k])], ⟨by omega, by simp only [namedV_succ (show k < text.length by omega), ← h4]⟩, by omega, ?_⟩
      exact Lf.of2 [(0, _), (1, _)] [] (by (repeat (first | exact Ents.nil | refine Ents.cons rfl (by first | exact Rd.sl' rfl (by simp) (by simp) | (first | exact Rd.any | exact Rd.ptr rfl | exact Rd.map rfl | exact Rd.sl rfl | exact Rd.same rfl | exact Rd.int (by omega) | assumption | exact Rd.same (noBox_ints _) | exact Rd.same (noBox_strs _) | exact Rd.same (noBox_intss _) | exact Rd.same (noBox_spns _))) ?_ | fail)); done) (by (repeat (first | exact Bxs.nil | refine Bxs.cons rfl rfl rfl (by first | exact Rb.cells (Rds.eqs (app_cells (by intro _; rfl) (x :: xs) _) (noBoxs_flat (by intro _; rfl) _)) rfl | exact Rb.cells (Rds.same rfl) rfl | exact Rb.cells (Rds.same (noBoxs_map (fun _ => rfl) _)) rfl | exact Rb.cells (Rds.same (noBoxs_fill (fun _ => rfl) rfl)) rfl | exact Rb.cells (Rds.same (noBoxs_flat (fun _ => rfl) _)) rfl | exact Rb.map (Res.same (noBox_set rfl _)) | exact Rb.map (Res.same (noBox_pos _ _)) | exact Rb.map (Res.same (by simp)) | exact Rb.cells (by (repeat (first | exact Rds.nil | refine Rds.cons (by first | exact Rd.sl' rfl (by simp) (by simp) | (first | exact Rd.any | exact Rd.ptr rfl | exact Rd.map rfl | exact Rd.sl rfl | exact Rd.same rfl | exact Rd.int (by omega) | assumption | exact Rd.same (noBox_ints _) | exact Rd.same (noBox_strs _) | exact Rd.same (noBox_intss _) | exact Rd.same (noBox_spns _))) ?_ | fail)); done) rfl | exact Rb.map (Res.eqs (map_succ (by omega)) (noBox_set rfl _)) | exact Rb.map (Res.eqs (pos_succ (by omega)) (noBox_pos _ _)) | exact Rb.cells (Rds.eqs (map_succ (by omega)) (noBoxs_map (fun _ => rfl) _)) rfl | assumption) ?_ | fail)); done) rfl rfl
    · rw [show namedV p l text = x :: xs from by rw [h4, List.take_of_length_le (by omega)]]
      exact RetV.own1 (id := 1) (l := x :: xs) (fun _ => rfl)

theorem rClasses_c {p : Prp} {t : Tbl} {text : List Int} (hp : p.ok) (ht : t.ok) (hx : text.length ≤ 1000) : Pu Tryz.prog 15 [prpD p, tabD t, ints text] (ints (if TV t then namedV p t.classes text else [])) := by
  have h1 := ht.classes
  refine Pu.of_v mixed T0 Tryz.func15 rfl rfl (by simp [noBox, noBoxs, noBox_strs, noBox_spns, noBox_ints, noBox_intss]) ?_
  repeat' ((conv => whnf) <;> (first
    | refine SeqV.go mixed T0 ?_
    | exact True.intro
    | (refine Br.mk (fun _ => ?_) (fun _ => ?_) <;> (try (exfalso; omega)))
    | refine Get.exp rfl ?_
    | refine Idx.lst (by first | omega | assumption | exact hl _ _ | exact inK64 (by omega) (by omega) | (simp; omega) | (simp; done)) ?_
    | refine Idx.lstS (by intro _; rfl) (by first | omega | assumption | exact hl _ _ | exact inK64 (by omega) (by omega) | (simp; omega) | (simp; done)) ?_
    | refine IdxS.nat (by first | omega | assumption | exact hl _ _ | exact inK64 (by omega) (by omega) | (simp; omega) | (simp; done)) ?_
    | refine IdxO.nat (by first | omega | assumption | exact hl _ _ | exact inK64 (by omega) (by omega) | (simp; omega) | (simp; done)) ?_
    | refine QuietV.mk (by kernel_rfl) ?_
    | refine Put.exp rfl ?_
    | refine SrcV.exp rfl ?_
    | refine Chk.mk (by first | rfl | exact inK64 (by omega) (by omega) | omega | assumption) ?_
    | refine Chk.mk ⟨Nat.le_of_ble_eq_true rfl, Nat.le_of_ble_eq_true rfl⟩ ?_
    | refine Chk.grow (by intro _; rfl) 8 rfl (by omega) (by omega) ?_
    | refine Chk.room 8 rfl (by omega) (by omega) ?_
    | refine Chk.made 8 rfl (by omega) (by omega) (by omega) ?_
    | refine Cll.dec (rvalid_c (by first | omega | assumption | exact hl _ _ | exact inK64 (by omega) (by omega) | (simp; omega) | (simp; done))) (fun _ => ?_) (fun _ => ?_)
    | refine Cal0.dec (rvalid_c (by first | omega | assumption | exact hl _ _ | exact inK64 (by omega) (by omega) | (simp; omega) | (simp; done))) (fun _ => ?_) (fun _ => ?_)
    | refine Cll.pu (Named_c (by first | omega | assumption | exact hl _ _ | exact inK64 (by omega) (by omega) | (simp; omega) | (simp; done)) (by first | omega | assumption | exact hl _ _ | exact inK64 (by omega) (by omega) | (simp; omega) | (simp; done)) (by first | omega | assumption | exact hl _ _ | exact inK64 (by omega) (by omega) | (simp; omega) | (simp; done))) ?_
    | refine Cal0.pu (Named_c (by first | omega | assumption | exact hl _ _ | exact inK64 (by omega) (by omega) | (simp; omega) | (simp; done)) (by first | omega | assumption | exact hl _ _ | exact inK64 (by omega) (by omega) | (simp; omega) | (simp; done)) (by first | omega | assumption | exact hl _ _ | exact inK64 (by omega) (by omega) | (simp; omega) | (simp; done))) ?_))
  all_goals (conv => whnf)
  · rename_i hv
    rw [if_pos hv]
    exact RetV.same (noBox_ints _) rfl
  · rename_i hv
    rw [if_neg hv]
    exact ⟨.nil⟩
end Go.Proofs.YtgcjjodbmcnhkaaGreatDoor
