/-
  Contracts of functions over data: ranges of a text (the reference).
-/
import Derived.Test.YtgcjjodbmcnhkaaGreatDoorSB
namespace Go.Proofs.YtgcjjodbmcnhkaaGreatDoor
open Go Go.Am Classical
set_option maxRecDepth 100000

structure Rng where
  lo : Int
  hi : Int
abbrev rngC (r : Rng) : List D := [i64 r.lo, i64 r.hi]
abbrev rngs (l : List Rng) : D := lstS rngC l
theorem noBox_rngs (l : List Rng) : noBox (rngs l) = true := noBox_lstS (fun _ => rfl) l

/-- The ranges between positions. -/
def btw : Int → List Int → List Rng
  | _, [] => []
  | s, e :: l => if s < e then ⟨s, e⟩ :: btw e l else btw s l
theorem btw_yes {s e : Int} {l : List Int} (h : s < e) : btw s (e :: l) = ⟨s, e⟩ :: btw e l := by rw [btw, if_pos h]
theorem btw_no {s e : Int} {l : List Int} (h : ¬ s < e) : btw s (e :: l) = btw s l := by rw [btw, if_neg h]
theorem drop_in {b : List Int} {n : Int} {k : Nat} (h : k < b.length) : (b ++ [n]).drop k = b[k] :: (b ++ [n]).drop (k + 1) := by
  rw [List.drop_eq_getElem_cons (by simp; omega), List.getElem_append_left h]
theorem drop_at {b : List Int} {n : Int} {k : Nat} (h : k = b.length) : (b ++ [n]).drop k = n :: (b ++ [n]).drop (k + 1) := by
  rw [List.drop_eq_getElem_cons (by simp; omega), List.getElem_append_right (by omega)]
  simp
theorem drop_end {b : List Int} {n : Int} {k : Nat} (h : ¬ k ≤ b.length) : (b ++ [n]).drop k = [] := List.drop_of_length_le (by simp; omega)

theorem Between_c {b : List Int} {n : Int} (hx : b.length ≤ 1001) : Pu Tryz.prog 61 [ints b, i64 n] (rngs (btw 0 (b ++ [n]))) := by
  refine Pu.of_v mixed T0 Tryz.func61 rfl rfl (by simp [noBox, noBoxs, noBox_ints]) ?_
  repeat' ((conv => whnf) <;> (first
    | refine SeqV.go mixed T0 ?_
    | exact True.intro
    | (refine Br.mk (fun _ => ?_) (fun _ => ?_) <;> (try (exfalso; omega)))
    | refine Get.exp rfl ?_
    | refine Idx.lst (by first | omega | assumption | exact hl _ _ | exact inK64 (by omega) (by omega) | (simp; omega) | (simp; done)) ?_
    | refine Idx.lstS (by intro _; rfl) (by first | omega | assumption | exact hl _ _ | exact inK64 (by omega) (by omega) | (simp; omega) | (simp; done)) ?_
    | refine IdxS.nat (by first | omega | assumption | exact hl _ _ | exact inK64 (by omega) (by omega) | (simp; omega) | (simp; done)) ?_
    | refine IdxO.nat (by first | omega | assumption | exact hl _ _ | exact inK64 (by omega) (by omega) | (simp; omega) | (simp; done)) ?_
    | refine QuietV.mk (by kernel_rfl) ?_
    | refine Put.exp rfl ?_
    | refine SrcV.exp rfl ?_
    | refine Chk.mk (by first | rfl | exact inK64 (by omega) (by omega) | omega | assumption) ?_
    | refine Chk.mk ⟨Nat.le_of_ble_eq_true rfl, Nat.le_of_ble_eq_true rfl⟩ ?_
    | refine Chk.grow (by intro _; rfl) 16 rfl (by omega) (by omega) ?_
    | refine Chk.room 16 rfl (by omega) (by omega) ?_
    | refine Chk.made 16 rfl (by omega) (by omega) (by omega) ?_))
  refine LoopV.by3 mixed T0 (fun (k : Nat) (s : Int) (o : List Rng) => ⟨tmp 35 [(0, ints b), (1, i64 n), (5, ownD 0 2 o), (6, i64 s), (7, i64 (k : Int))], ⟨1, ownB 0 rngC o⟩⟩)
    (fun k s o => (k ≤ b.length + 1 ∧ o.length ≤ k) ∧ btw 0 (b ++ [n]) = o ++ btw s ((b ++ [n]).drop k)) (fun k _ _ => b.length + 1 - k) 0 0 [] ⟨⟨by omega, by simp⟩, rfl⟩ ?_ ?_
  · exact Lf.of2 [] [] (by (repeat (first | exact Ents.nil | refine Ents.cons rfl (by first | exact Rd.any | exact Rd.ptr rfl | exact Rd.map rfl | exact Rd.sl rfl | exact Rd.same rfl | exact Rd.int (by omega) | assumption | exact Rd.same (noBox_ints _) | exact Rd.same (noBox_strs _) | exact Rd.same (noBox_intss _) | exact Rd.same (noBox_spns _) | exact Rd.same (noBox_rngs _)) ?_ | fail)); done) (by (repeat (first | exact Bxs.nil | refine Bxs.cons rfl rfl rfl (by first | exact Rb.cells (Rds.same rfl) rfl | exact Rb.cells (Rds.same (noBoxs_map (fun _ => rfl) _)) rfl | exact Rb.cells (Rds.same (noBoxs_fill (fun _ => rfl) rfl)) rfl | exact Rb.cells (Rds.same (noBoxs_flat (fun _ => rfl) _)) rfl | exact Rb.map (Res.same (noBox_set rfl _)) | exact Rb.map (Res.same (noBox_pos _ _)) | exact Rb.map (Res.same (by simp)) | exact Rb.cells (by (repeat (first | exact Rds.nil | refine Rds.cons (by first | exact Rd.any | exact Rd.ptr rfl | exact Rd.map rfl | exact Rd.sl rfl | exact Rd.same rfl | exact Rd.int (by omega) | assumption | exact Rd.same (noBox_ints _) | exact Rd.same (noBox_strs _) | exact Rd.same (noBox_intss _) | exact Rd.same (noBox_spns _) | exact Rd.same (noBox_rngs _)) ?_ | fail)); done) rfl | exact Rb.map (Res.eqs (map_succ (by omega)) (noBox_set rfl _)) | exact Rb.map (Res.eqs (pos_succ (by omega)) (noBox_pos _ _)) | exact Rb.cells (Rds.eqs (map_succ (by omega)) (noBoxs_map (fun _ => rfl) _)) rfl | assumption) ?_ | fail)); done) rfl rfl
  intro k s o ⟨⟨h3, h5⟩, h4⟩
  cases o with
  | nil =>
    repeat' ((conv => whnf) <;> (first
      | refine SeqV.go mixed T0 ?_
      | exact True.intro
      | (refine Br.mk (fun _ => ?_) (fun _ => ?_) <;> (try (exfalso; omega)))
      | refine Get.exp rfl ?_
      | refine Idx.lst (by first | omega | assumption | exact hl _ _ | exact inK64 (by omega) (by omega) | (simp; omega) | (simp; done)) ?_
      | refine Idx.lstS (by intro _; rfl) (by first | omega | assumption | exact hl _ _ | exact inK64 (by omega) (by omega) | (simp; omega) | (simp; done)) ?_
      | refine IdxS.nat (by first | omega | assumption | exact hl _ _ | exact inK64 (by omega) (by omega) | (simp; omega) | (simp; done)) ?_
      | refine IdxO.nat (by first | omega | assumption | exact hl _ _ | exact inK64 (by omega) (by omega) | (simp; omega) | (simp; done)) ?_
      | refine QuietV.mk (by kernel_rfl) ?_
      | refine Put.exp rfl ?_
      | refine SrcV.exp rfl ?_
      | refine Chk.mk (by first | rfl | exact inK64 (by omega) (by omega) | omega | assumption) ?_
      | refine Chk.mk ⟨Nat.le_of_ble_eq_true rfl, Nat.le_of_ble_eq_true rfl⟩ ?_
      | refine Chk.grow (by intro _; rfl) 16 rfl (by omega) (by omega) ?_
      | refine Chk.room 16 rfl (by omega) (by omega) ?_
      | refine Chk.made 16 rfl (by omega) (by omega) (by omega) ?_))
    all_goals (conv => whnf)
    all_goals first
      | (refine ⟨k + 1, s, [], ⟨⟨by omega, by simp⟩, by rw [h4, drop_in (by omega), btw_no (by omega)]⟩, by omega, ?_⟩
         exact Lf.of2 [] [] (by (repeat (first | exact Ents.nil | refine Ents.cons rfl (by first | exact Rd.any | exact Rd.ptr rfl | exact Rd.map rfl | exact Rd.sl rfl | exact Rd.same rfl | exact Rd.int (by omega) | assumption | exact Rd.same (noBox_ints _) | exact Rd.same (noBox_strs _) | exact Rd.same (noBox_intss _) | exact Rd.same (noBox_spns _) | exact Rd.same (noBox_rngs _)) ?_ | fail)); done) (by (repeat (first | exact Bxs.nil | refine Bxs.cons rfl rfl rfl (by first | exact Rb.cells (Rds.same rfl) rfl | exact Rb.cells (Rds.same (noBoxs_map (fun _ => rfl) _)) rfl | exact Rb.cells (Rds.same (noBoxs_fill (fun _ => rfl) rfl)) rfl | exact Rb.cells (Rds.same (noBoxs_flat (fun _ => rfl) _)) rfl | exact Rb.map (Res.same (noBox_set rfl _)) | exact Rb.map (Res.same (noBox_pos _ _)) | exact Rb.map (Res.same (by simp)) | exact Rb.cells (by (repeat (first | exact Rds.nil | refine Rds.cons (by first | exact Rd.any | exact Rd.ptr rfl | exact Rd.map rfl | exact Rd.sl rfl | exact Rd.same rfl | exact Rd.int (by omega) | assumption | exact Rd.same (noBox_ints _) | exact Rd.same (noBox_strs _) | exact Rd.same (noBox_intss _) | exact Rd.same (noBox_spns _) | exact Rd.same (noBox_rngs _)) ?_ | fail)); done) rfl | exact Rb.map (Res.eqs (map_succ (by omega)) (noBox_set rfl _)) | exact Rb.map (Res.eqs (pos_succ (by omega)) (noBox_pos _ _)) | exact Rb.cells (Rds.eqs (map_succ (by omega)) (noBoxs_map (fun _ => rfl) _)) rfl | assumption) ?_ | fail)); done) rfl rfl)
      | (refine ⟨k + 1, s, [], ⟨⟨by omega, by simp⟩, by rw [h4, drop_at (by omega), btw_no (by omega)]⟩, by omega, ?_⟩
         exact Lf.of2 [] [] (by (repeat (first | exact Ents.nil | refine Ents.cons rfl (by first | exact Rd.any | exact Rd.ptr rfl | exact Rd.map rfl | exact Rd.sl rfl | exact Rd.same rfl | exact Rd.int (by omega) | assumption | exact Rd.same (noBox_ints _) | exact Rd.same (noBox_strs _) | exact Rd.same (noBox_intss _) | exact Rd.same (noBox_spns _) | exact Rd.same (noBox_rngs _)) ?_ | fail)); done) (by (repeat (first | exact Bxs.nil | refine Bxs.cons rfl rfl rfl (by first | exact Rb.cells (Rds.same rfl) rfl | exact Rb.cells (Rds.same (noBoxs_map (fun _ => rfl) _)) rfl | exact Rb.cells (Rds.same (noBoxs_fill (fun _ => rfl) rfl)) rfl | exact Rb.cells (Rds.same (noBoxs_flat (fun _ => rfl) _)) rfl | exact Rb.map (Res.same (noBox_set rfl _)) | exact Rb.map (Res.same (noBox_pos _ _)) | exact Rb.map (Res.same (by simp)) | exact Rb.cells (by (repeat (first | exact Rds.nil | refine Rds.cons (by first | exact Rd.any | exact Rd.ptr rfl | exact Rd.map rfl | exact Rd.sl rfl | exact Rd.same rfl | exact Rd.int (by omega) | assumption | exact Rd.same (noBox_ints _) | exact Rd.same (noBox_strs _) | exact Rd.same (noBox_intss _) | exact Rd.same (noBox_spns _) | exact Rd.same (noBox_rngs _)) ?_ | fail)); done) rfl | exact Rb.map (Res.eqs (map_succ (by omega)) (noBox_set rfl _)) | exact Rb.map (Res.eqs (pos_succ (by omega)) (noBox_pos _ _)) | exact Rb.cells (Rds.eqs (map_succ (by omega)) (noBoxs_map (fun _ => rfl) _)) rfl | assumption) ?_ | fail)); done) rfl rfl)
      | (have hk' : k < b.length := by omega
         refine ⟨k + 1, b[k]'hk', [⟨s, b[k]'hk'⟩], ⟨⟨by omega, by simp⟩, by rw [h4, drop_in hk', btw_yes (by omega)]; rfl⟩, by omega, ?_⟩
         exact Lf.of2 [(0, _)] [] (by (repeat (first | exact Ents.nil | refine Ents.cons rfl (by first | exact Rd.any | exact Rd.ptr rfl | exact Rd.map rfl | exact Rd.sl rfl | exact Rd.same rfl | exact Rd.int (by omega) | assumption | exact Rd.same (noBox_ints _) | exact Rd.same (noBox_strs _) | exact Rd.same (noBox_intss _) | exact Rd.same (noBox_spns _) | exact Rd.same (noBox_rngs _)) ?_ | fail)); done) (by (repeat (first | exact Bxs.nil | refine Bxs.cons rfl rfl rfl (by first | exact Rb.cells (Rds.same rfl) rfl | exact Rb.cells (Rds.same (noBoxs_map (fun _ => rfl) _)) rfl | exact Rb.cells (Rds.same (noBoxs_fill (fun _ => rfl) rfl)) rfl | exact Rb.cells (Rds.same (noBoxs_flat (fun _ => rfl) _)) rfl | exact Rb.map (Res.same (noBox_set rfl _)) | exact Rb.map (Res.same (noBox_pos _ _)) | exact Rb.map (Res.same (by simp)) | exact Rb.cells (by (repeat (first | exact Rds.nil | refine Rds.cons (by first | exact Rd.any | exact Rd.ptr rfl | exact Rd.map rfl | exact Rd.sl rfl | exact Rd.same rfl | exact Rd.int (by omega) | assumption | exact Rd.same (noBox_ints _) | exact Rd.same (noBox_strs _) | exact Rd.same (noBox_intss _) | exact Rd.same (noBox_spns _) | exact Rd.same (noBox_rngs _)) ?_ | fail)); done) rfl | exact Rb.map (Res.eqs (map_succ (by omega)) (noBox_set rfl _)) | exact Rb.map (Res.eqs (pos_succ (by omega)) (noBox_pos _ _)) | exact Rb.cells (Rds.eqs (map_succ (by omega)) (noBoxs_map (fun _ => rfl) _)) rfl | assumption) ?_ | fail)); done) rfl rfl)
      | (refine ⟨k + 1, n, [⟨s, n⟩], ⟨⟨by omega, by simp⟩, by rw [h4, drop_at (by omega), btw_yes (by omega)]; rfl⟩, by omega, ?_⟩
         exact Lf.of2 [(0, _)] [] (by (repeat (first | exact Ents.nil | refine Ents.cons rfl (by first | exact Rd.any | exact Rd.ptr rfl | exact Rd.map rfl | exact Rd.sl rfl | exact Rd.same rfl | exact Rd.int (by omega) | assumption | exact Rd.same (noBox_ints _) | exact Rd.same (noBox_strs _) | exact Rd.same (noBox_intss _) | exact Rd.same (noBox_spns _) | exact Rd.same (noBox_rngs _)) ?_ | fail)); done) (by (repeat (first | exact Bxs.nil | refine Bxs.cons rfl rfl rfl (by first | exact Rb.cells (Rds.same rfl) rfl | exact Rb.cells (Rds.same (noBoxs_map (fun _ => rfl) _)) rfl | exact Rb.cells (Rds.same (noBoxs_fill (fun _ => rfl) rfl)) rfl | exact Rb.cells (Rds.same (noBoxs_flat (fun _ => rfl) _)) rfl | exact Rb.map (Res.same (noBox_set rfl _)) | exact Rb.map (Res.same (noBox_pos _ _)) | exact Rb.map (Res.same (by simp)) | exact Rb.cells (by (repeat (first | exact Rds.nil | refine Rds.cons (by first | exact Rd.any | exact Rd.ptr rfl | exact Rd.map rfl | exact Rd.sl rfl | exact Rd.same rfl | exact Rd.int (by omega) | assumption | exact Rd.same (noBox_ints _) | exact Rd.same (noBox_strs _) | exact Rd.same (noBox_intss _) | exact Rd.same (noBox_spns _) | exact Rd.same (noBox_rngs _)) ?_ | fail)); done) rfl | exact Rb.map (Res.eqs (map_succ (by omega)) (noBox_set rfl _)) | exact Rb.map (Res.eqs (pos_succ (by omega)) (noBox_pos _ _)) | exact Rb.cells (Rds.eqs (map_succ (by omega)) (noBoxs_map (fun _ => rfl) _)) rfl | assumption) ?_ | fail)); done) rfl rfl)
      | (rw [h4, drop_end (by omega)]
         exact ⟨.nil⟩)
  | cons x xs =>
    have hlen : (x :: xs).length ≤ 1002 := by omega
    repeat' ((conv => whnf) <;> (first
      | refine SeqV.go mixed T0 ?_
      | exact True.intro
      | (refine Br.mk (fun _ => ?_) (fun _ => ?_) <;> (try (exfalso; omega)))
      | refine Get.exp rfl ?_
      | refine Idx.lst (by first | omega | assumption | exact hl _ _ | exact inK64 (by omega) (by omega) | (simp; omega) | (simp; done)) ?_
      | refine Idx.lstS (by intro _; rfl) (by first | omega | assumption | exact hl _ _ | exact inK64 (by omega) (by omega) | (simp; omega) | (simp; done)) ?_
      | refine IdxS.nat (by first | omega | assumption | exact hl _ _ | exact inK64 (by omega) (by omega) | (simp; omega) | (simp; done)) ?_
      | refine IdxO.nat (by first | omega | assumption | exact hl _ _ | exact inK64 (by omega) (by omega) | (simp; omega) | (simp; done)) ?_
      | refine QuietV.mk (by kernel_rfl) ?_
      | refine Put.exp rfl ?_
      | refine SrcV.exp rfl ?_
      | refine Chk.mk (by first | rfl | exact inK64 (by omega) (by omega) | omega | assumption) ?_
      | refine Chk.mk ⟨Nat.le_of_ble_eq_true rfl, Nat.le_of_ble_eq_true rfl⟩ ?_
      | refine Chk.grow (by intro _; rfl) 16 rfl (by omega) (by omega) ?_
      | refine Chk.room 16 rfl (by omega) (by omega) ?_
      | refine Chk.made 16 rfl (by omega) (by omega) (by omega) ?_))
    all_goals (conv => whnf)
    all_goals first
      | (refine ⟨k + 1, s, x :: xs, ⟨⟨by omega, by omega⟩, by rw [h4, drop_in (by omega), btw_no (by omega)]⟩, by omega, ?_⟩
         exact Lf.of2 [(0, _)] [] (by (repeat (first | exact Ents.nil | refine Ents.cons rfl (by first | exact Rd.any | exact Rd.ptr rfl | exact Rd.map rfl | exact Rd.sl rfl | exact Rd.same rfl | exact Rd.int (by omega) | assumption | exact Rd.same (noBox_ints _) | exact Rd.same (noBox_strs _) | exact Rd.same (noBox_intss _) | exact Rd.same (noBox_spns _) | exact Rd.same (noBox_rngs _)) ?_ | fail)); done) (by (repeat (first | exact Bxs.nil | refine Bxs.cons rfl rfl rfl (by first | exact Rb.cells (Rds.same rfl) rfl | exact Rb.cells (Rds.same (noBoxs_map (fun _ => rfl) _)) rfl | exact Rb.cells (Rds.same (noBoxs_fill (fun _ => rfl) rfl)) rfl | exact Rb.cells (Rds.same (noBoxs_flat (fun _ => rfl) _)) rfl | exact Rb.map (Res.same (noBox_set rfl _)) | exact Rb.map (Res.same (noBox_pos _ _)) | exact Rb.map (Res.same (by simp)) | exact Rb.cells (by (repeat (first | exact Rds.nil | refine Rds.cons (by first | exact Rd.any | exact Rd.ptr rfl | exact Rd.map rfl | exact Rd.sl rfl | exact Rd.same rfl | exact Rd.int (by omega) | assumption | exact Rd.same (noBox_ints _) | exact Rd.same (noBox_strs _) | exact Rd.same (noBox_intss _) | exact Rd.same (noBox_spns _) | exact Rd.same (noBox_rngs _)) ?_ | fail)); done) rfl | exact Rb.map (Res.eqs (map_succ (by omega)) (noBox_set rfl _)) | exact Rb.map (Res.eqs (pos_succ (by omega)) (noBox_pos _ _)) | exact Rb.cells (Rds.eqs (map_succ (by omega)) (noBoxs_map (fun _ => rfl) _)) rfl | assumption) ?_ | fail)); done) rfl rfl)
      | (refine ⟨k + 1, s, x :: xs, ⟨⟨by omega, by omega⟩, by rw [h4, drop_at (by omega), btw_no (by omega)]⟩, by omega, ?_⟩
         exact Lf.of2 [(0, _)] [] (by (repeat (first | exact Ents.nil | refine Ents.cons rfl (by first | exact Rd.any | exact Rd.ptr rfl | exact Rd.map rfl | exact Rd.sl rfl | exact Rd.same rfl | exact Rd.int (by omega) | assumption | exact Rd.same (noBox_ints _) | exact Rd.same (noBox_strs _) | exact Rd.same (noBox_intss _) | exact Rd.same (noBox_spns _) | exact Rd.same (noBox_rngs _)) ?_ | fail)); done) (by (repeat (first | exact Bxs.nil | refine Bxs.cons rfl rfl rfl (by first | exact Rb.cells (Rds.same rfl) rfl | exact Rb.cells (Rds.same (noBoxs_map (fun _ => rfl) _)) rfl | exact Rb.cells (Rds.same (noBoxs_fill (fun _ => rfl) rfl)) rfl | exact Rb.cells (Rds.same (noBoxs_flat (fun _ => rfl) _)) rfl | exact Rb.map (Res.same (noBox_set rfl _)) | exact Rb.map (Res.same (noBox_pos _ _)) | exact Rb.map (Res.same (by simp)) | exact Rb.cells (by (repeat (first | exact Rds.nil | refine Rds.cons (by first | exact Rd.any | exact Rd.ptr rfl | exact Rd.map rfl | exact Rd.sl rfl | exact Rd.same rfl | exact Rd.int (by omega) | assumption | exact Rd.same (noBox_ints _) | exact Rd.same (noBox_strs _) | exact Rd.same (noBox_intss _) | exact Rd.same (noBox_spns _) | exact Rd.same (noBox_rngs _)) ?_ | fail)); done) rfl | exact Rb.map (Res.eqs (map_succ (by omega)) (noBox_set rfl _)) | exact Rb.map (Res.eqs (pos_succ (by omega)) (noBox_pos _ _)) | exact Rb.cells (Rds.eqs (map_succ (by omega)) (noBoxs_map (fun _ => rfl) _)) rfl | assumption) ?_ | fail)); done) rfl rfl)
      | (have hk' : k < b.length := by omega
         refine ⟨k + 1, b[k]'hk', (x :: xs) ++ [⟨s, b[k]'hk'⟩], ⟨⟨by omega, by rw [List.length_append]; simp only [List.length_singleton]; omega⟩, by rw [h4, drop_in hk', btw_yes (by omega), List.append_assoc]; rfl⟩, by omega, ?_⟩
         exact Lf.of2 [(0, _)] [] (by (repeat (first | exact Ents.nil | refine Ents.cons rfl (by first | exact Rd.sl' rfl (by simp) (by simp) | (first | exact Rd.any | exact Rd.ptr rfl | exact Rd.map rfl | exact Rd.sl rfl | exact Rd.same rfl | exact Rd.int (by omega) | assumption | exact Rd.same (noBox_ints _) | exact Rd.same (noBox_strs _) | exact Rd.same (noBox_intss _) | exact Rd.same (noBox_spns _) | exact Rd.same (noBox_rngs _))) ?_ | fail)); done) (by (repeat (first | exact Bxs.nil | refine Bxs.cons rfl rfl rfl (by first | exact Rb.cells (Rds.eqs (app_cells (c := rngC) (sz := 2) (by intro _; rfl) (x :: xs) (⟨s, b[k]'hk'⟩ : Rng)) (noBoxs_flat (by intro _; rfl) _)) rfl | exact Rb.cells (Rds.same rfl) rfl | exact Rb.cells (Rds.same (noBoxs_map (fun _ => rfl) _)) rfl | exact Rb.cells (Rds.same (noBoxs_fill (fun _ => rfl) rfl)) rfl | exact Rb.cells (Rds.same (noBoxs_flat (fun _ => rfl) _)) rfl | exact Rb.map (Res.same (noBox_set rfl _)) | exact Rb.map (Res.same (noBox_pos _ _)) | exact Rb.map (Res.same (by simp)) | exact Rb.cells (by (repeat (first | exact Rds.nil | refine Rds.cons (by first | exact Rd.sl' rfl (by simp) (by simp) | (first | exact Rd.any | exact Rd.ptr rfl | exact Rd.map rfl | exact Rd.sl rfl | exact Rd.same rfl | exact Rd.int (by omega) | assumption | exact Rd.same (noBox_ints _) | exact Rd.same (noBox_strs _) | exact Rd.same (noBox_intss _) | exact Rd.same (noBox_spns _) | exact Rd.same (noBox_rngs _))) ?_ | fail)); done) rfl | exact Rb.map (Res.eqs (map_succ (by omega)) (noBox_set rfl _)) | exact Rb.map (Res.eqs (pos_succ (by omega)) (noBox_pos _ _)) | exact Rb.cells (Rds.eqs (map_succ (by omega)) (noBoxs_map (fun _ => rfl) _)) rfl | assumption) ?_ | fail)); done) rfl rfl)
      | (refine ⟨k + 1, n, (x :: xs) ++ [⟨s, n⟩], ⟨⟨by omega, by rw [List.length_append]; simp only [List.length_singleton]; omega⟩, by rw [h4, drop_at (by omega), btw_yes (by omega), List.append_assoc]; rfl⟩, by omega, ?_⟩
         exact Lf.of2 [(0, _)] [] (by (repeat (first | exact Ents.nil | refine Ents.cons rfl (by first | exact Rd.sl' rfl (by simp) (by simp) | (first | exact Rd.any | exact Rd.ptr rfl | exact Rd.map rfl | exact Rd.sl rfl | exact Rd.same rfl | exact Rd.int (by omega) | assumption | exact Rd.same (noBox_ints _) | exact Rd.same (noBox_strs _) | exact Rd.same (noBox_intss _) | exact Rd.same (noBox_spns _) | exact Rd.same (noBox_rngs _))) ?_ | fail)); done) (by (repeat (first | exact Bxs.nil | refine Bxs.cons rfl rfl rfl (by first | exact Rb.cells (Rds.eqs (app_cells (c := rngC) (sz := 2) (by intro _; rfl) (x :: xs) (⟨s, n⟩ : Rng)) (noBoxs_flat (by intro _; rfl) _)) rfl | exact Rb.cells (Rds.same rfl) rfl | exact Rb.cells (Rds.same (noBoxs_map (fun _ => rfl) _)) rfl | exact Rb.cells (Rds.same (noBoxs_fill (fun _ => rfl) rfl)) rfl | exact Rb.cells (Rds.same (noBoxs_flat (fun _ => rfl) _)) rfl | exact Rb.map (Res.same (noBox_set rfl _)) | exact Rb.map (Res.same (noBox_pos _ _)) | exact Rb.map (Res.same (by simp)) | exact Rb.cells (by (repeat (first | exact Rds.nil | refine Rds.cons (by first | exact Rd.sl' rfl (by simp) (by simp) | (first | exact Rd.any | exact Rd.ptr rfl | exact Rd.map rfl | exact Rd.sl rfl | exact Rd.same rfl | exact Rd.int (by omega) | assumption | exact Rd.same (noBox_ints _) | exact Rd.same (noBox_strs _) | exact Rd.same (noBox_intss _) | exact Rd.same (noBox_spns _) | exact Rd.same (noBox_rngs _))) ?_ | fail)); done) rfl | exact Rb.map (Res.eqs (map_succ (by omega)) (noBox_set rfl _)) | exact Rb.map (Res.eqs (pos_succ (by omega)) (noBox_pos _ _)) | exact Rb.cells (Rds.eqs (map_succ (by omega)) (noBoxs_map (fun _ => rfl) _)) rfl | assumption) ?_ | fail)); done) rfl rfl)
      | (rw [h4, drop_end (by omega), btw, List.append_nil]
         exact RetV.own (id := 0) (es := 2) (c := rngC) (l := x :: xs) (rest := []) (fun _ => rfl) (fun _ => rfl))

/-- The parts of a text. -/
noncomputable def prtV (p : Prp) (t : Tbl) (text : List Int) : List Rng := if TV t then btw 0 (bndV p t text ++ [(text.length : Int)]) else []

theorem rParts_c {p : Prp} {t : Tbl} {text : List Int} (hp : p.ok) (ht : t.ok) (hx : text.length ≤ 1000) : Pu Tryz.prog 31 [prpD p, tabD t, ints text] (rngs (prtV p t text)) := by
  have hb := rsBoundaries_c (text := text) hp ht hx
  have hw := Between_c (n := (text.length : Int)) (bnd_len (p := p) (t := t) hx)
  refine Pu.of_v mixed T0 Tryz.func31 rfl rfl (by simp [noBox, noBoxs, noBox_strs, noBox_spns, noBox_ints, noBox_intss]) ?_
  unfold prtV
  repeat' ((conv => whnf) <;> (first
    | refine SeqV.go mixed T0 ?_
    | exact True.intro
    | (refine Br.mk (fun _ => ?_) (fun _ => ?_) <;> (try (exfalso; omega)))
    | refine Get.exp rfl ?_
    | refine Idx.lst (by first | omega | assumption | exact hl _ _ | exact inK64 (by omega) (by omega) | (simp; omega) | (simp; done)) ?_
    | refine Idx.lstS (by intro _; rfl) (by first | omega | assumption | exact hl _ _ | exact inK64 (by omega) (by omega) | (simp; omega) | (simp; done)) ?_
    | refine IdxS.nat (by first | omega | assumption | exact hl _ _ | exact inK64 (by omega) (by omega) | (simp; omega) | (simp; done)) ?_
    | refine IdxO.nat (by first | omega | assumption | exact hl _ _ | exact inK64 (by omega) (by omega) | (simp; omega) | (simp; done)) ?_
    | refine QuietV.mk (by kernel_rfl) ?_
    | refine Put.exp rfl ?_
    | refine SrcV.exp rfl ?_
    | refine Chk.mk (by first | rfl | exact inK64 (by omega) (by omega) | omega | assumption) ?_
    | refine Chk.mk ⟨Nat.le_of_ble_eq_true rfl, Nat.le_of_ble_eq_true rfl⟩ ?_
    | refine Chk.grow (by intro _; rfl) 16 rfl (by omega) (by omega) ?_
    | refine Chk.room 16 rfl (by omega) (by omega) ?_
    | refine Chk.made 16 rfl (by omega) (by omega) (by omega) ?_
    | refine Cll.dec (rvalid_c (by first | omega | assumption | exact hl _ _ | exact inK64 (by omega) (by omega) | (simp; omega) | (simp; done))) (fun _ => ?_) (fun _ => ?_)
    | refine Cal0.dec (rvalid_c (by first | omega | assumption | exact hl _ _ | exact inK64 (by omega) (by omega) | (simp; omega) | (simp; done))) (fun _ => ?_) (fun _ => ?_)
    | refine Cll.pu hb ?_
    | refine Cll.pu hw ?_))
  all_goals (conv => whnf)
  · rename_i hv
    rw [if_pos hv]
    exact RetV.same (noBox_rngs _) rfl
  · rename_i hv
    rw [if_neg hv]
    exact ⟨.nil⟩

theorem rCount_c {p : Prp} {t : Tbl} {text : List Int} (hp : p.ok) (ht : t.ok) (hx : text.length ≤ 1000) : Pu Tryz.prog 32 [prpD p, tabD t, ints text] (i64 (prtV p t text).length) := by
  have hb := rParts_c (text := text) hp ht hx
  refine Pu.of_v mixed T0 Tryz.func32 rfl rfl (by simp [noBox, noBoxs, noBox_strs, noBox_spns, noBox_ints, noBox_intss]) ?_
  repeat' ((conv => whnf) <;> (first
    | refine SeqV.go mixed T0 ?_
    | exact True.intro
    | (refine Br.mk (fun _ => ?_) (fun _ => ?_) <;> (try (exfalso; omega)))
    | refine Get.exp rfl ?_
    | refine Idx.lst (by first | omega | assumption | exact hl _ _ | exact inK64 (by omega) (by omega) | (simp; omega) | (simp; done)) ?_
    | refine Idx.lstS (by intro _; rfl) (by first | omega | assumption | exact hl _ _ | exact inK64 (by omega) (by omega) | (simp; omega) | (simp; done)) ?_
    | refine IdxS.nat (by first | omega | assumption | exact hl _ _ | exact inK64 (by omega) (by omega) | (simp; omega) | (simp; done)) ?_
    | refine IdxO.nat (by first | omega | assumption | exact hl _ _ | exact inK64 (by omega) (by omega) | (simp; omega) | (simp; done)) ?_
    | refine QuietV.mk (by kernel_rfl) ?_
    | refine Put.exp rfl ?_
    | refine SrcV.exp rfl ?_
    | refine Chk.mk (by first | rfl | exact inK64 (by omega) (by omega) | omega | assumption) ?_
    | refine Chk.mk ⟨Nat.le_of_ble_eq_true rfl, Nat.le_of_ble_eq_true rfl⟩ ?_
    | refine Chk.grow (by intro _; rfl) 16 rfl (by omega) (by omega) ?_
    | refine Chk.room 16 rfl (by omega) (by omega) ?_
    | refine Chk.made 16 rfl (by omega) (by omega) (by omega) ?_
    | refine Cll.pu hb ?_))
  all_goals (conv => whnf)
  exact RetV.same rfl rfl

/-! ### Two ranges compared -/
theorem pureP_bind {α β : Type} {P : Program} (x : Sem α) (f : α → Sem β) : pureP P (x >>= f) = (pureP P x).bind fun a => pureP P (f a) := by
  show pureP P (x.bind f) = _
  induction x with
  | pure a => rfl
  | program k ih => exact ih _
  | mark m k ih => exact ih
  | _ => rfl
theorem pureP_map {α β : Type} {P : Program} (x : Sem α) (f : α → β) : pureP P (f <$> x) = (pureP P x).map f := by
  rw [map_eq_pure_bind, pureP_bind]
  cases pureP P x <;> rfl
theorem pureP_pure {α : Type} {P : Program} (a : α) : pureP P (pure a : Sem α) = some a := rfl
theorem pureP_program {P : Program} : pureP P program = some P := rfl
theorem pureP_underlying {P : Program} {t : TypeId} {d : TypeDesc} (h : P.underlying t = some d) : pureP P (underlying t) = some d := by
  simp only [underlying, pureP_bind, pureP_program, Option.bind_some, h, pureP_pure]
theorem pureP_eqInt {P : Program} {d : Nat} {t : TypeId} {k : IntKind} {a b : Int} (h : P.underlying t = some (.int k)) : pureP P (Op.equalIn (d + 1) t (.int .i64 a) (.int .i64 b)) = some (a == b) := by
  simp [Op.equalIn, pureP_bind, pureP_underlying h, pureP_pure]
theorem pureP_part {P : Program} {t : TypeId} {k : IntKind} {cs : Array Value} {o : Nat} {v : Value} (h : P.underlying t = some (.int k)) (hv : cs[o]? = some v) : pureP P (part t cs o) = some v := by
  simp [part, isAgg, pureP_bind, pureP_underlying h, pureP_pure, hv]
theorem pureP_eqTwo {P : Program} {d : Nat} {t : TypeId} {f0 f1 : Field} {k : IntKind} {a b c e : Int} (h : P.underlying t = some (.struct #[f0, f1])) (hs : P.stoodInHeld t = false) (n0 : f0.name ≠ "_") (n1 : f1.name ≠ "_") (o0 : f0.offset = 0) (o1 : f1.offset = 1) (t0 : P.underlying f0.type = some (.int k)) (t1 : P.underlying f1.type = some (.int k)) :
    pureP P (Op.equalIn (d + 2) t (.agg #[.int .i64 a, .int .i64 b]) (.agg #[.int .i64 c, .int .i64 e])) = some (a == c && b == e) := by
  rw [Op.equalIn]
  simp [pureP_bind, pureP_underlying h, pureP_program, hs, n0, n1, o0, o1, pureP_part t0, pureP_eqInt t0]
  by_cases h1 : a = c <;> by_cases h2 : b = e <;> simp [h1, h2, pureP_bind, pureP_pure, pureP_part t1, pureP_eqInt t1]
theorem aBin_two {P : Program} {t : TypeId} {f0 f1 : Field} {k : IntKind} {a b c e : Int} {ox oy : Operand} (h : P.underlying t = some (.struct #[f0, f1])) (hs : P.stoodInHeld t = false) (n0 : f0.name ≠ "_") (n1 : f1.name ≠ "_") (o0 : f0.offset = 0) (o1 : f1.offset = 1) (t0 : P.underlying f0.type = some (.int k)) (t1 : P.underlying f1.type = some (.int k)) (hg : P.eqGuardType P.depth t = false) :
    aBin P .neq t ox oy (.agg [i64 a, i64 b]) (.agg [i64 c, i64 e]) = some (.v (.bool (!(a == c && b == e)))) := by
  have e1 : pureP P (do eqGuard .neq t ox oy (.agg #[.int .i64 a, .int .i64 b]) (.agg #[.int .i64 c, .int .i64 e]); binOp .neq t (.agg #[.int .i64 a, .int .i64 b]) (.agg #[.int .i64 c, .int .i64 e])) = some (.bool (!(a == c && b == e))) := by
    have e2 : pureP P (Op.equalIn 10000 t (.agg #[.int .i64 a, .int .i64 b]) (.agg #[.int .i64 c, .int .i64 e])) = some (a == c && b == e) := pureP_eqTwo (d := 9998) h hs n0 n1 o0 o1 t0 t1
    simp [eqGuard, binOp, pureP_bind, pureP_program, hg, Op.equal, Op.maxDepth, e2, pureP_pure, pureP_map]
  have e3 : aBin P .neq t ox oy (.agg [i64 a, i64 b]) (.agg [i64 c, i64 e]) = (match pureP P (do eqGuard .neq t ox oy (.agg #[.int .i64 a, .int .i64 b]) (.agg #[.int .i64 c, .int .i64 e]); binOp .neq t (.agg #[.int .i64 a, .int .i64 b]) (.agg #[.int .i64 c, .int .i64 e])) with | some r => ofV r | none => none) := rfl
  rw [e3, e1]
  rfl
theorem neq_rng {a b c e : Int} {ox oy : Operand} : aBin Tryz.prog .neq 57 ox oy (.agg [i64 a, i64 b]) (.agg [i64 c, i64 e]) = some (.v (.bool (!(a == c && b == e)))) :=
  aBin_two (k := .i64) rfl (by kernel_rfl) (by decide) (by decide) rfl rfl rfl rfl (by kernel_rfl)
theorem neq_yes {x y : Rng} {ox oy : Operand} (h : ¬ x = y) : aBin Tryz.prog .neq 57 ox oy (.agg (rngC x)) (.agg (rngC y)) = some (.v (.bool true)) := by
  rw [neq_rng]
  cases x; cases y
  simp at h
  simp only [Option.some.injEq, D.v.injEq, Value.bool.injEq, Bool.not_eq_true', Bool.and_eq_false_imp, beq_iff_eq, beq_eq_false_iff_ne]
  exact h
theorem neq_no {x : Rng} {ox oy : Operand} : aBin Tryz.prog .neq 57 ox oy (.agg (rngC x)) (.agg (rngC x)) = some (.v (.bool false)) := by
  rw [neq_rng]
  simp
theorem SameRanges_c {a b : List Rng} (ha : a.length ≤ 9223372036854775807) (hb : b.length ≤ 9223372036854775807) : Pu Tryz.prog 29 [rngs a, rngs b] (boo (decide (a = b))) := by
  refine Pu.of_v mixed T0 Tryz.func29 rfl rfl (by simp [noBoxs, noBox_rngs]) ?_
  by_cases hl : a.length = b.length
  · repeat' ((conv => whnf) <;> (first
      | refine SeqV.go mixed T0 ?_
      | exact True.intro
      | (refine Br.mk (fun _ => ?_) (fun _ => ?_) <;> (try (exfalso; omega)))
      | refine Get.exp rfl ?_
      | refine Idx.lst (by first | omega | assumption | exact hl _ _ | exact inK64 (by omega) (by omega) | (simp; omega) | (simp; done)) ?_
      | refine Idx.lstS (by intro _; rfl) (by first | omega | assumption | exact hl _ _ | exact inK64 (by omega) (by omega) | (simp; omega) | (simp; done)) ?_
      | refine IdxS.nat (by first | omega | assumption | exact hl _ _ | exact inK64 (by omega) (by omega) | (simp; omega) | (simp; done)) ?_
      | refine IdxO.nat (by first | omega | assumption | exact hl _ _ | exact inK64 (by omega) (by omega) | (simp; omega) | (simp; done)) ?_
      | refine QuietV.mk (by kernel_rfl) ?_
      | refine Put.exp rfl ?_
      | refine SrcV.exp rfl ?_
      | refine Chk.mk (by first | rfl | exact inK64 (by omega) (by omega) | omega | assumption) ?_
      | refine Chk.mk ⟨Nat.le_of_ble_eq_true rfl, Nat.le_of_ble_eq_true rfl⟩ ?_
      | refine Chk.grow (by intro _; rfl) 16 rfl (by omega) (by omega) ?_
      | refine Chk.room 16 rfl (by omega) (by omega) ?_
      | refine Chk.made 16 rfl (by omega) (by omega) (by omega) ?_))
    all_goals (conv => whnf)
    refine LoopV.by mixed T0 (fun k : Nat => ⟨tmp 26 [(0, rngs a), (1, rngs b), (5, i64 (k : Int))], ⟨0, []⟩⟩)
      (fun k => k ≤ a.length ∧ ∀ i (h : i < a.length), i < k → a[i] = b[i]'(by omega)) (fun k => a.length - k) 0 ⟨by omega, fun _ _ h => by omega⟩ ?_ ?_
    · exact Lf.of2 [] [] (by (repeat (first | exact Ents.nil | refine Ents.cons rfl (by first | exact Rd.any | exact Rd.ptr rfl | exact Rd.map rfl | exact Rd.sl rfl | exact Rd.same rfl | exact Rd.int (by omega) | assumption | exact Rd.same (noBox_ints _) | exact Rd.same (noBox_strs _) | exact Rd.same (noBox_intss _) | exact Rd.same (noBox_spns _) | exact Rd.same (noBox_rngs _)) ?_ | fail)); done) (by (repeat (first | exact Bxs.nil | refine Bxs.cons rfl rfl rfl (by first | exact Rb.cells (Rds.same rfl) rfl | exact Rb.cells (Rds.same (noBoxs_map (fun _ => rfl) _)) rfl | exact Rb.cells (Rds.same (noBoxs_fill (fun _ => rfl) rfl)) rfl | exact Rb.cells (Rds.same (noBoxs_flat (fun _ => rfl) _)) rfl | exact Rb.map (Res.same (noBox_set rfl _)) | exact Rb.map (Res.same (noBox_pos _ _)) | exact Rb.map (Res.same (by simp)) | exact Rb.cells (by (repeat (first | exact Rds.nil | refine Rds.cons (by first | exact Rd.any | exact Rd.ptr rfl | exact Rd.map rfl | exact Rd.sl rfl | exact Rd.same rfl | exact Rd.int (by omega) | assumption | exact Rd.same (noBox_ints _) | exact Rd.same (noBox_strs _) | exact Rd.same (noBox_intss _) | exact Rd.same (noBox_spns _) | exact Rd.same (noBox_rngs _)) ?_ | fail)); done) rfl | exact Rb.map (Res.eqs (map_succ (by omega)) (noBox_set rfl _)) | exact Rb.map (Res.eqs (pos_succ (by omega)) (noBox_pos _ _)) | exact Rb.cells (Rds.eqs (map_succ (by omega)) (noBoxs_map (fun _ => rfl) _)) rfl | assumption) ?_ | fail)); done) rfl rfl
    intro k ⟨h3, h4⟩
    by_cases hk : k < a.length
    · have hk' : k < b.length := by omega
      by_cases he : a[k] = b[k]
      · repeat' ((conv => whnf) <;> (first
          | refine SeqV.go mixed T0 ?_
          | exact True.intro
          | (refine Br.mk (fun _ => ?_) (fun _ => ?_) <;> (try (exfalso; omega)))
          | refine Get.exp rfl ?_
          | refine Idx.lst (by first | omega | assumption | exact hl _ _ | exact inK64 (by omega) (by omega) | (simp; omega) | (simp; done)) ?_
          | refine Idx.lstS (by intro _; rfl) (by first | omega | assumption | exact hl _ _ | exact inK64 (by omega) (by omega) | (simp; omega) | (simp; done)) ?_
          | refine IdxS.nat (by first | omega | assumption | exact hl _ _ | exact inK64 (by omega) (by omega) | (simp; omega) | (simp; done)) ?_
          | refine IdxO.nat (by first | omega | assumption | exact hl _ _ | exact inK64 (by omega) (by omega) | (simp; omega) | (simp; done)) ?_
          | refine QuietV.mk (by kernel_rfl) ?_
          | refine Put.exp rfl ?_
          | refine SrcV.exp rfl ?_
          | refine Chk.mk (by first | rfl | exact inK64 (by omega) (by omega) | omega | assumption) ?_
          | refine Chk.mk ⟨Nat.le_of_ble_eq_true rfl, Nat.le_of_ble_eq_true rfl⟩ ?_
          | refine Chk.grow (by intro _; rfl) 16 rfl (by omega) (by omega) ?_
          | refine Chk.room 16 rfl (by omega) (by omega) ?_
          | refine Chk.made 16 rfl (by omega) (by omega) (by omega) ?_
          | refine DrawV.by mixed T0 [0, 0, 3, 7, 0, 0, 48, 112, 255] (by kernel_rfl) ?_
          | refine Idx.atS (sz := 2) (c := rngC) (fun _ => rfl) k (by omega) (by omega) ?_
          | (split <;> rename_i heq <;> rw [he] at heq <;> first | (obtain rfl := Option.some.inj (neq_no.symm.trans heq)) | exact absurd (neq_no.symm.trans heq) (by simp))))
        all_goals (conv => whnf)
        refine ⟨k + 1, ⟨by omega, up_succ (by omega) h4 he⟩, by omega, ?_⟩
        exact Lf.of2 [] [] (by (repeat (first | exact Ents.nil | refine Ents.cons rfl (by first | exact Rd.any | exact Rd.ptr rfl | exact Rd.map rfl | exact Rd.sl rfl | exact Rd.same rfl | exact Rd.int (by omega) | assumption | exact Rd.same (noBox_ints _) | exact Rd.same (noBox_strs _) | exact Rd.same (noBox_intss _) | exact Rd.same (noBox_spns _) | exact Rd.same (noBox_rngs _)) ?_ | fail)); done) (by (repeat (first | exact Bxs.nil | refine Bxs.cons rfl rfl rfl (by first | exact Rb.cells (Rds.same rfl) rfl | exact Rb.cells (Rds.same (noBoxs_map (fun _ => rfl) _)) rfl | exact Rb.cells (Rds.same (noBoxs_fill (fun _ => rfl) rfl)) rfl | exact Rb.cells (Rds.same (noBoxs_flat (fun _ => rfl) _)) rfl | exact Rb.map (Res.same (noBox_set rfl _)) | exact Rb.map (Res.same (noBox_pos _ _)) | exact Rb.map (Res.same (by simp)) | exact Rb.cells (by (repeat (first | exact Rds.nil | refine Rds.cons (by first | exact Rd.any | exact Rd.ptr rfl | exact Rd.map rfl | exact Rd.sl rfl | exact Rd.same rfl | exact Rd.int (by omega) | assumption | exact Rd.same (noBox_ints _) | exact Rd.same (noBox_strs _) | exact Rd.same (noBox_intss _) | exact Rd.same (noBox_spns _) | exact Rd.same (noBox_rngs _)) ?_ | fail)); done) rfl | exact Rb.map (Res.eqs (map_succ (by omega)) (noBox_set rfl _)) | exact Rb.map (Res.eqs (pos_succ (by omega)) (noBox_pos _ _)) | exact Rb.cells (Rds.eqs (map_succ (by omega)) (noBoxs_map (fun _ => rfl) _)) rfl | assumption) ?_ | fail)); done) rfl rfl
      · repeat' ((conv => whnf) <;> (first
          | refine SeqV.go mixed T0 ?_
          | exact True.intro
          | (refine Br.mk (fun _ => ?_) (fun _ => ?_) <;> (try (exfalso; omega)))
          | refine Get.exp rfl ?_
          | refine Idx.lst (by first | omega | assumption | exact hl _ _ | exact inK64 (by omega) (by omega) | (simp; omega) | (simp; done)) ?_
          | refine Idx.lstS (by intro _; rfl) (by first | omega | assumption | exact hl _ _ | exact inK64 (by omega) (by omega) | (simp; omega) | (simp; done)) ?_
          | refine IdxS.nat (by first | omega | assumption | exact hl _ _ | exact inK64 (by omega) (by omega) | (simp; omega) | (simp; done)) ?_
          | refine IdxO.nat (by first | omega | assumption | exact hl _ _ | exact inK64 (by omega) (by omega) | (simp; omega) | (simp; done)) ?_
          | refine QuietV.mk (by kernel_rfl) ?_
          | refine Put.exp rfl ?_
          | refine SrcV.exp rfl ?_
          | refine Chk.mk (by first | rfl | exact inK64 (by omega) (by omega) | omega | assumption) ?_
          | refine Chk.mk ⟨Nat.le_of_ble_eq_true rfl, Nat.le_of_ble_eq_true rfl⟩ ?_
          | refine Chk.grow (by intro _; rfl) 16 rfl (by omega) (by omega) ?_
          | refine Chk.room 16 rfl (by omega) (by omega) ?_
          | refine Chk.made 16 rfl (by omega) (by omega) (by omega) ?_
          | refine DrawV.by mixed T0 [0, 0, 3, 7, 0, 0, 48, 112, 255] (by kernel_rfl) ?_
          | refine Idx.atS (sz := 2) (c := rngC) (fun _ => rfl) k (by omega) (by omega) ?_
          | (split <;> rename_i heq <;> first | (obtain rfl := Option.some.inj ((neq_yes he).symm.trans heq)) | exact absurd ((neq_yes he).symm.trans heq) (by simp))))
        all_goals (conv => whnf)
        exact RetV.no (fun hc => he (by subst hc; rfl))
    · repeat' ((conv => whnf) <;> (first
        | refine SeqV.go mixed T0 ?_
        | exact True.intro
        | (refine Br.mk (fun _ => ?_) (fun _ => ?_) <;> (try (exfalso; omega)))
        | refine Get.exp rfl ?_
        | refine Idx.lst (by first | omega | assumption | exact hl _ _ | exact inK64 (by omega) (by omega) | (simp; omega) | (simp; done)) ?_
        | refine Idx.lstS (by intro _; rfl) (by first | omega | assumption | exact hl _ _ | exact inK64 (by omega) (by omega) | (simp; omega) | (simp; done)) ?_
        | refine IdxS.nat (by first | omega | assumption | exact hl _ _ | exact inK64 (by omega) (by omega) | (simp; omega) | (simp; done)) ?_
        | refine IdxO.nat (by first | omega | assumption | exact hl _ _ | exact inK64 (by omega) (by omega) | (simp; omega) | (simp; done)) ?_
        | refine QuietV.mk (by kernel_rfl) ?_
        | refine Put.exp rfl ?_
        | refine SrcV.exp rfl ?_
        | refine Chk.mk (by first | rfl | exact inK64 (by omega) (by omega) | omega | assumption) ?_
        | refine Chk.mk ⟨Nat.le_of_ble_eq_true rfl, Nat.le_of_ble_eq_true rfl⟩ ?_
        | refine Chk.grow (by intro _; rfl) 16 rfl (by omega) (by omega) ?_
        | refine Chk.room 16 rfl (by omega) (by omega) ?_
        | refine Chk.made 16 rfl (by omega) (by omega) (by omega) ?_))
      all_goals (conv => whnf)
      exact RetV.yes (List.ext_getElem hl fun i h1 h2 => h4 i h1 (by omega))
  · repeat' ((conv => whnf) <;> (first
      | refine SeqV.go mixed T0 ?_
      | exact True.intro
      | (refine Br.mk (fun _ => ?_) (fun _ => ?_) <;> (try (exfalso; omega)))
      | refine Get.exp rfl ?_
      | refine Idx.lst (by first | omega | assumption | exact hl _ _ | exact inK64 (by omega) (by omega) | (simp; omega) | (simp; done)) ?_
      | refine Idx.lstS (by intro _; rfl) (by first | omega | assumption | exact hl _ _ | exact inK64 (by omega) (by omega) | (simp; omega) | (simp; done)) ?_
      | refine IdxS.nat (by first | omega | assumption | exact hl _ _ | exact inK64 (by omega) (by omega) | (simp; omega) | (simp; done)) ?_
      | refine IdxO.nat (by first | omega | assumption | exact hl _ _ | exact inK64 (by omega) (by omega) | (simp; omega) | (simp; done)) ?_
      | refine QuietV.mk (by kernel_rfl) ?_
      | refine Put.exp rfl ?_
      | refine SrcV.exp rfl ?_
      | refine Chk.mk (by first | rfl | exact inK64 (by omega) (by omega) | omega | assumption) ?_
      | refine Chk.mk ⟨Nat.le_of_ble_eq_true rfl, Nat.le_of_ble_eq_true rfl⟩ ?_
      | refine Chk.grow (by intro _; rfl) 16 rfl (by omega) (by omega) ?_
      | refine Chk.room 16 rfl (by omega) (by omega) ?_
      | refine Chk.made 16 rfl (by omega) (by omega) (by omega) ?_))
    all_goals (conv => whnf)
    exact RetV.no (fun hc => hl (by rw [hc]))
end Go.Proofs.YtgcjjodbmcnhkaaGreatDoor
