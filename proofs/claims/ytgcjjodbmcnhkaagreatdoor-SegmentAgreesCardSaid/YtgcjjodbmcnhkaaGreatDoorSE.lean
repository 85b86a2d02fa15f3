/-
  Contracts of functions over data: ranges of a text (the program: an iterator, and what collects or counts).
-/
import Derived.Test.YtgcjjodbmcnhkaaGreatDoorSD
import Derived.Test.YtgcjjodbmcnhkaaGreatDoorAmD
namespace Go.Proofs.YtgcjjodbmcnhkaaGreatDoor
open Go Go.Am Classical
set_option maxRecDepth 100000

theorem parts_c {l : List Int} : Pk Tryz.prog 50 [ints l] 1 (fun n => .fn (.func 89) [] [.ptr n 0]) (fun n => [(n, .cells [ints l] true)]) := by
  refine Pk.of_v mixed T0 Tryz.func50 rfl rfl (by simp [noBoxs, noBox_ints]) ?_
  repeat' ((conv => whnf) <;> (first
    | refine SeqV.go mixed T0 ?_
    | exact True.intro
    | (refine Br.mk (fun _ => ?_) (fun _ => ?_) <;> (try (exfalso; omega)))
    | refine Get.exp rfl ?_
    | refine Idx.lst (by first | omega | assumption | exact hl _ _ | exact inK64 (by omega) (by omega) | (simp; omega) | (simp; done)) ?_
    | refine Idx.lstS (by intro _; rfl) (by first | omega | assumption | exact hl _ _ | exact inK64 (by omega) (by omega) | (simp; omega) | (simp; done)) ?_
    | refine IdxS.nat (by first | omega | assumption | exact hl _ _ | exact inK64 (by omega) (by omega) | (simp; omega) | (simp; done)) ?_
    | refine IdxO.nat (by first | omega | assumption | exact hl _ _ | exact inK64 (by omega) (by omega) | (simp; omega) | (simp; done)) ?_
    | refine QuietV.mk (by kernel_rfl) ?_
    | refine Put.exp rfl ?_
    | refine SrcV.exp rfl ?_
    | refine Chk.mk (by first | rfl | exact inK64 (by omega) (by omega) | omega | assumption) ?_
    | refine Chk.mk ⟨Nat.le_of_ble_eq_true rfl, Nat.le_of_ble_eq_true rfl⟩ ?_
    | refine Chk.grow (by intro _; rfl) 16 rfl (by omega) (by omega) ?_
    | refine Chk.room 16 rfl (by omega) (by omega) ?_
    | refine Chk.made 16 rfl (by omega) (by omega) (by omega) ?_))
  all_goals (conv => whnf)
  exact ⟨[0], rfl, ⟨by simp, fun n => .fn .nil (.cons (.ptr (by simp [sgn])) .nil), fun n => .cons (id := 0) (by simp [sgn]) rfl rfl (.cells (.cons (.same (noBox_ints l)) .nil) rfl) .nil⟩⟩

noncomputable abbrev loop95 (l : List Int) : Box := .loop .ready none [nilS, .fn (.func 89) [] [.iptr [ints l]], .ptr 0 0, undefD, nilS, undefD, .fn (.func 89) [] [.iptr [ints l]], undefD, undefD, undefD, undefD, undefD, undefD] [7] (fnA Tryz.f95) (fnB Tryz.f95)

theorem ptF_no {n i s a : Int} {l : List Int} (h : i = s ∨ (a = 1 ∧ i < n - 1)) : ptF n i s (a :: l) = ptF n (i + 1) s l := by rw [ptF, if_pos h]
theorem ptF_yes {n i s a : Int} {l : List Int} (h : ¬ (i = s ∨ (a = 1 ∧ i < n - 1))) : ptF n i s (a :: l) = ⟨s, i⟩ :: ptF n (i + 1) i l := by rw [ptF, if_neg h]
theorem rb95 {h : Heap} {fz : Nat → Bool} {σl : List (Nat × Nat)} {l : List Int} : Rb h fz (sgm 5 σl) (loop95 l) (loop95 l) :=
  .loop (by repeat (first | exact Rds.nil | refine Rds.cons (by first | exact Rd.same rfl | exact Rd.ptr rfl | exact Rd.same (by simp [noBox, noBoxs, noBox_ints])) ?_))
theorem parts1_app {l : List Int} (hx : l.length ≤ 1001) : AC1 Tryz.prog 89 [.yf 4, .iptr [ints l]] ⟨5, [(4, loop95 l), (3, .dfr), (0, .cells [nilS] true)]⟩ (.tup []) ⟨7, ownB 5 rngC (ptV l) ++ [(4, loop95 l), (3, .dfr), (0, .cells [ownD 5 2 (ptV l)] true)]⟩ := by
  refine AC1.of_vl mixed T0 Tryz.func89 rfl rfl ?_
  repeat' ((conv => whnf) <;> (first
    | refine SeqV.go mixed T0 ?_
    | exact True.intro
    | (refine Br.mk (fun _ => ?_) (fun _ => ?_) <;> (try (exfalso; omega)))
    | refine Get.exp rfl ?_
    | refine Idx.lst (by first | omega | assumption | exact hl _ _ | exact inK64 (by omega) (by omega) | (simp; omega) | (simp; done)) ?_
    | refine Idx.lstS (by intro _; rfl) (by first | omega | assumption | exact hl _ _ | exact inK64 (by omega) (by omega) | (simp; omega) | (simp; done)) ?_
    | refine IdxS.nat (by first | omega | assumption | exact hl _ _ | exact inK64 (by omega) (by omega) | (simp; omega) | (simp; done)) ?_
    | refine IdxO.nat (by first | omega | assumption | exact hl _ _ | exact inK64 (by omega) (by omega) | (simp; omega) | (simp; done)) ?_
    | refine QuietV.mk (by kernel_rfl) ?_
    | refine Put.exp rfl ?_
    | refine SrcV.exp rfl ?_
    | refine Chk.mk (by first | rfl | exact inK64 (by omega) (by omega) | omega | assumption) ?_
    | refine Chk.mk ⟨Nat.le_of_ble_eq_true rfl, Nat.le_of_ble_eq_true rfl⟩ ?_
    | refine Chk.grow (by intro _; rfl) 16 rfl (by omega) (by omega) ?_
    | refine Chk.room 16 rfl (by omega) (by omega) ?_
    | refine Chk.made 16 rfl (by omega) (by omega) (by omega) ?_))
  all_goals (conv => whnf)
  refine LoopV.by3 mixed T0 (fun (k : Nat) (s : Int) (o : List Rng) => ⟨tmp 35 [(0, .yf 4), (1, .iptr [ints l]), (3, i64 s), (6, ints l), (7, i64 l.length), (8, i64 (k : Int))], ⟨6, ownB 5 rngC o ++ [(4, loop95 l), (3, .dfr), (0, .cells [ownD 5 2 o] true)]⟩⟩)
    (fun k s o => (k ≤ l.length ∧ o.length ≤ k) ∧ ptV l = o ++ ptF l.length k s (l.drop k)) (fun k _ _ => l.length - k) 0 0 [] ⟨⟨by omega, by simp⟩, rfl⟩ ?_ ?_
  · exact Lf.of2 [] [] (by (repeat (first | exact Ents.nil | refine Ents.cons rfl (by first | exact Rd.yf rfl | exact Rd.same (by simp [noBox, noBoxs, noBox_ints]) | (first | exact Rd.any | exact Rd.ptr rfl | exact Rd.map rfl | exact Rd.sl rfl | exact Rd.same rfl | exact Rd.int (by omega) | assumption | exact Rd.same (noBox_ints _) | exact Rd.same (noBox_strs _) | exact Rd.same (noBox_intss _) | exact Rd.same (noBox_spns _) | exact Rd.same (noBox_rngs _))) ?_ | fail)); done) (by (repeat (first | exact Bxs.nil | refine Bxs.cons rfl rfl rfl (by first | exact Rb.dfr | exact rb95 | exact Rb.cells (Rds.same rfl) rfl | exact Rb.cells (Rds.same (noBoxs_map (fun _ => rfl) _)) rfl | exact Rb.cells (Rds.same (noBoxs_fill (fun _ => rfl) rfl)) rfl | exact Rb.cells (Rds.same (noBoxs_flat (fun _ => rfl) _)) rfl | exact Rb.map (Res.same (noBox_set rfl _)) | exact Rb.map (Res.same (noBox_pos _ _)) | exact Rb.map (Res.same (by simp)) | exact Rb.cells (by (repeat (first | exact Rds.nil | refine Rds.cons (by first | exact Rd.yf rfl | exact Rd.same (by simp [noBox, noBoxs, noBox_ints]) | (first | exact Rd.any | exact Rd.ptr rfl | exact Rd.map rfl | exact Rd.sl rfl | exact Rd.same rfl | exact Rd.int (by omega) | assumption | exact Rd.same (noBox_ints _) | exact Rd.same (noBox_strs _) | exact Rd.same (noBox_intss _) | exact Rd.same (noBox_spns _) | exact Rd.same (noBox_rngs _))) ?_ | fail)); done) rfl | exact Rb.map (Res.eqs (map_succ (by omega)) (noBox_set rfl _)) | exact Rb.map (Res.eqs (pos_succ (by omega)) (noBox_pos _ _)) | exact Rb.cells (Rds.eqs (map_succ (by omega)) (noBoxs_map (fun _ => rfl) _)) rfl | assumption) ?_ | fail)); done) rfl rfl
  intro k s o ⟨⟨h3, h5⟩, h4⟩
  cases o with
  | nil =>
    repeat' ((conv => whnf) <;> (first
      | refine SeqV.go mixed T0 ?_
      | exact True.intro
      | (refine Br.mk (fun _ => ?_) (fun _ => ?_) <;> (try (exfalso; omega)))
      | refine Get.exp rfl ?_
      | refine Idx.lst (by first | omega | assumption | exact hl _ _ | exact inK64 (by omega) (by omega) | (simp; omega) | (simp; done)) ?_
      | refine Idx.lstS (by intro _; rfl) (by first | omega | assumption | exact hl _ _ | exact inK64 (by omega) (by omega) | (simp; omega) | (simp; done)) ?_
      | refine IdxS.nat (by first | omega | assumption | exact hl _ _ | exact inK64 (by omega) (by omega) | (simp; omega) | (simp; done)) ?_
      | refine IdxO.nat (by first | omega | assumption | exact hl _ _ | exact inK64 (by omega) (by omega) | (simp; omega) | (simp; done)) ?_
      | refine QuietV.mk (by kernel_rfl) ?_
      | refine Put.exp rfl ?_
      | refine SrcV.exp rfl ?_
      | refine Chk.mk (by first | rfl | exact inK64 (by omega) (by omega) | omega | assumption) ?_
      | refine Chk.mk ⟨Nat.le_of_ble_eq_true rfl, Nat.le_of_ble_eq_true rfl⟩ ?_
      | refine Chk.grow (by intro _; rfl) 16 rfl (by omega) (by omega) ?_
      | refine Chk.room 16 rfl (by omega) (by omega) ?_
      | refine Chk.made 16 rfl (by omega) (by omega) (by omega) ?_
      | (apply Yll.sv rfl rfl (SvR.region T0 ?_); rotate_left)
      | exact And.intro rfl rfl
      | refine And.intro rfl (SvR.block (SvR.region T0 ?_))
      | fail))
    all_goals (conv => whnf)
    all_goals first
      | (refine ⟨k + 1, s, [], ⟨⟨by omega, by simp⟩, by rw [h4, List.drop_eq_getElem_cons (by omega), ptF_no (by first | (left; omega) | (right; omega))]; rfl⟩, by omega, ?_⟩
         exact Lf.of2 [] [] (by (repeat (first | exact Ents.nil | refine Ents.cons rfl (by first | exact Rd.yf rfl | exact Rd.same (by simp [noBox, noBoxs, noBox_ints]) | (first | exact Rd.any | exact Rd.ptr rfl | exact Rd.map rfl | exact Rd.sl rfl | exact Rd.same rfl | exact Rd.int (by omega) | assumption | exact Rd.same (noBox_ints _) | exact Rd.same (noBox_strs _) | exact Rd.same (noBox_intss _) | exact Rd.same (noBox_spns _) | exact Rd.same (noBox_rngs _))) ?_ | fail)); done) (by (repeat (first | exact Bxs.nil | refine Bxs.cons rfl rfl rfl (by first | exact Rb.dfr | exact rb95 | exact Rb.cells (Rds.same rfl) rfl | exact Rb.cells (Rds.same (noBoxs_map (fun _ => rfl) _)) rfl | exact Rb.cells (Rds.same (noBoxs_fill (fun _ => rfl) rfl)) rfl | exact Rb.cells (Rds.same (noBoxs_flat (fun _ => rfl) _)) rfl | exact Rb.map (Res.same (noBox_set rfl _)) | exact Rb.map (Res.same (noBox_pos _ _)) | exact Rb.map (Res.same (by simp)) | exact Rb.cells (by (repeat (first | exact Rds.nil | refine Rds.cons (by first | exact Rd.yf rfl | exact Rd.same (by simp [noBox, noBoxs, noBox_ints]) | (first | exact Rd.any | exact Rd.ptr rfl | exact Rd.map rfl | exact Rd.sl rfl | exact Rd.same rfl | exact Rd.int (by omega) | assumption | exact Rd.same (noBox_ints _) | exact Rd.same (noBox_strs _) | exact Rd.same (noBox_intss _) | exact Rd.same (noBox_spns _) | exact Rd.same (noBox_rngs _))) ?_ | fail)); done) rfl | exact Rb.map (Res.eqs (map_succ (by omega)) (noBox_set rfl _)) | exact Rb.map (Res.eqs (pos_succ (by omega)) (noBox_pos _ _)) | exact Rb.cells (Rds.eqs (map_succ (by omega)) (noBoxs_map (fun _ => rfl) _)) rfl | assumption) ?_ | fail)); done) rfl rfl)
      | (have h9 : l[k]'(by omega) = 1 := by assumption
         refine ⟨k + 1, k, [⟨s, k⟩], ⟨⟨by omega, by simp⟩, by rw [h4, List.drop_eq_getElem_cons (by omega), ptF_yes (by omega)]; rfl⟩, by omega, ?_⟩
         exact Lf.of2 [(5, 36)] [] (by (repeat (first | exact Ents.nil | refine Ents.cons rfl (by first | exact Rd.yf rfl | exact Rd.same (by simp [noBox, noBoxs, noBox_ints]) | (first | exact Rd.any | exact Rd.ptr rfl | exact Rd.map rfl | exact Rd.sl rfl | exact Rd.same rfl | exact Rd.int (by omega) | assumption | exact Rd.same (noBox_ints _) | exact Rd.same (noBox_strs _) | exact Rd.same (noBox_intss _) | exact Rd.same (noBox_spns _) | exact Rd.same (noBox_rngs _))) ?_ | fail)); done) (by (repeat (first | exact Bxs.nil | refine Bxs.cons rfl rfl rfl (by first | exact Rb.dfr | exact rb95 | exact Rb.cells (Rds.same rfl) rfl | exact Rb.cells (Rds.same (noBoxs_map (fun _ => rfl) _)) rfl | exact Rb.cells (Rds.same (noBoxs_fill (fun _ => rfl) rfl)) rfl | exact Rb.cells (Rds.same (noBoxs_flat (fun _ => rfl) _)) rfl | exact Rb.map (Res.same (noBox_set rfl _)) | exact Rb.map (Res.same (noBox_pos _ _)) | exact Rb.map (Res.same (by simp)) | exact Rb.cells (by (repeat (first | exact Rds.nil | refine Rds.cons (by first | exact Rd.yf rfl | exact Rd.same (by simp [noBox, noBoxs, noBox_ints]) | (first | exact Rd.any | exact Rd.ptr rfl | exact Rd.map rfl | exact Rd.sl rfl | exact Rd.same rfl | exact Rd.int (by omega) | assumption | exact Rd.same (noBox_ints _) | exact Rd.same (noBox_strs _) | exact Rd.same (noBox_intss _) | exact Rd.same (noBox_spns _) | exact Rd.same (noBox_rngs _))) ?_ | fail)); done) rfl | exact Rb.map (Res.eqs (map_succ (by omega)) (noBox_set rfl _)) | exact Rb.map (Res.eqs (pos_succ (by omega)) (noBox_pos _ _)) | exact Rb.cells (Rds.eqs (map_succ (by omega)) (noBoxs_map (fun _ => rfl) _)) rfl | assumption) ?_ | fail)); done) rfl rfl)
      | (refine ⟨k + 1, k, [⟨s, k⟩], ⟨⟨by omega, by simp⟩, by rw [h4, List.drop_eq_getElem_cons (by omega), ptF_yes (by omega)]; rfl⟩, by omega, ?_⟩
         exact Lf.of2 [(5, 31)] [] (by (repeat (first | exact Ents.nil | refine Ents.cons rfl (by first | exact Rd.yf rfl | exact Rd.same (by simp [noBox, noBoxs, noBox_ints]) | (first | exact Rd.any | exact Rd.ptr rfl | exact Rd.map rfl | exact Rd.sl rfl | exact Rd.same rfl | exact Rd.int (by omega) | assumption | exact Rd.same (noBox_ints _) | exact Rd.same (noBox_strs _) | exact Rd.same (noBox_intss _) | exact Rd.same (noBox_spns _) | exact Rd.same (noBox_rngs _))) ?_ | fail)); done) (by (repeat (first | exact Bxs.nil | refine Bxs.cons rfl rfl rfl (by first | exact Rb.dfr | exact rb95 | exact Rb.cells (Rds.same rfl) rfl | exact Rb.cells (Rds.same (noBoxs_map (fun _ => rfl) _)) rfl | exact Rb.cells (Rds.same (noBoxs_fill (fun _ => rfl) rfl)) rfl | exact Rb.cells (Rds.same (noBoxs_flat (fun _ => rfl) _)) rfl | exact Rb.map (Res.same (noBox_set rfl _)) | exact Rb.map (Res.same (noBox_pos _ _)) | exact Rb.map (Res.same (by simp)) | exact Rb.cells (by (repeat (first | exact Rds.nil | refine Rds.cons (by first | exact Rd.yf rfl | exact Rd.same (by simp [noBox, noBoxs, noBox_ints]) | (first | exact Rd.any | exact Rd.ptr rfl | exact Rd.map rfl | exact Rd.sl rfl | exact Rd.same rfl | exact Rd.int (by omega) | assumption | exact Rd.same (noBox_ints _) | exact Rd.same (noBox_strs _) | exact Rd.same (noBox_intss _) | exact Rd.same (noBox_spns _) | exact Rd.same (noBox_rngs _))) ?_ | fail)); done) rfl | exact Rb.map (Res.eqs (map_succ (by omega)) (noBox_set rfl _)) | exact Rb.map (Res.eqs (pos_succ (by omega)) (noBox_pos _ _)) | exact Rb.cells (Rds.eqs (map_succ (by omega)) (noBoxs_map (fun _ => rfl) _)) rfl | assumption) ?_ | fail)); done) rfl rfl)
      | (refine ⟨Or.inl rfl, rfl, ?_⟩
         rw [h4, List.drop_of_length_le (by omega)]
         rfl)
  | cons x xs =>
    have hlen : (x :: xs).length ≤ 1001 := by omega
    repeat' ((conv => whnf) <;> (first
      | refine SeqV.go mixed T0 ?_
      | exact True.intro
      | (refine Br.mk (fun _ => ?_) (fun _ => ?_) <;> (try (exfalso; omega)))
      | refine Get.exp rfl ?_
      | refine Idx.lst (by first | omega | assumption | exact hl _ _ | exact inK64 (by omega) (by omega) | (simp; omega) | (simp; done)) ?_
      | refine Idx.lstS (by intro _; rfl) (by first | omega | assumption | exact hl _ _ | exact inK64 (by omega) (by omega) | (simp; omega) | (simp; done)) ?_
      | refine IdxS.nat (by first | omega | assumption | exact hl _ _ | exact inK64 (by omega) (by omega) | (simp; omega) | (simp; done)) ?_
      | refine IdxO.nat (by first | omega | assumption | exact hl _ _ | exact inK64 (by omega) (by omega) | (simp; omega) | (simp; done)) ?_
      | refine QuietV.mk (by kernel_rfl) ?_
      | refine Put.exp rfl ?_
      | refine SrcV.exp rfl ?_
      | refine Chk.mk (by first | rfl | exact inK64 (by omega) (by omega) | omega | assumption) ?_
      | refine Chk.mk ⟨Nat.le_of_ble_eq_true rfl, Nat.le_of_ble_eq_true rfl⟩ ?_
      | refine Chk.grow (by intro _; rfl) 16 rfl (by omega) (by omega) ?_
      | refine Chk.room 16 rfl (by omega) (by omega) ?_
      | refine Chk.made 16 rfl (by omega) (by omega) (by omega) ?_
      | (apply Yll.sv rfl rfl (SvR.region T0 ?_); rotate_left)
      | exact And.intro rfl rfl
      | refine And.intro rfl (SvR.block (SvR.region T0 ?_))
      | fail))
    all_goals (conv => whnf)
    all_goals first
      | (refine ⟨k + 1, s, x :: xs, ⟨⟨by omega, by omega⟩, by rw [h4, List.drop_eq_getElem_cons (by omega), ptF_no (by first | (left; omega) | (right; omega))]; rfl⟩, by omega, ?_⟩
         exact Lf.of2 [(5, 5)] [] (by (repeat (first | exact Ents.nil | refine Ents.cons rfl (by first | exact Rd.yf rfl | exact Rd.same (by simp [noBox, noBoxs, noBox_ints]) | (first | exact Rd.any | exact Rd.ptr rfl | exact Rd.map rfl | exact Rd.sl rfl | exact Rd.same rfl | exact Rd.int (by omega) | assumption | exact Rd.same (noBox_ints _) | exact Rd.same (noBox_strs _) | exact Rd.same (noBox_intss _) | exact Rd.same (noBox_spns _) | exact Rd.same (noBox_rngs _))) ?_ | fail)); done) (by (repeat (first | exact Bxs.nil | refine Bxs.cons rfl rfl rfl (by first | exact Rb.dfr | exact rb95 | exact Rb.cells (Rds.same rfl) rfl | exact Rb.cells (Rds.same (noBoxs_map (fun _ => rfl) _)) rfl | exact Rb.cells (Rds.same (noBoxs_fill (fun _ => rfl) rfl)) rfl | exact Rb.cells (Rds.same (noBoxs_flat (fun _ => rfl) _)) rfl | exact Rb.map (Res.same (noBox_set rfl _)) | exact Rb.map (Res.same (noBox_pos _ _)) | exact Rb.map (Res.same (by simp)) | exact Rb.cells (by (repeat (first | exact Rds.nil | refine Rds.cons (by first | exact Rd.yf rfl | exact Rd.same (by simp [noBox, noBoxs, noBox_ints]) | (first | exact Rd.any | exact Rd.ptr rfl | exact Rd.map rfl | exact Rd.sl rfl | exact Rd.same rfl | exact Rd.int (by omega) | assumption | exact Rd.same (noBox_ints _) | exact Rd.same (noBox_strs _) | exact Rd.same (noBox_intss _) | exact Rd.same (noBox_spns _) | exact Rd.same (noBox_rngs _))) ?_ | fail)); done) rfl | exact Rb.map (Res.eqs (map_succ (by omega)) (noBox_set rfl _)) | exact Rb.map (Res.eqs (pos_succ (by omega)) (noBox_pos _ _)) | exact Rb.cells (Rds.eqs (map_succ (by omega)) (noBoxs_map (fun _ => rfl) _)) rfl | assumption) ?_ | fail)); done) rfl rfl)
      | (have h9 : l[k]'(by omega) = 1 := by assumption
         refine ⟨k + 1, k, (x :: xs) ++ [⟨s, k⟩], ⟨⟨by omega, by simp only [List.length_append, List.length_singleton]; omega⟩, by rw [h4, List.drop_eq_getElem_cons (by omega), ptF_yes (by omega), List.append_assoc]; rfl⟩, by omega, ?_⟩
         exact Lf.of2 [(5, 36)] [] (by (repeat (first | exact Ents.nil | refine Ents.cons rfl (by first | exact Rd.yf rfl | exact Rd.sl' rfl (by simp) (by simp) | exact Rd.same (by simp [noBox, noBoxs, noBox_ints]) | (first | exact Rd.any | exact Rd.ptr rfl | exact Rd.map rfl | exact Rd.sl rfl | exact Rd.same rfl | exact Rd.int (by omega) | assumption | exact Rd.same (noBox_ints _) | exact Rd.same (noBox_strs _) | exact Rd.same (noBox_intss _) | exact Rd.same (noBox_spns _) | exact Rd.same (noBox_rngs _))) ?_ | fail)); done) (by (repeat (first | exact Bxs.nil | refine Bxs.cons rfl rfl rfl (by first | exact Rb.dfr | exact rb95 | exact Rb.cells (Rds.eqs (app_cells (c := rngC) (sz := 2) (by intro _; rfl) (x :: xs) (⟨s, k⟩ : Rng)) (noBoxs_flat (by intro _; rfl) _)) rfl | exact Rb.cells (Rds.same rfl) rfl | exact Rb.cells (Rds.same (noBoxs_map (fun _ => rfl) _)) rfl | exact Rb.cells (Rds.same (noBoxs_fill (fun _ => rfl) rfl)) rfl | exact Rb.cells (Rds.same (noBoxs_flat (fun _ => rfl) _)) rfl | exact Rb.map (Res.same (noBox_set rfl _)) | exact Rb.map (Res.same (noBox_pos _ _)) | exact Rb.map (Res.same (by simp)) | exact Rb.cells (by (repeat (first | exact Rds.nil | refine Rds.cons (by first | exact Rd.yf rfl | exact Rd.sl' rfl (by simp) (by simp) | exact Rd.same (by simp [noBox, noBoxs, noBox_ints]) | (first | exact Rd.any | exact Rd.ptr rfl | exact Rd.map rfl | exact Rd.sl rfl | exact Rd.same rfl | exact Rd.int (by omega) | assumption | exact Rd.same (noBox_ints _) | exact Rd.same (noBox_strs _) | exact Rd.same (noBox_intss _) | exact Rd.same (noBox_spns _) | exact Rd.same (noBox_rngs _))) ?_ | fail)); done) rfl | exact Rb.map (Res.eqs (map_succ (by omega)) (noBox_set rfl _)) | exact Rb.map (Res.eqs (pos_succ (by omega)) (noBox_pos _ _)) | exact Rb.cells (Rds.eqs (map_succ (by omega)) (noBoxs_map (fun _ => rfl) _)) rfl | assumption) ?_ | fail)); done) rfl rfl)
      | (refine ⟨k + 1, k, (x :: xs) ++ [⟨s, k⟩], ⟨⟨by omega, by simp only [List.length_append, List.length_singleton]; omega⟩, by rw [h4, List.drop_eq_getElem_cons (by omega), ptF_yes (by omega), List.append_assoc]; rfl⟩, by omega, ?_⟩
         exact Lf.of2 [(5, 31)] [] (by (repeat (first | exact Ents.nil | refine Ents.cons rfl (by first | exact Rd.yf rfl | exact Rd.sl' rfl (by simp) (by simp) | exact Rd.same (by simp [noBox, noBoxs, noBox_ints]) | (first | exact Rd.any | exact Rd.ptr rfl | exact Rd.map rfl | exact Rd.sl rfl | exact Rd.same rfl | exact Rd.int (by omega) | assumption | exact Rd.same (noBox_ints _) | exact Rd.same (noBox_strs _) | exact Rd.same (noBox_intss _) | exact Rd.same (noBox_spns _) | exact Rd.same (noBox_rngs _))) ?_ | fail)); done) (by (repeat (first | exact Bxs.nil | refine Bxs.cons rfl rfl rfl (by first | exact Rb.dfr | exact rb95 | exact Rb.cells (Rds.eqs (app_cells (c := rngC) (sz := 2) (by intro _; rfl) (x :: xs) (⟨s, k⟩ : Rng)) (noBoxs_flat (by intro _; rfl) _)) rfl | exact Rb.cells (Rds.same rfl) rfl | exact Rb.cells (Rds.same (noBoxs_map (fun _ => rfl) _)) rfl | exact Rb.cells (Rds.same (noBoxs_fill (fun _ => rfl) rfl)) rfl | exact Rb.cells (Rds.same (noBoxs_flat (fun _ => rfl) _)) rfl | exact Rb.map (Res.same (noBox_set rfl _)) | exact Rb.map (Res.same (noBox_pos _ _)) | exact Rb.map (Res.same (by simp)) | exact Rb.cells (by (repeat (first | exact Rds.nil | refine Rds.cons (by first | exact Rd.yf rfl | exact Rd.sl' rfl (by simp) (by simp) | exact Rd.same (by simp [noBox, noBoxs, noBox_ints]) | (first | exact Rd.any | exact Rd.ptr rfl | exact Rd.map rfl | exact Rd.sl rfl | exact Rd.same rfl | exact Rd.int (by omega) | assumption | exact Rd.same (noBox_ints _) | exact Rd.same (noBox_strs _) | exact Rd.same (noBox_intss _) | exact Rd.same (noBox_spns _) | exact Rd.same (noBox_rngs _))) ?_ | fail)); done) rfl | exact Rb.map (Res.eqs (map_succ (by omega)) (noBox_set rfl _)) | exact Rb.map (Res.eqs (pos_succ (by omega)) (noBox_pos _ _)) | exact Rb.cells (Rds.eqs (map_succ (by omega)) (noBoxs_map (fun _ => rfl) _)) rfl | assumption) ?_ | fail)); done) rfl rfl)
      | (refine ⟨Or.inl rfl, rfl, ?_⟩
         rw [h4, List.drop_of_length_le (by omega), ptF, List.append_nil]
         rfl)

theorem AppendSeq_c {l : List Int} (hx : l.length ≤ 1001) : Pu Tryz.prog 95 [nilS, .fn (.func 89) [] [.iptr [ints l]]] (rngs (ptV l)) := by
  have h1 := parts1_app hx
  refine Pu.of_fw (ti := tiOf Tryz.prog) Tryz.func95 rfl rfl (by simp [noBox, noBoxs, noBox_ints]) ?_
  generalize ptV l = o at h1 ⊢
  cases o with
  | nil =>
    repeat' ((conv => whnf) <;> (first
      | refine SeqV.go mixed T0 ?_
      | exact True.intro
      | (refine Br.mk (fun _ => ?_) (fun _ => ?_) <;> (try (exfalso; omega)))
      | refine Get.exp rfl ?_
      | refine Idx.lst (by first | omega | assumption | exact hl _ _ | exact inK64 (by omega) (by omega) | (simp; omega) | (simp; done)) ?_
      | refine Idx.lstS (by intro _; rfl) (by first | omega | assumption | exact hl _ _ | exact inK64 (by omega) (by omega) | (simp; omega) | (simp; done)) ?_
      | refine IdxS.nat (by first | omega | assumption | exact hl _ _ | exact inK64 (by omega) (by omega) | (simp; omega) | (simp; done)) ?_
      | refine IdxO.nat (by first | omega | assumption | exact hl _ _ | exact inK64 (by omega) (by omega) | (simp; omega) | (simp; done)) ?_
      | refine QuietV.mk (by kernel_rfl) ?_
      | refine Put.exp rfl ?_
      | refine SrcV.exp rfl ?_
      | refine Chk.mk (by first | rfl | exact inK64 (by omega) (by omega) | omega | assumption) ?_
      | refine Chk.mk ⟨Nat.le_of_ble_eq_true rfl, Nat.le_of_ble_eq_true rfl⟩ ?_
      | refine Chk.grow (by intro _; rfl) 16 rfl (by omega) (by omega) ?_
      | refine Chk.room 16 rfl (by omega) (by omega) ?_
      | refine Chk.made 16 rfl (by omega) (by omega) (by omega) ?_
      | refine Fw.range mixed T0 rfl h1 rfl (by simp) ?_
      | refine Fw.split ?_
      | refine Fw.one mixed T0 ?_
      | fail))
    all_goals (conv => whnf)
    exact ⟨rfl, _, rfl, ⟨.nil⟩⟩
  | cons x xs =>
    repeat' ((conv => whnf) <;> (first
      | refine SeqV.go mixed T0 ?_
      | exact True.intro
      | (refine Br.mk (fun _ => ?_) (fun _ => ?_) <;> (try (exfalso; omega)))
      | refine Get.exp rfl ?_
      | refine Idx.lst (by first | omega | assumption | exact hl _ _ | exact inK64 (by omega) (by omega) | (simp; omega) | (simp; done)) ?_
      | refine Idx.lstS (by intro _; rfl) (by first | omega | assumption | exact hl _ _ | exact inK64 (by omega) (by omega) | (simp; omega) | (simp; done)) ?_
      | refine IdxS.nat (by first | omega | assumption | exact hl _ _ | exact inK64 (by omega) (by omega) | (simp; omega) | (simp; done)) ?_
      | refine IdxO.nat (by first | omega | assumption | exact hl _ _ | exact inK64 (by omega) (by omega) | (simp; omega) | (simp; done)) ?_
      | refine QuietV.mk (by kernel_rfl) ?_
      | refine Put.exp rfl ?_
      | refine SrcV.exp rfl ?_
      | refine Chk.mk (by first | rfl | exact inK64 (by omega) (by omega) | omega | assumption) ?_
      | refine Chk.mk ⟨Nat.le_of_ble_eq_true rfl, Nat.le_of_ble_eq_true rfl⟩ ?_
      | refine Chk.grow (by intro _; rfl) 16 rfl (by omega) (by omega) ?_
      | refine Chk.room 16 rfl (by omega) (by omega) ?_
      | refine Chk.made 16 rfl (by omega) (by omega) (by omega) ?_
      | refine Fw.range mixed T0 rfl h1 rfl (by simp) ?_
      | refine Fw.split ?_
      | refine Fw.one mixed T0 ?_
      | fail))
    all_goals (conv => whnf)
    exact ⟨rfl, _, rfl, RetV.own (id := 5) (es := 2) (c := rngC) (l := x :: xs) (fun _ => rfl) (fun _ => rfl)⟩

theorem Collect_c {l : List Int} (hx : l.length ≤ 1001) : Pu Tryz.prog 60 [.fn (.func 89) [] [.iptr [ints l]]] (rngs (ptV l)) := by
  refine Pu.of_v mixed T0 Tryz.func60 rfl rfl (by simp [noBox, noBoxs, noBox_ints]) ?_
  repeat' ((conv => whnf) <;> (first
    | refine SeqV.go mixed T0 ?_
    | exact True.intro
    | (refine Br.mk (fun _ => ?_) (fun _ => ?_) <;> (try (exfalso; omega)))
    | refine Get.exp rfl ?_
    | refine Idx.lst (by first | omega | assumption | exact hl _ _ | exact inK64 (by omega) (by omega) | (simp; omega) | (simp; done)) ?_
    | refine Idx.lstS (by intro _; rfl) (by first | omega | assumption | exact hl _ _ | exact inK64 (by omega) (by omega) | (simp; omega) | (simp; done)) ?_
    | refine IdxS.nat (by first | omega | assumption | exact hl _ _ | exact inK64 (by omega) (by omega) | (simp; omega) | (simp; done)) ?_
    | refine IdxO.nat (by first | omega | assumption | exact hl _ _ | exact inK64 (by omega) (by omega) | (simp; omega) | (simp; done)) ?_
    | refine QuietV.mk (by kernel_rfl) ?_
    | refine Put.exp rfl ?_
    | refine SrcV.exp rfl ?_
    | refine Chk.mk (by first | rfl | exact inK64 (by omega) (by omega) | omega | assumption) ?_
    | refine Chk.mk ⟨Nat.le_of_ble_eq_true rfl, Nat.le_of_ble_eq_true rfl⟩ ?_
    | refine Chk.grow (by intro _; rfl) 16 rfl (by omega) (by omega) ?_
    | refine Chk.room 16 rfl (by omega) (by omega) ?_
    | refine Chk.made 16 rfl (by omega) (by omega) (by omega) ?_
    | refine Cll.pu (AppendSeq_c (by first | omega | assumption | exact hl _ _ | exact inK64 (by omega) (by omega) | (simp; omega) | (simp; done))) ?_
    | refine Cal0.pu (AppendSeq_c (by first | omega | assumption | exact hl _ _ | exact inK64 (by omega) (by omega) | (simp; omega) | (simp; done))) ?_))
  all_goals (conv => whnf)
  exact RetV.same (noBox_rngs _) rfl

theorem Parts_c {p : Prp} {t : Tbl} {text : List Int} (hp : p.ok) (ht : t.ok) (h1 : p.names.length ≤ 1000) (h2 : p.spans.length ≤ 1000) (hx : text.length ≤ 1000) : Pu Tryz.prog 30 [prpD p, tabD t, ints text] (rngs (prtV p t text)) := by
  have ha := sActions_c (text := text) hp ht h1 h2 hx
  have hl := act_le (p := p) (t := t) hx
  rw [← ptV_act]
  refine Pu.of_v mixed T0 Tryz.func30 rfl rfl (by simp [noBox, noBoxs, noBox_strs, noBox_spns, noBox_ints, noBox_intss]) ?_
  generalize actV p t text = l at ha hl ⊢
  repeat' ((conv => whnf) <;> (first
    | refine SeqV.go mixed T0 ?_
    | exact True.intro
    | (refine Br.mk (fun _ => ?_) (fun _ => ?_) <;> (try (exfalso; omega)))
    | refine Get.exp rfl ?_
    | refine Idx.lst (by first | omega | assumption | exact hl _ _ | exact inK64 (by omega) (by omega) | (simp; omega) | (simp; done)) ?_
    | refine Idx.lstS (by intro _; rfl) (by first | omega | assumption | exact hl _ _ | exact inK64 (by omega) (by omega) | (simp; omega) | (simp; done)) ?_
    | refine IdxS.nat (by first | omega | assumption | exact hl _ _ | exact inK64 (by omega) (by omega) | (simp; omega) | (simp; done)) ?_
    | refine IdxO.nat (by first | omega | assumption | exact hl _ _ | exact inK64 (by omega) (by omega) | (simp; omega) | (simp; done)) ?_
    | refine QuietV.mk (by kernel_rfl) ?_
    | refine Put.exp rfl ?_
    | refine SrcV.exp rfl ?_
    | refine Chk.mk (by first | rfl | exact inK64 (by omega) (by omega) | omega | assumption) ?_
    | refine Chk.mk ⟨Nat.le_of_ble_eq_true rfl, Nat.le_of_ble_eq_true rfl⟩ ?_
    | refine Chk.grow (by intro _; rfl) 16 rfl (by omega) (by omega) ?_
    | refine Chk.room 16 rfl (by omega) (by omega) ?_
    | refine Chk.made 16 rfl (by omega) (by omega) (by omega) ?_
    | refine Cll.pu ha ?_
    | refine Cll.pk parts_c ?_
    | refine Cll.give (.cons (.fn .nil (.cons (.frzp rfl rfl (.cons (.same (noBox_ints l)) .nil)) .nil)) .nil) (Collect_c hl) ?_
    | fail))
  all_goals (conv => whnf)
  exact RetV.same (noBox_rngs _) rfl
end Go.Proofs.YtgcjjodbmcnhkaaGreatDoor
