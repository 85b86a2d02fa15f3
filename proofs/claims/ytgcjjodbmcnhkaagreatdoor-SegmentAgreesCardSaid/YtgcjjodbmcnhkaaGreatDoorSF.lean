/-
  Contracts of functions over data: the number of ranges of a text (the program).
-/
import Derived.Test.YtgcjjodbmcnhkaaGreatDoorSE
namespace Go.Proofs.YtgcjjodbmcnhkaaGreatDoor
open Go Go.Am Classical
set_option maxRecDepth 100000

noncomputable abbrev loop23 (p : Prp) (t : Tbl) (text l : List Int) : Box := .loop .ready none [prpD p, tabD t, ints text, .ptr 0 0, .ptr 1 0, undefD, i64 0, .ptr 3 0, prpD p, tabD t, ints text, ints l, .fn (.func 89) [] [.ptr 10 0], undefD, undefD, undefD, undefD] [13] (fnA Tryz.f23) (fnB Tryz.f23)
abbrev rest23 (p : Prp) (t : Tbl) (l : List Int) (n : Nat) : List (Nat × Box) := [(11, .dfr), (10, .cells [ints l] true), (3, .cells [i64 (n : Int)] true), (1, .cells [strs t.classes, ints t.actions, intss t.left.next, intss t.left.marks, intss t.right.next, intss t.right.marks] true), (0, .cells [strs p.names, spns p.spans] true)]
theorem rb23 {h : Heap} {fz : Nat → Bool} {σl : List (Nat × Nat)} {p : Prp} {t : Tbl} {text l : List Int} : Rb h fz (sgm 13 σl) (loop23 p t text l) (loop23 p t text l) :=
  .loop (by
    (repeat (first | exact Rds.nil | refine Rds.cons (by first | exact Rd.same rfl | exact Rd.ptr rfl | exact Rd.fn .nil (.cons (.ptr rfl) .nil) | exact Rd.same (by simp [noBox, noBoxs, noBox_ints, noBox_strs, noBox_spns, noBox_intss])) ?_ | fail))
    done)
theorem parts1_cnt {p : Prp} {t : Tbl} {text l : List Int} (hx : l.length ≤ 1001) : AC1 Tryz.prog 89 [.yf 12, .ptr 10 0] ⟨13, (12, loop23 p t text l) :: rest23 p t l 0⟩ (.tup []) ⟨14, (12, loop23 p t text l) :: rest23 p t l (ptV l).length⟩ := by
  refine AC1.of_vl mixed T0 Tryz.func89 rfl rfl ?_
  repeat' ((conv => whnf) <;> (first
    | refine SeqV.go mixed T0 ?_
    | exact True.intro
    | (refine Br.mk (fun _ => ?_) (fun _ => ?_) <;> (try (exfalso; omega)))
    | refine Get.exp rfl ?_
    | refine Idx.lst (by first | omega | assumption | exact hl _ _ | exact inK64 (by omega) (by omega) | (simp; omega) | (simp; done)) ?_
    | refine Idx.lstS (by intro _; rfl) (by first | omega | assumption | exact hl _ _ | exact inK64 (by omega) (by omega) | (simp; omega) | (simp; done)) ?_
    | refine IdxS.nat (by first | omega | assumption | exact hl _ _ | exact inK64 (by omega) (by omega) | (simp; omega) | (simp; done)) ?_
    | refine IdxO.nat (by first | omega | assumption | exact hl _ _ | exact inK64 (by omega) (by omega) | (simp; omega) | (simp; done)) ?_
    | refine QuietV.mk (by kernel_rfl) ?_
    | refine Put.exp rfl ?_
    | refine SrcV.exp rfl ?_
    | refine Chk.mk (by first | rfl | exact inK64 (by omega) (by omega) | omega | assumption) ?_
    | refine Chk.mk ⟨Nat.le_of_ble_eq_true rfl, Nat.le_of_ble_eq_true rfl⟩ ?_
    | refine Chk.grow (by intro _; rfl) 16 rfl (by omega) (by omega) ?_
    | refine Chk.room 16 rfl (by omega) (by omega) ?_
    | refine Chk.made 16 rfl (by omega) (by omega) (by omega) ?_))
  all_goals (conv => whnf)
  refine LoopV.by3 mixed T0 (fun (k : Nat) (s : Int) (o : List Rng) => ⟨tmp 35 [(0, .yf 12), (1, .ptr 10 0), (3, i64 s), (6, ints l), (7, i64 l.length), (8, i64 (k : Int))], ⟨13, (12, loop23 p t text l) :: rest23 p t l o.length⟩⟩)
    (fun k s o => (k ≤ l.length ∧ o.length ≤ k) ∧ ptV l = o ++ ptF l.length k s (l.drop k)) (fun k _ _ => l.length - k) 0 0 [] ⟨⟨by omega, by simp⟩, rfl⟩ ?_ ?_
  · exact Lf.of2 [] [] (by (repeat (first | exact Ents.nil | refine Ents.cons rfl (by first | exact Rd.yf rfl | (first | exact Rd.any | exact Rd.ptr rfl | exact Rd.map rfl | exact Rd.sl rfl | exact Rd.same rfl | exact Rd.int (by omega) | assumption | exact Rd.same (noBox_ints _) | exact Rd.same (noBox_strs _) | exact Rd.same (noBox_intss _) | exact Rd.same (noBox_spns _) | exact Rd.same (noBox_rngs _))) ?_ | fail)); done) (by (repeat (first | exact Bxs.nil | refine Bxs.cons rfl rfl rfl (by first | exact Rb.dfr | exact rb23 | exact Rb.cells (Rds.same rfl) rfl | exact Rb.cells (Rds.same (noBoxs_map (fun _ => rfl) _)) rfl | exact Rb.cells (Rds.same (noBoxs_fill (fun _ => rfl) rfl)) rfl | exact Rb.cells (Rds.same (noBoxs_flat (fun _ => rfl) _)) rfl | exact Rb.map (Res.same (noBox_set rfl _)) | exact Rb.map (Res.same (noBox_pos _ _)) | exact Rb.map (Res.same (by simp)) | exact Rb.cells (by (repeat (first | exact Rds.nil | refine Rds.cons (by first | exact Rd.yf rfl | (first | exact Rd.any | exact Rd.ptr rfl | exact Rd.map rfl | exact Rd.sl rfl | exact Rd.same rfl | exact Rd.int (by omega) | assumption | exact Rd.same (noBox_ints _) | exact Rd.same (noBox_strs _) | exact Rd.same (noBox_intss _) | exact Rd.same (noBox_spns _) | exact Rd.same (noBox_rngs _))) ?_ | fail)); done) rfl | exact Rb.map (Res.eqs (map_succ (by omega)) (noBox_set rfl _)) | exact Rb.map (Res.eqs (pos_succ (by omega)) (noBox_pos _ _)) | exact Rb.cells (Rds.eqs (map_succ (by omega)) (noBoxs_map (fun _ => rfl) _)) rfl | assumption) ?_ | fail)); done) rfl rfl
  intro k s o ⟨⟨h3, h5⟩, h4⟩
  repeat' ((conv => whnf) <;> (first
    | refine SeqV.go mixed T0 ?_
    | exact True.intro
    | (refine Br.mk (fun _ => ?_) (fun _ => ?_) <;> (try (exfalso; omega)))
    | refine Get.exp rfl ?_
    | refine Idx.lst (by first | omega | assumption | exact hl _ _ | exact inK64 (by omega) (by omega) | (simp; omega) | (simp; done)) ?_
    | refine Idx.lstS (by intro _; rfl) (by first | omega | assumption | exact hl _ _ | exact inK64 (by omega) (by omega) | (simp; omega) | (simp; done)) ?_
    | refine IdxS.nat (by first | omega | assumption | exact hl _ _ | exact inK64 (by omega) (by omega) | (simp; omega) | (simp; done)) ?_
    | refine IdxO.nat (by first | omega | assumption | exact hl _ _ | exact inK64 (by omega) (by omega) | (simp; omega) | (simp; done)) ?_
    | refine QuietV.mk (by kernel_rfl) ?_
    | refine Put.exp rfl ?_
    | refine SrcV.exp rfl ?_
    | refine Chk.mk (by first | rfl | exact inK64 (by omega) (by omega) | omega | assumption) ?_
    | refine Chk.mk ⟨Nat.le_of_ble_eq_true rfl, Nat.le_of_ble_eq_true rfl⟩ ?_
    | refine Chk.grow (by intro _; rfl) 16 rfl (by omega) (by omega) ?_
    | refine Chk.room 16 rfl (by omega) (by omega) ?_
    | refine Chk.made 16 rfl (by omega) (by omega) (by omega) ?_
    | (apply Yll.sv rfl rfl (SvR.skip (And.intro rfl (SvR.block (SvR.region T0 ?_)))); rotate_left)
    | exact And.intro rfl rfl
    | fail))
  all_goals (conv => whnf)
  all_goals first
    | (refine ⟨k + 1, s, o, ⟨⟨by omega, by omega⟩, by rw [h4, List.drop_eq_getElem_cons (by omega), ptF_no (by first | (left; omega) | (right; omega))]; rfl⟩, by omega, ?_⟩
       exact Lf.of2 [] [] (by (repeat (first | exact Ents.nil | refine Ents.cons rfl (by first | exact Rd.yf rfl | (first | exact Rd.any | exact Rd.ptr rfl | exact Rd.map rfl | exact Rd.sl rfl | exact Rd.same rfl | exact Rd.int (by omega) | assumption | exact Rd.same (noBox_ints _) | exact Rd.same (noBox_strs _) | exact Rd.same (noBox_intss _) | exact Rd.same (noBox_spns _) | exact Rd.same (noBox_rngs _))) ?_ | fail)); done) (by (repeat (first | exact Bxs.nil | refine Bxs.cons rfl rfl rfl (by first | exact Rb.dfr | exact rb23 | exact Rb.cells (Rds.same rfl) rfl | exact Rb.cells (Rds.same (noBoxs_map (fun _ => rfl) _)) rfl | exact Rb.cells (Rds.same (noBoxs_fill (fun _ => rfl) rfl)) rfl | exact Rb.cells (Rds.same (noBoxs_flat (fun _ => rfl) _)) rfl | exact Rb.map (Res.same (noBox_set rfl _)) | exact Rb.map (Res.same (noBox_pos _ _)) | exact Rb.map (Res.same (by simp)) | exact Rb.cells (by (repeat (first | exact Rds.nil | refine Rds.cons (by first | exact Rd.yf rfl | (first | exact Rd.any | exact Rd.ptr rfl | exact Rd.map rfl | exact Rd.sl rfl | exact Rd.same rfl | exact Rd.int (by omega) | assumption | exact Rd.same (noBox_ints _) | exact Rd.same (noBox_strs _) | exact Rd.same (noBox_intss _) | exact Rd.same (noBox_spns _) | exact Rd.same (noBox_rngs _))) ?_ | fail)); done) rfl | exact Rb.map (Res.eqs (map_succ (by omega)) (noBox_set rfl _)) | exact Rb.map (Res.eqs (pos_succ (by omega)) (noBox_pos _ _)) | exact Rb.cells (Rds.eqs (map_succ (by omega)) (noBoxs_map (fun _ => rfl) _)) rfl | assumption) ?_ | fail)); done) rfl rfl)
    | (refine ⟨k + 1, k, o ++ [⟨s, k⟩], ⟨⟨by omega, by simp only [List.length_append, List.length_singleton]; omega⟩, by rw [h4, List.drop_eq_getElem_cons (by omega), ptF_yes (by omega), List.append_assoc]; rfl⟩, by omega, ?_⟩
       exact Lf.of2 [] [] (by (repeat (first | exact Ents.nil | refine Ents.cons rfl (by first | exact Rd.yf rfl | exact Rd.int (by simp) | (first | exact Rd.any | exact Rd.ptr rfl | exact Rd.map rfl | exact Rd.sl rfl | exact Rd.same rfl | exact Rd.int (by omega) | assumption | exact Rd.same (noBox_ints _) | exact Rd.same (noBox_strs _) | exact Rd.same (noBox_intss _) | exact Rd.same (noBox_spns _) | exact Rd.same (noBox_rngs _))) ?_ | fail)); done) (by (repeat (first | exact Bxs.nil | refine Bxs.cons rfl rfl rfl (by first | exact Rb.dfr | exact rb23 | exact Rb.cells (Rds.same rfl) rfl | exact Rb.cells (Rds.same (noBoxs_map (fun _ => rfl) _)) rfl | exact Rb.cells (Rds.same (noBoxs_fill (fun _ => rfl) rfl)) rfl | exact Rb.cells (Rds.same (noBoxs_flat (fun _ => rfl) _)) rfl | exact Rb.map (Res.same (noBox_set rfl _)) | exact Rb.map (Res.same (noBox_pos _ _)) | exact Rb.map (Res.same (by simp)) | exact Rb.cells (by (repeat (first | exact Rds.nil | refine Rds.cons (by first | exact Rd.yf rfl | exact Rd.int (by simp) | (first | exact Rd.any | exact Rd.ptr rfl | exact Rd.map rfl | exact Rd.sl rfl | exact Rd.same rfl | exact Rd.int (by omega) | assumption | exact Rd.same (noBox_ints _) | exact Rd.same (noBox_strs _) | exact Rd.same (noBox_intss _) | exact Rd.same (noBox_spns _) | exact Rd.same (noBox_rngs _))) ?_ | fail)); done) rfl | exact Rb.map (Res.eqs (map_succ (by omega)) (noBox_set rfl _)) | exact Rb.map (Res.eqs (pos_succ (by omega)) (noBox_pos _ _)) | exact Rb.cells (Rds.eqs (map_succ (by omega)) (noBoxs_map (fun _ => rfl) _)) rfl | assumption) ?_ | fail)); done) rfl rfl)
    | (refine ⟨Or.inl rfl, rfl, ?_⟩
       rw [h4, List.drop_of_length_le (by omega), ptF, List.append_nil])

theorem Count_c {p : Prp} {t : Tbl} {text : List Int} (hp : p.ok) (ht : t.ok) (h1 : p.names.length ≤ 1000) (h2 : p.spans.length ≤ 1000) (hx : text.length ≤ 1000) : Pu Tryz.prog 23 [prpD p, tabD t, ints text] (i64 (prtV p t text).length) := by
  have ha := sActions_c (text := text) hp ht h1 h2 hx
  have hl := act_le (p := p) (t := t) hx
  rw [← ptV_act]
  refine Pu.of_fw (ti := tiOf Tryz.prog) Tryz.func23 rfl rfl (by simp [noBox, noBoxs, noBox_strs, noBox_spns, noBox_ints, noBox_intss]) ?_
  generalize actV p t text = l at ha hl ⊢
  repeat' ((conv => whnf) <;> (first
    | refine SeqV.go mixed T0 ?_
    | exact True.intro
    | (refine Br.mk (fun _ => ?_) (fun _ => ?_) <;> (try (exfalso; omega)))
    | refine Get.exp rfl ?_
    | refine Idx.lst (by first | omega | assumption | exact hl _ _ | exact inK64 (by omega) (by omega) | (simp; omega) | (simp; done)) ?_
    | refine Idx.lstS (by intro _; rfl) (by first | omega | assumption | exact hl _ _ | exact inK64 (by omega) (by omega) | (simp; omega) | (simp; done)) ?_
    | refine IdxS.nat (by first | omega | assumption | exact hl _ _ | exact inK64 (by omega) (by omega) | (simp; omega) | (simp; done)) ?_
    | refine IdxO.nat (by first | omega | assumption | exact hl _ _ | exact inK64 (by omega) (by omega) | (simp; omega) | (simp; done)) ?_
    | refine QuietV.mk (by kernel_rfl) ?_
    | refine Put.exp rfl ?_
    | refine SrcV.exp rfl ?_
    | refine Chk.mk (by first | rfl | exact inK64 (by omega) (by omega) | omega | assumption) ?_
    | refine Chk.mk ⟨Nat.le_of_ble_eq_true rfl, Nat.le_of_ble_eq_true rfl⟩ ?_
    | refine Chk.grow (by intro _; rfl) 16 rfl (by omega) (by omega) ?_
    | refine Chk.room 16 rfl (by omega) (by omega) ?_
    | refine Chk.made 16 rfl (by omega) (by omega) (by omega) ?_
    | refine Cll.pu ha ?_
    | refine Cll.pk parts_c ?_
    | refine Fw.range mixed T0 rfl (parts1_cnt hl) rfl (by simp) ?_
    | refine Fw.split ?_
    | refine Fw.one mixed T0 ?_
    | fail))
  all_goals (conv => whnf)
  exact ⟨rfl, _, rfl, ⟨.same rfl⟩⟩
end Go.Proofs.YtgcjjodbmcnhkaaGreatDoor
