/-
  Contracts of functions over data: names of classes and of values.
-/
import Derived.Test.YtgcjjodbmcnhkaaGreatDoorS0
namespace Go.Proofs.YtgcjjodbmcnhkaaGreatDoor
open Go Go.Am Classical
set_option maxRecDepth 100000

def okName (s : Str) : Prop := s ≠ [] ∧ s.length ≤ 32 ∧ allW s
/-- The names of a valid property. -/
def PV (l : List Str) : Prop := 1 ≤ l.length ∧ l.length ≤ 250 ∧ ∀ i (h : i < l.length), okName l[i] ∧ ¬ l[i] ∈ l.take i
/-- The names of valid classes. -/
def NV (l : List Str) : Prop := 1 ≤ l.length ∧ l.length ≤ 60 ∧ ∀ i (h : i < l.length), (okName l[i] ∧ ¬ l[i] ∈ kw) ∧ ¬ l[i] ∈ l.take i
abbrev long (l : List Str) : Prop := ∀ i (h : i < l.length), l[i].length ≤ 9223372036854775807

theorem word_c {s : Str} : Pu Tryz.prog 97 [.str s] (boo (decide (s ∈ kw))) := by
  refine Pu.of_v mixed T0 Tryz.func97 rfl rfl rfl ?_
  repeat' ((conv => whnf) <;> (first
    | refine SeqV.go mixed T0 ?_
    | exact True.intro
    | (refine Br.mk (fun _ => ?_) (fun _ => ?_) <;> (try (exfalso; omega)))
    | refine Get.exp rfl ?_
    | refine Idx.lst (by first | omega | assumption | exact hl _ _ | exact inK64 (by omega) (by omega) | (simp; omega) | (simp; done)) ?_
    | refine Idx.lstS (by intro _; rfl) (by first | omega | assumption | exact hl _ _ | exact inK64 (by omega) (by omega) | (simp; omega) | (simp; done)) ?_
    | refine IdxS.nat (by first | omega | assumption | exact hl _ _ | exact inK64 (by omega) (by omega) | (simp; omega) | (simp; done)) ?_
    | refine IdxO.nat (by first | omega | assumption | exact hl _ _ | exact inK64 (by omega) (by omega) | (simp; omega) | (simp; done)) ?_
    | refine QuietV.mk (by kernel_rfl) ?_
    | refine Put.exp rfl ?_
    | refine SrcV.exp rfl ?_
    | refine Chk.mk (by first | rfl | exact inK64 (by omega) (by omega) | omega | assumption) ?_
    | refine Chk.mk ⟨Nat.le_of_ble_eq_true rfl, Nat.le_of_ble_eq_true rfl⟩ ?_))
  refine LoopV.times mixed T0 8 ?_
  repeat' ((conv => whnf) <;> (first
    | refine SeqV.go mixed T0 ?_
    | exact True.intro
    | (refine Br.mk (fun _ => ?_) (fun _ => ?_) <;> (try (exfalso; omega)))
    | refine Get.exp rfl ?_
    | refine Idx.lst (by first | omega | assumption | exact hl _ _ | exact inK64 (by omega) (by omega) | (simp; omega) | (simp; done)) ?_
    | refine Idx.lstS (by intro _; rfl) (by first | omega | assumption | exact hl _ _ | exact inK64 (by omega) (by omega) | (simp; omega) | (simp; done)) ?_
    | refine IdxS.nat (by first | omega | assumption | exact hl _ _ | exact inK64 (by omega) (by omega) | (simp; omega) | (simp; done)) ?_
    | refine IdxO.nat (by first | omega | assumption | exact hl _ _ | exact inK64 (by omega) (by omega) | (simp; omega) | (simp; done)) ?_
    | refine QuietV.mk (by kernel_rfl) ?_
    | refine Put.exp rfl ?_
    | refine SrcV.exp rfl ?_
    | refine Chk.mk (by first | rfl | exact inK64 (by omega) (by omega) | omega | assumption) ?_
    | refine Chk.mk ⟨Nat.le_of_ble_eq_true rfl, Nat.le_of_ble_eq_true rfl⟩ ?_
    | refine IdxO.at 0 rfl (by omega) ?_
    | refine IdxO.at 1 rfl (by omega) ?_
    | refine IdxO.at 2 rfl (by omega) ?_
    | refine IdxO.at 3 rfl (by omega) ?_
    | refine IdxO.at 4 rfl (by omega) ?_
    | refine IdxO.at 5 rfl (by omega) ?_
    | refine IdxO.at 6 rfl (by omega) ?_))
  all_goals (conv => whnf)
  all_goals first
    | exact RetV.yes (by simp_all [kw])
    | exact RetV.no (by simp only [kw, List.mem_cons, List.not_mem_nil, or_false, not_or]; simp_all [eq_comm])
    | (exfalso; omega)

theorem namesValid_c {l : List Str} (hl : long l) : Pu Tryz.prog 78 [strs l] (boo (decide (NV l))) := by
  refine Pu.of_v mixed T0 Tryz.func78 rfl rfl (by simp [noBoxs, noBox_strs]) ?_
  repeat' ((conv => whnf) <;> (first
    | refine SeqV.go mixed T0 ?_
    | exact True.intro
    | (refine Br.mk (fun _ => ?_) (fun _ => ?_) <;> (try (exfalso; omega)))
    | refine Get.exp rfl ?_
    | refine Idx.lst (by first | omega | assumption | exact hl _ _ | exact inK64 (by omega) (by omega) | (simp; omega) | (simp; done)) ?_
    | refine Idx.lstS (by intro _; rfl) (by first | omega | assumption | exact hl _ _ | exact inK64 (by omega) (by omega) | (simp; omega) | (simp; done)) ?_
    | refine IdxS.nat (by first | omega | assumption | exact hl _ _ | exact inK64 (by omega) (by omega) | (simp; omega) | (simp; done)) ?_
    | refine IdxO.nat (by first | omega | assumption | exact hl _ _ | exact inK64 (by omega) (by omega) | (simp; omega) | (simp; done)) ?_
    | refine QuietV.mk (by kernel_rfl) ?_
    | refine Put.exp rfl ?_
    | refine SrcV.exp rfl ?_
    | refine Chk.mk (by first | rfl | exact inK64 (by omega) (by omega) | omega | assumption) ?_
    | refine Chk.mk ⟨Nat.le_of_ble_eq_true rfl, Nat.le_of_ble_eq_true rfl⟩ ?_))
  all_goals (conv => whnf)
  all_goals first
    | exact RetV.no (fun hc => by have := hc.1; have := hc.2.1; omega)
    | skip
  refine LoopV.by mixed T0 (fun k : Nat => ⟨tmp 37 [(3, .map 0), (15, strs l), (16, i64 l.length), (17, i64 (k : Int))], ⟨1, [(0, .map ((l.take k).map fun s => (D.str s, boo true)))]⟩⟩)
    (fun k => k ≤ l.length ∧ ∀ i (h : i < l.length), i < k → (okName l[i] ∧ ¬ l[i] ∈ kw) ∧ ¬ l[i] ∈ l.take i) (fun k => l.length - k) 0 ⟨by omega, fun _ _ h => by omega⟩ ?_ ?_
  · exact Lf.of2 [(0, _)] [] (by (repeat (first | exact Ents.nil | refine Ents.cons rfl (by first | exact Rd.any | exact Rd.ptr rfl | exact Rd.map rfl | exact Rd.sl rfl | exact Rd.same rfl | exact Rd.int (by omega) | assumption | exact Rd.same (noBox_ints _) | exact Rd.same (noBox_strs _) | exact Rd.same (noBox_intss _)) ?_ | fail)); done) (by (repeat (first | exact Bxs.nil | refine Bxs.cons rfl rfl rfl (by first | exact Rb.cells (Rds.same rfl) rfl | exact Rb.cells (Rds.same (noBoxs_map (fun _ => rfl) _)) rfl | exact Rb.cells (Rds.same (noBoxs_fill (fun _ => rfl) rfl)) rfl | exact Rb.cells (Rds.same (noBoxs_flat (fun _ => rfl) _)) rfl | exact Rb.map (Res.same (noBox_set rfl _)) | exact Rb.map (Res.same (noBox_pos _ _)) | exact Rb.map (Res.same (by simp)) | exact Rb.cells (by (repeat (first | exact Rds.nil | refine Rds.cons (by first | exact Rd.any | exact Rd.ptr rfl | exact Rd.map rfl | exact Rd.sl rfl | exact Rd.same rfl | exact Rd.int (by omega) | assumption | exact Rd.same (noBox_ints _) | exact Rd.same (noBox_strs _) | exact Rd.same (noBox_intss _)) ?_ | fail)); done) rfl | exact Rb.map (Res.eqs (map_succ (by omega)) (noBox_set rfl _)) | exact Rb.map (Res.eqs (pos_succ (by omega)) (noBox_pos _ _)) | exact Rb.cells (Rds.eqs (map_succ (by omega)) (noBoxs_map (fun _ => rfl) _)) rfl | assumption) ?_ | fail)); done) rfl rfl
  intro k ⟨h1, h2⟩
  repeat' ((conv => whnf) <;> (first
    | refine SeqV.go mixed T0 ?_
    | exact True.intro
    | (refine Br.mk (fun _ => ?_) (fun _ => ?_) <;> (try (exfalso; omega)))
    | refine Get.exp rfl ?_
    | refine Idx.lst (by first | omega | assumption | exact hl _ _ | exact inK64 (by omega) (by omega) | (simp; omega) | (simp; done)) ?_
    | refine Idx.lstS (by intro _; rfl) (by first | omega | assumption | exact hl _ _ | exact inK64 (by omega) (by omega) | (simp; omega) | (simp; done)) ?_
    | refine IdxS.nat (by first | omega | assumption | exact hl _ _ | exact inK64 (by omega) (by omega) | (simp; omega) | (simp; done)) ?_
    | refine IdxO.nat (by first | omega | assumption | exact hl _ _ | exact inK64 (by omega) (by omega) | (simp; omega) | (simp; done)) ?_
    | refine QuietV.mk (by kernel_rfl) ?_
    | refine Put.exp rfl ?_
    | refine SrcV.exp rfl ?_
    | refine Chk.mk (by first | rfl | exact inK64 (by omega) (by omega) | omega | assumption) ?_
    | refine Chk.mk ⟨Nat.le_of_ble_eq_true rfl, Nat.le_of_ble_eq_true rfl⟩ ?_
    | refine Cll.dec (isName_c (by first | omega | assumption | exact hl _ _ | exact inK64 (by omega) (by omega) | (simp; omega) | (simp; done))) (fun _ => ?_) (fun _ => ?_)
    | refine Cal0.dec (isName_c (by first | omega | assumption | exact hl _ _ | exact inK64 (by omega) (by omega) | (simp; omega) | (simp; done))) (fun _ => ?_) (fun _ => ?_)
    | (refine Find.set (fun _ _ => ?_) (fun _ => ?_) <;> (try contradiction))))
  all_goals (conv => whnf)
  all_goals first
    | exact RetV.no (fun hc => by obtain ⟨⟨⟨_, _, _⟩, _⟩, _⟩ := hc.2.2 k (by omega); first | omega | contradiction | simp_all)
    | exact RetV.yes ⟨by omega, by omega, up_all (by omega) h2⟩
    | skip
  rename_i a1 a2 a3 a4
  refine ⟨k + 1, ⟨by omega, up_succ (by omega) h2 ⟨⟨⟨a1.2.1, by omega, a1.1⟩, a1.2.2⟩, a3⟩⟩, by omega, ?_⟩
  exact Lf.of2 [(0, _)] [] (by (repeat (first | exact Ents.nil | refine Ents.cons rfl (by first | exact Rd.any | exact Rd.ptr rfl | exact Rd.map rfl | exact Rd.sl rfl | exact Rd.same rfl | exact Rd.int (by omega) | assumption | exact Rd.same (noBox_ints _) | exact Rd.same (noBox_strs _) | exact Rd.same (noBox_intss _)) ?_ | fail)); done) (by (repeat (first | exact Bxs.nil | refine Bxs.cons rfl rfl rfl (by first | exact Rb.cells (Rds.same rfl) rfl | exact Rb.cells (Rds.same (noBoxs_map (fun _ => rfl) _)) rfl | exact Rb.cells (Rds.same (noBoxs_fill (fun _ => rfl) rfl)) rfl | exact Rb.cells (Rds.same (noBoxs_flat (fun _ => rfl) _)) rfl | exact Rb.map (Res.same (noBox_set rfl _)) | exact Rb.map (Res.same (noBox_pos _ _)) | exact Rb.map (Res.same (by simp)) | exact Rb.cells (by (repeat (first | exact Rds.nil | refine Rds.cons (by first | exact Rd.any | exact Rd.ptr rfl | exact Rd.map rfl | exact Rd.sl rfl | exact Rd.same rfl | exact Rd.int (by omega) | assumption | exact Rd.same (noBox_ints _) | exact Rd.same (noBox_strs _) | exact Rd.same (noBox_intss _)) ?_ | fail)); done) rfl | exact Rb.map (Res.eqs (map_succ (by omega)) (noBox_set rfl _)) | exact Rb.map (Res.eqs (pos_succ (by omega)) (noBox_pos _ _)) | exact Rb.cells (Rds.eqs (map_succ (by omega)) (noBoxs_map (fun _ => rfl) _)) rfl | assumption) ?_ | fail)); done) rfl rfl

theorem named_c {l : List Str} (hn : l.length ≤ 9223372036854775807) (hl : long l) : Pu Tryz.prog 62 [strs l] (boo (decide (NV l))) := by
  refine Pu.of_v mixed T0 Tryz.func62 rfl rfl (by simp [noBoxs, noBox_strs]) ?_
  repeat' ((conv => whnf) <;> (first
    | refine SeqV.go mixed T0 ?_
    | exact True.intro
    | (refine Br.mk (fun _ => ?_) (fun _ => ?_) <;> (try (exfalso; omega)))
    | refine Get.exp rfl ?_
    | refine Idx.lst (by first | omega | assumption | exact hl _ _ | exact inK64 (by omega) (by omega) | (simp; omega) | (simp; done)) ?_
    | refine Idx.lstS (by intro _; rfl) (by first | omega | assumption | exact hl _ _ | exact inK64 (by omega) (by omega) | (simp; omega) | (simp; done)) ?_
    | refine IdxS.nat (by first | omega | assumption | exact hl _ _ | exact inK64 (by omega) (by omega) | (simp; omega) | (simp; done)) ?_
    | refine IdxO.nat (by first | omega | assumption | exact hl _ _ | exact inK64 (by omega) (by omega) | (simp; omega) | (simp; done)) ?_
    | refine QuietV.mk (by kernel_rfl) ?_
    | refine Put.exp rfl ?_
    | refine SrcV.exp rfl ?_
    | refine Chk.mk (by first | rfl | exact inK64 (by omega) (by omega) | omega | assumption) ?_
    | refine Chk.mk ⟨Nat.le_of_ble_eq_true rfl, Nat.le_of_ble_eq_true rfl⟩ ?_))
  refine LoopV.by mixed T0 (fun k : Nat => ⟨tmp 46 [(0, strs l), (3, i64 (k : Int))], ⟨0, []⟩⟩)
    (fun k => k ≤ l.length ∧ ∀ i (h : i < l.length), i < k → (okName l[i] ∧ ¬ l[i] ∈ kw) ∧ ¬ l[i] ∈ l.take i) (fun k => l.length - k) 0 ⟨by omega, fun _ _ h => by omega⟩ ?_ ?_
  · exact Lf.of2 [] [] (by (repeat (first | exact Ents.nil | refine Ents.cons rfl (by first | exact Rd.any | exact Rd.ptr rfl | exact Rd.map rfl | exact Rd.sl rfl | exact Rd.same rfl | exact Rd.int (by omega) | assumption | exact Rd.same (noBox_ints _) | exact Rd.same (noBox_strs _) | exact Rd.same (noBox_intss _)) ?_ | fail)); done) (by (repeat (first | exact Bxs.nil | refine Bxs.cons rfl rfl rfl (by first | exact Rb.cells (Rds.same rfl) rfl | exact Rb.cells (Rds.same (noBoxs_map (fun _ => rfl) _)) rfl | exact Rb.cells (Rds.same (noBoxs_fill (fun _ => rfl) rfl)) rfl | exact Rb.cells (Rds.same (noBoxs_flat (fun _ => rfl) _)) rfl | exact Rb.map (Res.same (noBox_set rfl _)) | exact Rb.map (Res.same (noBox_pos _ _)) | exact Rb.map (Res.same (by simp)) | exact Rb.cells (by (repeat (first | exact Rds.nil | refine Rds.cons (by first | exact Rd.any | exact Rd.ptr rfl | exact Rd.map rfl | exact Rd.sl rfl | exact Rd.same rfl | exact Rd.int (by omega) | assumption | exact Rd.same (noBox_ints _) | exact Rd.same (noBox_strs _) | exact Rd.same (noBox_intss _)) ?_ | fail)); done) rfl | exact Rb.map (Res.eqs (map_succ (by omega)) (noBox_set rfl _)) | exact Rb.map (Res.eqs (pos_succ (by omega)) (noBox_pos _ _)) | exact Rb.cells (Rds.eqs (map_succ (by omega)) (noBoxs_map (fun _ => rfl) _)) rfl | assumption) ?_ | fail)); done) rfl rfl
  intro k ⟨h1, h2⟩
  repeat' ((conv => whnf) <;> (first
    | refine SeqV.go mixed T0 ?_
    | exact True.intro
    | (refine Br.mk (fun _ => ?_) (fun _ => ?_) <;> (try (exfalso; omega)))
    | refine Get.exp rfl ?_
    | refine Idx.lst (by first | omega | assumption | exact hl _ _ | exact inK64 (by omega) (by omega) | (simp; omega) | (simp; done)) ?_
    | refine Idx.lstS (by intro _; rfl) (by first | omega | assumption | exact hl _ _ | exact inK64 (by omega) (by omega) | (simp; omega) | (simp; done)) ?_
    | refine IdxS.nat (by first | omega | assumption | exact hl _ _ | exact inK64 (by omega) (by omega) | (simp; omega) | (simp; done)) ?_
    | refine IdxO.nat (by first | omega | assumption | exact hl _ _ | exact inK64 (by omega) (by omega) | (simp; omega) | (simp; done)) ?_
    | refine QuietV.mk (by kernel_rfl) ?_
    | refine Put.exp rfl ?_
    | refine SrcV.exp rfl ?_
    | refine Chk.mk (by first | rfl | exact inK64 (by omega) (by omega) | omega | assumption) ?_
    | refine Chk.mk ⟨Nat.le_of_ble_eq_true rfl, Nat.le_of_ble_eq_true rfl⟩ ?_
    | refine Cll.dec (rName_c (by first | omega | assumption | exact hl _ _ | exact inK64 (by omega) (by omega) | (simp; omega) | (simp; done))) (fun _ => ?_) (fun _ => ?_)
    | refine Cal0.dec (rName_c (by first | omega | assumption | exact hl _ _ | exact inK64 (by omega) (by omega) | (simp; omega) | (simp; done))) (fun _ => ?_) (fun _ => ?_)
    | refine Cll.dec (word_c) (fun _ => ?_) (fun _ => ?_)
    | refine Cal0.dec (word_c) (fun _ => ?_) (fun _ => ?_)))
  all_goals (conv => whnf)
  all_goals first
    | exact RetV.no (fun hc => by obtain ⟨⟨⟨_, _, _⟩, _⟩, _⟩ := hc.2.2 k (by omega); first | omega | contradiction | simp_all)
    | exact RetV.no (fun hc => by have := hc.1; have := hc.2.1; omega)
    | exact RetV.yes ⟨by omega, by omega, up_all (by omega) h2⟩
    | skip
  rename_i a1 a2
  refine LoopV.by mixed T0 (fun j : Nat => ⟨tmp 46 [(0, strs l), (3, i64 (k : Int)), (4, i64 (j : Int))], ⟨0, []⟩⟩)
    (fun j => j ≤ k ∧ ∀ i (h : i < l.length), i < j → l[i] ≠ l[k]) (fun j => k - j) 0 ⟨by omega, fun _ _ h => by omega⟩ ?_ ?_
  · exact Lf.of2 [] [] (by (repeat (first | exact Ents.nil | refine Ents.cons rfl (by first | exact Rd.any | exact Rd.ptr rfl | exact Rd.map rfl | exact Rd.sl rfl | exact Rd.same rfl | exact Rd.int (by omega) | assumption | exact Rd.same (noBox_ints _) | exact Rd.same (noBox_strs _) | exact Rd.same (noBox_intss _)) ?_ | fail)); done) (by (repeat (first | exact Bxs.nil | refine Bxs.cons rfl rfl rfl (by first | exact Rb.cells (Rds.same rfl) rfl | exact Rb.cells (Rds.same (noBoxs_map (fun _ => rfl) _)) rfl | exact Rb.cells (Rds.same (noBoxs_fill (fun _ => rfl) rfl)) rfl | exact Rb.cells (Rds.same (noBoxs_flat (fun _ => rfl) _)) rfl | exact Rb.map (Res.same (noBox_set rfl _)) | exact Rb.map (Res.same (noBox_pos _ _)) | exact Rb.map (Res.same (by simp)) | exact Rb.cells (by (repeat (first | exact Rds.nil | refine Rds.cons (by first | exact Rd.any | exact Rd.ptr rfl | exact Rd.map rfl | exact Rd.sl rfl | exact Rd.same rfl | exact Rd.int (by omega) | assumption | exact Rd.same (noBox_ints _) | exact Rd.same (noBox_strs _) | exact Rd.same (noBox_intss _)) ?_ | fail)); done) rfl | exact Rb.map (Res.eqs (map_succ (by omega)) (noBox_set rfl _)) | exact Rb.map (Res.eqs (pos_succ (by omega)) (noBox_pos _ _)) | exact Rb.cells (Rds.eqs (map_succ (by omega)) (noBoxs_map (fun _ => rfl) _)) rfl | assumption) ?_ | fail)); done) rfl rfl
  intro j ⟨h3, h4⟩
  repeat' ((conv => whnf) <;> (first
    | refine SeqV.go mixed T0 ?_
    | exact True.intro
    | (refine Br.mk (fun _ => ?_) (fun _ => ?_) <;> (try (exfalso; omega)))
    | refine Get.exp rfl ?_
    | refine Idx.lst (by first | omega | assumption | exact hl _ _ | exact inK64 (by omega) (by omega) | (simp; omega) | (simp; done)) ?_
    | refine Idx.lstS (by intro _; rfl) (by first | omega | assumption | exact hl _ _ | exact inK64 (by omega) (by omega) | (simp; omega) | (simp; done)) ?_
    | refine IdxS.nat (by first | omega | assumption | exact hl _ _ | exact inK64 (by omega) (by omega) | (simp; omega) | (simp; done)) ?_
    | refine IdxO.nat (by first | omega | assumption | exact hl _ _ | exact inK64 (by omega) (by omega) | (simp; omega) | (simp; done)) ?_
    | refine QuietV.mk (by kernel_rfl) ?_
    | refine Put.exp rfl ?_
    | refine SrcV.exp rfl ?_
    | refine Chk.mk (by first | rfl | exact inK64 (by omega) (by omega) | omega | assumption) ?_
    | refine Chk.mk ⟨Nat.le_of_ble_eq_true rfl, Nat.le_of_ble_eq_true rfl⟩ ?_))
  all_goals (conv => whnf)
  all_goals first
    | exact RetV.no (fun hc => (hc.2.2 k (by omega)).2 (mem_take_iff.2 ⟨j, by omega, by omega, by assumption⟩))
    | (refine ⟨j + 1, ⟨by omega, up_succ (by omega) h4 (by assumption)⟩, by omega, ?_⟩
       exact Lf.of2 [] [] (by (repeat (first | exact Ents.nil | refine Ents.cons rfl (by first | exact Rd.any | exact Rd.ptr rfl | exact Rd.map rfl | exact Rd.sl rfl | exact Rd.same rfl | exact Rd.int (by omega) | assumption | exact Rd.same (noBox_ints _) | exact Rd.same (noBox_strs _) | exact Rd.same (noBox_intss _)) ?_ | fail)); done) (by (repeat (first | exact Bxs.nil | refine Bxs.cons rfl rfl rfl (by first | exact Rb.cells (Rds.same rfl) rfl | exact Rb.cells (Rds.same (noBoxs_map (fun _ => rfl) _)) rfl | exact Rb.cells (Rds.same (noBoxs_fill (fun _ => rfl) rfl)) rfl | exact Rb.cells (Rds.same (noBoxs_flat (fun _ => rfl) _)) rfl | exact Rb.map (Res.same (noBox_set rfl _)) | exact Rb.map (Res.same (noBox_pos _ _)) | exact Rb.map (Res.same (by simp)) | exact Rb.cells (by (repeat (first | exact Rds.nil | refine Rds.cons (by first | exact Rd.any | exact Rd.ptr rfl | exact Rd.map rfl | exact Rd.sl rfl | exact Rd.same rfl | exact Rd.int (by omega) | assumption | exact Rd.same (noBox_ints _) | exact Rd.same (noBox_strs _) | exact Rd.same (noBox_intss _)) ?_ | fail)); done) rfl | exact Rb.map (Res.eqs (map_succ (by omega)) (noBox_set rfl _)) | exact Rb.map (Res.eqs (pos_succ (by omega)) (noBox_pos _ _)) | exact Rb.cells (Rds.eqs (map_succ (by omega)) (noBoxs_map (fun _ => rfl) _)) rfl | assumption) ?_ | fail)); done) rfl rfl)
    | (refine ⟨k + 1, ⟨by omega, up_succ (by omega) h2 ⟨⟨a1, a2⟩, fun hm => by obtain ⟨i, hi, hlt, e⟩ := mem_take_iff.1 hm; exact h4 i hi (by omega) e⟩⟩, by omega, ?_⟩
       exact Lf.of2 [] [] (by (repeat (first | exact Ents.nil | refine Ents.cons rfl (by first | exact Rd.any | exact Rd.ptr rfl | exact Rd.map rfl | exact Rd.sl rfl | exact Rd.same rfl | exact Rd.int (by omega) | assumption | exact Rd.same (noBox_ints _) | exact Rd.same (noBox_strs _) | exact Rd.same (noBox_intss _)) ?_ | fail)); done) (by (repeat (first | exact Bxs.nil | refine Bxs.cons rfl rfl rfl (by first | exact Rb.cells (Rds.same rfl) rfl | exact Rb.cells (Rds.same (noBoxs_map (fun _ => rfl) _)) rfl | exact Rb.cells (Rds.same (noBoxs_fill (fun _ => rfl) rfl)) rfl | exact Rb.cells (Rds.same (noBoxs_flat (fun _ => rfl) _)) rfl | exact Rb.map (Res.same (noBox_set rfl _)) | exact Rb.map (Res.same (noBox_pos _ _)) | exact Rb.map (Res.same (by simp)) | exact Rb.cells (by (repeat (first | exact Rds.nil | refine Rds.cons (by first | exact Rd.any | exact Rd.ptr rfl | exact Rd.map rfl | exact Rd.sl rfl | exact Rd.same rfl | exact Rd.int (by omega) | assumption | exact Rd.same (noBox_ints _) | exact Rd.same (noBox_strs _) | exact Rd.same (noBox_intss _)) ?_ | fail)); done) rfl | exact Rb.map (Res.eqs (map_succ (by omega)) (noBox_set rfl _)) | exact Rb.map (Res.eqs (pos_succ (by omega)) (noBox_pos _ _)) | exact Rb.cells (Rds.eqs (map_succ (by omega)) (noBoxs_map (fun _ => rfl) _)) rfl | assumption) ?_ | fail)); done) rfl rfl)

theorem names_c {l : List Str} (hn : l.length ≤ 9223372036854775807) (hl : long l) : Pu Tryz.prog 142 [strs l] (boo (decide (PV l))) := by
  refine Pu.of_v mixed T0 Tryz.func142 rfl rfl (by simp [noBoxs, noBox_strs]) ?_
  repeat' ((conv => whnf) <;> (first
    | refine SeqV.go mixed T0 ?_
    | exact True.intro
    | (refine Br.mk (fun _ => ?_) (fun _ => ?_) <;> (try (exfalso; omega)))
    | refine Get.exp rfl ?_
    | refine Idx.lst (by first | omega | assumption | exact hl _ _ | exact inK64 (by omega) (by omega) | (simp; omega) | (simp; done)) ?_
    | refine Idx.lstS (by intro _; rfl) (by first | omega | assumption | exact hl _ _ | exact inK64 (by omega) (by omega) | (simp; omega) | (simp; done)) ?_
    | refine IdxS.nat (by first | omega | assumption | exact hl _ _ | exact inK64 (by omega) (by omega) | (simp; omega) | (simp; done)) ?_
    | refine IdxO.nat (by first | omega | assumption | exact hl _ _ | exact inK64 (by omega) (by omega) | (simp; omega) | (simp; done)) ?_
    | refine QuietV.mk (by kernel_rfl) ?_
    | refine Put.exp rfl ?_
    | refine SrcV.exp rfl ?_
    | refine Chk.mk (by first | rfl | exact inK64 (by omega) (by omega) | omega | assumption) ?_
    | refine Chk.mk ⟨Nat.le_of_ble_eq_true rfl, Nat.le_of_ble_eq_true rfl⟩ ?_))
  all_goals (conv => whnf)
  all_goals first
    | exact RetV.no (fun hc => by have := hc.1; have := hc.2.1; omega)
    | skip
  refine LoopV.by mixed T0 (fun k : Nat => ⟨tmp 39 [(0, strs l), (3, i64 (k : Int))], ⟨0, []⟩⟩)
    (fun k => k ≤ l.length ∧ ∀ i (h : i < l.length), i < k → okName l[i] ∧ ¬ l[i] ∈ l.take i) (fun k => l.length - k) 0 ⟨by omega, fun _ _ h => by omega⟩ ?_ ?_
  · exact Lf.of2 [] [] (by (repeat (first | exact Ents.nil | refine Ents.cons rfl (by first | exact Rd.any | exact Rd.ptr rfl | exact Rd.map rfl | exact Rd.sl rfl | exact Rd.same rfl | exact Rd.int (by omega) | assumption | exact Rd.same (noBox_ints _) | exact Rd.same (noBox_strs _) | exact Rd.same (noBox_intss _)) ?_ | fail)); done) (by (repeat (first | exact Bxs.nil | refine Bxs.cons rfl rfl rfl (by first | exact Rb.cells (Rds.same rfl) rfl | exact Rb.cells (Rds.same (noBoxs_map (fun _ => rfl) _)) rfl | exact Rb.cells (Rds.same (noBoxs_fill (fun _ => rfl) rfl)) rfl | exact Rb.cells (Rds.same (noBoxs_flat (fun _ => rfl) _)) rfl | exact Rb.map (Res.same (noBox_set rfl _)) | exact Rb.map (Res.same (noBox_pos _ _)) | exact Rb.map (Res.same (by simp)) | exact Rb.cells (by (repeat (first | exact Rds.nil | refine Rds.cons (by first | exact Rd.any | exact Rd.ptr rfl | exact Rd.map rfl | exact Rd.sl rfl | exact Rd.same rfl | exact Rd.int (by omega) | assumption | exact Rd.same (noBox_ints _) | exact Rd.same (noBox_strs _) | exact Rd.same (noBox_intss _)) ?_ | fail)); done) rfl | exact Rb.map (Res.eqs (map_succ (by omega)) (noBox_set rfl _)) | exact Rb.map (Res.eqs (pos_succ (by omega)) (noBox_pos _ _)) | exact Rb.cells (Rds.eqs (map_succ (by omega)) (noBoxs_map (fun _ => rfl) _)) rfl | assumption) ?_ | fail)); done) rfl rfl
  intro k ⟨h1, h2⟩
  repeat' ((conv => whnf) <;> (first
    | refine SeqV.go mixed T0 ?_
    | exact True.intro
    | (refine Br.mk (fun _ => ?_) (fun _ => ?_) <;> (try (exfalso; omega)))
    | refine Get.exp rfl ?_
    | refine Idx.lst (by first | omega | assumption | exact hl _ _ | exact inK64 (by omega) (by omega) | (simp; omega) | (simp; done)) ?_
    | refine Idx.lstS (by intro _; rfl) (by first | omega | assumption | exact hl _ _ | exact inK64 (by omega) (by omega) | (simp; omega) | (simp; done)) ?_
    | refine IdxS.nat (by first | omega | assumption | exact hl _ _ | exact inK64 (by omega) (by omega) | (simp; omega) | (simp; done)) ?_
    | refine IdxO.nat (by first | omega | assumption | exact hl _ _ | exact inK64 (by omega) (by omega) | (simp; omega) | (simp; done)) ?_
    | refine QuietV.mk (by kernel_rfl) ?_
    | refine Put.exp rfl ?_
    | refine SrcV.exp rfl ?_
    | refine Chk.mk (by first | rfl | exact inK64 (by omega) (by omega) | omega | assumption) ?_
    | refine Chk.mk ⟨Nat.le_of_ble_eq_true rfl, Nat.le_of_ble_eq_true rfl⟩ ?_
    | refine Cll.dec (rNamed_c (by first | omega | assumption | exact hl _ _ | exact inK64 (by omega) (by omega) | (simp; omega) | (simp; done))) (fun _ => ?_) (fun _ => ?_)
    | refine Cal0.dec (rNamed_c (by first | omega | assumption | exact hl _ _ | exact inK64 (by omega) (by omega) | (simp; omega) | (simp; done))) (fun _ => ?_) (fun _ => ?_)))
  all_goals (conv => whnf)
  all_goals first
    | exact RetV.no (fun hc => by obtain ⟨⟨_, _, _⟩, _⟩ := hc.2.2 k (by omega); first | omega | contradiction | simp_all)
    | exact RetV.yes ⟨by omega, by omega, up_all (by omega) h2⟩
    | skip
  rename_i a1
  refine LoopV.by mixed T0 (fun j : Nat => ⟨tmp 39 [(0, strs l), (3, i64 (k : Int)), (4, i64 (j : Int))], ⟨0, []⟩⟩)
    (fun j => j ≤ k ∧ ∀ i (h : i < l.length), i < j → l[i] ≠ l[k]) (fun j => k - j) 0 ⟨by omega, fun _ _ h => by omega⟩ ?_ ?_
  · exact Lf.of2 [] [] (by (repeat (first | exact Ents.nil | refine Ents.cons rfl (by first | exact Rd.any | exact Rd.ptr rfl | exact Rd.map rfl | exact Rd.sl rfl | exact Rd.same rfl | exact Rd.int (by omega) | assumption | exact Rd.same (noBox_ints _) | exact Rd.same (noBox_strs _) | exact Rd.same (noBox_intss _)) ?_ | fail)); done) (by (repeat (first | exact Bxs.nil | refine Bxs.cons rfl rfl rfl (by first | exact Rb.cells (Rds.same rfl) rfl | exact Rb.cells (Rds.same (noBoxs_map (fun _ => rfl) _)) rfl | exact Rb.cells (Rds.same (noBoxs_fill (fun _ => rfl) rfl)) rfl | exact Rb.cells (Rds.same (noBoxs_flat (fun _ => rfl) _)) rfl | exact Rb.map (Res.same (noBox_set rfl _)) | exact Rb.map (Res.same (noBox_pos _ _)) | exact Rb.map (Res.same (by simp)) | exact Rb.cells (by (repeat (first | exact Rds.nil | refine Rds.cons (by first | exact Rd.any | exact Rd.ptr rfl | exact Rd.map rfl | exact Rd.sl rfl | exact Rd.same rfl | exact Rd.int (by omega) | assumption | exact Rd.same (noBox_ints _) | exact Rd.same (noBox_strs _) | exact Rd.same (noBox_intss _)) ?_ | fail)); done) rfl | exact Rb.map (Res.eqs (map_succ (by omega)) (noBox_set rfl _)) | exact Rb.map (Res.eqs (pos_succ (by omega)) (noBox_pos _ _)) | exact Rb.cells (Rds.eqs (map_succ (by omega)) (noBoxs_map (fun _ => rfl) _)) rfl | assumption) ?_ | fail)); done) rfl rfl
  intro j ⟨h3, h4⟩
  repeat' ((conv => whnf) <;> (first
    | refine SeqV.go mixed T0 ?_
    | exact True.intro
    | (refine Br.mk (fun _ => ?_) (fun _ => ?_) <;> (try (exfalso; omega)))
    | refine Get.exp rfl ?_
    | refine Idx.lst (by first | omega | assumption | exact hl _ _ | exact inK64 (by omega) (by omega) | (simp; omega) | (simp; done)) ?_
    | refine Idx.lstS (by intro _; rfl) (by first | omega | assumption | exact hl _ _ | exact inK64 (by omega) (by omega) | (simp; omega) | (simp; done)) ?_
    | refine IdxS.nat (by first | omega | assumption | exact hl _ _ | exact inK64 (by omega) (by omega) | (simp; omega) | (simp; done)) ?_
    | refine IdxO.nat (by first | omega | assumption | exact hl _ _ | exact inK64 (by omega) (by omega) | (simp; omega) | (simp; done)) ?_
    | refine QuietV.mk (by kernel_rfl) ?_
    | refine Put.exp rfl ?_
    | refine SrcV.exp rfl ?_
    | refine Chk.mk (by first | rfl | exact inK64 (by omega) (by omega) | omega | assumption) ?_
    | refine Chk.mk ⟨Nat.le_of_ble_eq_true rfl, Nat.le_of_ble_eq_true rfl⟩ ?_))
  all_goals (conv => whnf)
  all_goals first
    | exact RetV.no (fun hc => (hc.2.2 k (by omega)).2 (mem_take_iff.2 ⟨j, by omega, by omega, by assumption⟩))
    | (refine ⟨j + 1, ⟨by omega, up_succ (by omega) h4 (by assumption)⟩, by omega, ?_⟩
       exact Lf.of2 [] [] (by (repeat (first | exact Ents.nil | refine Ents.cons rfl (by first | exact Rd.any | exact Rd.ptr rfl | exact Rd.map rfl | exact Rd.sl rfl | exact Rd.same rfl | exact Rd.int (by omega) | assumption | exact Rd.same (noBox_ints _) | exact Rd.same (noBox_strs _) | exact Rd.same (noBox_intss _)) ?_ | fail)); done) (by (repeat (first | exact Bxs.nil | refine Bxs.cons rfl rfl rfl (by first | exact Rb.cells (Rds.same rfl) rfl | exact Rb.cells (Rds.same (noBoxs_map (fun _ => rfl) _)) rfl | exact Rb.cells (Rds.same (noBoxs_fill (fun _ => rfl) rfl)) rfl | exact Rb.cells (Rds.same (noBoxs_flat (fun _ => rfl) _)) rfl | exact Rb.map (Res.same (noBox_set rfl _)) | exact Rb.map (Res.same (noBox_pos _ _)) | exact Rb.map (Res.same (by simp)) | exact Rb.cells (by (repeat (first | exact Rds.nil | refine Rds.cons (by first | exact Rd.any | exact Rd.ptr rfl | exact Rd.map rfl | exact Rd.sl rfl | exact Rd.same rfl | exact Rd.int (by omega) | assumption | exact Rd.same (noBox_ints _) | exact Rd.same (noBox_strs _) | exact Rd.same (noBox_intss _)) ?_ | fail)); done) rfl | exact Rb.map (Res.eqs (map_succ (by omega)) (noBox_set rfl _)) | exact Rb.map (Res.eqs (pos_succ (by omega)) (noBox_pos _ _)) | exact Rb.cells (Rds.eqs (map_succ (by omega)) (noBoxs_map (fun _ => rfl) _)) rfl | assumption) ?_ | fail)); done) rfl rfl)
    | (refine ⟨k + 1, ⟨by omega, up_succ (by omega) h2 ⟨a1, fun hm => by obtain ⟨i, hi, hlt, e⟩ := mem_take_iff.1 hm; exact h4 i hi (by omega) e⟩⟩, by omega, ?_⟩
       exact Lf.of2 [] [] (by (repeat (first | exact Ents.nil | refine Ents.cons rfl (by first | exact Rd.any | exact Rd.ptr rfl | exact Rd.map rfl | exact Rd.sl rfl | exact Rd.same rfl | exact Rd.int (by omega) | assumption | exact Rd.same (noBox_ints _) | exact Rd.same (noBox_strs _) | exact Rd.same (noBox_intss _)) ?_ | fail)); done) (by (repeat (first | exact Bxs.nil | refine Bxs.cons rfl rfl rfl (by first | exact Rb.cells (Rds.same rfl) rfl | exact Rb.cells (Rds.same (noBoxs_map (fun _ => rfl) _)) rfl | exact Rb.cells (Rds.same (noBoxs_fill (fun _ => rfl) rfl)) rfl | exact Rb.cells (Rds.same (noBoxs_flat (fun _ => rfl) _)) rfl | exact Rb.map (Res.same (noBox_set rfl _)) | exact Rb.map (Res.same (noBox_pos _ _)) | exact Rb.map (Res.same (by simp)) | exact Rb.cells (by (repeat (first | exact Rds.nil | refine Rds.cons (by first | exact Rd.any | exact Rd.ptr rfl | exact Rd.map rfl | exact Rd.sl rfl | exact Rd.same rfl | exact Rd.int (by omega) | assumption | exact Rd.same (noBox_ints _) | exact Rd.same (noBox_strs _) | exact Rd.same (noBox_intss _)) ?_ | fail)); done) rfl | exact Rb.map (Res.eqs (map_succ (by omega)) (noBox_set rfl _)) | exact Rb.map (Res.eqs (pos_succ (by omega)) (noBox_pos _ _)) | exact Rb.cells (Rds.eqs (map_succ (by omega)) (noBoxs_map (fun _ => rfl) _)) rfl | assumption) ?_ | fail)); done) rfl rfl)

abbrev nilM : D := .v (.map none)
theorem index_no {l : List Str} (hl : long l) (hp : ¬ PV l) : Pu Tryz.prog 66 [strs l] (.tup [nilM, boo false]) := by
  refine Pu.of_v mixed T0 Tryz.func66 rfl rfl (by simp [noBoxs, noBox_strs]) ?_
  repeat' ((conv => whnf) <;> (first
    | refine SeqV.go mixed T0 ?_
    | exact True.intro
    | (refine Br.mk (fun _ => ?_) (fun _ => ?_) <;> (try (exfalso; omega)))
    | refine Get.exp rfl ?_
    | refine Idx.lst (by first | omega | assumption | exact hl _ _ | exact inK64 (by omega) (by omega) | (simp; omega) | (simp; done)) ?_
    | refine Idx.lstS (by intro _; rfl) (by first | omega | assumption | exact hl _ _ | exact inK64 (by omega) (by omega) | (simp; omega) | (simp; done)) ?_
    | refine IdxS.nat (by first | omega | assumption | exact hl _ _ | exact inK64 (by omega) (by omega) | (simp; omega) | (simp; done)) ?_
    | refine IdxO.nat (by first | omega | assumption | exact hl _ _ | exact inK64 (by omega) (by omega) | (simp; omega) | (simp; done)) ?_
    | refine QuietV.mk (by kernel_rfl) ?_
    | refine Put.exp rfl ?_
    | refine SrcV.exp rfl ?_
    | refine Chk.mk (by first | rfl | exact inK64 (by omega) (by omega) | omega | assumption) ?_
    | refine Chk.mk ⟨Nat.le_of_ble_eq_true rfl, Nat.le_of_ble_eq_true rfl⟩ ?_))
  all_goals (conv => whnf)
  all_goals first
    | exact RetV.same rfl rfl
    | skip
  refine LoopV.by mixed T0 (fun k : Nat => ⟨tmp 42 [(4, .map 0), (18, strs l), (19, i64 l.length), (20, i64 (k : Int))], ⟨1, [(0, .map (pos (l.take k) 0))]⟩⟩)
    (fun k => k ≤ l.length ∧ ∀ i (h : i < l.length), i < k → okName l[i] ∧ ¬ l[i] ∈ l.take i) (fun k => l.length - k) 0 ⟨by omega, fun _ _ h => by omega⟩ ?_ ?_
  · exact Lf.of2 [(0, _)] [] (by (repeat (first | exact Ents.nil | refine Ents.cons rfl (by first | exact Rd.any | exact Rd.ptr rfl | exact Rd.map rfl | exact Rd.sl rfl | exact Rd.same rfl | exact Rd.int (by omega) | assumption | exact Rd.same (noBox_ints _) | exact Rd.same (noBox_strs _) | exact Rd.same (noBox_intss _)) ?_ | fail)); done) (by (repeat (first | exact Bxs.nil | refine Bxs.cons rfl rfl rfl (by first | exact Rb.cells (Rds.same rfl) rfl | exact Rb.cells (Rds.same (noBoxs_map (fun _ => rfl) _)) rfl | exact Rb.cells (Rds.same (noBoxs_fill (fun _ => rfl) rfl)) rfl | exact Rb.cells (Rds.same (noBoxs_flat (fun _ => rfl) _)) rfl | exact Rb.map (Res.same (noBox_set rfl _)) | exact Rb.map (Res.same (noBox_pos _ _)) | exact Rb.map (Res.same (by simp)) | exact Rb.cells (by (repeat (first | exact Rds.nil | refine Rds.cons (by first | exact Rd.any | exact Rd.ptr rfl | exact Rd.map rfl | exact Rd.sl rfl | exact Rd.same rfl | exact Rd.int (by omega) | assumption | exact Rd.same (noBox_ints _) | exact Rd.same (noBox_strs _) | exact Rd.same (noBox_intss _)) ?_ | fail)); done) rfl | exact Rb.map (Res.eqs (map_succ (by omega)) (noBox_set rfl _)) | exact Rb.map (Res.eqs (pos_succ (by omega)) (noBox_pos _ _)) | exact Rb.cells (Rds.eqs (map_succ (by omega)) (noBoxs_map (fun _ => rfl) _)) rfl | assumption) ?_ | fail)); done) rfl rfl
  intro k ⟨h1, h2⟩
  repeat' ((conv => whnf) <;> (first
    | refine SeqV.go mixed T0 ?_
    | exact True.intro
    | (refine Br.mk (fun _ => ?_) (fun _ => ?_) <;> (try (exfalso; omega)))
    | refine Get.exp rfl ?_
    | refine Idx.lst (by first | omega | assumption | exact hl _ _ | exact inK64 (by omega) (by omega) | (simp; omega) | (simp; done)) ?_
    | refine Idx.lstS (by intro _; rfl) (by first | omega | assumption | exact hl _ _ | exact inK64 (by omega) (by omega) | (simp; omega) | (simp; done)) ?_
    | refine IdxS.nat (by first | omega | assumption | exact hl _ _ | exact inK64 (by omega) (by omega) | (simp; omega) | (simp; done)) ?_
    | refine IdxO.nat (by first | omega | assumption | exact hl _ _ | exact inK64 (by omega) (by omega) | (simp; omega) | (simp; done)) ?_
    | refine QuietV.mk (by kernel_rfl) ?_
    | refine Put.exp rfl ?_
    | refine SrcV.exp rfl ?_
    | refine Chk.mk (by first | rfl | exact inK64 (by omega) (by omega) | omega | assumption) ?_
    | refine Chk.mk ⟨Nat.le_of_ble_eq_true rfl, Nat.le_of_ble_eq_true rfl⟩ ?_
    | refine Cll.dec (pisName_c (by first | omega | assumption | exact hl _ _ | exact inK64 (by omega) (by omega) | (simp; omega) | (simp; done))) (fun _ => ?_) (fun _ => ?_)
    | refine Cal0.dec (pisName_c (by first | omega | assumption | exact hl _ _ | exact inK64 (by omega) (by omega) | (simp; omega) | (simp; done))) (fun _ => ?_) (fun _ => ?_)
    | (refine Find.pos (fun _ _ => ?_) (fun _ => ?_) <;> (try contradiction))))
  all_goals (conv => whnf)
  all_goals first
    | exact RetV.same rfl rfl
    | (exfalso; exact hp ⟨by omega, by omega, up_all (by omega) h2⟩)
    | skip
  rename_i a1 a2 a3
  refine ⟨k + 1, ⟨by omega, up_succ (by omega) h2 ⟨a2, a1⟩⟩, by omega, ?_⟩
  exact Lf.of2 [(0, _)] [] (by (repeat (first | exact Ents.nil | refine Ents.cons rfl (by first | exact Rd.any | exact Rd.ptr rfl | exact Rd.map rfl | exact Rd.sl rfl | exact Rd.same rfl | exact Rd.int (by omega) | assumption | exact Rd.same (noBox_ints _) | exact Rd.same (noBox_strs _) | exact Rd.same (noBox_intss _)) ?_ | fail)); done) (by (repeat (first | exact Bxs.nil | refine Bxs.cons rfl rfl rfl (by first | exact Rb.cells (Rds.same rfl) rfl | exact Rb.cells (Rds.same (noBoxs_map (fun _ => rfl) _)) rfl | exact Rb.cells (Rds.same (noBoxs_fill (fun _ => rfl) rfl)) rfl | exact Rb.cells (Rds.same (noBoxs_flat (fun _ => rfl) _)) rfl | exact Rb.map (Res.same (noBox_set rfl _)) | exact Rb.map (Res.same (noBox_pos _ _)) | exact Rb.map (Res.same (by simp)) | exact Rb.cells (by (repeat (first | exact Rds.nil | refine Rds.cons (by first | exact Rd.any | exact Rd.ptr rfl | exact Rd.map rfl | exact Rd.sl rfl | exact Rd.same rfl | exact Rd.int (by omega) | assumption | exact Rd.same (noBox_ints _) | exact Rd.same (noBox_strs _) | exact Rd.same (noBox_intss _)) ?_ | fail)); done) rfl | exact Rb.map (Res.eqs (map_succ (by omega)) (noBox_set rfl _)) | exact Rb.map (Res.eqs (pos_succ (by omega)) (noBox_pos _ _)) | exact Rb.cells (Rds.eqs (map_succ (by omega)) (noBoxs_map (fun _ => rfl) _)) rfl | assumption) ?_ | fail)); done) rfl rfl
theorem index_yes {l : List Str} (hl : long l) (hp : PV l) : Pk Tryz.prog 66 [strs l] 1 (fun n => .tup [.map n, boo true]) (fun n => [(n, .map (pos l 0))]) := by
  refine Pk.of_v mixed T0 Tryz.func66 rfl rfl (by simp [noBoxs, noBox_strs]) ?_
  repeat' ((conv => whnf) <;> (first
    | refine SeqV.go mixed T0 ?_
    | exact True.intro
    | (refine Br.mk (fun _ => ?_) (fun _ => ?_) <;> (try (exfalso; omega)))
    | refine Get.exp rfl ?_
    | refine Idx.lst (by first | omega | assumption | exact hl _ _ | exact inK64 (by omega) (by omega) | (simp; omega) | (simp; done)) ?_
    | refine Idx.lstS (by intro _; rfl) (by first | omega | assumption | exact hl _ _ | exact inK64 (by omega) (by omega) | (simp; omega) | (simp; done)) ?_
    | refine IdxS.nat (by first | omega | assumption | exact hl _ _ | exact inK64 (by omega) (by omega) | (simp; omega) | (simp; done)) ?_
    | refine IdxO.nat (by first | omega | assumption | exact hl _ _ | exact inK64 (by omega) (by omega) | (simp; omega) | (simp; done)) ?_
    | refine QuietV.mk (by kernel_rfl) ?_
    | refine Put.exp rfl ?_
    | refine SrcV.exp rfl ?_
    | refine Chk.mk (by first | rfl | exact inK64 (by omega) (by omega) | omega | assumption) ?_
    | refine Chk.mk ⟨Nat.le_of_ble_eq_true rfl, Nat.le_of_ble_eq_true rfl⟩ ?_))
  all_goals (conv => whnf)
  all_goals first
    | (exfalso; have := hp.1; have := hp.2.1; omega)
    | skip
  refine LoopV.by mixed T0 (fun k : Nat => ⟨tmp 42 [(4, .map 0), (18, strs l), (19, i64 l.length), (20, i64 (k : Int))], ⟨1, [(0, .map (pos (l.take k) 0))]⟩⟩)
    (fun k => k ≤ l.length) (fun k => l.length - k) 0 (by omega) ?_ ?_
  · exact Lf.of2 [(0, _)] [] (by (repeat (first | exact Ents.nil | refine Ents.cons rfl (by first | exact Rd.any | exact Rd.ptr rfl | exact Rd.map rfl | exact Rd.sl rfl | exact Rd.same rfl | exact Rd.int (by omega) | assumption | exact Rd.same (noBox_ints _) | exact Rd.same (noBox_strs _) | exact Rd.same (noBox_intss _)) ?_ | fail)); done) (by (repeat (first | exact Bxs.nil | refine Bxs.cons rfl rfl rfl (by first | exact Rb.cells (Rds.same rfl) rfl | exact Rb.cells (Rds.same (noBoxs_map (fun _ => rfl) _)) rfl | exact Rb.cells (Rds.same (noBoxs_fill (fun _ => rfl) rfl)) rfl | exact Rb.cells (Rds.same (noBoxs_flat (fun _ => rfl) _)) rfl | exact Rb.map (Res.same (noBox_set rfl _)) | exact Rb.map (Res.same (noBox_pos _ _)) | exact Rb.map (Res.same (by simp)) | exact Rb.cells (by (repeat (first | exact Rds.nil | refine Rds.cons (by first | exact Rd.any | exact Rd.ptr rfl | exact Rd.map rfl | exact Rd.sl rfl | exact Rd.same rfl | exact Rd.int (by omega) | assumption | exact Rd.same (noBox_ints _) | exact Rd.same (noBox_strs _) | exact Rd.same (noBox_intss _)) ?_ | fail)); done) rfl | exact Rb.map (Res.eqs (map_succ (by omega)) (noBox_set rfl _)) | exact Rb.map (Res.eqs (pos_succ (by omega)) (noBox_pos _ _)) | exact Rb.cells (Rds.eqs (map_succ (by omega)) (noBoxs_map (fun _ => rfl) _)) rfl | assumption) ?_ | fail)); done) rfl rfl
  intro k h1
  repeat' ((conv => whnf) <;> (first
    | refine SeqV.go mixed T0 ?_
    | exact True.intro
    | (refine Br.mk (fun _ => ?_) (fun _ => ?_) <;> (try (exfalso; omega)))
    | refine Get.exp rfl ?_
    | refine Idx.lst (by first | omega | assumption | exact hl _ _ | exact inK64 (by omega) (by omega) | (simp; omega) | (simp; done)) ?_
    | refine Idx.lstS (by intro _; rfl) (by first | omega | assumption | exact hl _ _ | exact inK64 (by omega) (by omega) | (simp; omega) | (simp; done)) ?_
    | refine IdxS.nat (by first | omega | assumption | exact hl _ _ | exact inK64 (by omega) (by omega) | (simp; omega) | (simp; done)) ?_
    | refine IdxO.nat (by first | omega | assumption | exact hl _ _ | exact inK64 (by omega) (by omega) | (simp; omega) | (simp; done)) ?_
    | refine QuietV.mk (by kernel_rfl) ?_
    | refine Put.exp rfl ?_
    | refine SrcV.exp rfl ?_
    | refine Chk.mk (by first | rfl | exact inK64 (by omega) (by omega) | omega | assumption) ?_
    | refine Chk.mk ⟨Nat.le_of_ble_eq_true rfl, Nat.le_of_ble_eq_true rfl⟩ ?_
    | refine Cll.dec (pisName_c (by first | omega | assumption | exact hl _ _ | exact inK64 (by omega) (by omega) | (simp; omega) | (simp; done))) (fun _ => ?_) (fun _ => ?_)
    | refine Cal0.dec (pisName_c (by first | omega | assumption | exact hl _ _ | exact inK64 (by omega) (by omega) | (simp; omega) | (simp; done))) (fun _ => ?_) (fun _ => ?_)
    | (refine Find.pos (fun _ _ => ?_) (fun _ => ?_) <;> (try contradiction))))
  all_goals (conv => whnf)
  all_goals first
    | (exfalso; obtain ⟨a1, a2⟩ := hp.2.2 k (by omega); first | contradiction | (rename_i a3; exact a3 a1))
    | (refine ⟨k + 1, by omega, by omega, ?_⟩
       exact Lf.of2 [(0, _)] [] (by (repeat (first | exact Ents.nil | refine Ents.cons rfl (by first | exact Rd.any | exact Rd.ptr rfl | exact Rd.map rfl | exact Rd.sl rfl | exact Rd.same rfl | exact Rd.int (by omega) | assumption | exact Rd.same (noBox_ints _) | exact Rd.same (noBox_strs _) | exact Rd.same (noBox_intss _)) ?_ | fail)); done) (by (repeat (first | exact Bxs.nil | refine Bxs.cons rfl rfl rfl (by first | exact Rb.cells (Rds.same rfl) rfl | exact Rb.cells (Rds.same (noBoxs_map (fun _ => rfl) _)) rfl | exact Rb.cells (Rds.same (noBoxs_fill (fun _ => rfl) rfl)) rfl | exact Rb.cells (Rds.same (noBoxs_flat (fun _ => rfl) _)) rfl | exact Rb.map (Res.same (noBox_set rfl _)) | exact Rb.map (Res.same (noBox_pos _ _)) | exact Rb.map (Res.same (by simp)) | exact Rb.cells (by (repeat (first | exact Rds.nil | refine Rds.cons (by first | exact Rd.any | exact Rd.ptr rfl | exact Rd.map rfl | exact Rd.sl rfl | exact Rd.same rfl | exact Rd.int (by omega) | assumption | exact Rd.same (noBox_ints _) | exact Rd.same (noBox_strs _) | exact Rd.same (noBox_intss _)) ?_ | fail)); done) rfl | exact Rb.map (Res.eqs (map_succ (by omega)) (noBox_set rfl _)) | exact Rb.map (Res.eqs (pos_succ (by omega)) (noBox_pos _ _)) | exact Rb.cells (Rds.eqs (map_succ (by omega)) (noBoxs_map (fun _ => rfl) _)) rfl | assumption) ?_ | fail)); done) rfl rfl)
    | exact ⟨[0], rfl, ⟨by simp, fun n => .tup (.cons (.map (by simp [sgn])) (.cons (.same rfl) .nil)), fun n => .cons (id := 0) (by simp [sgn]) rfl rfl (.map (.eqs (by rw [List.take_of_length_le (by omega)]) (noBox_pos _ _))) .nil⟩⟩

theorem newInspector_c {n : Int} : Pk Tryz.prog 79 [i64 n] 1 (fun b => .agg [i64 n, .map b]) (fun b => [(b, .map [])]) := by
  refine Pk.of_v mixed T0 Tryz.func79 rfl rfl rfl ?_
  repeat' ((conv => whnf) <;> (first
    | refine SeqV.go mixed T0 ?_
    | exact True.intro
    | (refine Br.mk (fun _ => ?_) (fun _ => ?_) <;> (try (exfalso; omega)))
    | refine Get.exp rfl ?_
    | refine Idx.lst (by first | omega | assumption | exact hl _ _ | exact inK64 (by omega) (by omega) | (simp; omega) | (simp; done)) ?_
    | refine Idx.lstS (by intro _; rfl) (by first | omega | assumption | exact hl _ _ | exact inK64 (by omega) (by omega) | (simp; omega) | (simp; done)) ?_
    | refine IdxS.nat (by first | omega | assumption | exact hl _ _ | exact inK64 (by omega) (by omega) | (simp; omega) | (simp; done)) ?_
    | refine IdxO.nat (by first | omega | assumption | exact hl _ _ | exact inK64 (by omega) (by omega) | (simp; omega) | (simp; done)) ?_
    | refine QuietV.mk (by kernel_rfl) ?_
    | refine Put.exp rfl ?_
    | refine SrcV.exp rfl ?_
    | refine Chk.mk (by first | rfl | exact inK64 (by omega) (by omega) | omega | assumption) ?_
    | refine Chk.mk ⟨Nat.le_of_ble_eq_true rfl, Nat.le_of_ble_eq_true rfl⟩ ?_))
  all_goals (conv => whnf)
  exact ⟨[2], rfl, ⟨by simp, fun n => .agg (.cons (.same rfl) (.cons (.map (by simp [sgn])) .nil)), fun n => .cons (id := 2) (by simp [sgn]) rfl rfl (.map .nil) .nil⟩⟩

end Go.Proofs.YtgcjjodbmcnhkaaGreatDoor
