/-
  Contracts of functions over data: searching, classes of the program.
-/
import Derived.Test.YtgcjjodbmcnhkaaGreatDoorS4
namespace Go.Proofs.YtgcjjodbmcnhkaaGreatDoor
open Go Go.Am Classical
set_option maxRecDepth 100000

theorem search_c {n s : Nat} {g : FuncId} {cap : List D} {p : Nat → Prop} (hc : noBoxs cap = true) (hn : n ≤ 4611686018427387903) (hs : s ≤ n) (h1 : ∀ i, i < s → ¬ p i) (h2 : ∀ i, s ≤ i → i < n → p i)
    (hf : ∀ i : Nat, i < n → Pu Tryz.prog g ([i64 i] ++ cap) (boo (decide (p i)))) : Pu Tryz.prog 68 [i64 n, .fn (.func g) [] cap] (i64 s) := by
  refine Pu.of_v mixed T0 Tryz.func68 rfl rfl (by simp [noBox, noBoxs, hc]) ?_
  repeat' ((conv => whnf) <;> (first
    | refine SeqV.go mixed T0 ?_
    | exact True.intro
    | (refine Br.mk (fun _ => ?_) (fun _ => ?_) <;> (try (exfalso; omega)))
    | refine Get.exp rfl ?_
    | refine Idx.lst (by first | omega | assumption | exact hl _ _ | exact inK64 (by omega) (by omega) | (simp; omega) | (simp; done)) ?_
    | refine Idx.lstS (by intro _; rfl) (by first | omega | assumption | exact hl _ _ | exact inK64 (by omega) (by omega) | (simp; omega) | (simp; done)) ?_
    | refine IdxS.nat (by first | omega | assumption | exact hl _ _ | exact inK64 (by omega) (by omega) | (simp; omega) | (simp; done)) ?_
    | refine IdxO.nat (by first | omega | assumption | exact hl _ _ | exact inK64 (by omega) (by omega) | (simp; omega) | (simp; done)) ?_
    | refine QuietV.mk (by kernel_rfl) ?_
    | refine Put.exp rfl ?_
    | refine SrcV.exp rfl ?_
    | refine Chk.mk (by first | rfl | exact inK64 (by omega) (by omega) | omega | assumption) ?_
    | refine Chk.mk ⟨Nat.le_of_ble_eq_true rfl, Nat.le_of_ble_eq_true rfl⟩ ?_
    | refine Chk.grow (by intro _; rfl) 8 rfl (by omega) (by omega) ?_
    | refine Chk.room 8 rfl (by omega) (by omega) ?_
    | refine Chk.made 8 rfl (by omega) (by omega) (by omega) ?_))
  refine LoopV.by2 mixed T0 (fun i j : Nat => ⟨tmp 26 [(1, .fn (.func g) [] cap), (5, i64 i), (6, i64 j)], ⟨0, []⟩⟩)
    (fun i j => i ≤ s ∧ s ≤ j ∧ j ≤ n) (fun i j => j - i) 0 n ⟨by omega, by omega, by omega⟩ ?_ ?_
  · exact Lf.of2 [] [] (by (repeat (first | exact Ents.nil | refine Ents.cons rfl (by first | exact Rd.same (by simp [noBox, noBoxs, hc]) | (first | exact Rd.any | exact Rd.ptr rfl | exact Rd.map rfl | exact Rd.sl rfl | exact Rd.same rfl | exact Rd.int (by omega) | assumption | exact Rd.same (noBox_ints _) | exact Rd.same (noBox_strs _) | exact Rd.same (noBox_intss _) | exact Rd.same (noBox_spns _))) ?_ | fail)); done) (by (repeat (first | exact Bxs.nil | refine Bxs.cons rfl rfl rfl (by first | exact Rb.cells (Rds.same rfl) rfl | exact Rb.cells (Rds.same (noBoxs_map (fun _ => rfl) _)) rfl | exact Rb.cells (Rds.same (noBoxs_fill (fun _ => rfl) rfl)) rfl | exact Rb.cells (Rds.same (noBoxs_flat (fun _ => rfl) _)) rfl | exact Rb.map (Res.same (noBox_set rfl _)) | exact Rb.map (Res.same (noBox_pos _ _)) | exact Rb.map (Res.same (by simp)) | exact Rb.cells (by (repeat (first | exact Rds.nil | refine Rds.cons (by first | exact Rd.same (by simp [noBox, noBoxs, hc]) | (first | exact Rd.any | exact Rd.ptr rfl | exact Rd.map rfl | exact Rd.sl rfl | exact Rd.same rfl | exact Rd.int (by omega) | assumption | exact Rd.same (noBox_ints _) | exact Rd.same (noBox_strs _) | exact Rd.same (noBox_intss _) | exact Rd.same (noBox_spns _))) ?_ | fail)); done) rfl | exact Rb.map (Res.eqs (map_succ (by omega)) (noBox_set rfl _)) | exact Rb.map (Res.eqs (pos_succ (by omega)) (noBox_pos _ _)) | exact Rb.cells (Rds.eqs (map_succ (by omega)) (noBoxs_map (fun _ => rfl) _)) rfl | assumption) ?_ | fail)); done) rfl rfl
  intro i j ⟨h3, h4, h5⟩
  have em : IntKind.i64.wrap ((IntKind.u64.wrap ((i : Int) + (j : Int))).fdiv (2 ^ min (Int.toNat 1) IntKind.u64.bits)) = (((i + j) / 2 : Nat) : Int) := by
    have e1 : IntKind.u64.wrap ((i : Int) + (j : Int)) = (i : Int) + (j : Int) := by
      simp [IntKind.wrap, IntKind.bits, IntKind.signed]; omega
    rw [e1, Int.fdiv_eq_ediv_of_nonneg _ (by decide)]
    simp [IntKind.wrap, IntKind.bits, IntKind.signed]
    omega
  repeat' ((conv => whnf) <;> (first
    | refine SeqV.go mixed T0 ?_
    | exact True.intro
    | (refine Br.mk (fun _ => ?_) (fun _ => ?_) <;> (try (exfalso; omega)))
    | refine Get.exp rfl ?_
    | refine Idx.lst (by first | omega | assumption | exact hl _ _ | exact inK64 (by omega) (by omega) | (simp; omega) | (simp; done)) ?_
    | refine Idx.lstS (by intro _; rfl) (by first | omega | assumption | exact hl _ _ | exact inK64 (by omega) (by omega) | (simp; omega) | (simp; done)) ?_
    | refine IdxS.nat (by first | omega | assumption | exact hl _ _ | exact inK64 (by omega) (by omega) | (simp; omega) | (simp; done)) ?_
    | refine IdxO.nat (by first | omega | assumption | exact hl _ _ | exact inK64 (by omega) (by omega) | (simp; omega) | (simp; done)) ?_
    | refine QuietV.mk (by kernel_rfl) ?_
    | refine Put.exp rfl ?_
    | refine SrcV.exp rfl ?_
    | refine Chk.mk (by first | rfl | exact inK64 (by omega) (by omega) | omega | assumption) ?_
    | refine Chk.mk ⟨Nat.le_of_ble_eq_true rfl, Nat.le_of_ble_eq_true rfl⟩ ?_
    | refine Chk.grow (by intro _; rfl) 8 rfl (by omega) (by omega) ?_
    | refine Chk.room 8 rfl (by omega) (by omega) ?_
    | refine Chk.made 8 rfl (by omega) (by omega) (by omega) ?_
    | refine Cll.dec (p := p ((i + j) / 2)) (by rw [em]; exact hf _ (by omega)) (fun _ => ?_) (fun _ => ?_)
    | refine Chk.mk (inK64 (by rw [em]; omega) (by rw [em]; omega)) ?_))
  all_goals (conv => whnf)
  all_goals first
    | exact RetV.int (by omega)
    | (refine ⟨i, (i + j) / 2, ⟨by omega, Nat.le_of_not_lt fun hlt => h1 _ hlt (by assumption), by omega⟩, by omega, ?_⟩
       exact Lf.of2 [] [] (by (repeat (first | exact Ents.nil | refine Ents.cons rfl (by first | exact Rd.same (by simp [noBox, noBoxs, hc]) | exact Rd.int em | (first | exact Rd.any | exact Rd.ptr rfl | exact Rd.map rfl | exact Rd.sl rfl | exact Rd.same rfl | exact Rd.int (by omega) | assumption | exact Rd.same (noBox_ints _) | exact Rd.same (noBox_strs _) | exact Rd.same (noBox_intss _) | exact Rd.same (noBox_spns _))) ?_ | fail)); done) (by (repeat (first | exact Bxs.nil | refine Bxs.cons rfl rfl rfl (by first | exact Rb.cells (Rds.same rfl) rfl | exact Rb.cells (Rds.same (noBoxs_map (fun _ => rfl) _)) rfl | exact Rb.cells (Rds.same (noBoxs_fill (fun _ => rfl) rfl)) rfl | exact Rb.cells (Rds.same (noBoxs_flat (fun _ => rfl) _)) rfl | exact Rb.map (Res.same (noBox_set rfl _)) | exact Rb.map (Res.same (noBox_pos _ _)) | exact Rb.map (Res.same (by simp)) | exact Rb.cells (by (repeat (first | exact Rds.nil | refine Rds.cons (by first | exact Rd.same (by simp [noBox, noBoxs, hc]) | exact Rd.int em | (first | exact Rd.any | exact Rd.ptr rfl | exact Rd.map rfl | exact Rd.sl rfl | exact Rd.same rfl | exact Rd.int (by omega) | assumption | exact Rd.same (noBox_ints _) | exact Rd.same (noBox_strs _) | exact Rd.same (noBox_intss _) | exact Rd.same (noBox_spns _))) ?_ | fail)); done) rfl | exact Rb.map (Res.eqs (map_succ (by omega)) (noBox_set rfl _)) | exact Rb.map (Res.eqs (pos_succ (by omega)) (noBox_pos _ _)) | exact Rb.cells (Rds.eqs (map_succ (by omega)) (noBoxs_map (fun _ => rfl) _)) rfl | assumption) ?_ | fail)); done) rfl rfl)
    | (refine ⟨(i + j) / 2 + 1, j, ⟨Nat.succ_le_of_lt (Nat.lt_of_not_le fun hle => absurd (h2 _ hle (by omega)) (by assumption)), by omega, by omega⟩, by omega, ?_⟩
       exact Lf.of2 [] [] (by (repeat (first | exact Ents.nil | refine Ents.cons rfl (by first | exact Rd.same (by simp [noBox, noBoxs, hc]) | exact Rd.int (by rw [em]; omega) | (first | exact Rd.any | exact Rd.ptr rfl | exact Rd.map rfl | exact Rd.sl rfl | exact Rd.same rfl | exact Rd.int (by omega) | assumption | exact Rd.same (noBox_ints _) | exact Rd.same (noBox_strs _) | exact Rd.same (noBox_intss _) | exact Rd.same (noBox_spns _))) ?_ | fail)); done) (by (repeat (first | exact Bxs.nil | refine Bxs.cons rfl rfl rfl (by first | exact Rb.cells (Rds.same rfl) rfl | exact Rb.cells (Rds.same (noBoxs_map (fun _ => rfl) _)) rfl | exact Rb.cells (Rds.same (noBoxs_fill (fun _ => rfl) rfl)) rfl | exact Rb.cells (Rds.same (noBoxs_flat (fun _ => rfl) _)) rfl | exact Rb.map (Res.same (noBox_set rfl _)) | exact Rb.map (Res.same (noBox_pos _ _)) | exact Rb.map (Res.same (by simp)) | exact Rb.cells (by (repeat (first | exact Rds.nil | refine Rds.cons (by first | exact Rd.same (by simp [noBox, noBoxs, hc]) | exact Rd.int (by rw [em]; omega) | (first | exact Rd.any | exact Rd.ptr rfl | exact Rd.map rfl | exact Rd.sl rfl | exact Rd.same rfl | exact Rd.int (by omega) | assumption | exact Rd.same (noBox_ints _) | exact Rd.same (noBox_strs _) | exact Rd.same (noBox_intss _) | exact Rd.same (noBox_spns _))) ?_ | fail)); done) rfl | exact Rb.map (Res.eqs (map_succ (by omega)) (noBox_set rfl _)) | exact Rb.map (Res.eqs (pos_succ (by omega)) (noBox_pos _ _)) | exact Rb.cells (Rds.eqs (map_succ (by omega)) (noBoxs_map (fun _ => rfl) _)) rfl | assumption) ?_ | fail)); done) rfl rfl)

theorem value1_c {l : List Spn} {c : Int} {k : Nat} (hk : k < l.length) : Pu Tryz.prog 69 ([i64 (k : Int)] ++ [.iptr [spns l], .iptr [i64 c]]) (boo (decide (c ≤ l[k].hi))) := by
  refine Pu.of_v mixed T0 Tryz.func69 rfl rfl (by simp [noBox, noBoxs, noBox_spns]) ?_
  repeat' ((conv => whnf) <;> (first
    | refine SeqV.go mixed T0 ?_
    | exact True.intro
    | (refine Br.mk (fun _ => ?_) (fun _ => ?_) <;> (try (exfalso; omega)))
    | refine Get.exp rfl ?_
    | refine Idx.lst (by first | omega | assumption | exact hl _ _ | exact inK64 (by omega) (by omega) | (simp; omega) | (simp; done)) ?_
    | refine Idx.lstS (by intro _; rfl) (by first | omega | assumption | exact hl _ _ | exact inK64 (by omega) (by omega) | (simp; omega) | (simp; done)) ?_
    | refine IdxS.nat (by first | omega | assumption | exact hl _ _ | exact inK64 (by omega) (by omega) | (simp; omega) | (simp; done)) ?_
    | refine IdxO.nat (by first | omega | assumption | exact hl _ _ | exact inK64 (by omega) (by omega) | (simp; omega) | (simp; done)) ?_
    | refine QuietV.mk (by kernel_rfl) ?_
    | refine Put.exp rfl ?_
    | refine SrcV.exp rfl ?_
    | refine Chk.mk (by first | rfl | exact inK64 (by omega) (by omega) | omega | assumption) ?_
    | refine Chk.mk ⟨Nat.le_of_ble_eq_true rfl, Nat.le_of_ble_eq_true rfl⟩ ?_
    | refine Chk.grow (by intro _; rfl) 8 rfl (by omega) (by omega) ?_
    | refine Chk.room 8 rfl (by omega) (by omega) ?_
    | refine Chk.made 8 rfl (by omega) (by omega) (by omega) ?_))
  all_goals (conv => whnf)
  all_goals first
    | exact RetV.yes (by omega)
    | exact RetV.no (by omega)

/-! ### Spans that rise -/
def Rise (l : List Spn) : Prop := ∀ i (h : i < l.length), l[i].lo ≤ l[i].hi ∧ ∀ h0 : i ≠ 0, (l[i - 1]'(by omega)).hi < l[i].lo
theorem rise_of {l : List Spn} {n : Int} (h : ∀ i (h : i < l.length), SpQ l n i l[i]) : Rise l := fun i hi => by
  obtain ⟨h1, h2⟩ := h i hi
  refine ⟨by omega, fun h0 => ?_⟩
  have := (h2 h0).1
  rwa [getD_get (by omega)] at this
theorem rise_le {l : List Spn} (h : Rise l) {i : Nat} (j : Nat) (hi : i < l.length) (hj : i + j < l.length) : l[i].hi ≤ l[i + j].hi := by
  induction j with
  | zero => exact Int.le_refl _
  | succ j ih =>
    have h1 := ih (by omega)
    have h2 := h (i + (j + 1)) hj
    have h3 := h2.2 (by omega)
    have h4 := h2.1
    have e : i + (j + 1) - 1 = i + j := by omega
    simp only [e] at h3
    omega
theorem getV_none {l : List Spn} {c : Int} (h : ∀ i (h : i < l.length), ¬ (l[i].lo ≤ c ∧ c ≤ l[i].hi)) : getV l c = 0 := by
  induction l with
  | nil => rfl
  | cons s l ih =>
    simp only [getV]
    rw [if_neg (show ¬ (s.lo ≤ c ∧ c ≤ s.hi) from h 0 (by simp))]
    exact ih fun i hi => h (i + 1) (by simpa using hi)
theorem getV_at {l : List Spn} {c : Int} {s : Nat} (hs : s < l.length) (h : ∀ i (hi : i < l.length), i < s → ¬ (l[i].lo ≤ c ∧ c ≤ l[i].hi)) (h2 : l[s].lo ≤ c ∧ c ≤ l[s].hi) : getV l c = l[s].val := by
  induction l generalizing s with
  | nil => simp at hs
  | cons x l ih =>
    simp only [getV]
    cases s with
    | zero => rw [if_pos (show x.lo ≤ c ∧ c ≤ x.hi from h2)]; rfl
    | succ s =>
      rw [if_neg (show ¬ (x.lo ≤ c ∧ c ≤ x.hi) from h 0 (by simp) (by omega))]
      exact ih (s := s) (by simpa using hs) (fun i hi hlt => h (i + 1) (by simpa using hi) (by omega)) h2
noncomputable def firstHi (l : List Spn) (c : Int) : Nat := l.findIdx fun s => decide (c ≤ s.hi)
theorem firstHi_le (l : List Spn) (c : Int) : firstHi l c ≤ l.length := List.findIdx_le_length
theorem firstHi_not {l : List Spn} {c : Int} {i : Nat} (h : i < l.length) (hlt : i < firstHi l c) : ¬ c ≤ l[i].hi := by
  have := List.not_of_lt_findIdx hlt
  simpa using this
theorem firstHi_at {l : List Spn} {c : Int} (h : firstHi l c < l.length) : c ≤ l[firstHi l c].hi := by
  have := List.findIdx_getElem (p := fun s : Spn => decide (c ≤ s.hi)) (w := h)
  exact of_decide_eq_true this
theorem getV_first {l : List Spn} (hr : Rise l) (c : Int) : getV l c = if h : firstHi l c < l.length then (if l[firstHi l c].lo ≤ c then l[firstHi l c].val else 0) else 0 := by
  split
  · rename_i hs
    have h1 := firstHi_at hs
    split
    · rename_i h2
      exact getV_at hs (fun i hi hlt => by have := firstHi_not hi hlt; omega) ⟨h2, h1⟩
    · rename_i h2
      refine getV_none fun i hi => ?_
      rcases Nat.lt_trichotomy i (firstHi l c) with hlt | he | hgt
      · have := firstHi_not hi hlt; omega
      · subst he; omega
      · have h3 := rise_le hr (i - 1 - firstHi l c) hs (by omega)
        have h4 := (hr i hi).2 (by omega)
        have e : firstHi l c + (i - 1 - firstHi l c) = i - 1 := by omega
        simp only [e] at h3
        omega
  · rename_i hs
    refine getV_none fun i hi => ?_
    have := firstHi_not (c := c) hi (by omega)
    omega

theorem value_c {l : List Spn} {c : Int} (hn : l.length ≤ 4611686018427387903) (hr : Rise l) : Pu Tryz.prog 38 [spns l, i64 c] (i64 (getV l c)) := by
  rw [getV_first hr c]
  have h0 := firstHi_le l c
  have hse : Pu Tryz.prog 68 [i64 l.length, .fn (.func 69) [] [.iptr [spns l], .iptr [i64 c]]] (i64 (firstHi l c)) :=
    search_c (p := fun i => ∃ h : i < l.length, c ≤ l[i].hi) (by simp [noBox, noBoxs, noBox_spns]) hn h0 (fun i hi ⟨h, hc⟩ => firstHi_not h hi hc)
      (fun i h1 h2 => ⟨h2, by
        have h3 := firstHi_at (l := l) (c := c) (by omega)
        have h4 := rise_le hr (i - firstHi l c) (i := firstHi l c) (by omega) (by omega)
        have e : firstHi l c + (i - firstHi l c) = i := by omega
        simp only [e] at h4
        omega⟩)
      (fun i hi => by
        have := value1_c (l := l) (c := c) hi
        exact (congrArg (fun b => Pu Tryz.prog _ _ (boo b)) (decide_eq_decide.2 ⟨fun h => ⟨hi, h⟩, fun ⟨_, h⟩ => h⟩)).mp this)
  refine Pu.of_v mixed T0 Tryz.func38 rfl rfl (by simp [noBox, noBoxs, noBox_spns]) ?_
  conv => whnf
  refine SeqV.weak mixed T0 (s0 := ⟨tmp 28 [(2, .iptr [spns l]), (3, .iptr [i64 c])], ⟨0, []⟩⟩) ?_ ?_
  · exact Lf.of2 [] [0, 1] (by (repeat (first | exact Ents.nil | refine Ents.cons rfl (by first | exact Rd.frzp rfl rfl (Rds.cons (Rd.same (noBox_spns _)) Rds.nil) | exact Rd.frzp rfl rfl (Rds.cons (Rd.same rfl) Rds.nil) | (first | exact Rd.any | exact Rd.ptr rfl | exact Rd.map rfl | exact Rd.sl rfl | exact Rd.same rfl | exact Rd.int (by omega) | assumption | exact Rd.same (noBox_ints _) | exact Rd.same (noBox_strs _) | exact Rd.same (noBox_intss _) | exact Rd.same (noBox_spns _))) ?_ | fail)); done) (by (repeat (first | exact Bxs.nil | refine Bxs.cons rfl rfl rfl (by first | exact Rb.cells (Rds.same rfl) rfl | exact Rb.cells (Rds.same (noBoxs_map (fun _ => rfl) _)) rfl | exact Rb.cells (Rds.same (noBoxs_fill (fun _ => rfl) rfl)) rfl | exact Rb.cells (Rds.same (noBoxs_flat (fun _ => rfl) _)) rfl | exact Rb.map (Res.same (noBox_set rfl _)) | exact Rb.map (Res.same (noBox_pos _ _)) | exact Rb.map (Res.same (by simp)) | exact Rb.cells (by (repeat (first | exact Rds.nil | refine Rds.cons (by first | exact Rd.frzp rfl rfl (Rds.cons (Rd.same (noBox_spns _)) Rds.nil) | exact Rd.frzp rfl rfl (Rds.cons (Rd.same rfl) Rds.nil) | (first | exact Rd.any | exact Rd.ptr rfl | exact Rd.map rfl | exact Rd.sl rfl | exact Rd.same rfl | exact Rd.int (by omega) | assumption | exact Rd.same (noBox_ints _) | exact Rd.same (noBox_strs _) | exact Rd.same (noBox_intss _) | exact Rd.same (noBox_spns _))) ?_ | fail)); done) rfl | exact Rb.map (Res.eqs (map_succ (by omega)) (noBox_set rfl _)) | exact Rb.map (Res.eqs (pos_succ (by omega)) (noBox_pos _ _)) | exact Rb.cells (Rds.eqs (map_succ (by omega)) (noBoxs_map (fun _ => rfl) _)) rfl | assumption) ?_ | fail)); done) rfl rfl
  repeat' ((conv => whnf) <;> (first
    | refine SeqV.go mixed T0 ?_
    | exact True.intro
    | (refine Br.mk (fun _ => ?_) (fun _ => ?_) <;> (try (exfalso; omega)))
    | refine Get.exp rfl ?_
    | refine Idx.lst (by first | omega | assumption | exact hl _ _ | exact inK64 (by omega) (by omega) | (simp; omega) | (simp; done)) ?_
    | refine Idx.lstS (by intro _; rfl) (by first | omega | assumption | exact hl _ _ | exact inK64 (by omega) (by omega) | (simp; omega) | (simp; done)) ?_
    | refine IdxS.nat (by first | omega | assumption | exact hl _ _ | exact inK64 (by omega) (by omega) | (simp; omega) | (simp; done)) ?_
    | refine IdxO.nat (by first | omega | assumption | exact hl _ _ | exact inK64 (by omega) (by omega) | (simp; omega) | (simp; done)) ?_
    | refine QuietV.mk (by kernel_rfl) ?_
    | refine Put.exp rfl ?_
    | refine SrcV.exp rfl ?_
    | refine Chk.mk (by first | rfl | exact inK64 (by omega) (by omega) | omega | assumption) ?_
    | refine Chk.mk ⟨Nat.le_of_ble_eq_true rfl, Nat.le_of_ble_eq_true rfl⟩ ?_
    | refine Chk.grow (by intro _; rfl) 8 rfl (by omega) (by omega) ?_
    | refine Chk.room 8 rfl (by omega) (by omega) ?_
    | refine Chk.made 8 rfl (by omega) (by omega) (by omega) ?_
    | refine Cll.pu hse ?_))
  all_goals (conv => whnf)
  all_goals first
    | exact RetV.int (by rw [dif_pos (by omega), if_pos (by assumption)])
    | exact RetV.int (by rw [dif_pos (by omega), if_neg (by assumption)])
    | exact RetV.int (by rw [dif_neg (by omega)])

theorem cnt_rise (p : Prp) : Rise (cnt p).spans := by
  unfold cnt
  split
  · rename_i hv; exact rise_of hv.2
  · intro i h; simp at h
theorem cnt_spans {p : Prp} (h : p.spans.length ≤ 1000) : (cnt p).spans.length ≤ 1000 := by
  unfold cnt
  split
  · exact h
  · simp
theorem cnt_names {p : Prp} (h : p.names.length ≤ 1000) : (cnt p).names.length ≤ 1000 := by
  unfold cnt
  split
  · exact h
  · simp

theorem Classes_c {p : Prp} {t : Tbl} {text : List Int} (hp : p.ok) (ht : t.ok) (hx : text.length ≤ 1000) (hs : p.spans.length ≤ 1000) (hnn : p.names.length ≤ 1000) : Pu Tryz.prog 14 [prpD p, tabD t, ints text] (ints (if TV t then namedV p t.classes text else [])) := by
  have h1 := ht.classes
  have hr := cnt_rise p
  have hs2 := cnt_spans hs
  have hn2 := cnt_names hnn
  refine Pu.of_v mixed T0 Tryz.func14 rfl rfl (by simp [noBox, noBoxs, noBox_strs, noBox_spns, noBox_ints, noBox_intss]) ?_
  repeat' ((conv => whnf) <;> (first
    | refine SeqV.go mixed T0 ?_
    | exact True.intro
    | (refine Br.mk (fun _ => ?_) (fun _ => ?_) <;> (try (exfalso; omega)))
    | refine Get.exp rfl ?_
    | refine Idx.lst (by first | omega | assumption | exact hl _ _ | exact inK64 (by omega) (by omega) | (simp; omega) | (simp; done)) ?_
    | refine Idx.lstS (by intro _; rfl) (by first | omega | assumption | exact hl _ _ | exact inK64 (by omega) (by omega) | (simp; omega) | (simp; done)) ?_
    | refine IdxS.nat (by first | omega | assumption | exact hl _ _ | exact inK64 (by omega) (by omega) | (simp; omega) | (simp; done)) ?_
    | refine IdxO.nat (by first | omega | assumption | exact hl _ _ | exact inK64 (by omega) (by omega) | (simp; omega) | (simp; done)) ?_
    | refine QuietV.mk (by kernel_rfl) ?_
    | refine Put.exp rfl ?_
    | refine SrcV.exp rfl ?_
    | refine Chk.mk (by first | rfl | exact inK64 (by omega) (by omega) | omega | assumption) ?_
    | refine Chk.mk ⟨Nat.le_of_ble_eq_true rfl, Nat.le_of_ble_eq_true rfl⟩ ?_
    | refine Chk.grow (by intro _; rfl) 8 rfl (by omega) (by omega) ?_
    | refine Chk.room 8 rfl (by omega) (by omega) ?_
    | refine Chk.made 8 rfl (by omega) (by omega) (by omega) ?_
    | refine Cll.dec (valid_c (by first | omega | assumption | exact hl _ _ | exact inK64 (by omega) (by omega) | (simp; omega) | (simp; done))) (fun _ => ?_) (fun _ => ?_)
    | refine Cal0.dec (valid_c (by first | omega | assumption | exact hl _ _ | exact inK64 (by omega) (by omega) | (simp; omega) | (simp; done))) (fun _ => ?_) (fun _ => ?_)
    | refine Cll.dec (pvalid_c (by first | omega | assumption | exact hl _ _ | exact inK64 (by omega) (by omega) | (simp; omega) | (simp; done))) (fun _ => ?_) (fun _ => ?_)
    | refine Cal0.dec (pvalid_c (by first | omega | assumption | exact hl _ _ | exact inK64 (by omega) (by omega) | (simp; omega) | (simp; done))) (fun _ => ?_) (fun _ => ?_)))
  all_goals (conv => whnf)
  · rename_i hv hpv
    have hcp : cnt p = p := by simp [cnt, hpv]
    refine LoopV.by mixed T0 (fun k : Nat => ⟨tmp 81 [(2, ints text), (3, .ptr 0 0), (7, .map 1), (29, strs t.classes), (30, i64 t.classes.length), (31, i64 (k : Int))], ⟨2, [(0, .cells [strs (cnt p).names, spns (cnt p).spans] true), (1, .map (pos (t.classes.take k) 0))]⟩⟩)
      (fun k => k ≤ t.classes.length) (fun k => t.classes.length - k) 0 (by omega) ?_ ?_
    · exact Lf.of2 [(0, _), (1, _)] [9] (by (repeat (first | exact Ents.nil | refine Ents.cons rfl (by first | exact Rd.any | exact Rd.ptr rfl | exact Rd.map rfl | exact Rd.sl rfl | exact Rd.same rfl | exact Rd.int (by omega) | assumption | exact Rd.same (noBox_ints _) | exact Rd.same (noBox_strs _) | exact Rd.same (noBox_intss _) | exact Rd.same (noBox_spns _)) ?_ | fail)); done) (by (repeat (first | exact Bxs.nil | refine Bxs.cons rfl rfl rfl (by first | exact Rb.cells (by rw [hcp]; exact Rds.same (by simp only [cellsD, noBoxs, noBox_strs, noBox_spns, Bool.and_self])) rfl | exact Rb.cells (by rw [hcp]; exact Rds.cons (Rd.frz rfl rfl (Nat.le_of_ble_eq_true rfl) (Rds.cons (Rd.same rfl) Rds.nil)) (Rds.cons Rd.nil Rds.nil)) rfl | exact Rb.cells (Rds.same rfl) rfl | exact Rb.cells (Rds.same (noBoxs_map (fun _ => rfl) _)) rfl | exact Rb.cells (Rds.same (noBoxs_fill (fun _ => rfl) rfl)) rfl | exact Rb.cells (Rds.same (noBoxs_flat (fun _ => rfl) _)) rfl | exact Rb.map (Res.same (noBox_set rfl _)) | exact Rb.map (Res.same (noBox_pos _ _)) | exact Rb.map (Res.same (by simp)) | exact Rb.cells (by (repeat (first | exact Rds.nil | refine Rds.cons (by first | exact Rd.any | exact Rd.ptr rfl | exact Rd.map rfl | exact Rd.sl rfl | exact Rd.same rfl | exact Rd.int (by omega) | assumption | exact Rd.same (noBox_ints _) | exact Rd.same (noBox_strs _) | exact Rd.same (noBox_intss _) | exact Rd.same (noBox_spns _)) ?_ | fail)); done) rfl | exact Rb.map (Res.eqs (map_succ (by omega)) (noBox_set rfl _)) | exact Rb.map (Res.eqs (pos_succ (by omega)) (noBox_pos _ _)) | exact Rb.cells (Rds.eqs (map_succ (by omega)) (noBoxs_map (fun _ => rfl) _)) rfl | assumption) ?_ | fail)); done) rfl rfl
    intro k h3
    repeat' ((conv => whnf) <;> (first
      | refine SeqV.go mixed T0 ?_
      | exact True.intro
      | (refine Br.mk (fun _ => ?_) (fun _ => ?_) <;> (try (exfalso; omega)))
      | refine Get.exp rfl ?_
      | refine Idx.lst (by first | omega | assumption | exact hl _ _ | exact inK64 (by omega) (by omega) | (simp; omega) | (simp; done)) ?_
      | refine Idx.lstS (by intro _; rfl) (by first | omega | assumption | exact hl _ _ | exact inK64 (by omega) (by omega) | (simp; omega) | (simp; done)) ?_
      | refine IdxS.nat (by first | omega | assumption | exact hl _ _ | exact inK64 (by omega) (by omega) | (simp; omega) | (simp; done)) ?_
      | refine IdxO.nat (by first | omega | assumption | exact hl _ _ | exact inK64 (by omega) (by omega) | (simp; omega) | (simp; done)) ?_
      | refine QuietV.mk (by kernel_rfl) ?_
      | refine Put.exp rfl ?_
      | refine SrcV.exp rfl ?_
      | refine Chk.mk (by first | rfl | exact inK64 (by omega) (by omega) | omega | assumption) ?_
      | refine Chk.mk ⟨Nat.le_of_ble_eq_true rfl, Nat.le_of_ble_eq_true rfl⟩ ?_
      | refine Chk.grow (by intro _; rfl) 8 rfl (by omega) (by omega) ?_
      | refine Chk.room 8 rfl (by omega) (by omega) ?_
      | refine Chk.made 8 rfl (by omega) (by omega) (by omega) ?_
      | (refine Find.pos (fun _ _ => ?_) (fun _ => ?_) <;> (try (exfalso; exact (hv.1.2.2 k (by omega)).2 (by assumption))))))
    all_goals (conv => whnf)
    · refine ⟨k + 1, by omega, by omega, ?_⟩
      exact Lf.of2 [(0, _), (1, _)] [] (by (repeat (first | exact Ents.nil | refine Ents.cons rfl (by first | exact Rd.any | exact Rd.ptr rfl | exact Rd.map rfl | exact Rd.sl rfl | exact Rd.same rfl | exact Rd.int (by omega) | assumption | exact Rd.same (noBox_ints _) | exact Rd.same (noBox_strs _) | exact Rd.same (noBox_intss _) | exact Rd.same (noBox_spns _)) ?_ | fail)); done) (by (repeat (first | exact Bxs.nil | refine Bxs.cons rfl rfl rfl (by first | exact Rb.cells (Rds.same rfl) rfl | exact Rb.cells (Rds.same (noBoxs_map (fun _ => rfl) _)) rfl | exact Rb.cells (Rds.same (noBoxs_fill (fun _ => rfl) rfl)) rfl | exact Rb.cells (Rds.same (noBoxs_flat (fun _ => rfl) _)) rfl | exact Rb.map (Res.same (noBox_set rfl _)) | exact Rb.map (Res.same (noBox_pos _ _)) | exact Rb.map (Res.same (by simp)) | exact Rb.cells (by (repeat (first | exact Rds.nil | refine Rds.cons (by first | exact Rd.any | exact Rd.ptr rfl | exact Rd.map rfl | exact Rd.sl rfl | exact Rd.same rfl | exact Rd.int (by omega) | assumption | exact Rd.same (noBox_ints _) | exact Rd.same (noBox_strs _) | exact Rd.same (noBox_intss _) | exact Rd.same (noBox_spns _)) ?_ | fail)); done) rfl | exact Rb.map (Res.eqs (map_succ (by omega)) (noBox_set rfl _)) | exact Rb.map (Res.eqs (pos_succ (by omega)) (noBox_pos _ _)) | exact Rb.cells (Rds.eqs (map_succ (by omega)) (noBoxs_map (fun _ => rfl) _)) rfl | assumption) ?_ | fail)); done) rfl rfl
    refine LoopV.by mixed T0 (fun k : Nat => ⟨tmp 81 [(2, ints text), (3, .ptr 0 0), (7, .map 1), (10, .sl 2 0 (cnt p).names.length (cnt p).names.length 1 true), (45, strs (cnt p).names), (46, i64 (cnt p).names.length), (47, i64 (k : Int))], ⟨3, [(0, .cells [strs (cnt p).names, spns (cnt p).spans] true), (1, .map (pos t.classes 0)), (2, .cells (fillL (fun s => i64 (idxI t.classes s)) (i64 0) (cnt p).names k) true)]⟩⟩)
      (fun k => k ≤ (cnt p).names.length) (fun k => (cnt p).names.length - k) 0 (by omega) ?_ ?_
    · exact Lf.of2 [(0, _), (1, _), (2, _)] [] (by (repeat (first | exact Ents.nil | refine Ents.cons rfl (by first | exact Rd.any | exact Rd.ptr rfl | exact Rd.map rfl | exact Rd.sl rfl | exact Rd.same rfl | exact Rd.int (by omega) | assumption | exact Rd.same (noBox_ints _) | exact Rd.same (noBox_strs _) | exact Rd.same (noBox_intss _) | exact Rd.same (noBox_spns _)) ?_ | fail)); done) (by (repeat (first | exact Bxs.nil | refine Bxs.cons rfl rfl rfl (by first | exact Rb.cells (Rds.eqs (zeros_fill _) (noBoxs_fill (fun _ => rfl) rfl)) rfl | exact Rb.map (Res.eqs (by rw [List.take_of_length_le (by omega)]) (noBox_pos _ _)) | exact Rb.cells (Rds.same rfl) rfl | exact Rb.cells (Rds.same (noBoxs_map (fun _ => rfl) _)) rfl | exact Rb.cells (Rds.same (noBoxs_fill (fun _ => rfl) rfl)) rfl | exact Rb.cells (Rds.same (noBoxs_flat (fun _ => rfl) _)) rfl | exact Rb.map (Res.same (noBox_set rfl _)) | exact Rb.map (Res.same (noBox_pos _ _)) | exact Rb.map (Res.same (by simp)) | exact Rb.cells (by (repeat (first | exact Rds.nil | refine Rds.cons (by first | exact Rd.any | exact Rd.ptr rfl | exact Rd.map rfl | exact Rd.sl rfl | exact Rd.same rfl | exact Rd.int (by omega) | assumption | exact Rd.same (noBox_ints _) | exact Rd.same (noBox_strs _) | exact Rd.same (noBox_intss _) | exact Rd.same (noBox_spns _)) ?_ | fail)); done) rfl | exact Rb.map (Res.eqs (map_succ (by omega)) (noBox_set rfl _)) | exact Rb.map (Res.eqs (pos_succ (by omega)) (noBox_pos _ _)) | exact Rb.cells (Rds.eqs (map_succ (by omega)) (noBoxs_map (fun _ => rfl) _)) rfl | assumption) ?_ | fail)); done) rfl rfl
    intro k h4
    repeat' ((conv => whnf) <;> (first
      | refine SeqV.go mixed T0 ?_
      | exact True.intro
      | (refine Br.mk (fun _ => ?_) (fun _ => ?_) <;> (try (exfalso; omega)))
      | refine Get.exp rfl ?_
      | refine Idx.lst (by first | omega | assumption | exact hl _ _ | exact inK64 (by omega) (by omega) | (simp; omega) | (simp; done)) ?_
      | refine Idx.lstS (by intro _; rfl) (by first | omega | assumption | exact hl _ _ | exact inK64 (by omega) (by omega) | (simp; omega) | (simp; done)) ?_
      | refine IdxS.nat (by first | omega | assumption | exact hl _ _ | exact inK64 (by omega) (by omega) | (simp; omega) | (simp; done)) ?_
      | refine IdxO.nat (by first | omega | assumption | exact hl _ _ | exact inK64 (by omega) (by omega) | (simp; omega) | (simp; done)) ?_
      | refine QuietV.mk (by kernel_rfl) ?_
      | refine Put.exp rfl ?_
      | refine SrcV.exp rfl ?_
      | refine Chk.mk (by first | rfl | exact inK64 (by omega) (by omega) | omega | assumption) ?_
      | refine Chk.mk ⟨Nat.le_of_ble_eq_true rfl, Nat.le_of_ble_eq_true rfl⟩ ?_
      | refine Chk.grow (by intro _; rfl) 8 rfl (by omega) (by omega) ?_
      | refine Chk.room 8 rfl (by omega) (by omega) ?_
      | refine Chk.made 8 rfl (by omega) (by omega) (by omega) ?_
      | (refine Find.pos (fun _ _ => ?_) (fun _ => ?_))
      | refine Put.one (by rw [fill_length (by omega)]; omega) ?_))
    all_goals (conv => whnf)
    · rename_i _ hm
      refine ⟨k + 1, by omega, by omega, ?_⟩
      exact Lf.of2 [(0, _), (1, _), (2, _)] [] (by (repeat (first | exact Ents.nil | refine Ents.cons rfl (by first | exact Rd.any | exact Rd.ptr rfl | exact Rd.map rfl | exact Rd.sl rfl | exact Rd.same rfl | exact Rd.int (by omega) | assumption | exact Rd.same (noBox_ints _) | exact Rd.same (noBox_strs _) | exact Rd.same (noBox_intss _) | exact Rd.same (noBox_spns _)) ?_ | fail)); done) (by (repeat (first | exact Bxs.nil | refine Bxs.cons rfl rfl rfl (by first | exact Rb.cells (Rds.eqs (by rw [← fill_set (by omega)]; simp [idxI, hm]) (noBoxs_fill (fun _ => rfl) rfl)) rfl | exact Rb.cells (Rds.same rfl) rfl | exact Rb.cells (Rds.same (noBoxs_map (fun _ => rfl) _)) rfl | exact Rb.cells (Rds.same (noBoxs_fill (fun _ => rfl) rfl)) rfl | exact Rb.cells (Rds.same (noBoxs_flat (fun _ => rfl) _)) rfl | exact Rb.map (Res.same (noBox_set rfl _)) | exact Rb.map (Res.same (noBox_pos _ _)) | exact Rb.map (Res.same (by simp)) | exact Rb.cells (by (repeat (first | exact Rds.nil | refine Rds.cons (by first | exact Rd.any | exact Rd.ptr rfl | exact Rd.map rfl | exact Rd.sl rfl | exact Rd.same rfl | exact Rd.int (by omega) | assumption | exact Rd.same (noBox_ints _) | exact Rd.same (noBox_strs _) | exact Rd.same (noBox_intss _) | exact Rd.same (noBox_spns _)) ?_ | fail)); done) rfl | exact Rb.map (Res.eqs (map_succ (by omega)) (noBox_set rfl _)) | exact Rb.map (Res.eqs (pos_succ (by omega)) (noBox_pos _ _)) | exact Rb.cells (Rds.eqs (map_succ (by omega)) (noBoxs_map (fun _ => rfl) _)) rfl | assumption) ?_ | fail)); done) rfl rfl
    · rename_i hm
      refine ⟨k + 1, by omega, by omega, ?_⟩
      exact Lf.of2 [(0, _), (1, _), (2, _)] [] (by (repeat (first | exact Ents.nil | refine Ents.cons rfl (by first | exact Rd.any | exact Rd.ptr rfl | exact Rd.map rfl | exact Rd.sl rfl | exact Rd.same rfl | exact Rd.int (by omega) | assumption | exact Rd.same (noBox_ints _) | exact Rd.same (noBox_strs _) | exact Rd.same (noBox_intss _) | exact Rd.same (noBox_spns _)) ?_ | fail)); done) (by (repeat (first | exact Bxs.nil | refine Bxs.cons rfl rfl rfl (by first | exact Rb.cells (Rds.eqs (by rw [← fill_set (by omega)]; simp only [idxI, hm, if_false]; rfl) (noBoxs_fill (fun _ => rfl) rfl)) rfl | exact Rb.cells (Rds.same rfl) rfl | exact Rb.cells (Rds.same (noBoxs_map (fun _ => rfl) _)) rfl | exact Rb.cells (Rds.same (noBoxs_fill (fun _ => rfl) rfl)) rfl | exact Rb.cells (Rds.same (noBoxs_flat (fun _ => rfl) _)) rfl | exact Rb.map (Res.same (noBox_set rfl _)) | exact Rb.map (Res.same (noBox_pos _ _)) | exact Rb.map (Res.same (by simp)) | exact Rb.cells (by (repeat (first | exact Rds.nil | refine Rds.cons (by first | exact Rd.any | exact Rd.ptr rfl | exact Rd.map rfl | exact Rd.sl rfl | exact Rd.same rfl | exact Rd.int (by omega) | assumption | exact Rd.same (noBox_ints _) | exact Rd.same (noBox_strs _) | exact Rd.same (noBox_intss _) | exact Rd.same (noBox_spns _)) ?_ | fail)); done) rfl | exact Rb.map (Res.eqs (map_succ (by omega)) (noBox_set rfl _)) | exact Rb.map (Res.eqs (pos_succ (by omega)) (noBox_pos _ _)) | exact Rb.cells (Rds.eqs (map_succ (by omega)) (noBoxs_map (fun _ => rfl) _)) rfl | assumption) ?_ | fail)); done) rfl rfl
    refine LoopV.by mixed T0 (fun k : Nat => ⟨tmp 81 [(3, .ptr 0 0), (10, .sl 2 0 (cnt p).names.length (cnt p).names.length 1 true), (13, .sl 3 0 text.length text.length 1 true), (62, ints text), (63, i64 text.length), (64, i64 (k : Int))], ⟨4, [(0, .cells [strs (cnt p).names, spns (cnt p).spans] true), (2, .cells ((cnt p).names.map fun s => i64 (idxI t.classes s)) true), (3, .cells (fillL (fun c => i64 (idxI t.classes (nameV p c))) (i64 0) text k) true)]⟩⟩)
      (fun k => k ≤ text.length) (fun k => text.length - k) 0 (by omega) ?_ ?_
    · exact Lf.of2 [(0, _), (2, _), (3, _)] [] (by (repeat (first | exact Ents.nil | refine Ents.cons rfl (by first | exact Rd.any | exact Rd.ptr rfl | exact Rd.map rfl | exact Rd.sl rfl | exact Rd.same rfl | exact Rd.int (by omega) | assumption | exact Rd.same (noBox_ints _) | exact Rd.same (noBox_strs _) | exact Rd.same (noBox_intss _) | exact Rd.same (noBox_spns _)) ?_ | fail)); done) (by (repeat (first | exact Bxs.nil | refine Bxs.cons rfl rfl rfl (by first | exact Rb.cells (Rds.eqs (zeros_fill _) (noBoxs_fill (fun _ => rfl) rfl)) rfl | exact Rb.cells (Rds.eqs (fill_all (by omega)) (noBoxs_map (fun _ => rfl) _)) rfl | exact Rb.cells (Rds.same rfl) rfl | exact Rb.cells (Rds.same (noBoxs_map (fun _ => rfl) _)) rfl | exact Rb.cells (Rds.same (noBoxs_fill (fun _ => rfl) rfl)) rfl | exact Rb.cells (Rds.same (noBoxs_flat (fun _ => rfl) _)) rfl | exact Rb.map (Res.same (noBox_set rfl _)) | exact Rb.map (Res.same (noBox_pos _ _)) | exact Rb.map (Res.same (by simp)) | exact Rb.cells (by (repeat (first | exact Rds.nil | refine Rds.cons (by first | exact Rd.any | exact Rd.ptr rfl | exact Rd.map rfl | exact Rd.sl rfl | exact Rd.same rfl | exact Rd.int (by omega) | assumption | exact Rd.same (noBox_ints _) | exact Rd.same (noBox_strs _) | exact Rd.same (noBox_intss _) | exact Rd.same (noBox_spns _)) ?_ | fail)); done) rfl | exact Rb.map (Res.eqs (map_succ (by omega)) (noBox_set rfl _)) | exact Rb.map (Res.eqs (pos_succ (by omega)) (noBox_pos _ _)) | exact Rb.cells (Rds.eqs (map_succ (by omega)) (noBoxs_map (fun _ => rfl) _)) rfl | assumption) ?_ | fail)); done) rfl rfl
    intro k h5
    have hg := cnt_range (p := p) (text.getD k 0)
    repeat' ((conv => whnf) <;> (first
      | refine SeqV.go mixed T0 ?_
      | exact True.intro
      | (refine Br.mk (fun _ => ?_) (fun _ => ?_) <;> (try (exfalso; omega)))
      | refine Get.exp rfl ?_
      | refine Idx.lst (by first | omega | assumption | exact hl _ _ | exact inK64 (by omega) (by omega) | (simp; omega) | (simp; done)) ?_
      | refine Idx.lstS (by intro _; rfl) (by first | omega | assumption | exact hl _ _ | exact inK64 (by omega) (by omega) | (simp; omega) | (simp; done)) ?_
      | refine IdxS.nat (by first | omega | assumption | exact hl _ _ | exact inK64 (by omega) (by omega) | (simp; omega) | (simp; done)) ?_
      | refine IdxO.nat (by first | omega | assumption | exact hl _ _ | exact inK64 (by omega) (by omega) | (simp; omega) | (simp; done)) ?_
      | refine QuietV.mk (by kernel_rfl) ?_
      | refine Put.exp rfl ?_
      | refine SrcV.exp rfl ?_
      | refine Chk.mk (by first | rfl | exact inK64 (by omega) (by omega) | omega | assumption) ?_
      | refine Chk.mk ⟨Nat.le_of_ble_eq_true rfl, Nat.le_of_ble_eq_true rfl⟩ ?_
      | refine Chk.grow (by intro _; rfl) 8 rfl (by omega) (by omega) ?_
      | refine Chk.room 8 rfl (by omega) (by omega) ?_
      | refine Chk.made 8 rfl (by omega) (by omega) (by omega) ?_
      | refine Cll.pu (value_c (by first | omega | assumption | exact hl _ _ | exact inK64 (by omega) (by omega) | (simp; omega) | (simp; done)) (by first | omega | assumption | exact hl _ _ | exact inK64 (by omega) (by omega) | (simp; omega) | (simp; done))) ?_
      | refine Cal0.pu (value_c (by first | omega | assumption | exact hl _ _ | exact inK64 (by omega) (by omega) | (simp; omega) | (simp; done)) (by first | omega | assumption | exact hl _ _ | exact inK64 (by omega) (by omega) | (simp; omega) | (simp; done))) ?_
      | refine IdxO.at (getV (cnt p).spans text[k]).toNat (by rw [getD_get (by omega)] at hg; omega) (by rw [getD_get (by omega)] at hg; omega) ?_
      | refine Get.map (by rw [getD_get (by omega)] at hg; omega) ?_
      | refine Put.one (by rw [fill_length (by omega)]; omega) ?_))
    all_goals (conv => whnf)
    · refine ⟨k + 1, by omega, by omega, ?_⟩
      exact Lf.of2 [(0, _), (2, _), (3, _)] [] (by (repeat (first | exact Ents.nil | refine Ents.cons rfl (by first | exact Rd.any | exact Rd.ptr rfl | exact Rd.map rfl | exact Rd.sl rfl | exact Rd.same rfl | exact Rd.int (by omega) | assumption | exact Rd.same (noBox_ints _) | exact Rd.same (noBox_strs _) | exact Rd.same (noBox_intss _) | exact Rd.same (noBox_spns _)) ?_ | fail)); done) (by (repeat (first | exact Bxs.nil | refine Bxs.cons rfl rfl rfl (by first | exact Rb.cells (Rds.eqs (by rw [← fill_set (by omega)]; rfl) (noBoxs_fill (fun _ => rfl) rfl)) rfl | exact Rb.cells (Rds.same rfl) rfl | exact Rb.cells (Rds.same (noBoxs_map (fun _ => rfl) _)) rfl | exact Rb.cells (Rds.same (noBoxs_fill (fun _ => rfl) rfl)) rfl | exact Rb.cells (Rds.same (noBoxs_flat (fun _ => rfl) _)) rfl | exact Rb.map (Res.same (noBox_set rfl _)) | exact Rb.map (Res.same (noBox_pos _ _)) | exact Rb.map (Res.same (by simp)) | exact Rb.cells (by (repeat (first | exact Rds.nil | refine Rds.cons (by first | exact Rd.any | exact Rd.ptr rfl | exact Rd.map rfl | exact Rd.sl rfl | exact Rd.same rfl | exact Rd.int (by omega) | assumption | exact Rd.same (noBox_ints _) | exact Rd.same (noBox_strs _) | exact Rd.same (noBox_intss _) | exact Rd.same (noBox_spns _)) ?_ | fail)); done) rfl | exact Rb.map (Res.eqs (map_succ (by omega)) (noBox_set rfl _)) | exact Rb.map (Res.eqs (pos_succ (by omega)) (noBox_pos _ _)) | exact Rb.cells (Rds.eqs (map_succ (by omega)) (noBoxs_map (fun _ => rfl) _)) rfl | assumption) ?_ | fail)); done) rfl rfl
    · rw [if_pos hv]
      exact RetV.frz1 (l := namedV p t.classes text) (f := i64) rfl (by rw [fill_all (by omega)]; simp [namedV]) (by simp [namedV]) (fun _ => rfl) rfl
  · rename_i hv hpv
    have hcp : cnt p = ⟨[other], []⟩ := by simp [cnt, hpv]
    refine LoopV.by mixed T0 (fun k : Nat => ⟨tmp 81 [(2, ints text), (3, .ptr 0 0), (7, .map 1), (29, strs t.classes), (30, i64 t.classes.length), (31, i64 (k : Int))], ⟨2, [(0, .cells [strs (cnt p).names, spns (cnt p).spans] true), (1, .map (pos (t.classes.take k) 0))]⟩⟩)
      (fun k => k ≤ t.classes.length) (fun k => t.classes.length - k) 0 (by omega) ?_ ?_
    · exact Lf.of2 [(0, _), (1, _)] [9] (by (repeat (first | exact Ents.nil | refine Ents.cons rfl (by first | exact Rd.any | exact Rd.ptr rfl | exact Rd.map rfl | exact Rd.sl rfl | exact Rd.same rfl | exact Rd.int (by omega) | assumption | exact Rd.same (noBox_ints _) | exact Rd.same (noBox_strs _) | exact Rd.same (noBox_intss _) | exact Rd.same (noBox_spns _)) ?_ | fail)); done) (by (repeat (first | exact Bxs.nil | refine Bxs.cons rfl rfl rfl (by first | exact Rb.cells (by rw [hcp]; exact Rds.same (by simp only [cellsD, noBoxs, noBox_strs, noBox_spns, Bool.and_self])) rfl | exact Rb.cells (by rw [hcp]; exact Rds.cons (Rd.frz rfl rfl (Nat.le_of_ble_eq_true rfl) (Rds.cons (Rd.same rfl) Rds.nil)) (Rds.cons Rd.nil Rds.nil)) rfl | exact Rb.cells (Rds.same rfl) rfl | exact Rb.cells (Rds.same (noBoxs_map (fun _ => rfl) _)) rfl | exact Rb.cells (Rds.same (noBoxs_fill (fun _ => rfl) rfl)) rfl | exact Rb.cells (Rds.same (noBoxs_flat (fun _ => rfl) _)) rfl | exact Rb.map (Res.same (noBox_set rfl _)) | exact Rb.map (Res.same (noBox_pos _ _)) | exact Rb.map (Res.same (by simp)) | exact Rb.cells (by (repeat (first | exact Rds.nil | refine Rds.cons (by first | exact Rd.any | exact Rd.ptr rfl | exact Rd.map rfl | exact Rd.sl rfl | exact Rd.same rfl | exact Rd.int (by omega) | assumption | exact Rd.same (noBox_ints _) | exact Rd.same (noBox_strs _) | exact Rd.same (noBox_intss _) | exact Rd.same (noBox_spns _)) ?_ | fail)); done) rfl | exact Rb.map (Res.eqs (map_succ (by omega)) (noBox_set rfl _)) | exact Rb.map (Res.eqs (pos_succ (by omega)) (noBox_pos _ _)) | exact Rb.cells (Rds.eqs (map_succ (by omega)) (noBoxs_map (fun _ => rfl) _)) rfl | assumption) ?_ | fail)); done) rfl rfl
    intro k h3
    repeat' ((conv => whnf) <;> (first
      | refine SeqV.go mixed T0 ?_
      | exact True.intro
      | (refine Br.mk (fun _ => ?_) (fun _ => ?_) <;> (try (exfalso; omega)))
      | refine Get.exp rfl ?_
      | refine Idx.lst (by first | omega | assumption | exact hl _ _ | exact inK64 (by omega) (by omega) | (simp; omega) | (simp; done)) ?_
      | refine Idx.lstS (by intro _; rfl) (by first | omega | assumption | exact hl _ _ | exact inK64 (by omega) (by omega) | (simp; omega) | (simp; done)) ?_
      | refine IdxS.nat (by first | omega | assumption | exact hl _ _ | exact inK64 (by omega) (by omega) | (simp; omega) | (simp; done)) ?_
      | refine IdxO.nat (by first | omega | assumption | exact hl _ _ | exact inK64 (by omega) (by omega) | (simp; omega) | (simp; done)) ?_
      | refine QuietV.mk (by kernel_rfl) ?_
      | refine Put.exp rfl ?_
      | refine SrcV.exp rfl ?_
      | refine Chk.mk (by first | rfl | exact inK64 (by omega) (by omega) | omega | assumption) ?_
      | refine Chk.mk ⟨Nat.le_of_ble_eq_true rfl, Nat.le_of_ble_eq_true rfl⟩ ?_
      | refine Chk.grow (by intro _; rfl) 8 rfl (by omega) (by omega) ?_
      | refine Chk.room 8 rfl (by omega) (by omega) ?_
      | refine Chk.made 8 rfl (by omega) (by omega) (by omega) ?_
      | (refine Find.pos (fun _ _ => ?_) (fun _ => ?_) <;> (try (exfalso; exact (hv.1.2.2 k (by omega)).2 (by assumption))))))
    all_goals (conv => whnf)
    · refine ⟨k + 1, by omega, by omega, ?_⟩
      exact Lf.of2 [(0, _), (1, _)] [] (by (repeat (first | exact Ents.nil | refine Ents.cons rfl (by first | exact Rd.any | exact Rd.ptr rfl | exact Rd.map rfl | exact Rd.sl rfl | exact Rd.same rfl | exact Rd.int (by omega) | assumption | exact Rd.same (noBox_ints _) | exact Rd.same (noBox_strs _) | exact Rd.same (noBox_intss _) | exact Rd.same (noBox_spns _)) ?_ | fail)); done) (by (repeat (first | exact Bxs.nil | refine Bxs.cons rfl rfl rfl (by first | exact Rb.cells (Rds.same rfl) rfl | exact Rb.cells (Rds.same (noBoxs_map (fun _ => rfl) _)) rfl | exact Rb.cells (Rds.same (noBoxs_fill (fun _ => rfl) rfl)) rfl | exact Rb.cells (Rds.same (noBoxs_flat (fun _ => rfl) _)) rfl | exact Rb.map (Res.same (noBox_set rfl _)) | exact Rb.map (Res.same (noBox_pos _ _)) | exact Rb.map (Res.same (by simp)) | exact Rb.cells (by (repeat (first | exact Rds.nil | refine Rds.cons (by first | exact Rd.any | exact Rd.ptr rfl | exact Rd.map rfl | exact Rd.sl rfl | exact Rd.same rfl | exact Rd.int (by omega) | assumption | exact Rd.same (noBox_ints _) | exact Rd.same (noBox_strs _) | exact Rd.same (noBox_intss _) | exact Rd.same (noBox_spns _)) ?_ | fail)); done) rfl | exact Rb.map (Res.eqs (map_succ (by omega)) (noBox_set rfl _)) | exact Rb.map (Res.eqs (pos_succ (by omega)) (noBox_pos _ _)) | exact Rb.cells (Rds.eqs (map_succ (by omega)) (noBoxs_map (fun _ => rfl) _)) rfl | assumption) ?_ | fail)); done) rfl rfl
    refine LoopV.by mixed T0 (fun k : Nat => ⟨tmp 81 [(2, ints text), (3, .ptr 0 0), (7, .map 1), (10, .sl 2 0 (cnt p).names.length (cnt p).names.length 1 true), (45, strs (cnt p).names), (46, i64 (cnt p).names.length), (47, i64 (k : Int))], ⟨3, [(0, .cells [strs (cnt p).names, spns (cnt p).spans] true), (1, .map (pos t.classes 0)), (2, .cells (fillL (fun s => i64 (idxI t.classes s)) (i64 0) (cnt p).names k) true)]⟩⟩)
      (fun k => k ≤ (cnt p).names.length) (fun k => (cnt p).names.length - k) 0 (by omega) ?_ ?_
    · exact Lf.of2 [(0, _), (1, _), (2, _)] [] (by (repeat (first | exact Ents.nil | refine Ents.cons rfl (by first | exact Rd.any | exact Rd.ptr rfl | exact Rd.map rfl | exact Rd.sl rfl | exact Rd.same rfl | exact Rd.int (by omega) | assumption | exact Rd.same (noBox_ints _) | exact Rd.same (noBox_strs _) | exact Rd.same (noBox_intss _) | exact Rd.same (noBox_spns _)) ?_ | fail)); done) (by (repeat (first | exact Bxs.nil | refine Bxs.cons rfl rfl rfl (by first | exact Rb.cells (Rds.eqs (zeros_fill _) (noBoxs_fill (fun _ => rfl) rfl)) rfl | exact Rb.map (Res.eqs (by rw [List.take_of_length_le (by omega)]) (noBox_pos _ _)) | exact Rb.cells (Rds.same rfl) rfl | exact Rb.cells (Rds.same (noBoxs_map (fun _ => rfl) _)) rfl | exact Rb.cells (Rds.same (noBoxs_fill (fun _ => rfl) rfl)) rfl | exact Rb.cells (Rds.same (noBoxs_flat (fun _ => rfl) _)) rfl | exact Rb.map (Res.same (noBox_set rfl _)) | exact Rb.map (Res.same (noBox_pos _ _)) | exact Rb.map (Res.same (by simp)) | exact Rb.cells (by (repeat (first | exact Rds.nil | refine Rds.cons (by first | exact Rd.any | exact Rd.ptr rfl | exact Rd.map rfl | exact Rd.sl rfl | exact Rd.same rfl | exact Rd.int (by omega) | assumption | exact Rd.same (noBox_ints _) | exact Rd.same (noBox_strs _) | exact Rd.same (noBox_intss _) | exact Rd.same (noBox_spns _)) ?_ | fail)); done) rfl | exact Rb.map (Res.eqs (map_succ (by omega)) (noBox_set rfl _)) | exact Rb.map (Res.eqs (pos_succ (by omega)) (noBox_pos _ _)) | exact Rb.cells (Rds.eqs (map_succ (by omega)) (noBoxs_map (fun _ => rfl) _)) rfl | assumption) ?_ | fail)); done) rfl rfl
    intro k h4
    repeat' ((conv => whnf) <;> (first
      | refine SeqV.go mixed T0 ?_
      | exact True.intro
      | (refine Br.mk (fun _ => ?_) (fun _ => ?_) <;> (try (exfalso; omega)))
      | refine Get.exp rfl ?_
      | refine Idx.lst (by first | omega | assumption | exact hl _ _ | exact inK64 (by omega) (by omega) | (simp; omega) | (simp; done)) ?_
      | refine Idx.lstS (by intro _; rfl) (by first | omega | assumption | exact hl _ _ | exact inK64 (by omega) (by omega) | (simp; omega) | (simp; done)) ?_
      | refine IdxS.nat (by first | omega | assumption | exact hl _ _ | exact inK64 (by omega) (by omega) | (simp; omega) | (simp; done)) ?_
      | refine IdxO.nat (by first | omega | assumption | exact hl _ _ | exact inK64 (by omega) (by omega) | (simp; omega) | (simp; done)) ?_
      | refine QuietV.mk (by kernel_rfl) ?_
      | refine Put.exp rfl ?_
      | refine SrcV.exp rfl ?_
      | refine Chk.mk (by first | rfl | exact inK64 (by omega) (by omega) | omega | assumption) ?_
      | refine Chk.mk ⟨Nat.le_of_ble_eq_true rfl, Nat.le_of_ble_eq_true rfl⟩ ?_
      | refine Chk.grow (by intro _; rfl) 8 rfl (by omega) (by omega) ?_
      | refine Chk.room 8 rfl (by omega) (by omega) ?_
      | refine Chk.made 8 rfl (by omega) (by omega) (by omega) ?_
      | (refine Find.pos (fun _ _ => ?_) (fun _ => ?_))
      | refine Put.one (by rw [fill_length (by omega)]; omega) ?_))
    all_goals (conv => whnf)
    · rename_i _ hm
      refine ⟨k + 1, by omega, by omega, ?_⟩
      exact Lf.of2 [(0, _), (1, _), (2, _)] [] (by (repeat (first | exact Ents.nil | refine Ents.cons rfl (by first | exact Rd.any | exact Rd.ptr rfl | exact Rd.map rfl | exact Rd.sl rfl | exact Rd.same rfl | exact Rd.int (by omega) | assumption | exact Rd.same (noBox_ints _) | exact Rd.same (noBox_strs _) | exact Rd.same (noBox_intss _) | exact Rd.same (noBox_spns _)) ?_ | fail)); done) (by (repeat (first | exact Bxs.nil | refine Bxs.cons rfl rfl rfl (by first | exact Rb.cells (Rds.eqs (by rw [← fill_set (by omega)]; simp [idxI, hm]) (noBoxs_fill (fun _ => rfl) rfl)) rfl | exact Rb.cells (Rds.same rfl) rfl | exact Rb.cells (Rds.same (noBoxs_map (fun _ => rfl) _)) rfl | exact Rb.cells (Rds.same (noBoxs_fill (fun _ => rfl) rfl)) rfl | exact Rb.cells (Rds.same (noBoxs_flat (fun _ => rfl) _)) rfl | exact Rb.map (Res.same (noBox_set rfl _)) | exact Rb.map (Res.same (noBox_pos _ _)) | exact Rb.map (Res.same (by simp)) | exact Rb.cells (by (repeat (first | exact Rds.nil | refine Rds.cons (by first | exact Rd.any | exact Rd.ptr rfl | exact Rd.map rfl | exact Rd.sl rfl | exact Rd.same rfl | exact Rd.int (by omega) | assumption | exact Rd.same (noBox_ints _) | exact Rd.same (noBox_strs _) | exact Rd.same (noBox_intss _) | exact Rd.same (noBox_spns _)) ?_ | fail)); done) rfl | exact Rb.map (Res.eqs (map_succ (by omega)) (noBox_set rfl _)) | exact Rb.map (Res.eqs (pos_succ (by omega)) (noBox_pos _ _)) | exact Rb.cells (Rds.eqs (map_succ (by omega)) (noBoxs_map (fun _ => rfl) _)) rfl | assumption) ?_ | fail)); done) rfl rfl
    · rename_i hm
      refine ⟨k + 1, by omega, by omega, ?_⟩
      exact Lf.of2 [(0, _), (1, _), (2, _)] [] (by (repeat (first | exact Ents.nil | refine Ents.cons rfl (by first | exact Rd.any | exact Rd.ptr rfl | exact Rd.map rfl | exact Rd.sl rfl | exact Rd.same rfl | exact Rd.int (by omega) | assumption | exact Rd.same (noBox_ints _) | exact Rd.same (noBox_strs _) | exact Rd.same (noBox_intss _) | exact Rd.same (noBox_spns _)) ?_ | fail)); done) (by (repeat (first | exact Bxs.nil | refine Bxs.cons rfl rfl rfl (by first | exact Rb.cells (Rds.eqs (by rw [← fill_set (by omega)]; simp only [idxI, hm, if_false]; rfl) (noBoxs_fill (fun _ => rfl) rfl)) rfl | exact Rb.cells (Rds.same rfl) rfl | exact Rb.cells (Rds.same (noBoxs_map (fun _ => rfl) _)) rfl | exact Rb.cells (Rds.same (noBoxs_fill (fun _ => rfl) rfl)) rfl | exact Rb.cells (Rds.same (noBoxs_flat (fun _ => rfl) _)) rfl | exact Rb.map (Res.same (noBox_set rfl _)) | exact Rb.map (Res.same (noBox_pos _ _)) | exact Rb.map (Res.same (by simp)) | exact Rb.cells (by (repeat (first | exact Rds.nil | refine Rds.cons (by first | exact Rd.any | exact Rd.ptr rfl | exact Rd.map rfl | exact Rd.sl rfl | exact Rd.same rfl | exact Rd.int (by omega) | assumption | exact Rd.same (noBox_ints _) | exact Rd.same (noBox_strs _) | exact Rd.same (noBox_intss _) | exact Rd.same (noBox_spns _)) ?_ | fail)); done) rfl | exact Rb.map (Res.eqs (map_succ (by omega)) (noBox_set rfl _)) | exact Rb.map (Res.eqs (pos_succ (by omega)) (noBox_pos _ _)) | exact Rb.cells (Rds.eqs (map_succ (by omega)) (noBoxs_map (fun _ => rfl) _)) rfl | assumption) ?_ | fail)); done) rfl rfl
    refine LoopV.by mixed T0 (fun k : Nat => ⟨tmp 81 [(3, .ptr 0 0), (10, .sl 2 0 (cnt p).names.length (cnt p).names.length 1 true), (13, .sl 3 0 text.length text.length 1 true), (62, ints text), (63, i64 text.length), (64, i64 (k : Int))], ⟨4, [(0, .cells [strs (cnt p).names, spns (cnt p).spans] true), (2, .cells ((cnt p).names.map fun s => i64 (idxI t.classes s)) true), (3, .cells (fillL (fun c => i64 (idxI t.classes (nameV p c))) (i64 0) text k) true)]⟩⟩)
      (fun k => k ≤ text.length) (fun k => text.length - k) 0 (by omega) ?_ ?_
    · exact Lf.of2 [(0, _), (2, _), (3, _)] [] (by (repeat (first | exact Ents.nil | refine Ents.cons rfl (by first | exact Rd.any | exact Rd.ptr rfl | exact Rd.map rfl | exact Rd.sl rfl | exact Rd.same rfl | exact Rd.int (by omega) | assumption | exact Rd.same (noBox_ints _) | exact Rd.same (noBox_strs _) | exact Rd.same (noBox_intss _) | exact Rd.same (noBox_spns _)) ?_ | fail)); done) (by (repeat (first | exact Bxs.nil | refine Bxs.cons rfl rfl rfl (by first | exact Rb.cells (Rds.eqs (zeros_fill _) (noBoxs_fill (fun _ => rfl) rfl)) rfl | exact Rb.cells (Rds.eqs (fill_all (by omega)) (noBoxs_map (fun _ => rfl) _)) rfl | exact Rb.cells (Rds.same rfl) rfl | exact Rb.cells (Rds.same (noBoxs_map (fun _ => rfl) _)) rfl | exact Rb.cells (Rds.same (noBoxs_fill (fun _ => rfl) rfl)) rfl | exact Rb.cells (Rds.same (noBoxs_flat (fun _ => rfl) _)) rfl | exact Rb.map (Res.same (noBox_set rfl _)) | exact Rb.map (Res.same (noBox_pos _ _)) | exact Rb.map (Res.same (by simp)) | exact Rb.cells (by (repeat (first | exact Rds.nil | refine Rds.cons (by first | exact Rd.any | exact Rd.ptr rfl | exact Rd.map rfl | exact Rd.sl rfl | exact Rd.same rfl | exact Rd.int (by omega) | assumption | exact Rd.same (noBox_ints _) | exact Rd.same (noBox_strs _) | exact Rd.same (noBox_intss _) | exact Rd.same (noBox_spns _)) ?_ | fail)); done) rfl | exact Rb.map (Res.eqs (map_succ (by omega)) (noBox_set rfl _)) | exact Rb.map (Res.eqs (pos_succ (by omega)) (noBox_pos _ _)) | exact Rb.cells (Rds.eqs (map_succ (by omega)) (noBoxs_map (fun _ => rfl) _)) rfl | assumption) ?_ | fail)); done) rfl rfl
    intro k h5
    have hg := cnt_range (p := p) (text.getD k 0)
    repeat' ((conv => whnf) <;> (first
      | refine SeqV.go mixed T0 ?_
      | exact True.intro
      | (refine Br.mk (fun _ => ?_) (fun _ => ?_) <;> (try (exfalso; omega)))
      | refine Get.exp rfl ?_
      | refine Idx.lst (by first | omega | assumption | exact hl _ _ | exact inK64 (by omega) (by omega) | (simp; omega) | (simp; done)) ?_
      | refine Idx.lstS (by intro _; rfl) (by first | omega | assumption | exact hl _ _ | exact inK64 (by omega) (by omega) | (simp; omega) | (simp; done)) ?_
      | refine IdxS.nat (by first | omega | assumption | exact hl _ _ | exact inK64 (by omega) (by omega) | (simp; omega) | (simp; done)) ?_
      | refine IdxO.nat (by first | omega | assumption | exact hl _ _ | exact inK64 (by omega) (by omega) | (simp; omega) | (simp; done)) ?_
      | refine QuietV.mk (by kernel_rfl) ?_
      | refine Put.exp rfl ?_
      | refine SrcV.exp rfl ?_
      | refine Chk.mk (by first | rfl | exact inK64 (by omega) (by omega) | omega | assumption) ?_
      | refine Chk.mk ⟨Nat.le_of_ble_eq_true rfl, Nat.le_of_ble_eq_true rfl⟩ ?_
      | refine Chk.grow (by intro _; rfl) 8 rfl (by omega) (by omega) ?_
      | refine Chk.room 8 rfl (by omega) (by omega) ?_
      | refine Chk.made 8 rfl (by omega) (by omega) (by omega) ?_
      | refine Cll.pu (value_c (by first | omega | assumption | exact hl _ _ | exact inK64 (by omega) (by omega) | (simp; omega) | (simp; done)) (by first | omega | assumption | exact hl _ _ | exact inK64 (by omega) (by omega) | (simp; omega) | (simp; done))) ?_
      | refine Cal0.pu (value_c (by first | omega | assumption | exact hl _ _ | exact inK64 (by omega) (by omega) | (simp; omega) | (simp; done)) (by first | omega | assumption | exact hl _ _ | exact inK64 (by omega) (by omega) | (simp; omega) | (simp; done))) ?_
      | refine IdxO.at (getV (cnt p).spans text[k]).toNat (by rw [getD_get (by omega)] at hg; omega) (by rw [getD_get (by omega)] at hg; omega) ?_
      | refine Get.map (by rw [getD_get (by omega)] at hg; omega) ?_
      | refine Put.one (by rw [fill_length (by omega)]; omega) ?_))
    all_goals (conv => whnf)
    · refine ⟨k + 1, by omega, by omega, ?_⟩
      exact Lf.of2 [(0, _), (2, _), (3, _)] [] (by (repeat (first | exact Ents.nil | refine Ents.cons rfl (by first | exact Rd.any | exact Rd.ptr rfl | exact Rd.map rfl | exact Rd.sl rfl | exact Rd.same rfl | exact Rd.int (by omega) | assumption | exact Rd.same (noBox_ints _) | exact Rd.same (noBox_strs _) | exact Rd.same (noBox_intss _) | exact Rd.same (noBox_spns _)) ?_ | fail)); done) (by (repeat (first | exact Bxs.nil | refine Bxs.cons rfl rfl rfl (by first | exact Rb.cells (Rds.eqs (by rw [← fill_set (by omega)]; rfl) (noBoxs_fill (fun _ => rfl) rfl)) rfl | exact Rb.cells (Rds.same rfl) rfl | exact Rb.cells (Rds.same (noBoxs_map (fun _ => rfl) _)) rfl | exact Rb.cells (Rds.same (noBoxs_fill (fun _ => rfl) rfl)) rfl | exact Rb.cells (Rds.same (noBoxs_flat (fun _ => rfl) _)) rfl | exact Rb.map (Res.same (noBox_set rfl _)) | exact Rb.map (Res.same (noBox_pos _ _)) | exact Rb.map (Res.same (by simp)) | exact Rb.cells (by (repeat (first | exact Rds.nil | refine Rds.cons (by first | exact Rd.any | exact Rd.ptr rfl | exact Rd.map rfl | exact Rd.sl rfl | exact Rd.same rfl | exact Rd.int (by omega) | assumption | exact Rd.same (noBox_ints _) | exact Rd.same (noBox_strs _) | exact Rd.same (noBox_intss _) | exact Rd.same (noBox_spns _)) ?_ | fail)); done) rfl | exact Rb.map (Res.eqs (map_succ (by omega)) (noBox_set rfl _)) | exact Rb.map (Res.eqs (pos_succ (by omega)) (noBox_pos _ _)) | exact Rb.cells (Rds.eqs (map_succ (by omega)) (noBoxs_map (fun _ => rfl) _)) rfl | assumption) ?_ | fail)); done) rfl rfl
    · rw [if_pos hv]
      exact RetV.frz1 (l := namedV p t.classes text) (f := i64) rfl (by rw [fill_all (by omega)]; simp [namedV]) (by simp [namedV]) (fun _ => rfl) rfl
  · rename_i hv
    rw [if_neg hv]
    exact ⟨.nil⟩
end Go.Proofs.YtgcjjodbmcnhkaaGreatDoor
