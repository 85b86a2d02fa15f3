/-
  Contracts of functions over data: sorting few numbers, finding one.
-/
import Derived.Test.YtbjngeioomjklaaGreatDoorC1
namespace Go.Proofs.YtbjngeioomjklaaGreatDoor
open Go Go.Am Classical
set_option maxRecDepth 100000
set_option linter.unusedSectionVars false
variable [GT]
theorem Index_c {l : List Int} {x : Int} (hl : l.length ≤ 1000000) : Pu Tryz.prog 132 [ints l, i64 x] (i64 (if x ∈ l then l.idxOf x else -1)) := by
  refine Pu.of_v mixed T0 Tryz.func132 rfl rfl (by simp [noBox, noBoxs, noBox_ints]) ?_
  repeat' ((conv => whnf) <;> (first | refine SeqV.go mixed T0 ?_ | exact True.intro | (refine Br.mk (fun _ => ?_) (fun _ => ?_) <;> (try (exfalso; omega))) | refine stq ?_))
  refine LoopV.by mixed T0 (fun k : Nat => ⟨tmp 19 [(0, ints l), (1, i64 x), (7, i64 l.length), (8, i64 (k : Int))], ⟨0,[]⟩⟩)
    (fun k => k ≤ l.length ∧ ¬ x ∈ l.take k) (fun k => l.length - k) 0 ⟨by omega, by simp⟩ ?_ ?_
  · exact Lf.of2 [] [] enA bxA rfl rfl
  intro k ⟨h3, h4⟩
  repeat' ((conv => whnf) <;> (first | refine SeqV.go mixed T0 ?_ | exact True.intro | (refine Br.mk (fun _ => ?_) (fun _ => ?_) <;> (try (exfalso; omega))) | refine stq ?_))
  all_goals (conv => whnf)
  all_goals first
    | (refine RetV.int ?_
       have hk : k < l.length := by omega
       have e : x = l[k] := by assumption
       rw [if_pos (by rw [e]; exact List.getElem_mem hk)]
       have h1 : l.idxOf x ≤ k := Nat.le_of_not_lt fun hlt => by
         have := List.not_of_lt_findIdx hlt
         simp [e] at this
       have h2 : ¬ l.idxOf x < k := fun hlt => h4 (by rw [List.mem_take_iff_getElem]; exact ⟨l.idxOf x, by omega, by simp⟩)
       congr 1
       omega)
    | exact RetV.int (by rw [List.take_of_length_le (by omega)] at h4; rw [if_neg h4])
    | (refine ⟨k + 1, ⟨by omega, by rw [take_succ_eq (by omega)]; simp only [List.mem_append, List.mem_singleton, not_or]; exact ⟨h4, by assumption⟩⟩, by omega, ?_⟩
       exact Lf.of2 [] [] enA bxA rfl rfl)
theorem Contains_c {l : List Int} {x : Int} (hl : l.length ≤ 1000000) : Pu Tryz.prog 92 [ints l, i64 x] (boo (decide (x ∈ l))) := by
  refine Pu.of_v mixed T0 Tryz.func92 rfl rfl (by simp [noBox, noBoxs, noBox_ints]) ?_
  repeat' ((conv => whnf) <;> (first | refine SeqV.go mixed T0 ?_ | exact True.intro | (refine Br.mk (fun _ => ?_) (fun _ => ?_) <;> (try (exfalso; omega))) | refine stq ?_ | refine Cll.pu (Index_c sd) ?_ | refine Cal0.pu (Index_c sd) ?_))
  all_goals (conv => whnf)
  all_goals first
    | exact RetV.yes (by rename_i hc; by_cases hm : x ∈ l; · exact hm
                         · rw [if_neg hm] at hc; omega)
    | exact RetV.no (by rename_i hc; intro hm; rw [if_pos hm] at hc; omega)
theorem isNaN_c {x : Int} : Pu Tryz.prog 136 [i64 x] (boo false) := by
  refine Pu.of_v mixed T0 Tryz.func136 rfl rfl rfl ?_
  repeat' ((conv => whnf) <;> (first | refine SeqV.go mixed T0 ?_ | exact True.intro | (refine Br.mk (fun _ => ?_) (fun _ => ?_) <;> (try (exfalso; omega))) | refine stq ?_))
  all_goals (conv => whnf)
  exact RetV.same rfl rfl
theorem Less_c {x y : Int} : Pu Tryz.prog 159 [i64 x, i64 y] (boo (decide (x < y))) := by
  refine Pu.of_v mixed T0 Tryz.func159 rfl rfl rfl ?_
  repeat' ((conv => whnf) <;> (first | refine SeqV.go mixed T0 ?_ | exact True.intro | (refine Br.mk (fun _ => ?_) (fun _ => ?_) <;> (try (exfalso; omega))) | refine stq ?_ | refine Cll.pu (isNaN_c) ?_ | refine Cal0.pu (isNaN_c) ?_))
  all_goals (conv => whnf)
  all_goals first
    | exact RetV.yes (by assumption)
    | exact RetV.no (by assumption)
def swp (l : List Nat) (j : Nat) : List Nat := (l.set (j + 1) (l.getD j 0)).set j (l.getD (j + 1) 0)
def inn : List Nat → Nat → List Nat
  | l, 0 => l
  | l, j + 1 => if l.getD (j + 1) 0 < l.getD j 0 then inn (swp l j) j else l
def insr (l : List Nat) : Nat → List Nat
  | 0 => l
  | i + 1 => inn (insr l i) (i + 1)
def srt (l : List Nat) : List Nat := insr l (l.length - 1)
@[simp] theorem swp_len (l : List Nat) (j : Nat) : (swp l j).length = l.length := by simp [swp]
@[simp] theorem inn_len : ∀ (j : Nat) (l : List Nat), (inn l j).length = l.length
  | 0, l => rfl
  | j + 1, l => by unfold inn; split
                   · rw [inn_len j, swp_len]
                   · rfl
@[simp] theorem insr_len (l : List Nat) : ∀ i, (insr l i).length = l.length
  | 0 => rfl
  | i + 1 => by simp [insr, insr_len l i]
abbrev natC (k : Nat) : D := i64 (k : Int)
theorem inss_c {l : List Nat} (hl : l.length ≤ 12) (hn : l ≠ []) : AC1 Tryz.prog 153 [.sl 0 0 l.length l.length 1 false, i64 0, i64 l.length] ⟨1,[(0, .cells (l.map natC) false)]⟩ (.tup []) ⟨4,[(0, .cells ((srt l).map natC) false)]⟩ := by
  have h0 : 0 < l.length := List.length_pos_iff.2 hn
  refine AC1.of_vl mixed T0 Tryz.func153 rfl rfl ?_
  repeat' ((conv => whnf) <;> (first | refine SeqV.go mixed T0 ?_ | exact True.intro | (refine Br.mk (fun _ => ?_) (fun _ => ?_) <;> (try (exfalso; omega))) | refine stq ?_))
  refine LoopV.by mixed T0 (fun i : Nat => ⟨tmp 49 [(0, .sl 0 0 l.length l.length 1 false), (1, i64 0), (2, i64 l.length), (6, i64 ((i + 1 : Nat) : Int))], ⟨1,[(0, .cells ((insr l i).map natC) false)]⟩⟩)
    (fun i => i < l.length) (fun i => l.length - i) 0 h0 ?_ ?_
  · exact Lf.of2 [] [] enA bxA rfl rfl
  intro i h1
  by_cases h2 : i + 1 < l.length
  · repeat' ((conv => whnf) <;> (first | refine SeqV.go mixed T0 ?_ | exact True.intro | (refine Br.mk (fun _ => ?_) (fun _ => ?_) <;> (try (exfalso; omega))) | refine stq ?_ | fail))
    refine LoopV.by2 mixed T0 (fun (j : Nat) (cur : List Nat) => ⟨tmp 49 [(0, .sl 0 0 l.length l.length 1 false), (1, i64 0), (2, i64 l.length), (6, i64 ((i + 1 : Nat) : Int)), (7, i64 (j : Int))], ⟨1,[(0, .cells (cur.map natC) false)]⟩⟩)
      (fun j cur => j < l.length ∧ cur.length = l.length ∧ inn cur j = insr l (i + 1)) (fun j _ => j) (i + 1) (insr l i) ⟨h2, by simp, rfl⟩ ?_ ?_
    · exact Lf.of2 [] [] enA bxA rfl rfl
    intro j cur ⟨h3, h4, h5⟩
    cases j with
    | zero =>
      repeat' ((conv => whnf) <;> (first | refine SeqV.go mixed T0 ?_ | exact True.intro | (refine Br.mk (fun _ => ?_) (fun _ => ?_) <;> (try (exfalso; omega))) | refine stq ?_ | refine DrawV.by (id := 4) mixed T0 [0,0,3,7,15,15,63,127,15,15,527,1807,3855,8191,16383] (by kernel_rfl) ?_ | fail))
      all_goals (conv => whnf)
      refine ⟨i + 1, h2, by omega, ?_⟩
      exact Lf.of2 [] [] enA (by (repeat (first | exact Bxs.nil | refine Bxs.cons rfl rfl rfl (by first | exact Rb.cells (Rds.eqs (by rw [← h5]; rfl) (noBoxs_map (fun _ => rfl) _)) rfl | exact rbB | exact Rb.cells rdsA rfl | exact rbC | fail) ?_ | fail)); (first | done | fail)) rfl rfl
    | succ j =>
      repeat' ((conv => whnf) <;> (first | refine SeqV.go mixed T0 ?_ | exact True.intro | (refine Br.mk (fun _ => ?_) (fun _ => ?_) <;> (try (exfalso; omega))) | refine stq ?_ | refine Cll.dec (Less_c) (fun _ => ?_) (fun _ => ?_) | refine Cal0.dec (Less_c) (fun _ => ?_) (fun _ => ?_) | refine DrawV.by (id := 4) mixed T0 [0,0,3,7,15,15,63,127,15,15,527,1807,3855,8191,16383] (by kernel_rfl) ?_ | refine DrawV.by (id := 6) mixed T0 [0,0,0,0,8,0,0,64,224,480,0,0,3072,7168,16355,32739,65535,131071] (by kernel_rfl) ?_ | refine IdxO.at (j + 1) (by omega) (by omega) ?_ | refine IdxO.at j (by omega) (by omega) ?_ | refine Get.map (by omega) ?_ | refine Put.one (by simp; omega) ?_ | fail))
      all_goals (conv => whnf)
      · have hlt : cur[j + 1] < cur[j] := by omega
        have e1 : cur.getD j 0 = cur[j] := getD_get (by omega)
        have e2 : cur.getD (j + 1) 0 = cur[j + 1] := getD_get (by omega)
        have e3 : ((cur.map natC).set (j + 1) (natC cur[j])).set j (natC cur[j + 1]) = (swp cur j).map natC := by
          rw [swp, e1, e2, List.map_set, List.map_set]
        refine ⟨j, swp cur j, ⟨by omega, by simp [h4], ?_⟩, by omega, ?_⟩
        · rw [← h5]; simp only [inn, e1, e2, hlt, if_true]
        exact Lf.of2 [] [] enA (by (repeat (first | exact Bxs.nil | refine Bxs.cons rfl rfl rfl (by first | exact Rb.cells (Rds.eqs e3 (noBoxs_map (fun _ => rfl) _)) rfl | exact rbB | exact Rb.cells rdsA rfl | exact rbC | fail) ?_ | fail)); (first | done | fail)) rfl rfl
      · have hlt : ¬ cur[j + 1] < cur[j] := by omega
        have e1 : cur.getD j 0 = cur[j] := getD_get (by omega)
        have e2 : cur.getD (j + 1) 0 = cur[j + 1] := getD_get (by omega)
        have e3 : cur = insr l (i + 1) := by rw [← h5]; simp only [inn, e1, e2, hlt, if_false]
        refine ⟨i + 1, h2, by omega, ?_⟩
        exact Lf.of2 [] [] enA (by (repeat (first | exact Bxs.nil | refine Bxs.cons rfl rfl rfl (by first | exact Rb.cells (Rds.eqs (by rw [← e3]) (noBoxs_map (fun _ => rfl) _)) rfl | exact rbB | exact Rb.cells rdsA rfl | exact rbC | fail) ?_ | fail)); (first | done | fail)) rfl rfl
  · repeat' ((conv => whnf) <;> (first | refine SeqV.go mixed T0 ?_ | exact True.intro | (refine Br.mk (fun _ => ?_) (fun _ => ?_) <;> (try (exfalso; omega))) | refine stq ?_ | fail))
    all_goals (conv => whnf)
    have e : srt l = insr l i := by rw [srt, show l.length - 1 = i from by omega]
    exact ⟨Or.inl rfl, rfl, by rw [e]⟩
end Go.Proofs.YtbjngeioomjklaaGreatDoor
