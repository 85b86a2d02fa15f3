/-
  The statements StandardPairs, StandardEnds and StandardSpaces, over data.
-/
import Derived.Test.YtbjngeioomjklaaGreatDoorV1
namespace Go.Proofs.YtbjngeioomjklaaGreatDoor
open Go Go.Am Classical
set_option maxRecDepth 100000
set_option linter.unusedSectionVars false
theorem pairs_k {k : Int} {cl : List Str} {acts : List Int} {LN LM RN RM : List (List Nat)} {cr lf : Nat} (hk : 1 ≤ k ∧ k ≤ 4) (K : Kd4 k cl acts LN LM RN RM cr lf) {l : List Int} : @Pu gtR Tryz.prog 6 [i64 k, ints l] (boo true) := by
  letI := gtR
  refine Pu.of_v mixed T0 Tryz.func6 rfl rfl (by simp [noBoxs, noBox, noBox_ints]) ?_
  by_cases h40 : l.length ≤ 40
  · by_cases hc : CL l cl.length
    · have hok : okL (tbl cl acts LN LM RN RM) l := ⟨hc, K.tv⟩
      repeat' ((conv => whnf) <;> (first | refine SeqV.go mixed T0 ?_ | exact True.intro | (refine Br.mk (fun _ => ?_) (fun _ => ?_) <;> (try (exfalso; omega))) | refine stq ?_ | (refine Cll.dec (known_c (k := k)) (fun _ => ?_) (fun _ => ?_) <;> (try (exfalso; omega))) | refine Cll.pu K.cls ?_ | (refine Cll.dec (rcl_c (by omega)) (fun _ => ?_) (fun _ => ?_) <;> (try contradiction)) | refine Cll.pu K.crc ?_ | refine Cll.pu K.lfc ?_ | refine Cll.pu K.tab ?_ | fail))
      all_goals (conv => whnf)
      refine LoopV.by mixed T0 (fun m : Nat => ⟨tmp 80 [(1, ints l), (5, i64 (cr : Int)), (6, i64 (lf : Int)), (7, .ptr 0 0), (8, i64 ((m : Int) + 1))], ⟨1,[(0, .cells [strs cl, ints acts, intss (toII LN), intss (toII LM), intss (toII RN), intss (toII RM)] true)]⟩⟩)
        (fun m => m = 0 ∨ m + 1 ≤ l.length) (fun m => l.length - m) 0 (by omega) ?_ ?_
      · exact Lf.of2 [(0, _)] [] enA bxA rfl rfl
      intro m h4
      by_cases hm : m + 1 < l.length
      · obtain ⟨A, B, hd, hp⟩ : ∃ A B : Int, Pu Tryz.prog 25 [tblD (tbl cl acts LN LM RN RM), ints l, i64 ((m : Int) + 1)] (.tup [i64 A, i64 B]) ∧ (l[m] = (cr : Int) → l[m + 1] = (lf : Int) → A = 1) ∧ (l[m] = (lf : Int) → A ≠ 1) :=
          ⟨_, _, bDecide_c (k := m + 1) K.ok (by omega) hok (by omega), pair_ok K.tv K.pair hc hm⟩
        repeat' ((conv => whnf) <;> (first | refine SeqV.go mixed T0 ?_ | exact True.intro | (refine Br.mk (fun _ => ?_) (fun _ => ?_) <;> (try (exfalso; omega))) | refine stq ?_ | refine Cll.pu hd ?_ | refine Idx.at m (by omega) (by omega) ?_ | refine Idx.at (m + 1) (by omega) (by omega) ?_ | fail))
        all_goals (conv => whnf)
        all_goals first
          | exact absurd (hp.1 (by assumption) (by assumption)) (by assumption)
          | exact absurd (by assumption) (hp.2 (by assumption))
          | exact absurd (hp.2 (by assumption) (by assumption)) (by assumption)
          | (refine ⟨m + 1, by omega, by omega, ?_⟩
             exact Lf.of2 [(0, _)] [] enA bxA rfl rfl)
      · repeat' ((conv => whnf) <;> (first | refine SeqV.go mixed T0 ?_ | exact True.intro | (refine Br.mk (fun _ => ?_) (fun _ => ?_) <;> (try (exfalso; omega))) | refine stq ?_ | refine Cll.pu awake_c ?_ | fail))
        all_goals (conv => whnf)
        exact RetV.same rfl rfl
    · repeat' ((conv => whnf) <;> (first | refine SeqV.go mixed T0 ?_ | exact True.intro | (refine Br.mk (fun _ => ?_) (fun _ => ?_) <;> (try (exfalso; omega))) | refine stq ?_ | (refine Cll.dec (known_c (k := k)) (fun _ => ?_) (fun _ => ?_) <;> (try (exfalso; omega))) | refine Cll.pu K.cls ?_ | (refine Cll.dec (rcl_c (by omega)) (fun _ => ?_) (fun _ => ?_) <;> (try contradiction)) | refine Cll.pu awake_c ?_ | fail))
      all_goals (conv => whnf)
      exact RetV.same rfl rfl
  · repeat' ((conv => whnf) <;> (first | refine SeqV.go mixed T0 ?_ | exact True.intro | (refine Br.mk (fun _ => ?_) (fun _ => ?_) <;> (try (exfalso; omega))) | refine stq ?_ | refine Cll.pu awake_c ?_ | fail))
    all_goals (conv => whnf)
    exact RetV.same rfl rfl
theorem pairs_no {k : Int} (hk : ¬ (1 ≤ k ∧ k ≤ 4)) {l : List Int} : @Pu gtR Tryz.prog 6 [i64 k, ints l] (boo true) := by
  letI := gtR
  refine Pu.of_v mixed T0 Tryz.func6 rfl rfl (by simp [noBoxs, noBox, noBox_ints]) ?_
  repeat' ((conv => whnf) <;> (first | refine SeqV.go mixed T0 ?_ | exact True.intro | (refine Br.mk (fun _ => ?_) (fun _ => ?_) <;> (try (exfalso; omega))) | refine stq ?_ | (refine Cll.dec (known_c (k := k)) (fun _ => ?_) (fun _ => ?_) <;> (try contradiction)) | refine Cll.pu awake_c ?_ | fail))
  all_goals (conv => whnf)
  all_goals exact RetV.same rfl rfl
theorem ends_k {k : Int} {cl : List Str} {acts : List Int} {LN LM RN RM : List (List Nat)} {cr lf : Nat} (hk : 1 ≤ k ∧ k ≤ 3) (K : Kd4 k cl acts LN LM RN RM cr lf) (hb : endB acts LN LM RN RM cl.length = true) {l : List Int} : @Pu gtR Tryz.prog 7 [i64 k, ints l] (boo true) := by
  letI := gtR
  refine Pu.of_v mixed T0 Tryz.func7 rfl rfl (by simp [noBoxs, noBox, noBox_ints]) ?_
  by_cases h40 : 1 ≤ l.length ∧ l.length ≤ 40
  · by_cases hc : CL l cl.length
    · have hok : okL (tbl cl acts LN LM RN RM) l := ⟨hc, K.tv⟩
      have he := end_ok K.tv hb hc (by omega)
      obtain ⟨A, B, hd, hA⟩ : ∃ A B : Int, Pu Tryz.prog 25 [tblD (tbl cl acts LN LM RN RM), ints l, i64 0] (.tup [i64 A, i64 B]) ∧ A ≠ 1 := ⟨_, _, bDecide_c (k := 0) K.ok (by omega) hok (by omega), he.1⟩
      obtain ⟨A2, B2, hd2, hA2⟩ : ∃ A B : Int, Pu Tryz.prog 25 [tblD (tbl cl acts LN LM RN RM), ints l, i64 (l.length : Int)] (.tup [i64 A, i64 B]) ∧ A ≠ 1 := ⟨_, _, bDecide_c (k := l.length) K.ok (by omega) hok (by omega), he.2⟩
      repeat' ((conv => whnf) <;> (first | refine SeqV.go mixed T0 ?_ | exact True.intro | (refine Br.mk (fun _ => ?_) (fun _ => ?_) <;> (try (exfalso; omega))) | refine stq ?_ | refine Cll.pu K.cls ?_ | (refine Cll.dec (rcl_c (by omega)) (fun _ => ?_) (fun _ => ?_) <;> (try contradiction)) | refine Cll.pu K.tab ?_ | refine Cll.pu hd ?_ | refine Cll.pu hd2 ?_ | refine Cll.pu awake_c ?_ | fail))
      all_goals (conv => whnf)
      exact RetV.same rfl rfl
    · repeat' ((conv => whnf) <;> (first | refine SeqV.go mixed T0 ?_ | exact True.intro | (refine Br.mk (fun _ => ?_) (fun _ => ?_) <;> (try (exfalso; omega))) | refine stq ?_ | refine Cll.pu K.cls ?_ | (refine Cll.dec (rcl_c (by omega)) (fun _ => ?_) (fun _ => ?_) <;> (try contradiction)) | refine Cll.pu awake_c ?_ | fail))
      all_goals (conv => whnf)
      exact RetV.same rfl rfl
  · repeat' ((conv => whnf) <;> (first | refine SeqV.go mixed T0 ?_ | exact True.intro | (refine Br.mk (fun _ => ?_) (fun _ => ?_) <;> (try (exfalso; omega))) | refine stq ?_ | refine Cll.pu awake_c ?_ | fail))
    all_goals (conv => whnf)
    all_goals exact RetV.same rfl rfl
theorem ends_no {k : Int} (hk : ¬ (1 ≤ k ∧ k ≤ 3)) {l : List Int} : @Pu gtR Tryz.prog 7 [i64 k, ints l] (boo true) := by
  letI := gtR
  refine Pu.of_v mixed T0 Tryz.func7 rfl rfl (by simp [noBoxs, noBox, noBox_ints]) ?_
  repeat' ((conv => whnf) <;> (first | refine SeqV.go mixed T0 ?_ | exact True.intro | (refine Br.mk (fun _ => ?_) (fun _ => ?_) <;> (try (exfalso; omega))) | refine stq ?_ | refine Cll.pu awake_c ?_ | fail))
  all_goals (conv => whnf)
  all_goals exact RetV.same rfl rfl
theorem spaces_k {cl : List Str} {acts : List Int} {LN LM RN RM : List (List Nat)} {cr lf sp le : Nat} (K : Kd4 2 cl acts LN LM RN RM cr lf) (hb : spaceB acts LN LM RN RM sp le = true) (hs : @Pu gtR Tryz.prog 28 [i64 2, .str [83,112,97,99,101]] (i64 (sp : Nat))) (hle : @Pu gtR Tryz.prog 28 [i64 2, .str [76,101,116,116,101,114]] (i64 (le : Nat))) {l : List Int} : @Pu gtR Tryz.prog 9 [ints l] (boo true) := by
  letI := gtR
  refine Pu.of_v mixed T0 Tryz.func9 rfl rfl (by simp [noBoxs, noBox_ints]) ?_
  by_cases h40 : l.length ≤ 40
  · by_cases hc : CL l cl.length
    · have hok : okL (tbl cl acts LN LM RN RM) l := ⟨hc, K.tv⟩
      repeat' ((conv => whnf) <;> (first | refine SeqV.go mixed T0 ?_ | exact True.intro | (refine Br.mk (fun _ => ?_) (fun _ => ?_) <;> (try (exfalso; omega))) | refine stq ?_ | refine Cll.pu K.cls ?_ | (refine Cll.dec (rcl_c (by omega)) (fun _ => ?_) (fun _ => ?_) <;> (try contradiction)) | refine Cll.pu hs ?_ | refine Cll.pu hle ?_ | refine Cll.pu K.tab ?_ | fail))
      all_goals (conv => whnf)
      refine LoopV.by mixed T0 (fun m : Nat => ⟨tmp 77 [(0, ints l), (3, i64 (sp : Int)), (4, i64 (le : Int)), (5, .ptr 0 0), (6, i64 ((m : Int) + 1))], ⟨1,[(0, .cells [strs cl, ints acts, intss (toII LN), intss (toII LM), intss (toII RN), intss (toII RM)] true)]⟩⟩)
        (fun m => m = 0 ∨ m + 1 ≤ l.length) (fun m => l.length - m) 0 (by omega) ?_ ?_
      · exact Lf.of2 [(0, _)] [] enA bxA rfl rfl
      intro m h4
      by_cases hm : m + 1 < l.length
      · obtain ⟨A, B, hd, hp⟩ : ∃ A B : Int, Pu Tryz.prog 25 [tblD (tbl cl acts LN LM RN RM), ints l, i64 ((m : Int) + 1)] (.tup [i64 A, i64 B]) ∧ (l[m] = (sp : Int) → l[m + 1] = (sp : Int) → A = 1) ∧ (l[m] = (sp : Int) → l[m + 1] = (le : Int) → A = 2) :=
          ⟨_, _, bDecide_c (k := m + 1) K.ok (by omega) hok (by omega), space_ok K.tv hb hc hm⟩
        repeat' ((conv => whnf) <;> (first | refine SeqV.go mixed T0 ?_ | exact True.intro | (refine Br.mk (fun _ => ?_) (fun _ => ?_) <;> (try (exfalso; omega))) | refine stq ?_ | refine Cll.pu hd ?_ | refine Idx.at m (by omega) (by omega) ?_ | refine Idx.at (m + 1) (by omega) (by omega) ?_ | fail))
        all_goals (conv => whnf)
        all_goals first
          | exact absurd (hp.1 (by assumption) (by assumption)) (by assumption)
          | exact absurd (by assumption) (hp.2 (by assumption))
          | exact absurd (hp.2 (by assumption) (by assumption)) (by assumption)
          | (refine ⟨m + 1, by omega, by omega, ?_⟩
             exact Lf.of2 [(0, _)] [] enA bxA rfl rfl)
      · repeat' ((conv => whnf) <;> (first | refine SeqV.go mixed T0 ?_ | exact True.intro | (refine Br.mk (fun _ => ?_) (fun _ => ?_) <;> (try (exfalso; omega))) | refine stq ?_ | refine Cll.pu awake_c ?_ | fail))
        all_goals (conv => whnf)
        exact RetV.same rfl rfl
    · repeat' ((conv => whnf) <;> (first | refine SeqV.go mixed T0 ?_ | exact True.intro | (refine Br.mk (fun _ => ?_) (fun _ => ?_) <;> (try (exfalso; omega))) | refine stq ?_ | refine Cll.pu K.cls ?_ | (refine Cll.dec (rcl_c (by omega)) (fun _ => ?_) (fun _ => ?_) <;> (try contradiction)) | refine Cll.pu awake_c ?_ | fail))
      all_goals (conv => whnf)
      exact RetV.same rfl rfl
  · repeat' ((conv => whnf) <;> (first | refine SeqV.go mixed T0 ?_ | exact True.intro | (refine Br.mk (fun _ => ?_) (fun _ => ?_) <;> (try (exfalso; omega))) | refine stq ?_ | refine Cll.pu awake_c ?_ | fail))
    all_goals (conv => whnf)
    exact RetV.same rfl rfl
end Go.Proofs.YtbjngeioomjklaaGreatDoor
