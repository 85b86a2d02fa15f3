/-
  Contracts of functions over data: names of classes.
-/
import Derived.Test.YtbjngeioomjklaaGreatDoorE0
import Derived.Test.YtbjngeioomjklaaGreatDoorAmF
namespace Go.Proofs.YtbjngeioomjklaaGreatDoor
open Go Go.Am Classical
set_option maxRecDepth 100000
set_option linter.unusedSectionVars false
variable [GT]
theorem rName_c {s : Str} (hs : s.length ≤ 9223372036854775807) : Pu Tryz.prog 58 [.str s] (boo (decide (s ≠ [] ∧ s.length ≤ 32 ∧ allW s))) := by
  refine Pu.of_v mixed T0 Tryz.func58 rfl rfl rfl ?_
  repeat' ((conv => whnf) <;> (first | refine SeqV.go mixed T0 ?_ | exact True.intro | (refine Br.mk (fun _ => ?_) (fun _ => ?_) <;> (try (exfalso; omega))) | refine stq ?_))
  refine LoopV.by mixed T0 (fun k : Nat => ⟨tmp 49 [(0, .str s), (3, i64 (k : Int))], ⟨0,[]⟩⟩) (fun k => k ≤ s.length ∧ ∀ i (h : i < s.length), i < k → wb (s[i].toNat : Int)) (fun k => s.length - k) 0 ⟨by omega, fun _ _ h => by omega⟩ ?_ ?_
  · exact Lf.of2 [] [] enA bxA rfl rfl
  intro k ⟨h1, h2⟩
  repeat' ((conv => whnf) <;> (first | refine SeqV.go mixed T0 ?_ | exact True.intro | (refine Br.mk (fun _ => ?_) (fun _ => ?_) <;> (try (exfalso; omega))) | refine stq ?_))
  all_goals (conv => whnf)
  all_goals first
    | exact RetV.no (fun hc => absurd (hc.2.2 k (by omega)) (by unfold wb; omega))
    | exact RetV.no (fun hc => by omega)
    | exact RetV.no (fun hc => hc.1 (List.eq_nil_of_length_eq_zero (by omega)))
    | exact RetV.yes ⟨by rintro rfl; simp at *, by omega, up_all (by omega) h2⟩
    | (refine ⟨k + 1, ⟨by omega, up_succ (by omega) h2 (by unfold wb; omega)⟩, by omega, ?_⟩
       exact Lf.of2 [] [] enA bxA rfl rfl)
theorem rNamed_c {s : Str} (hs : s.length ≤ 9223372036854775807) : Pu Tryz.prog 55 [.str s] (boo (decide (s ≠ [] ∧ s.length ≤ 32 ∧ allW s))) := by
  refine Pu.of_v mixed T0 Tryz.func55 rfl rfl rfl ?_
  repeat' ((conv => whnf) <;> (first | refine SeqV.go mixed T0 ?_ | exact True.intro | (refine Br.mk (fun _ => ?_) (fun _ => ?_) <;> (try (exfalso; omega))) | refine stq ?_))
  all_goals (conv => whnf)
  all_goals first
    | exact RetV.no (fun hc => by omega)
    | exact RetV.no (fun hc => hc.1 (List.eq_nil_of_length_eq_zero (by omega)))
    | skip
  refine LoopV.by mixed T0 (fun k : Nat => ⟨tmp 49 [(0, .str s), (3, i64 (k : Int))], ⟨0,[]⟩⟩) (fun k => k ≤ s.length ∧ ∀ i (h : i < s.length), i < k → wb (s[i].toNat : Int)) (fun k => s.length - k) 0 ⟨by omega, fun _ _ h => by omega⟩ ?_ ?_
  · exact Lf.of2 [] [] enA bxA rfl rfl
  intro k ⟨h1, h2⟩
  repeat' ((conv => whnf) <;> (first | refine SeqV.go mixed T0 ?_ | exact True.intro | (refine Br.mk (fun _ => ?_) (fun _ => ?_) <;> (try (exfalso; omega))) | refine stq ?_))
  all_goals (conv => whnf)
  all_goals first
    | exact RetV.no (fun hc => absurd (hc.2.2 k (by omega)) (by unfold wb; omega))
    | exact RetV.yes ⟨by rintro rfl; simp at *, by omega, up_all (by omega) h2⟩
    | (refine ⟨k + 1, ⟨by omega, up_succ (by omega) h2 (by unfold wb; omega)⟩, by omega, ?_⟩
       exact Lf.of2 [] [] enA bxA rfl rfl)
def okName (s : Str) : Prop := s ≠ [] ∧ s.length ≤ 32 ∧ allW s
def NV (l : List Str) : Prop := 1 ≤ l.length ∧ l.length ≤ 60 ∧ ∀ i (h : i < l.length), (okName l[i] ∧ ¬ l[i] ∈ kw) ∧ ¬ l[i] ∈ l.take i
abbrev long (l : List Str) : Prop := ∀ i (h : i < l.length), l[i].length ≤ 9223372036854775807
theorem word_c {s : Str} : Pu Tryz.prog 59 [.str s] (boo (decide (s ∈ kw))) := by
  refine Pu.of_v mixed T0 Tryz.func59 rfl rfl rfl ?_
  repeat' ((conv => whnf) <;> (first | refine SeqV.go mixed T0 ?_ | exact True.intro | (refine Br.mk (fun _ => ?_) (fun _ => ?_) <;> (try (exfalso; omega))) | refine stq ?_))
  refine LoopV.times mixed T0 8 ?_
  repeat' ((conv => whnf) <;> (first | refine SeqV.go mixed T0 ?_ | exact True.intro | (refine Br.mk (fun _ => ?_) (fun _ => ?_) <;> (try (exfalso; omega))) | refine stq ?_ | refine IdxO.at 0 rfl (by omega) ?_ | refine IdxO.at 1 rfl (by omega) ?_ | refine IdxO.at 2 rfl (by omega) ?_ | refine IdxO.at 3 rfl (by omega) ?_ | refine IdxO.at 4 rfl (by omega) ?_ | refine IdxO.at 5 rfl (by omega) ?_ | refine IdxO.at 6 rfl (by omega) ?_))
  all_goals (conv => whnf)
  all_goals first
    | exact RetV.yes (by simp_all [kw])
    | exact RetV.no (by simp only [kw, List.mem_cons, List.not_mem_nil, or_false, not_or]; simp_all [eq_comm])
    | (exfalso; omega)
theorem namesValid_c {l : List Str} (hl : long l) : Pu Tryz.prog 49 [strs l] (boo (decide (NV l))) := by
  refine Pu.of_v mixed T0 Tryz.func49 rfl rfl (by simp [noBoxs, noBox_strs]) ?_
  repeat' ((conv => whnf) <;> (first | refine SeqV.go mixed T0 ?_ | exact True.intro | (refine Br.mk (fun _ => ?_) (fun _ => ?_) <;> (try (exfalso; omega))) | refine stq ?_))
  all_goals (conv => whnf)
  all_goals first
    | exact RetV.no (fun hc => by have := hc.1; have := hc.2.1; omega)
    | skip
  refine LoopV.by mixed T0 (fun k : Nat => ⟨tmp 37 [(3, .map 0), (15, strs l), (16, i64 l.length), (17, i64 (k : Int))], ⟨1,[(0, .map ((l.take k).map fun s => (D.str s, boo true)))]⟩⟩)
    (fun k => k ≤ l.length ∧ ∀ i (h : i < l.length), i < k → (okName l[i] ∧ ¬ l[i] ∈ kw) ∧ ¬ l[i] ∈ l.take i) (fun k => l.length - k) 0 ⟨by omega, fun _ _ h => by omega⟩ ?_ ?_
  · exact Lf.of2 [(0, _)] [] enA bxA rfl rfl
  intro k ⟨h1, h2⟩
  repeat' ((conv => whnf) <;> (first | refine SeqV.go mixed T0 ?_ | exact True.intro | (refine Br.mk (fun _ => ?_) (fun _ => ?_) <;> (try (exfalso; omega))) | refine stq ?_ | refine Cll.dec (isName_c sd) (fun _ => ?_) (fun _ => ?_) | refine Cal0.dec (isName_c sd) (fun _ => ?_) (fun _ => ?_) | (refine Find.set (fun _ _ => ?_) (fun _ => ?_) <;> (try contradiction))))
  all_goals (conv => whnf)
  all_goals first
    | exact RetV.no (fun hc => by obtain ⟨⟨⟨_, _, _⟩, _⟩, _⟩ := hc.2.2 k (by omega); first | omega | contradiction | simp_all)
    | exact RetV.yes ⟨by omega, by omega, up_all (by omega) h2⟩
    | skip
  rename_i a1 a2 a3 a4
  refine ⟨k + 1, ⟨by omega, up_succ (by omega) h2 ⟨⟨⟨a1.2.1, by omega, a1.1⟩, a1.2.2⟩, a3⟩⟩, by omega, ?_⟩
  exact Lf.of2 [(0, _)] [] enA bxA rfl rfl
theorem named_c {l : List Str} (hn : l.length ≤ 9223372036854775807) (hl : long l) : Pu Tryz.prog 38 [strs l] (boo (decide (NV l))) := by
  refine Pu.of_v mixed T0 Tryz.func38 rfl rfl (by simp [noBoxs, noBox_strs]) ?_
  repeat' ((conv => whnf) <;> (first | refine SeqV.go mixed T0 ?_ | exact True.intro | (refine Br.mk (fun _ => ?_) (fun _ => ?_) <;> (try (exfalso; omega))) | refine stq ?_))
  refine LoopV.by mixed T0 (fun k : Nat => ⟨tmp 46 [(0, strs l), (3, i64 (k : Int))], ⟨0,[]⟩⟩)
    (fun k => k ≤ l.length ∧ ∀ i (h : i < l.length), i < k → (okName l[i] ∧ ¬ l[i] ∈ kw) ∧ ¬ l[i] ∈ l.take i) (fun k => l.length - k) 0 ⟨by omega, fun _ _ h => by omega⟩ ?_ ?_
  · exact Lf.of2 [] [] enA bxA rfl rfl
  intro k ⟨h1, h2⟩
  repeat' ((conv => whnf) <;> (first | refine SeqV.go mixed T0 ?_ | exact True.intro | (refine Br.mk (fun _ => ?_) (fun _ => ?_) <;> (try (exfalso; omega))) | refine stq ?_ | refine Cll.dec (rName_c sd) (fun _ => ?_) (fun _ => ?_) | refine Cal0.dec (rName_c sd) (fun _ => ?_) (fun _ => ?_) | refine Cll.dec (word_c) (fun _ => ?_) (fun _ => ?_) | refine Cal0.dec (word_c) (fun _ => ?_) (fun _ => ?_)))
  all_goals (conv => whnf)
  all_goals first
    | exact RetV.no (fun hc => by obtain ⟨⟨⟨_, _, _⟩, _⟩, _⟩ := hc.2.2 k (by omega); first | omega | contradiction | simp_all)
    | exact RetV.no (fun hc => by have := hc.1; have := hc.2.1; omega)
    | exact RetV.yes ⟨by omega, by omega, up_all (by omega) h2⟩
    | skip
  rename_i a1 a2
  refine LoopV.by mixed T0 (fun j : Nat => ⟨tmp 46 [(0, strs l), (3, i64 (k : Int)), (4, i64 (j : Int))], ⟨0,[]⟩⟩)
    (fun j => j ≤ k ∧ ∀ i (h : i < l.length), i < j → l[i] ≠ l[k]) (fun j => k - j) 0 ⟨by omega, fun _ _ h => by omega⟩ ?_ ?_
  · exact Lf.of2 [] [] enA bxA rfl rfl
  intro j ⟨h3, h4⟩
  repeat' ((conv => whnf) <;> (first | refine SeqV.go mixed T0 ?_ | exact True.intro | (refine Br.mk (fun _ => ?_) (fun _ => ?_) <;> (try (exfalso; omega))) | refine stq ?_))
  all_goals (conv => whnf)
  all_goals first
    | exact RetV.no (fun hc => (hc.2.2 k (by omega)).2 (mem_take_iff.2 ⟨j, by omega, by omega, by assumption⟩))
    | (refine ⟨j + 1, ⟨by omega, up_succ (by omega) h4 (by assumption)⟩, by omega, ?_⟩
       exact Lf.of2 [] [] enA bxA rfl rfl)
    | (refine ⟨k + 1, ⟨by omega, up_succ (by omega) h2 ⟨⟨a1, a2⟩, fun hm => by obtain ⟨i, hi, hlt, e⟩ := mem_take_iff.1 hm; exact h4 i hi (by omega) e⟩⟩, by omega, ?_⟩
       exact Lf.of2 [] [] enA bxA rfl rfl)
theorem newInspector_c {n : Int} : Pk Tryz.prog 60 [i64 n] 1 (fun b => .agg [i64 n, .map b]) (fun b => [(b, .map [])]) := by
  refine Pk.of_v mixed T0 Tryz.func60 rfl rfl rfl ?_
  repeat' ((conv => whnf) <;> (first | refine SeqV.go mixed T0 ?_ | exact True.intro | (refine Br.mk (fun _ => ?_) (fun _ => ?_) <;> (try (exfalso; omega))) | refine stq ?_))
  all_goals (conv => whnf)
  exact ⟨[2], rfl, ⟨by simp, fun n => .agg (.cons (.same rfl) (.cons (.map (by simp [sgn])) .nil)), fun n => .cons (id := 2) (by simp [sgn]) rfl rfl (.map .nil) .nil⟩⟩
end Go.Proofs.YtbjngeioomjklaaGreatDoor
