/-
  Contracts of functions over data: numbers of sets (automaton$1).
-/
import Derived.Test.YtbjngeioomjklaaGreatDoorC5
namespace Go.Proofs.YtbjngeioomjklaaGreatDoor
open Go Go.Am Classical
set_option maxRecDepth 100000
set_option linter.unusedSectionVars false
variable [GT]
theorem fkey_inj : ∀ {a b : List Bool}, fkey a = fkey b → a = b
  | [],[], _ => rfl
  | [], _ :: _, h => by simp [fkey] at h
  | _ :: _, [], h => by simp [fkey] at h
  | x :: a, y :: b, h => by
    simp only [fkey, List.map_cons, List.cons.injEq] at h
    rw [fkey_inj (a := a) (b := b) h.2]
    have := h.1
    cases x <;> cases y <;> simp_all
abbrev keys (ss : List (List Bool)) : List Str := ss.map fkey
abbrev bolC (s : List Bool) : List D := [bools s]
abbrev auB (ss : List (List Bool)) : List (Nat × Box) := (0, .cells [.map 1] true) :: (1, .map (pos (keys ss) 0)) :: (2, .cells [ownD 3 1 ss] true) :: ownB 3 bolC ss
theorem number_yes {ss : List (List Bool)} {s : List Bool} (hl : s.length ≤ 1000000) (hs : s ∈ ss) :
    AC1 Tryz.prog 68 [bools s, .ptr 0 0, .ptr 2 0] ⟨4, auB ss⟩ (i64 ((keys ss).idxOf (fkey s) : Int)) ⟨20, auB ss⟩ := by
  have hk : fkey s ∈ keys ss := List.mem_map_of_mem hs
  refine AC1.of_vl mixed T0 Tryz.func68 rfl rfl ?_
  cases ss with
  | nil => simp at hs
  | cons t ts =>
    repeat' ((conv => whnf) <;> (first | refine SeqV.go mixed T0 ?_ | exact True.intro | (refine Br.mk (fun _ => ?_) (fun _ => ?_) <;> (try (exfalso; omega))) | refine stq ?_ | refine Cll.pu (flagKey_c sd) ?_ | refine Cal0.pu (flagKey_c sd) ?_ | (refine Find.pos (fun _ _ => ?_) (fun _ => ?_) <;> (try contradiction)) | fail))
    all_goals (conv => whnf)
    exact ⟨Or.inr rfl, rfl, rfl⟩
abbrev auR (ss : List (List Bool)) (s : List Bool) : List (Nat × Box) := (28, .cells ((ss ++ [s]).flatMap bolC) false) :: (27, .cells [bools s] true) :: (0, .cells [.map 1] true) :: (1, .map (pos (keys (ss ++ [s])) 0)) :: (2, .cells [.sl 28 0 (ss ++ [s]).length (ss ++ [s]).length 1 false] true) :: []
theorem auR_eq (ss : List (List Bool)) (s : List Bool) : auR ss s = [(28, .cells (((ss.flatMap bolC).drop 0).take (ss.length * 1) ++ bolC s) false), (27, .cells [bools s] true), (0, .cells [.map 1] true), (1, .map (pos (keys ss) 0 ++ [(D.str (fkey s), i64 (ss.length : Int))])), (2, .cells [.sl 28 0 (ss.length + 1) (ss.length + 1) 1 false] true)] := by
  unfold auR
  rw [app_cells (c := bolC) (sz := 1) (fun _ => rfl), keys, List.map_append, pos_append]
  simp [pos]
theorem number_no {ss : List (List Bool)} {s : List Bool} (hl : s.length ≤ 1000000) (hs : ¬ s ∈ ss) (hn : ss.length ≤ 1000000) :
    AC1 Tryz.prog 68 [bools s, .ptr 0 0, .ptr 2 0] ⟨4, auB ss⟩ (i64 (ss.length : Int)) ⟨32, auR ss s⟩ := by
  have hk : ¬ fkey s ∈ keys ss := fun h => by
    obtain ⟨x, h1, h2⟩ := List.mem_map.1 h
    exact hs (fkey_inj h2 ▸ h1)
  refine AC1.of_vl mixed T0 Tryz.func68 rfl rfl ?_
  cases ss with
  | nil =>
    repeat' ((conv => whnf) <;> (first | refine SeqV.go mixed T0 ?_ | exact True.intro | (refine Br.mk (fun _ => ?_) (fun _ => ?_) <;> (try (exfalso; omega))) | refine stq ?_ | refine Cll.pu (flagKey_c sd) ?_ | refine Cal0.pu (flagKey_c sd) ?_ | (refine Find.pos (fun _ _ => ?_) (fun _ => ?_) <;> (try contradiction)) | fail))
    all_goals (conv => whnf)
    exact ⟨Or.inr rfl, rfl, by rw [auR_eq]; rfl⟩
  | cons t ts =>
    have ht : (t :: ts).length = ts.length + 1 := rfl
    repeat' ((conv => whnf) <;> (first | refine SeqV.go mixed T0 ?_ | exact True.intro | (refine Br.mk (fun _ => ?_) (fun _ => ?_) <;> (try (exfalso; omega))) | refine stq ?_ | refine Cll.pu (flagKey_c sd) ?_ | refine Cal0.pu (flagKey_c sd) ?_ | (refine Find.pos (fun _ _ => ?_) (fun _ => ?_) <;> (try contradiction)) | fail))
    all_goals (conv => whnf)
    exact ⟨Or.inr rfl, rfl, by rw [auR_eq]; rfl⟩
end Go.Proofs.YtbjngeioomjklaaGreatDoor
