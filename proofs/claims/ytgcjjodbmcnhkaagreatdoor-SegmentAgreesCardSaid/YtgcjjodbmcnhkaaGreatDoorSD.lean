/-
  Ranges of a text: what the program's iterator yields, and that it is what the reference returns. Plain.
-/
import Derived.Test.YtgcjjodbmcnhkaaGreatDoorSC
namespace Go.Proofs.YtgcjjodbmcnhkaaGreatDoor
open Go Go.Am Classical

/-- What the iterator yields from position i on, the last range begun at s. -/
def ptF (n : Int) : Int → Int → List Int → List Rng
  | _, _, [] => []
  | i, s, a :: l => if i = s ∨ (a = 1 ∧ i < n - 1) then ptF n (i + 1) s l else ⟨s, i⟩ :: ptF n (i + 1) i l
def endF : Int → List Int → List Int
  | _, [] => []
  | i, a :: l => if a ≠ 1 then i :: endF (i + 1) l else endF (i + 1) l
theorem ptF_btw {n : Int} : ∀ (l : List Int) (i s : Int), s ≤ i → i + l.length = n → l ≠ [] → ptF n i s l = btw s (endF i l ++ [n - 1])
  | [], _, _, _, _, h => absurd rfl h
  | [a], i, s, h1, h2, _ => by
    simp only [List.length_singleton] at h2
    have e : n - 1 = i := by omega
    rw [e]
    simp only [ptF, endF, e, Int.lt_irrefl, and_false, or_false]
    by_cases h : i = s
    · subst h
      by_cases ha : a = 1 <;> simp [ha, btw]
    · have : s < i := by omega
      by_cases ha : a = 1 <;> simp [h, ha, btw, this]
  | a :: b :: l, i, s, h1, h2, _ => by
    have hlen : i + 1 + ((b :: l).length : Int) = n := by simp only [List.length_cons] at h2 ⊢; omega
    have hi : i < n - 1 := by simp only [List.length_cons] at h2; omega
    have e1 : ptF n i s (a :: b :: l) = if i = s ∨ (a = 1 ∧ i < n - 1) then ptF n (i + 1) s (b :: l) else ⟨s, i⟩ :: ptF n (i + 1) i (b :: l) := rfl
    have e2 : endF i (a :: b :: l) = if a ≠ 1 then i :: endF (i + 1) (b :: l) else endF (i + 1) (b :: l) := rfl
    rw [e1, e2]
    have q1 := ptF_btw (b :: l) (i + 1) s (by omega) hlen (by simp)
    have q2 := ptF_btw (b :: l) (i + 1) i (by omega) hlen (by simp)
    by_cases h : i = s
    · rw [if_pos (.inl h), q1]
      by_cases ha : a = 1
      · rw [if_neg (by simpa using ha)]
      · rw [if_pos ha, List.cons_append, btw, if_neg (by omega)]
    · by_cases ha : a = 1
      · rw [if_pos (.inr ⟨ha, hi⟩), if_neg (by simpa using ha), q1]
      · rw [if_neg (by intro hc; rcases hc with hc | hc; exact h hc; exact ha hc.1), if_pos ha, List.cons_append, btw, if_pos (by omega), q2]
theorem endF_eq : ∀ (l : List Int) (i : Int), endF i l = ((List.range l.length).filter fun j => decide (l.getD j 0 ≠ 1)).map fun (j : Nat) => i + (j : Int)
  | [], _ => rfl
  | a :: l, i => by
    have ih := endF_eq l (i + 1)
    have e1 : endF i (a :: l) = if a ≠ 1 then i :: endF (i + 1) l else endF (i + 1) l := rfl
    have e3 : ∀ (f : Nat → Int), (((List.range l.length).map Nat.succ).filter fun j => decide ((a :: l).getD j 0 ≠ 1)).map f = ((List.range l.length).filter fun j => decide (l.getD j 0 ≠ 1)).map fun j => f (j + 1) := by
      intro f
      rw [List.filter_map, List.map_map]
      rfl
    rw [e1, List.length_cons, List.range_succ_eq_map, ih]
    have e4 : (fun j : Nat => i + 1 + (j : Int)) = fun j : Nat => i + ((j + 1 : Nat) : Int) := by funext j; omega
    by_cases ha : a = 1
    · rw [if_neg (by simpa using ha), List.filter_cons_of_neg (p := fun j => decide ((a :: l).getD j 0 ≠ 1)) (a := 0) (by simp [ha]), e3, e4]
    · rw [if_pos ha, List.filter_cons_of_pos (p := fun j => decide ((a :: l).getD j 0 ≠ 1)) (a := 0) (by simp [ha]), List.map_cons, e3, e4]
      simp
theorem ends_endF (l : List Int) : ends l l.length = endF 0 l := by
  rw [endF_eq, ends]
  congr 1
  funext j
  omega
/-- What the iterator yields at the actions of a text. -/
def ptV (l : List Int) : List Rng := ptF l.length 0 0 l
theorem ptV_act {p : Prp} {t : Tbl} {text : List Int} : ptV (actV p t text) = prtV p t text := by
  unfold ptV prtV bndV
  by_cases hv : TV t
  · have hl : (actV p t text).length = text.length + 1 := by rw [actV, if_pos hv, acts_len]; simp [namedV]
    rw [if_pos hv, ends_endF, ptF_btw _ _ _ (by omega) (by omega) (by intro h; rw [h] at hl; simp at hl), hl]
    congr 3
    omega
  · rw [if_neg hv, actV, if_neg hv]
    rfl
end Go.Proofs.YtgcjjodbmcnhkaaGreatDoor
