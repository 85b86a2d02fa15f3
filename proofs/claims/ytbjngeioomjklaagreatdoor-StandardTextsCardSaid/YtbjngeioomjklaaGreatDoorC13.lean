/-
  The automaton of a machine over bit masks.
-/
import Derived.Test.YtbjngeioomjklaaGreatDoorD2
namespace Go.Proofs.YtbjngeioomjklaaGreatDoor
open Go Go.Am
set_option maxRecDepth 100000
def toN : List Bool → Nat
  | [] => 0
  | b :: l => (if b then 1 else 0) + 2 * toN l
theorem toN_bit : ∀ (l : List Bool) (r : Nat), (toN l).testBit r = l.getD r false
  | [], r => by simp [toN]
  | b :: l, 0 => by cases b <;> simp [toN, Nat.testBit_zero] <;> omega
  | b :: l, r + 1 => by
    have h : toN (b :: l) / 2 = toN l := by simp only [toN]; split <;> omega
    rw [Nat.testBit_succ, h, toN_bit l r]
    simp
theorem toN_inj : ∀ {a b : List Bool}, a.length = b.length → toN a = toN b → a = b
  | [],[], _, _ => rfl
  | x :: a, y :: b, hl, h => by
    have h1 : toN a = toN b := by simp only [toN] at h; cases x <;> cases y <;> simp at h <;> omega
    have h2 : x = y := by simp only [toN] at h; cases x <;> cases y <;> simp at h ⊢ <;> omega
    rw [h2, toN_inj (by simpa using hl) h1]
  | [], _ :: _, hl, _ => by simp at hl
  | _ :: _, [], hl, _ => by simp at hl
def colN (cur : Nat) : List Nat → Nat
  | [] => 0
  | r :: l => (if cur.testBit r then 1 else 0) + 2 * colN cur l
theorem colN_eq {cur : List Bool} {c : Nat} : ∀ (next : List (List Nat)), colN (toN cur) (next.map (·.getD c 0)) = toN (nxB next cur c)
  | [] => rfl
  | r :: l => by
    have ih := colN_eq (cur := cur) (c := c) l
    simp only [nxB] at ih
    simp only [List.map_cons, colN, nxB, toN, toN_bit, ih]
def idxN (x : Nat) : List Nat → Nat → Option Nat
  | [], _ => none
  | y :: l, i => if Nat.beq x y = true then some i else idxN x l (i + 1)
def rowM (cur : Nat) : List (List Nat) → List Nat → List Nat → Option (List Nat × List Nat)
  | [], ss, row => some (row, ss)
  | col :: cols, ss, row =>
    match idxN (colN cur col) ss 0 with
    | some i => rowM cur cols ss (row ++ [i])
    | none => if ss.length < 400 then rowM cur cols (ss ++ [colN cur col]) (row ++ [ss.length]) else none
def mrkM (cur : Nat) : List Nat → Nat → List Nat
  | [], _ => []
  | r :: l, i => if cur.testBit r then i :: mrkM cur l (i + 1) else mrkM cur l (i + 1)
def autM (cols : List (List Nat)) (roots : List Nat) : Nat → Nat → List Nat → List (List Nat) → List (List Nat) → Option (List (List Nat) × List (List Nat))
  | 0, _, _, _, _ => none
  | f + 1, i, ss, rows, marks =>
    match ss[i]? with
    | none => some (rows, marks)
    | some cur =>
      match rowM cur cols ss [] with
      | none => none
      | some (row, ss') => autM cols roots f (i + 1) ss' (rows ++ [row]) (marks ++ [mrkM cur roots 0])
theorem idxN_eq {s : List Bool} {N : Nat} (hs : s.length = N) : ∀ (ss : List (List Bool)) (i : Nat), (∀ t ∈ ss, t.length = N) → idxN (toN s) (ss.map toN) i = if s ∈ ss then some (i + ss.idxOf s) else none
  | [], i, _ => by simp [idxN]
  | t :: ss, i, h => by
    have ih := idxN_eq hs ss (i + 1) (fun x hx => h x (by simp [hx]))
    simp only [List.map_cons, idxN]
    by_cases e : s = t
    · subst e; simp
    · have hne : ¬ toN s = toN t := fun hx => e (toN_inj (by rw [hs, h t (by simp)]) hx)
      rw [if_neg (by simpa using hne), ih]
      have e' : ¬ t = s := fun hx => e hx.symm
      simp only [List.mem_cons, e, false_or, List.idxOf_cons, beq_eq_false_iff_ne.2 e', cond_false]
      split
      · congr 1; omega
      · rfl
theorem mrkM_eq {cur : List Bool} : ∀ (l : List Nat) (i : Nat), mrkM (toN cur) l i = mrkB cur l i
  | [], _ => rfl
  | r :: l, i => by simp only [mrkM, mrkB, toN_bit, mrkM_eq l (i + 1)]
theorem rowM_eq {next : List (List Nat)} {cur : List Bool} : ∀ (k c : Nat) (ss : List (List Bool)) (row : List Nat), (∀ t ∈ ss, t.length = next.length) →
    rowM (toN cur) ((List.range' c k).map fun c => next.map (·.getD c 0)) (ss.map toN) row = (rowB next cur k c ss row).map (fun p => (p.1, p.2.map toN)) ∧ ∀ p, rowB next cur k c ss row = some p → ∀ t ∈ p.2, t.length = next.length
  | 0, c, ss, row, h => ⟨rfl, fun p hp => by simp only [rowB, Option.some.injEq] at hp; subst hp; exact h⟩
  | k + 1, c, ss, row, h => by
    have hl : (nxB next cur c).length = next.length := List.length_map _
    simp only [List.range'_succ, List.map_cons, rowM, colN_eq, idxN_eq hl ss 0 h, rowB, Nat.zero_add]
    by_cases hm : nxB next cur c ∈ ss
    · simp only [hm, if_true]
      exact rowM_eq k (c + 1) ss _ h
    · simp only [hm, if_false, List.length_map]
      by_cases h4 : ss.length < 400
      · simp only [h4, if_true]
        have := rowM_eq (next := next) (cur := cur) k (c + 1) (ss ++ [nxB next cur c]) (row ++ [ss.length]) (fun t ht => by
          rcases List.mem_append.1 ht with ht | ht
          · exact h t ht
          · simp at ht; subst ht; exact hl)
        simpa using this
      · simp only [h4, if_false, Option.map_none]
        exact ⟨trivial, fun p hp => by cases hp⟩
theorem autM_eq {n : Nat} {next : List (List Nat)} {roots : List Nat} : ∀ (f i : Nat) (ss : List (List Bool)) (rows marks : List (List Nat)), (∀ t ∈ ss, t.length = next.length) →
    autM ((List.range' 0 n).map fun c => next.map (·.getD c 0)) roots f i (ss.map toN) rows marks = autB n next roots f i ss rows marks
  | 0, _, _, _, _, _ => rfl
  | f + 1, i, ss, rows, marks, h => by
    simp only [autM, autB, List.getElem?_map]
    cases hi : ss[i]? with
    | none => rfl
    | some cur =>
      obtain ⟨h1, h2⟩ := rowM_eq (cur := cur) n 0 ss [] h
      simp only [Option.map_some, h1]
      cases hr : rowB next cur n 0 ss [] with
      | none => rfl
      | some p => simp only [Option.map_some, mrkM_eq]; exact autM_eq f (i + 1) p.2 _ _ (h2 p hr)
theorem aut_of {n F : Nat} {m : Mch} {cols : List (List Nat)} {x : Nat} {a : Aut} (hc : (List.range' 0 n).map (fun c => m.nx.map (·.getD c 0)) = cols) (hx : toN m.hi = x) (hl : m.hi.length = m.nx.length) (h : autM cols m.ro F 0 [x] [] [] = some a) : autB n m.nx m.ro F 0 [m.hi] [] [] = some a := by
  rw [← autM_eq F 0 [m.hi] [] [] (by simpa using hl), hc]
  simpa [hx] using h
end Go.Proofs.YtbjngeioomjklaaGreatDoor
