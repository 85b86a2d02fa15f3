/-
  Contracts of functions over data: tables.
-/
import Derived.Test.YtbjngeioomjklaaGreatDoorQ1
import Derived.Test.YtbjngeioomjklaaGreatDoorAmF
namespace Go.Proofs.YtbjngeioomjklaaGreatDoor
open Go Go.Am Classical
set_option maxRecDepth 100000
set_option linter.unusedSectionVars false
variable [GT]
structure Atm where
  next : List (List Int)
  marks : List (List Int)
structure Tbl where
  classes : List Str
  actions : List Int
  left : Atm
  right : Atm
abbrev atmC (a : Atm) : List D := [intss a.next, intss a.marks]
abbrev atmD (a : Atm) : D := .agg (atmC a)
abbrev tblD (t : Tbl) : D := .agg [strs t.classes, ints t.actions, intss t.left.next, intss t.left.marks, intss t.right.next, intss t.right.marks]
theorem noBox_atm (a : Atm) : noBox (atmD a) = true := by simp [noBox, noBoxs, noBox_intss]
theorem noBox_tbl (t : Tbl) : noBox (tblD t) = true := by simp [noBox, noBoxs, noBox_intss, noBox_ints, noBox_strs]
structure Atm.ok (a : Atm) : Prop where
  next : a.next.length ≤ 9223372036854775807
  marks : a.marks.length ≤ 9223372036854775807
  nexts : ∀ i (h : i < a.next.length), a.next[i].length ≤ 9223372036854775807
  markss : ∀ i (h : i < a.marks.length), a.marks[i].length ≤ 9223372036854775807
structure Tbl.ok (t : Tbl) : Prop where
  classes : t.classes.length ≤ 9223372036854775807
  long : long t.classes
  actions : t.actions.length ≤ 9223372036854775807
  left : t.left.ok
  right : t.right.ok
theorem Check_c {l : List Str} (hl : long l) : Pu Tryz.prog 40 [.agg [strs l, nilS]] (.v (.int .i64 (if NV l then 0 else 6))) := by
  refine Pu.of_v mixed T0 Tryz.func40 rfl rfl (by simp [noBox, noBoxs, noBox_strs]) ?_
  repeat' ((conv => whnf) <;> (first | refine SeqV.go mixed T0 ?_ | exact True.intro | (refine Br.mk (fun _ => ?_) (fun _ => ?_) <;> (try (exfalso; omega))) | refine stq ?_ | refine Cll.dec (namesValid_c sd) (fun _ => ?_) (fun _ => ?_) | refine Cal0.dec (namesValid_c sd) (fun _ => ?_) (fun _ => ?_) | refine Cll.pk newInspector_c ?_ | refine LoopV.times mixed T0 1 ?_))
  all_goals (conv => whnf)
  all_goals first
    | exact RetV.int (by simp_all)
    | skip
def RowQ (l : List Int) (n : Int) : Prop := ∀ j (h : j < l.length), 0 ≤ l[j] ∧ l[j] < n
def lastM (m : List Int) (j : Nat) : Int := if j = 0 then -1 else m.getD (j - 1) 0
def MkQ (m : List Int) (r : Int) : Prop := ∀ j (h : j < m.length), lastM m j < m[j] ∧ m[j] < r
def Sd (a : Atm) (c r : Int) : Prop := 1 ≤ a.next.length ∧ a.next.length ≤ 400 ∧ a.marks.length = a.next.length ∧
  ∀ i (h : i < a.next.length), (a.next[i].length : Int) = c ∧ RowQ a.next[i] a.next.length ∧ MkQ (a.marks.getD i []) r
theorem lastM_succ {m : List Int} {j : Nat} (h : j < m.length) : lastM m (j + 1) = m[j] := by
  simp [lastM, List.getD, List.getElem?_eq_getElem h]
theorem sound_c {a : Atm} {c r : Int} (ha : a.ok) (hr : r ≤ 9223372036854775807) : Pu Tryz.prog 135 [atmD a, i64 c, i64 r] (boo (decide (Sd a c r))) := by
  have ha1 := ha.next
  have ha2 := ha.marks
  have hl := ha.nexts
  have hl2 := ha.markss
  refine Pu.of_v mixed T0 Tryz.func135 rfl rfl (by simp [noBox, noBoxs, noBox_intss]) ?_
  repeat' ((conv => whnf) <;> (first | refine SeqV.go mixed T0 ?_ | exact True.intro | (refine Br.mk (fun _ => ?_) (fun _ => ?_) <;> (try (exfalso; omega))) | refine stq ?_))
  all_goals (conv => whnf)
  all_goals first
    | exact RetV.no (fun hc => by have := hc.1; have := hc.2.1; have := hc.2.2.1; omega)
    | skip
  refine LoopV.by mixed T0 (fun k : Nat => ⟨tmp 79 [(1, i64 c), (2, i64 r), (3, .ptr 0 0), (7, i64 a.next.length), (32, intss a.next), (33, i64 a.next.length), (34, i64 (k : Int))], ⟨1,[(0, .cells [intss a.next, intss a.marks] true)]⟩⟩)
    (fun k => k ≤ a.next.length ∧ ∀ i (h : i < a.next.length), i < k → (a.next[i].length : Int) = c ∧ RowQ a.next[i] a.next.length ∧ MkQ (a.marks.getD i []) r) (fun k => a.next.length - k) 0 ⟨by omega, fun _ _ h => by omega⟩ ?_ ?_
  · exact Lf.of2 [(0, _)] [] enA bxA rfl rfl
  intro k ⟨h1, h2⟩
  repeat' ((conv => whnf) <;> (first | refine SeqV.go mixed T0 ?_ | exact True.intro | (refine Br.mk (fun _ => ?_) (fun _ => ?_) <;> (try (exfalso; omega))) | refine stq ?_))
  all_goals (conv => whnf)
  all_goals first
    | exact RetV.no (fun hc => by have := (hc.2.2.2 k (by omega)).1; omega)
    | exact RetV.yes ⟨by omega, by omega, by omega, up_all (by omega) h2⟩
    | skip
  rename_i a1 a2
  refine LoopV.by mixed T0 (fun j : Nat => ⟨tmp 79 [(1, i64 c), (2, i64 r), (3, .ptr 0 0), (7, i64 a.next.length), (8, i64 (k : Int)), (32, intss a.next), (33, i64 a.next.length), (34, i64 (k : Int)), (43, ints a.next[k]), (44, i64 a.next[k].length), (45, i64 (j : Int))], ⟨1,[(0, .cells [intss a.next, intss a.marks] true)]⟩⟩)
    (fun j => j ≤ a.next[k].length ∧ ∀ i (h : i < a.next[k].length), i < j → 0 ≤ a.next[k][i] ∧ a.next[k][i] < a.next.length) (fun j => a.next[k].length - j) 0 ⟨by omega, fun _ _ h => by omega⟩ ?_ ?_
  · exact Lf.of2 [(0, _)] [] enA bxA rfl rfl
  intro j ⟨h3, h4⟩
  have h5 := hl k (by omega)
  repeat' ((conv => whnf) <;> (first | refine SeqV.go mixed T0 ?_ | exact True.intro | (refine Br.mk (fun _ => ?_) (fun _ => ?_) <;> (try (exfalso; omega))) | refine stq ?_))
  all_goals (conv => whnf)
  all_goals first
    | exact RetV.no (fun hc => by have := (hc.2.2.2 k (by omega)).2.1 j (by omega); omega)
    | (refine ⟨j + 1, ⟨by omega, up_succ (by omega) h4 ⟨by omega, by omega⟩⟩, by omega, ?_⟩
       exact Lf.of2 [(0, _)] [] enA bxA rfl rfl)
    | skip
  have h6 : k < a.marks.length := by omega
  have h7 := hl2 k h6
  refine LoopV.by mixed T0 (fun i : Nat => ⟨tmp 79 [(1, i64 c), (2, i64 r), (3, .ptr 0 0), (7, i64 a.next.length), (12, i64 (lastM a.marks[k] i + 1)), (32, intss a.next), (33, i64 a.next.length), (34, i64 (k : Int)), (61, ints a.marks[k]), (62, i64 a.marks[k].length), (63, i64 (i : Int))], ⟨1,[(0, .cells [intss a.next, intss a.marks] true)]⟩⟩)
    (fun i => (i ≤ a.marks[k].length ∧ -1 ≤ lastM a.marks[k] i) ∧ ∀ n (h : n < a.marks[k].length), n < i → lastM a.marks[k] n < a.marks[k][n] ∧ a.marks[k][n] < r) (fun i => a.marks[k].length - i) 0 ⟨⟨by omega, by simp [lastM]⟩, fun _ _ h => by omega⟩ ?_ ?_
  · exact Lf.of2 [(0, _)] [] enA bxA rfl rfl
  intro i ⟨⟨h8, h10⟩, h9⟩
  repeat' ((conv => whnf) <;> (first | refine SeqV.go mixed T0 ?_ | exact True.intro | (refine Br.mk (fun _ => ?_) (fun _ => ?_) <;> (try (exfalso; omega))) | refine stq ?_))
  all_goals (conv => whnf)
  all_goals first
    | exact RetV.no (fun hc => by have := (hc.2.2.2 k (by omega)).2.2 i (by rw [getD_get h6]; omega); simp only [getD_get h6] at this; omega)
    | (have e : lastM a.marks[k] (i + 1) = a.marks[k][i] := lastM_succ (by omega)
       refine ⟨i + 1, ⟨⟨by omega, by omega⟩, up_succ (by omega) h9 ⟨by omega, by omega⟩⟩, by omega, ?_⟩
       exact Lf.of2 [(0, _)] [] enA bxA rfl rfl)
    | (refine ⟨k + 1, ⟨by omega, up_succ (by omega) h2 ⟨a2, up_all (by omega) h4, by rw [getD_get h6]; exact up_all (by omega) h9⟩⟩, by omega, ?_⟩
       exact Lf.of2 [(0, _)] [] enA bxA rfl rfl)
theorem rsound_c {a : Atm} {c r : Int} (ha : a.ok) : Pu Tryz.prog 39 [atmD a, i64 c, i64 r] (boo (decide (Sd a c r))) := by
  have ha1 := ha.next
  have ha2 := ha.marks
  have hl := ha.nexts
  have hl2 := ha.markss
  refine Pu.of_v mixed T0 Tryz.func39 rfl rfl (by simp [noBox, noBoxs, noBox_intss]) ?_
  repeat' ((conv => whnf) <;> (first | refine SeqV.go mixed T0 ?_ | exact True.intro | (refine Br.mk (fun _ => ?_) (fun _ => ?_) <;> (try (exfalso; omega))) | refine stq ?_))
  all_goals (conv => whnf)
  all_goals first
    | exact RetV.no (fun hc => by have := hc.1; have := hc.2.1; have := hc.2.2.1; omega)
    | skip
  refine LoopV.by mixed T0 (fun k : Nat => ⟨tmp 107 [(1, i64 c), (2, i64 r), (3, .ptr 0 0), (7, i64 a.next.length), (8, i64 (k : Int))], ⟨1,[(0, .cells [intss a.next, intss a.marks] true)]⟩⟩)
    (fun k => k ≤ a.next.length ∧ ∀ i (h : i < a.next.length), i < k → (a.next[i].length : Int) = c ∧ RowQ a.next[i] a.next.length ∧ MkQ (a.marks.getD i []) r) (fun k => a.next.length - k) 0 ⟨by omega, fun _ _ h => by omega⟩ ?_ ?_
  · exact Lf.of2 [(0, _)] [] enA bxA rfl rfl
  intro k ⟨h1, h2⟩
  repeat' ((conv => whnf) <;> (first | refine SeqV.go mixed T0 ?_ | exact True.intro | (refine Br.mk (fun _ => ?_) (fun _ => ?_) <;> (try (exfalso; omega))) | refine stq ?_))
  all_goals (conv => whnf)
  all_goals first
    | exact RetV.no (fun hc => by have := (hc.2.2.2 k (by omega)).1; omega)
    | exact RetV.yes ⟨by omega, by omega, by omega, up_all (by omega) h2⟩
    | skip
  rename_i a1 a2
  have h5 := hl k (by omega)
  refine LoopV.by mixed T0 (fun j : Nat => ⟨tmp 107 [(1, i64 c), (2, i64 r), (3, .ptr 0 0), (7, i64 a.next.length), (8, i64 (k : Int)), (9, i64 (j : Int))], ⟨1,[(0, .cells [intss a.next, intss a.marks] true)]⟩⟩)
    (fun j => j ≤ a.next[k].length ∧ ∀ i (h : i < a.next[k].length), i < j → 0 ≤ a.next[k][i] ∧ a.next[k][i] < a.next.length) (fun j => a.next[k].length - j) 0 ⟨by omega, fun _ _ h => by omega⟩ ?_ ?_
  · exact Lf.of2 [(0, _)] [] enA bxA rfl rfl
  intro j ⟨h3, h4⟩
  repeat' ((conv => whnf) <;> (first | refine SeqV.go mixed T0 ?_ | exact True.intro | (refine Br.mk (fun _ => ?_) (fun _ => ?_) <;> (try (exfalso; omega))) | refine stq ?_))
  all_goals (conv => whnf)
  all_goals first
    | exact RetV.no (fun hc => by have := (hc.2.2.2 k (by omega)).2.1 j (by omega); omega)
    | (refine ⟨j + 1, ⟨by omega, up_succ (by omega) h4 ⟨by omega, by omega⟩⟩, by omega, ?_⟩
       exact Lf.of2 [(0, _)] [] enA bxA rfl rfl)
    | skip
  have h6 : k < a.marks.length := by omega
  have h7 := hl2 k h6
  refine LoopV.by mixed T0 (fun i : Nat => ⟨tmp 107 [(1, i64 c), (2, i64 r), (3, .ptr 0 0), (7, i64 a.next.length), (8, i64 (k : Int)), (10, i64 (lastM a.marks[k] i)), (11, i64 (i : Int))], ⟨1,[(0, .cells [intss a.next, intss a.marks] true)]⟩⟩)
    (fun i => i ≤ a.marks[k].length ∧ ∀ n (h : n < a.marks[k].length), n < i → lastM a.marks[k] n < a.marks[k][n] ∧ a.marks[k][n] < r) (fun i => a.marks[k].length - i) 0 ⟨by omega, fun _ _ h => by omega⟩ ?_ ?_
  · exact Lf.of2 [(0, _)] [] enA bxA rfl rfl
  intro i ⟨h8, h9⟩
  repeat' ((conv => whnf) <;> (first | refine SeqV.go mixed T0 ?_ | exact True.intro | (refine Br.mk (fun _ => ?_) (fun _ => ?_) <;> (try (exfalso; omega))) | refine stq ?_))
  all_goals (conv => whnf)
  all_goals first
    | exact RetV.no (fun hc => by have := (hc.2.2.2 k (by omega)).2.2 i (by rw [getD_get h6]; omega); simp only [getD_get h6] at this; omega)
    | (refine ⟨i + 1, ⟨by omega, up_succ (by omega) h9 ⟨by omega, by omega⟩⟩, by omega, ?_⟩
       have e : lastM a.marks[k] (i + 1) = a.marks[k][i] := lastM_succ (by omega)
       exact Lf.of2 [(0, _)] [] enA bxA rfl rfl)
    | (refine ⟨k + 1, ⟨by omega, up_succ (by omega) h2 ⟨a2, up_all (by omega) h4, by rw [getD_get h6]; exact up_all (by omega) h9⟩⟩, by omega, ?_⟩
       exact Lf.of2 [(0, _)] [] enA bxA rfl rfl)
def TV (t : Tbl) : Prop := NV t.classes ∧ t.actions.length ≤ 100 ∧ (∀ i (h : i < t.actions.length), 1 ≤ t.actions[i] ∧ t.actions[i] ≤ 3) ∧ Sd t.left t.classes.length t.actions.length ∧ Sd t.right t.classes.length t.actions.length
theorem valid_c {t : Tbl} (ht : t.ok) : Pu Tryz.prog 96 [tblD t] (boo (decide (TV t))) := by
  have hl := ht.long
  have ha := ht.actions
  have h1 := ht.left
  have h2 := ht.right
  refine Pu.of_v mixed T0 Tryz.func96 rfl rfl (by simp [noBox, noBoxs, noBox_intss, noBox_ints, noBox_strs]) ?_
  repeat' ((conv => whnf) <;> (first | refine SeqV.go mixed T0 ?_ | exact True.intro | (refine Br.mk (fun _ => ?_) (fun _ => ?_) <;> (try (exfalso; omega))) | refine stq ?_ | refine Cll.iteI (Check_c (by assumption)) (fun _ => ?_) (fun _ => ?_)))
  all_goals (conv => whnf)
  all_goals first
    | exact RetV.no (fun hc => by have := hc.1; have := hc.2.1; first | contradiction | omega)
    | skip
  refine LoopV.by mixed T0 (fun k : Nat => ⟨tmp 54 [(1, .ptr 0 0), (17, ints t.actions), (18, i64 t.actions.length), (19, i64 (k : Int))], ⟨1,[(0, .cells [strs t.classes, ints t.actions, intss t.left.next, intss t.left.marks, intss t.right.next, intss t.right.marks] true)]⟩⟩)
    (fun k => k ≤ t.actions.length ∧ ∀ i (h : i < t.actions.length), i < k → 1 ≤ t.actions[i] ∧ t.actions[i] ≤ 3) (fun k => t.actions.length - k) 0 ⟨by omega, fun _ _ h => by omega⟩ ?_ ?_
  · exact Lf.of2 [(0, _)] [] enA bxA rfl rfl
  intro k ⟨h3, h4⟩
  repeat' ((conv => whnf) <;> (first | refine SeqV.go mixed T0 ?_ | exact True.intro | (refine Br.mk (fun _ => ?_) (fun _ => ?_) <;> (try (exfalso; omega))) | refine stq ?_ | refine Cll.dec (sound_c (a := t.left) (by assumption) (by omega)) (fun _ => ?_) (fun _ => ?_) | refine Cll.dec (sound_c (a := t.right) (by assumption) (by omega)) (fun _ => ?_) (fun _ => ?_)))
  all_goals (conv => whnf)
  all_goals first
    | exact RetV.no (fun hc => by have := hc.2.2.1 k (by omega); omega)
    | exact RetV.no (fun hc => by have := hc.2.2.2; simp_all)
    | exact RetV.yes ⟨by assumption, by omega, up_all (by omega) h4, by assumption, by assumption⟩
    | (refine ⟨k + 1, ⟨by omega, up_succ (by omega) h4 ⟨by omega, by omega⟩⟩, by omega, ?_⟩
       exact Lf.of2 [(0, _)] [] enA bxA rfl rfl)
theorem rvalid_c {t : Tbl} (ht : t.ok) : Pu Tryz.prog 23 [tblD t] (boo (decide (TV t))) := by
  have hn := ht.classes
  have hl := ht.long
  have ha := ht.actions
  have h1 := ht.left
  have h2 := ht.right
  refine Pu.of_v mixed T0 Tryz.func23 rfl rfl (by simp [noBox, noBoxs, noBox_intss, noBox_ints, noBox_strs]) ?_
  repeat' ((conv => whnf) <;> (first | refine SeqV.go mixed T0 ?_ | exact True.intro | (refine Br.mk (fun _ => ?_) (fun _ => ?_) <;> (try (exfalso; omega))) | refine stq ?_))
  refine LoopV.by mixed T0 (fun k : Nat => ⟨tmp 56 [(1, .ptr 0 0), (3, i64 (k : Int))], ⟨1,[(0, .cells [strs t.classes, ints t.actions, intss t.left.next, intss t.left.marks, intss t.right.next, intss t.right.marks] true)]⟩⟩)
    (fun k => k ≤ t.actions.length ∧ ∀ i (h : i < t.actions.length), i < k → 1 ≤ t.actions[i] ∧ t.actions[i] ≤ 3) (fun k => t.actions.length - k) 0 ⟨by omega, fun _ _ h => by omega⟩ ?_ ?_
  · exact Lf.of2 [(0, _)] [] enA bxA rfl rfl
  intro k ⟨h3, h4⟩
  repeat' ((conv => whnf) <;> (first | refine SeqV.go mixed T0 ?_ | exact True.intro | (refine Br.mk (fun _ => ?_) (fun _ => ?_) <;> (try (exfalso; omega))) | refine stq ?_ | refine Cll.dec (named_c sd sd) (fun _ => ?_) (fun _ => ?_) | refine Cal0.dec (named_c sd sd) (fun _ => ?_) (fun _ => ?_) | refine Cll.dec (rsound_c (a := t.left) (by assumption)) (fun _ => ?_) (fun _ => ?_) | refine Cll.dec (rsound_c (a := t.right) (by assumption)) (fun _ => ?_) (fun _ => ?_)))
  all_goals (conv => whnf)
  all_goals first
    | exact RetV.no (fun hc => by have := hc.2.2.1 k (by omega); omega)
    | exact RetV.no (fun hc => by have := hc.1; have := hc.2.1; first | contradiction | omega)
    | exact RetV.no (fun hc => by have := hc.2.2.2; simp_all)
    | exact RetV.yes ⟨by assumption, by omega, up_all (by omega) h4, by assumption, by assumption⟩
    | (refine ⟨k + 1, ⟨by omega, up_succ (by omega) h4 ⟨by omega, by omega⟩⟩, by omega, ?_⟩
       exact Lf.of2 [(0, _)] [] enA bxA rfl rfl)
end Go.Proofs.YtbjngeioomjklaaGreatDoor
